/- Part 6 of 7 of the proof. See the last part. -/
import Derived.Test.YtpcjjpkmebgjjaaGreatDoorMMTypes2
import Derived.Test.YtpcjjpkmebgjjaaGreatDoorMMTypes5
import Derived.Test.YtpcjjpkmebgjjaaGreatDoorMMTypes4
namespace Go.Proofs.YtpcjjpkmebgjjaaGreatDoor.P
open Go.RowKit Go.Proofs.YtpcjjpkmebgjjaaGreatDoorW.PrintWords Go.Proofs.YtpcjjpkmebgjjaaGreatDoorW.PrintLast Go.Proofs.YtpcjjpkmebgjjaaGreatDoorW.PrintMore
attribute [local go_sem] max2_int min2_int max_two min_two max_three min_three max_four min_four
set_option linter.unusedVariables false
set_option linter.unusedSimpArgs false
mutual
def brookref1_Number.j0 : Nat → ByteArray → Int → Int → Bool → Option (Int × Bool)
 | 0, _, _, _, _ => none
 | k + 1, x0, x3, x4, x12 => if x12 = true then (brookref1_Number.j1 k x0 x3 1) else (brookref1_Number.j1 k x0 x3 x4)
def brookref1_Number.j1 : Nat → ByteArray → Int → Int → Option (Int × Bool)
 | 0, _, _, _ => none
 | k + 1, x0, x3, x4 => if (x0.size : Int) = x4 then (brookref1_Number.j2 k x0 x3 x4 true) else (brookref1_Number.j2 k x0 x3 x4 (decide ((wrap64 ((x0.size : Int) - x4)) > 15)))
def brookref1_Number.j2 : Nat → ByteArray → Int → Int → Bool → Option (Int × Bool)
 | 0, _, _, _, _ => none
 | k + 1, x0, x3, x4, x23 => if x23 = true then (some (0, false)) else (brookref1_Number.l0 k x0 x3 x4 x4)
def brookref1_Number.l0 : Nat → ByteArray → Int → Int → Int → Option (Int × Bool)
 | 0, _, _, _, _ => none
 | k + 1, x0, x3, x4, x5 => if x5 < (x0.size : Int) then (if 0 ≤ x5 then (if (bt x0 x5) < 48 then (some (0, false)) else (if (bt x0 x5) > 57 then (some (0, false)) else (brookref1_Number.l0 k x0 (wrap64 ((wrap64 (x3 * 10)) + (((bt x0 x5) - 48) % 256))) x4 (wrap64 (x5 + 1))))) else (none)) else (if x4 = 1 then ((brookref1_Digits.f (wrap64 (-x3))).bind fun t247 => (if t247.toList = x0.toList then (some (wrap64 (-x3), true)) else (some (0, false)))) else ((brookref1_Digits.f x3).bind fun t248 => (if t248.toList = x0.toList then (some (x3, true)) else (some (0, false)))))
end
def brookref1_Number.f (k : Nat) (a0 : ByteArray) : Option (Int × Bool) := if a0.toList = ([] : List UInt8) then (brookref1_Number.j0 k a0 0 0 false) else (if 0 < (a0.size : Int) then (brookref1_Number.j0 k a0 0 0 ((bt a0 0) == 45)) else (none))
set_option maxHeartbeats 8000000 in
set_option maxRecDepth 100000 in
theorem brookref1_Number.calls (k : Nat) (a0 : ByteArray) (r1 : Int) (r2 : Bool) (w : World) (h : brookref1_Number.f k a0 = some (r1, r2)) :
  Calls Tryz.prog 26 #[.string a0] w fun e w' => e = .returned (.agg #[.int .i64 r1, .bool r2]) ∧ Below w.heap.size w w' := by
 have hu47 := Tryz.underlying47
 have HB := Aside0.mk (Below.refl w.heap.size w)
 have H : (if a0.toList = ([] : List UInt8) then (brookref1_Number.j0 k a0 0 0 false) else (if 0 < (a0.size : Int) then (brookref1_Number.j0 k a0 0 0 ((bt a0 0) == 45)) else (none))) = some (r1, r2) := h
 clear h
 have HC2 := Aside0.mk H
 clear H
 go_enter Tryz.func26, Tryz.ntmps26
 go_upto_region 2 with (first | ((with_reducible refine gate_dst (N := 2) rfl ?_); (try (refine gate_guard (by rfl) ?_; dsimp only)); refine box_event ?hg (N := 2) ?hd (cs := #[.int .i64 0, .bool false]) (t := 47) ?hr ?_; (case hd => rfl); (case hg => rfl); (case hr => first | (go_simp; done) | (go_simp; rfl)); intro gb246 hg w3 hbox hb; have n0_ := Aside0.mk (below_step (by repeat (first | (with_reducible first | exact HB.out | apply below_alloc | apply pw_below_drewN | apply below_drew1) | exact HB.out)) hb); have n1_ := Aside0.mk (hbox); have n2_ := Aside0.mk ((by rw [hg]; exact (below_size (by repeat (first | (with_reducible first | exact HB.out | apply below_alloc | apply pw_below_drewN | apply below_drew1) | exact HB.out))) : w.heap.size ≤ gb246)); have n3_ := Aside0.mk ((by rw [hg]; exact (below_size (by repeat (first | (with_reducible first | exact HB.out | apply below_alloc | apply pw_below_drewN | apply below_drew1) | exact HB.out))) : w.heap.size ≤ gb246)); clear HB; have HB := n0_; have BK246 := n1_; have GW246 := n2_; have GE246 := n3_; clear n0_ n1_ n2_ n3_; clear hb hbox hg))
 (try simp only [Act.put, List.setIfInBounds_toArray, List.set_cons_zero, List.set_cons_succ])
 go_cut [12] (fun v12 wc => ∃ (kq : Nat) (x12_1 : Bool), v12 = .bool x12_1 ∧ Aside0 (brookref1_Number.j0 kq a0 0 0 x12_1 = some (r1, r2)) ∧ Aside0 (kq ≤ k) ∧ Aside0 (wc.heap[gb246]? = some (.cells #[.int .i64 0, .bool false] 47 (0, 0))) ∧ Aside0 (Below w.heap.size w wc))
 case first =>
  have H := HC2.out
  clear HC2
  by_cases c4 : a0.toList = ([] : List UInt8)
  ·rw [if_pos c4] at H
   have c4b0 : (a0.toList == ([] : List UInt8)) = true := beq_iff_eq.mpr c4
   have c4b1 : (a0.toList != ([] : List UInt8)) = false := bne_eq_false_iff_eq.mpr c4
   clear c4
   (first | rw [c4b0] | (simp only [i64_w, i32_w]; rw [c4b0]) | skip)
   have H' := Aside0.mk H
   clear H
   go_wp2
   go_meet
   case rel => exact ⟨_, (false), (by first | rfl | (simp; done) | (simp [*]; done) | (simp [*, i64_w, i32_w, u8_w]; done) | (simp only [bneNil, beqNil]; done) | (simp only [bneNil, beqNil]; simp; done) | (simp only [bneNil, beqNil]; simp [*]; done)), H', ⟨by first | omega | exact Nat.le_refl _⟩, ⟨by (with_reducible repeat (first | refine blk_drewN ?_ _ | refine blk_drew ?_ | refine blk_alloc ?_ _)); exact BK246.out⟩, ⟨by repeat (first | (with_reducible first | exact HB.out | apply below_alloc | apply pw_below_drewN | apply below_drew1 | refine below_set ?_ GE246.out) | exact HB.out)⟩⟩
  ·rw [if_neg c4] at H
   have c4b0 : (a0.toList == ([] : List UInt8)) = false := beq_eq_false_iff_ne.mpr c4
   have c4b1 : (a0.toList != ([] : List UInt8)) = true := bne_iff_ne.mpr c4
   (first | rw [c4b0] | (simp only [i64_w, i32_w]; rw [c4b0]) | skip)
   by_cases c5 : 0 < (a0.size : Int)
   ·rw [if_pos c5] at H
    have c5b0 : decide (0 < (a0.size : Int)) = true := decide_eq_true c5
    have c5b1 : decide (0 < a0.size) = true := decide_eq_true (by omega)
    clear c5
    have H' := Aside0.mk H
    clear H
    have p6 : 0 ≤ (0 : Int) := (by omega)
    have q6 : 0 < a0.size := (by have : (0 : Int) < (a0.size : Int) := of_decide_eq_true (by first | (with_reducible assumption) | assumption); omega)
    have hx6 : ∀ h : 0 < a0.size, ((a0[0]'h).toNat : Int) = bt a0 0 := bt_at a0 0
    clear p6
    have qi6 : (0 < (a0.size : Int)) = True := eq_true (of_decide_eq_true (by first | (with_reducible assumption) | assumption))
    replace q6 := eq_true q6
    go_wp2
    go_meet
    case rel => exact ⟨_, (((bt a0 0) == 45)), (by first | rfl | (simp; done) | (simp [*]; done) | (simp [*, i64_w, i32_w, u8_w]; done) | (simp only [bneNil, beqNil]; done) | (simp only [bneNil, beqNil]; simp; done) | (simp only [bneNil, beqNil]; simp [*]; done)), H', ⟨by first | omega | exact Nat.le_refl _⟩, ⟨by (with_reducible repeat (first | refine blk_drewN ?_ _ | refine blk_drew ?_ | refine blk_alloc ?_ _)); exact BK246.out⟩, ⟨by repeat (first | (with_reducible first | exact HB.out | apply below_alloc | apply pw_below_drewN | apply below_drew1 | refine below_set ?_ GE246.out) | exact HB.out)⟩⟩
   ·rw [if_neg c5] at H
    exact absurd H (by simp)
 case rest =>
  clear HC2
  try clear c2
  try clear p2
  try clear c4
  try clear c4b0
  try clear c4b1
  try clear c5
  try clear c5b0
  try clear c5b1
  try clear p6
  try clear q6
  try clear hx6
  try clear qi6
  try clear p6
  try clear q6
  obtain ⟨kq, x12_1, rfl, HA, HJ1, BK246, HB⟩ := hcut
  cases kq with
  | zero => exact absurd HA.out (by simp [brookref1_Number.j0])
  | succ kj1 =>
   have H := HA.out
   clear HA
   simp only [brookref1_Number.j0] at H
   have HC7 := Aside0.mk H
   clear H
   go_upto_if 12 with (fail)
   go_cut [4] (fun v4 wc => ∃ (kq : Nat) (x4_6 : Int), v4 = .int .i64 x4_6 ∧ Aside0 (brookref1_Number.j1 kq a0 0 x4_6 = some (r1, r2)) ∧ Aside0 (kq ≤ kj1) ∧ Aside0 (wc.heap[gb246]? = some (.cells #[.int .i64 0, .bool false] 47 (0, 0))) ∧ Aside0 (Below w.heap.size w wc))
   case first =>
    have H := HC7.out
    clear HC7
    by_cases c8 : x12_1 = true
    ·subst c8
     have H1 : (brookref1_Number.j1 kj1 a0 0 1) = some (r1, r2) := by rw [if_pos rfl] at H; exact H
     clear H
     have H := H1
     clear H1
     have H' := Aside0.mk H
     clear H
     go_wp2
     go_meet
     case rel => exact ⟨_, (1), (by first | rfl | (simp; done) | (simp [*]; done) | (simp [*, i64_w, i32_w, u8_w]; done) | (simp only [bneNil, beqNil]; done) | (simp only [bneNil, beqNil]; simp; done) | (simp only [bneNil, beqNil]; simp [*]; done)), H', ⟨by have := HJ1.out; first | omega | exact Nat.le_refl _⟩, ⟨by (with_reducible repeat (first | refine blk_drewN ?_ _ | refine blk_drew ?_ | refine blk_alloc ?_ _)); exact BK246.out⟩, ⟨by repeat (first | (with_reducible first | exact HB.out | apply below_alloc | apply pw_below_drewN | apply below_drew1 | refine below_set ?_ GE246.out) | exact HB.out)⟩⟩
    ·replace c8 := Bool.eq_false_iff.mpr c8
     subst c8
     have H1 : (brookref1_Number.j1 kj1 a0 0 0) = some (r1, r2) := by rw [if_neg (show ¬ (false = true) by decide)] at H; exact H
     clear H
     have H := H1
     clear H1
     have H' := Aside0.mk H
     clear H
     go_wp2
     go_meet
     case rel => exact ⟨_, (0), (by first | rfl | (simp; done) | (simp [*]; done) | (simp [*, i64_w, i32_w, u8_w]; done) | (simp only [bneNil, beqNil]; done) | (simp only [bneNil, beqNil]; simp; done) | (simp only [bneNil, beqNil]; simp [*]; done)), H', ⟨by have := HJ1.out; first | omega | exact Nat.le_refl _⟩, ⟨by (with_reducible repeat (first | refine blk_drewN ?_ _ | refine blk_drew ?_ | refine blk_alloc ?_ _)); exact BK246.out⟩, ⟨by repeat (first | (with_reducible first | exact HB.out | apply below_alloc | apply pw_below_drewN | apply below_drew1 | refine below_set ?_ GE246.out) | exact HB.out)⟩⟩
   case rest =>
    clear HC7
    try clear c2
    try clear p2
    try clear c4
    try clear c4b0
    try clear c4b1
    try clear c5
    try clear c5b0
    try clear c5b1
    try clear p6
    try clear q6
    try clear hx6
    try clear qi6
    try clear c8
    try clear p2
    try clear p6
    try clear q6
    obtain ⟨kq, x4_6, rfl, HA, HJ6, BK246, HB⟩ := hcut
    cases kq with
    | zero => exact absurd HA.out (by simp [brookref1_Number.j1])
    | succ kj6 =>
     have H := HA.out
     clear HA
     simp only [brookref1_Number.j1] at H
     have HC9 := Aside0.mk H
     clear H
     go_upto_region 4 with (fail)
     go_cut [23] (fun v23 wc => ∃ (kq : Nat) (x23_8 : Bool), v23 = .bool x23_8 ∧ Aside0 (brookref1_Number.j2 kq a0 0 x4_6 x23_8 = some (r1, r2)) ∧ Aside0 (kq ≤ kj6) ∧ Aside0 (wc.heap[gb246]? = some (.cells #[.int .i64 0, .bool false] 47 (0, 0))) ∧ Aside0 (Below w.heap.size w wc))
     case first =>
      have H := HC9.out
      clear HC9
      by_cases c10 : (a0.size : Int) = x4_6
      ·rw [if_pos c10] at H
       have c10b0 : ((a0.size : Int) == x4_6) = true := beq_iff_eq.mpr c10
       have c10b1 : ((a0.size : Int) != x4_6) = false := bne_eq_false_iff_eq.mpr c10
       clear c10
       (first | rw [c10b0] | (simp only [i64_w, i32_w]; rw [c10b0]) | skip)
       have H' := Aside0.mk H
       clear H
       go_wp2
       go_meet
       case rel => exact ⟨_, (true), (by first | rfl | (simp; done) | (simp [*]; done) | (simp [*, i64_w, i32_w, u8_w]; done) | (simp only [bneNil, beqNil]; done) | (simp only [bneNil, beqNil]; simp; done) | (simp only [bneNil, beqNil]; simp [*]; done)), H', ⟨by have := HJ1.out; have := HJ6.out; first | omega | exact Nat.le_refl _⟩, ⟨by (with_reducible repeat (first | refine blk_drewN ?_ _ | refine blk_drew ?_ | refine blk_alloc ?_ _)); exact BK246.out⟩, ⟨by repeat (first | (with_reducible first | exact HB.out | apply below_alloc | apply pw_below_drewN | apply below_drew1 | refine below_set ?_ GE246.out) | exact HB.out)⟩⟩
      ·rw [if_neg c10] at H
       have c10b0 : ((a0.size : Int) == x4_6) = false := beq_eq_false_iff_ne.mpr c10
       have c10b1 : ((a0.size : Int) != x4_6) = true := bne_iff_ne.mpr c10
       (first | rw [c10b0] | (simp only [i64_w, i32_w]; rw [c10b0]) | skip)
       have H' := Aside0.mk H
       clear H
       go_wp2
       go_meet
       case rel => exact ⟨_, (decide ((wrap64 ((a0.size : Int) - x4_6)) > 15)), (by first | rfl | (simp; done) | (simp [*]; done) | (simp [*, i64_w, i32_w, u8_w]; done) | (simp only [bneNil, beqNil]; done) | (simp only [bneNil, beqNil]; simp; done) | (simp only [bneNil, beqNil]; simp [*]; done)), H', ⟨by have := HJ1.out; have := HJ6.out; first | omega | exact Nat.le_refl _⟩, ⟨by (with_reducible repeat (first | refine blk_drewN ?_ _ | refine blk_drew ?_ | refine blk_alloc ?_ _)); exact BK246.out⟩, ⟨by repeat (first | (with_reducible first | exact HB.out | apply below_alloc | apply pw_below_drewN | apply below_drew1 | refine below_set ?_ GE246.out) | exact HB.out)⟩⟩
     case rest =>
      clear HC9
      try clear c1
      try clear c2
      try clear p2
      try clear c4
      try clear c4b0
      try clear c4b1
      try clear c5
      try clear c5b0
      try clear c5b1
      try clear p6
      try clear q6
      try clear hx6
      try clear qi6
      try clear c8
      try clear c10
      try clear c10b0
      try clear c10b1
      try clear p2
      try clear p6
      try clear q6
      obtain ⟨kq, x23_8, rfl, HA, HJ8, BK246, HB⟩ := hcut
      cases kq with
      | zero => exact absurd HA.out (by simp [brookref1_Number.j2])
      | succ kj8 =>
       have H := HA.out
       clear HA
       simp only [brookref1_Number.j2] at H
       by_cases c11 : x23_8 = true
       ·subst c11
        have H1 : (some (0, false)) = some (r1, r2) := by rw [if_pos rfl] at H; exact H
        clear H
        have H := H1
        clear H1
        simp only [Option.some.injEq, Prod.mk.injEq] at H
        obtain ⟨rfl, rfl⟩ := H
        have hcz12_0 : wc.cell? ⟨gb246, 0, none⟩ = some (.int .i64 0) := (blk_cell BK246.out 0).trans rfl
        have hcz12_1 : wc.cell? ⟨gb246, 1, none⟩ = some (.bool false) := (blk_cell BK246.out 1).trans rfl
        have hfz12_0 := blk_frozen BK246.out 0
        have hfz12_1 := blk_frozen BK246.out 1
        go_wp2
        refine bodyPost_ret (results_cell_row rfl _ _ gb246 47 #[.int .i64 0, .bool false] (0, 0) _ rfl (by (with_reducible repeat (first | refine blk_drewN ?_ _ | refine blk_drew ?_ | refine blk_alloc ?_ _)); refine blk_put (cs := #[.int .i64 0, .bool false]) ?_ 1 _ (by first | rfl | (simp only [bneNil, beqNil]; rfl) | simp [bneNil, beqNil]); (with_reducible repeat (first | refine blk_drewN ?_ _ | refine blk_drew ?_ | refine blk_alloc ?_ _)); refine blk_put (cs := #[.int .i64 0, .bool false]) ?_ 0 _ (by first | rfl | (simp only [bneNil, beqNil]; rfl) | simp [bneNil, beqNil]); (with_reducible repeat (first | refine blk_drewN ?_ _ | refine blk_drew ?_ | refine blk_alloc ?_ _)); exact BK246.out) Tryz.underlying47 rfl (by kernel_rfl)) rfl ?_
        exact ⟨by first | rfl | (simp [errW_none, errW_some] <;> rfl) | (simp [*, errW_none, errW_some] <;> rfl), by repeat (first | (with_reducible first | exact HB.out | apply below_alloc | apply pw_below_drewN | apply below_drew1 | refine below_set ?_ GE246.out) | exact HB.out)⟩
       ·replace c11 := Bool.eq_false_iff.mpr c11
        subst c11
        have H1 : (brookref1_Number.l0 kj8 a0 0 x4_6 x4_6) = some (r1, r2) := by rw [if_neg (show ¬ (false = true) by decide)] at H; exact H
        clear H
        have H := H1
        clear H1
        have H' := Aside0.mk H
        clear H
        go_wp2
        go_loopg [3, 5] kj8 (fun kq v3 v5 w' => ∃ (x3_4 : Int) (x5_4 : Int) (x247000_4 : Int) (x247001_4 : Bool), v3 = .int .i64 x3_4 ∧ v5 = .int .i64 x5_4 ∧ Aside0 (brookref1_Number.l0 kq a0 x3_4 x4_6 x5_4 = some (r1, r2)) ∧ Aside0 (kq ≤ kj8) ∧ Aside0 (w'.heap[gb246]? = some (.cells #[.int .i64 x247000_4, .bool x247001_4] 47 (0, 0))) ∧ Aside0 (Below w.heap.size w w'))
        case atStart => exact ⟨(0), (x4_6), (0), (false), (by first | rfl | (simp; done) | (simp [*]; done) | (simp [*, i64_w, i32_w, u8_w]; done) | (simp only [bneNil, beqNil]; done) | (simp only [bneNil, beqNil]; simp; done) | (simp only [bneNil, beqNil]; simp [*]; done)), (by first | rfl | (simp; done) | (simp [*]; done) | (simp [*, i64_w, i32_w, u8_w]; done) | (simp only [bneNil, beqNil]; done) | (simp only [bneNil, beqNil]; simp; done) | (simp only [bneNil, beqNil]; simp [*]; done)), H', ⟨Nat.le_refl _⟩, ⟨by (with_reducible repeat (first | refine blk_drewN ?_ _ | refine blk_drew ?_ | refine blk_alloc ?_ _)); exact BK246.out⟩, ⟨by repeat (first | (with_reducible first | exact HB.out | apply below_alloc | apply pw_below_drewN | apply below_drew1 | refine below_set ?_ GE246.out) | exact HB.out)⟩⟩
        case round =>
         clear H'
         try clear c1
         try clear c2
         try clear p2
         try clear c4
         try clear c4b0
         try clear c4b1
         try clear c5
         try clear c5b0
         try clear c5b1
         try clear p6
         try clear q6
         try clear hx6
         try clear qi6
         try clear c8
         try clear c10
         try clear c10b0
         try clear c10b1
         try clear c11
         try clear hcz12_0
         try clear hcz12_1
         try clear hfz12_0
         try clear hfz12_1
         try clear p2
         try clear p6
         try clear q6
         obtain ⟨x3_4, x5_4, x247000_4, x247001_4, rfl, rfl, HA, HK4, BK246, HB⟩ := hrel
         cases gk with
         | zero => exact absurd HA.out (by simp [brookref1_Number.l0])
         | succ k4 =>
          have H := HA.out
          clear HA
          simp only [brookref1_Number.l0] at H
          by_cases c13 : x5_4 < (a0.size : Int)
          ·rw [if_pos c13] at H
           have c13b0 : decide (x5_4 < (a0.size : Int)) = true := decide_eq_true c13
           clear c13
           by_cases c14 : 0 ≤ x5_4
           ·rw [if_pos c14] at H
            have c14b0 : decide (0 ≤ x5_4) = true := decide_eq_true c14
            clear c14
            by_cases c16 : (bt a0 x5_4) < 48
            ·rw [if_pos c16] at H
             have c16b0 : decide ((bt a0 x5_4) < 48) = true := decide_eq_true c16
             clear c16
             simp only [Option.some.injEq, Prod.mk.injEq] at H
             obtain ⟨rfl, rfl⟩ := H
             have p15 : 0 ≤ (x5_4 : Int) := of_decide_eq_true (by first | (with_reducible assumption) | assumption)
             have q15 : x5_4 < (a0.size : Int) := of_decide_eq_true (by first | (with_reducible assumption) | assumption)
             have hx15 := bt_at a0 x5_4
             replace p15 := eq_true p15
             replace q15 := eq_true q15
             have hcz17_0 : wr.cell? ⟨gb246, 0, none⟩ = some (.int .i64 x247000_4) := (blk_cell BK246.out 0).trans rfl
             have hcz17_1 : wr.cell? ⟨gb246, 1, none⟩ = some (.bool x247001_4) := (blk_cell BK246.out 1).trans rfl
             have hfz17_0 := blk_frozen BK246.out 0
             have hfz17_1 := blk_frozen BK246.out 1
             go_wp2
             refine bodyPost_ret (results_cell_row rfl _ _ gb246 47 #[.int .i64 0, .bool false] (0, 0) _ rfl (by (with_reducible repeat (first | refine blk_drewN ?_ _ | refine blk_drew ?_ | refine blk_alloc ?_ _)); refine blk_put (cs := #[.int .i64 0, .bool x247001_4]) ?_ 1 _ (by first | rfl | (simp only [bneNil, beqNil]; rfl) | simp [bneNil, beqNil]); (with_reducible repeat (first | refine blk_drewN ?_ _ | refine blk_drew ?_ | refine blk_alloc ?_ _)); refine blk_put (cs := #[.int .i64 x247000_4, .bool x247001_4]) ?_ 0 _ (by first | rfl | (simp only [bneNil, beqNil]; rfl) | simp [bneNil, beqNil]); (with_reducible repeat (first | refine blk_drewN ?_ _ | refine blk_drew ?_ | refine blk_alloc ?_ _)); exact BK246.out) Tryz.underlying47 rfl (by kernel_rfl)) rfl ?_
             exact ⟨by first | rfl | (simp [errW_none, errW_some] <;> rfl) | (simp [*, errW_none, errW_some] <;> rfl), by repeat (first | (with_reducible first | exact HB.out | apply below_alloc | apply pw_below_drewN | apply below_drew1 | refine below_set ?_ GE246.out) | exact HB.out)⟩
            ·rw [if_neg c16] at H
             have c16b0 : decide ((bt a0 x5_4) < 48) = false := decide_eq_false c16
             clear c16
             by_cases c19 : (bt a0 x5_4) > 57
             ·rw [if_pos c19] at H
              have c19b0 : decide (57 < (bt a0 x5_4)) = true := decide_eq_true c19
              clear c19
              simp only [Option.some.injEq, Prod.mk.injEq] at H
              obtain ⟨rfl, rfl⟩ := H
              have p15 : 0 ≤ (x5_4 : Int) := of_decide_eq_true (by first | (with_reducible assumption) | assumption)
              have q15 : x5_4 < (a0.size : Int) := of_decide_eq_true (by first | (with_reducible assumption) | assumption)
              have hx15 := bt_at a0 x5_4
              replace p15 := eq_true p15
              replace q15 := eq_true q15
              have p18 : 0 ≤ (x5_4 : Int) := of_decide_eq_true (by first | (with_reducible assumption) | assumption)
              have q18 : x5_4 < (a0.size : Int) := of_decide_eq_true (by first | (with_reducible assumption) | assumption)
              have hx18 := bt_at a0 x5_4
              replace p18 := eq_true p18
              replace q18 := eq_true q18
              have hcz20_0 : wr.cell? ⟨gb246, 0, none⟩ = some (.int .i64 x247000_4) := (blk_cell BK246.out 0).trans rfl
              have hcz20_1 : wr.cell? ⟨gb246, 1, none⟩ = some (.bool x247001_4) := (blk_cell BK246.out 1).trans rfl
              have hfz20_0 := blk_frozen BK246.out 0
              have hfz20_1 := blk_frozen BK246.out 1
              go_wp2
              refine bodyPost_ret (results_cell_row rfl _ _ gb246 47 #[.int .i64 0, .bool false] (0, 0) _ rfl (by (with_reducible repeat (first | refine blk_drewN ?_ _ | refine blk_drew ?_ | refine blk_alloc ?_ _)); refine blk_put (cs := #[.int .i64 0, .bool x247001_4]) ?_ 1 _ (by first | rfl | (simp only [bneNil, beqNil]; rfl) | simp [bneNil, beqNil]); (with_reducible repeat (first | refine blk_drewN ?_ _ | refine blk_drew ?_ | refine blk_alloc ?_ _)); refine blk_put (cs := #[.int .i64 x247000_4, .bool x247001_4]) ?_ 0 _ (by first | rfl | (simp only [bneNil, beqNil]; rfl) | simp [bneNil, beqNil]); (with_reducible repeat (first | refine blk_drewN ?_ _ | refine blk_drew ?_ | refine blk_alloc ?_ _)); exact BK246.out) Tryz.underlying47 rfl (by kernel_rfl)) rfl ?_
              exact ⟨by first | rfl | (simp [errW_none, errW_some] <;> rfl) | (simp [*, errW_none, errW_some] <;> rfl), by repeat (first | (with_reducible first | exact HB.out | apply below_alloc | apply pw_below_drewN | apply below_drew1 | refine below_set ?_ GE246.out) | exact HB.out)⟩
             ·rw [if_neg c19] at H
              have c19b0 : decide (57 < (bt a0 x5_4)) = false := decide_eq_false c19
              clear c19
              have H' := Aside0.mk H
              clear H
              have p15 : 0 ≤ (x5_4 : Int) := of_decide_eq_true (by first | (with_reducible assumption) | assumption)
              have q15 : x5_4 < (a0.size : Int) := of_decide_eq_true (by first | (with_reducible assumption) | assumption)
              have hx15 := bt_at a0 x5_4
              replace p15 := eq_true p15
              replace q15 := eq_true q15
              have p18 : 0 ≤ (x5_4 : Int) := of_decide_eq_true (by first | (with_reducible assumption) | assumption)
              have q18 : x5_4 < (a0.size : Int) := of_decide_eq_true (by first | (with_reducible assumption) | assumption)
              have hx18 := bt_at a0 x5_4
              replace p18 := eq_true p18
              replace q18 := eq_true q18
              have p21 : 0 ≤ (x5_4 : Int) := of_decide_eq_true (by first | (with_reducible assumption) | assumption)
              have q21 : x5_4 < (a0.size : Int) := of_decide_eq_true (by first | (with_reducible assumption) | assumption)
              have hx21 := bt_at a0 x5_4
              replace p21 := eq_true p21
              replace q21 := eq_true q21
              go_wp2
              go_roundg k4
              case measure => have := HJ1.out; have := HJ6.out; have := HJ8.out; have := HK4.out; omega
              case rel => exact ⟨(wrap64 ((wrap64 (x3_4 * 10)) + (((bt a0 x5_4) - 48) % 256))), (wrap64 (x5_4 + 1)), (x247000_4), (x247001_4), (by first | rfl | (simp; done) | (simp [*]; done) | (simp [*, i64_w, i32_w, u8_w]; done) | (simp only [bneNil, beqNil]; done) | (simp only [bneNil, beqNil]; simp; done) | (simp only [bneNil, beqNil]; simp [*]; done)), (by first | rfl | (simp; done) | (simp [*]; done) | (simp [*, i64_w, i32_w, u8_w]; done) | (simp only [bneNil, beqNil]; done) | (simp only [bneNil, beqNil]; simp; done) | (simp only [bneNil, beqNil]; simp [*]; done)), H', ⟨by have := HJ1.out; have := HJ6.out; have := HJ8.out; have := HK4.out; omega⟩, ⟨by (with_reducible repeat (first | refine blk_drewN ?_ _ | refine blk_drew ?_ | refine blk_alloc ?_ _)); exact BK246.out⟩, ⟨by repeat (first | (with_reducible first | exact HB.out | apply below_alloc | apply pw_below_drewN | apply below_drew1 | refine below_set ?_ GE246.out) | exact HB.out)⟩⟩
           ·rw [if_neg c14] at H
            exact absurd H (by simp)
          ·rw [if_neg c13] at H
           have c13b0 : decide (x5_4 < (a0.size : Int)) = false := decide_eq_false c13
           clear c13
           by_cases c22 : x4_6 = 1
           ·rw [if_pos c22] at H
            have c22b0 : (x4_6 == 1) = true := beq_iff_eq.mpr c22
            have c22b1 : (x4_6 != 1) = false := bne_eq_false_iff_eq.mpr c22
            clear c22
            replace H := Option.bind_eq_some_iff.mp H
            obtain ⟨t247, A230, H⟩ := H
            replace H : (if t247.toList = a0.toList then (some (wrap64 (-x3_4), true)) else (some (0, false))) = some (r1, r2) := H
            have A23 := Aside0.mk A230
            clear A230
            by_cases c24 : t247.toList = a0.toList
            ·rw [if_pos c24] at H
             have c24b0 : (t247.toList == a0.toList) = true := beq_iff_eq.mpr c24
             have c24b1 : (t247.toList != a0.toList) = false := bne_eq_false_iff_eq.mpr c24
             clear c24
             simp only [Option.some.injEq, Prod.mk.injEq] at H
             obtain ⟨rfl, rfl⟩ := H
             go_wp2_with (first | ((with_reducible refine gate_callee (f := 37) rfl ?_); refine goesL_ (some 56) rfl rfl Tryz.func37 (by kernel_rfl) rfl #[.int .i64 (wrap64 (-x3_4))] rfl (by (try simp only [List.map_toArray, List.map_cons, List.map_nil]); first | done | rfl | (simp only [List.length_drop, List.length_take]; rfl)) ?_; (with_reducible refine (brookref1_Digits.calls (wrap64 (-x3_4)) t247 _ A23.out).mono ?_); rintro e w25 ⟨rfl, hb⟩; refine ⟨_, rfl, ?_⟩; have n0_ := Aside0.mk (blk_below (g := gb246) (o := .cells #[.int .i64 x247000_4, .bool x247001_4] 47 (0, 0)) (by (with_reducible repeat (first | refine blk_drewN ?_ _ | refine blk_drew ?_ | refine blk_alloc ?_ _)); exact BK246.out) hb); have n1_ := Aside0.mk (below_step (by repeat (first | (with_reducible first | exact HB.out | apply below_alloc | apply pw_below_drewN | apply below_drew1 | refine below_set ?_ GE246.out) | exact HB.out)) hb); clear BK246; clear HB; have BK246 := n0_; have HB := n1_; clear n0_ n1_; (try clear hb); (try clear hb2); (try clear hk); (try clear hi); have hcz26_0 : w25.cell? ⟨gb246, 0, none⟩ = some (.int .i64 x247000_4) := (blk_cell BK246.out 0).trans rfl; have hcz26_1 : w25.cell? ⟨gb246, 1, none⟩ = some (.bool x247001_4) := (blk_cell BK246.out 1).trans rfl; have hfz26_0 := blk_frozen BK246.out 0; have hfz26_1 := blk_frozen BK246.out 1))
             refine bodyPost_ret (results_cell_row rfl _ _ gb246 47 #[.int .i64 (wrap64 (-x3_4)), .bool true] (0, 0) _ rfl (by (with_reducible repeat (first | refine blk_drewN ?_ _ | refine blk_drew ?_ | refine blk_alloc ?_ _)); refine blk_put (cs := #[.int .i64 (wrap64 (-x3_4)), .bool x247001_4]) ?_ 1 _ (by first | rfl | (simp only [bneNil, beqNil]; rfl) | simp [bneNil, beqNil]); (with_reducible repeat (first | refine blk_drewN ?_ _ | refine blk_drew ?_ | refine blk_alloc ?_ _)); refine blk_put (cs := #[.int .i64 x247000_4, .bool x247001_4]) ?_ 0 _ (by first | rfl | (simp only [bneNil, beqNil]; rfl) | simp [bneNil, beqNil]); (with_reducible repeat (first | refine blk_drewN ?_ _ | refine blk_drew ?_ | refine blk_alloc ?_ _)); exact BK246.out) Tryz.underlying47 rfl (by kernel_rfl)) rfl ?_
             exact ⟨by first | rfl | (simp [errW_none, errW_some] <;> rfl) | (simp [*, errW_none, errW_some] <;> rfl), by repeat (first | (with_reducible first | exact HB.out | apply below_alloc | apply pw_below_drewN | apply below_drew1 | refine below_set ?_ GE246.out) | exact HB.out)⟩
            ·rw [if_neg c24] at H
             have c24b0 : (t247.toList == a0.toList) = false := beq_eq_false_iff_ne.mpr c24
             have c24b1 : (t247.toList != a0.toList) = true := bne_iff_ne.mpr c24
             simp only [Option.some.injEq, Prod.mk.injEq] at H
             obtain ⟨rfl, rfl⟩ := H
             go_wp2_with (first | ((with_reducible refine gate_callee (f := 37) rfl ?_); refine goesL_ (some 56) rfl rfl Tryz.func37 (by kernel_rfl) rfl #[.int .i64 (wrap64 (-x3_4))] rfl (by (try simp only [List.map_toArray, List.map_cons, List.map_nil]); first | done | rfl | (simp only [List.length_drop, List.length_take]; rfl)) ?_; (with_reducible refine (brookref1_Digits.calls (wrap64 (-x3_4)) t247 _ A23.out).mono ?_); rintro e w27 ⟨rfl, hb⟩; refine ⟨_, rfl, ?_⟩; have n0_ := Aside0.mk (blk_below (g := gb246) (o := .cells #[.int .i64 x247000_4, .bool x247001_4] 47 (0, 0)) (by (with_reducible repeat (first | refine blk_drewN ?_ _ | refine blk_drew ?_ | refine blk_alloc ?_ _)); exact BK246.out) hb); have n1_ := Aside0.mk (below_step (by repeat (first | (with_reducible first | exact HB.out | apply below_alloc | apply pw_below_drewN | apply below_drew1 | refine below_set ?_ GE246.out) | exact HB.out)) hb); clear BK246; clear HB; have BK246 := n0_; have HB := n1_; clear n0_ n1_; (try clear hb); (try clear hb2); (try clear hk); (try clear hi); have hcz28_0 : w27.cell? ⟨gb246, 0, none⟩ = some (.int .i64 x247000_4) := (blk_cell BK246.out 0).trans rfl; have hcz28_1 : w27.cell? ⟨gb246, 1, none⟩ = some (.bool x247001_4) := (blk_cell BK246.out 1).trans rfl; have hfz28_0 := blk_frozen BK246.out 0; have hfz28_1 := blk_frozen BK246.out 1))
             refine bodyPost_ret (results_cell_row rfl _ _ gb246 47 #[.int .i64 0, .bool false] (0, 0) _ rfl (by (with_reducible repeat (first | refine blk_drewN ?_ _ | refine blk_drew ?_ | refine blk_alloc ?_ _)); refine blk_put (cs := #[.int .i64 0, .bool x247001_4]) ?_ 1 _ (by first | rfl | (simp only [bneNil, beqNil]; rfl) | simp [bneNil, beqNil]); (with_reducible repeat (first | refine blk_drewN ?_ _ | refine blk_drew ?_ | refine blk_alloc ?_ _)); refine blk_put (cs := #[.int .i64 x247000_4, .bool x247001_4]) ?_ 0 _ (by first | rfl | (simp only [bneNil, beqNil]; rfl) | simp [bneNil, beqNil]); (with_reducible repeat (first | refine blk_drewN ?_ _ | refine blk_drew ?_ | refine blk_alloc ?_ _)); exact BK246.out) Tryz.underlying47 rfl (by kernel_rfl)) rfl ?_
             exact ⟨by first | rfl | (simp [errW_none, errW_some] <;> rfl) | (simp [*, errW_none, errW_some] <;> rfl), by repeat (first | (with_reducible first | exact HB.out | apply below_alloc | apply pw_below_drewN | apply below_drew1 | refine below_set ?_ GE246.out) | exact HB.out)⟩
           ·rw [if_neg c22] at H
            have c22b0 : (x4_6 == 1) = false := beq_eq_false_iff_ne.mpr c22
            have c22b1 : (x4_6 != 1) = true := bne_iff_ne.mpr c22
            replace H := Option.bind_eq_some_iff.mp H
            obtain ⟨t248, A290, H⟩ := H
            replace H : (if t248.toList = a0.toList then (some (x3_4, true)) else (some (0, false))) = some (r1, r2) := H
            have A29 := Aside0.mk A290
            clear A290
            by_cases c30 : t248.toList = a0.toList
            ·rw [if_pos c30] at H
             have c30b0 : (t248.toList == a0.toList) = true := beq_iff_eq.mpr c30
             have c30b1 : (t248.toList != a0.toList) = false := bne_eq_false_iff_eq.mpr c30
             clear c30
             simp only [Option.some.injEq, Prod.mk.injEq] at H
             obtain ⟨rfl, rfl⟩ := H
             go_wp2_with (first | ((with_reducible refine gate_callee (f := 37) rfl ?_); refine goesL_ (some 56) rfl rfl Tryz.func37 (by kernel_rfl) rfl #[.int .i64 x3_4] rfl (by (try simp only [List.map_toArray, List.map_cons, List.map_nil]); first | done | rfl | (simp only [List.length_drop, List.length_take]; rfl)) ?_; (with_reducible refine (brookref1_Digits.calls x3_4 t248 _ A29.out).mono ?_); rintro e w31 ⟨rfl, hb⟩; refine ⟨_, rfl, ?_⟩; have n0_ := Aside0.mk (blk_below (g := gb246) (o := .cells #[.int .i64 x247000_4, .bool x247001_4] 47 (0, 0)) (by (with_reducible repeat (first | refine blk_drewN ?_ _ | refine blk_drew ?_ | refine blk_alloc ?_ _)); exact BK246.out) hb); have n1_ := Aside0.mk (below_step (by repeat (first | (with_reducible first | exact HB.out | apply below_alloc | apply pw_below_drewN | apply below_drew1 | refine below_set ?_ GE246.out) | exact HB.out)) hb); clear BK246; clear HB; have BK246 := n0_; have HB := n1_; clear n0_ n1_; (try clear hb); (try clear hb2); (try clear hk); (try clear hi); have hcz32_0 : w31.cell? ⟨gb246, 0, none⟩ = some (.int .i64 x247000_4) := (blk_cell BK246.out 0).trans rfl; have hcz32_1 : w31.cell? ⟨gb246, 1, none⟩ = some (.bool x247001_4) := (blk_cell BK246.out 1).trans rfl; have hfz32_0 := blk_frozen BK246.out 0; have hfz32_1 := blk_frozen BK246.out 1))
             refine bodyPost_ret (results_cell_row rfl _ _ gb246 47 #[.int .i64 x3_4, .bool true] (0, 0) _ rfl (by (with_reducible repeat (first | refine blk_drewN ?_ _ | refine blk_drew ?_ | refine blk_alloc ?_ _)); refine blk_put (cs := #[.int .i64 x3_4, .bool x247001_4]) ?_ 1 _ (by first | rfl | (simp only [bneNil, beqNil]; rfl) | simp [bneNil, beqNil]); (with_reducible repeat (first | refine blk_drewN ?_ _ | refine blk_drew ?_ | refine blk_alloc ?_ _)); refine blk_put (cs := #[.int .i64 x247000_4, .bool x247001_4]) ?_ 0 _ (by first | rfl | (simp only [bneNil, beqNil]; rfl) | simp [bneNil, beqNil]); (with_reducible repeat (first | refine blk_drewN ?_ _ | refine blk_drew ?_ | refine blk_alloc ?_ _)); exact BK246.out) Tryz.underlying47 rfl (by kernel_rfl)) rfl ?_
             exact ⟨by first | rfl | (simp [errW_none, errW_some] <;> rfl) | (simp [*, errW_none, errW_some] <;> rfl), by repeat (first | (with_reducible first | exact HB.out | apply below_alloc | apply pw_below_drewN | apply below_drew1 | refine below_set ?_ GE246.out) | exact HB.out)⟩
            ·rw [if_neg c30] at H
             have c30b0 : (t248.toList == a0.toList) = false := beq_eq_false_iff_ne.mpr c30
             have c30b1 : (t248.toList != a0.toList) = true := bne_iff_ne.mpr c30
             simp only [Option.some.injEq, Prod.mk.injEq] at H
             obtain ⟨rfl, rfl⟩ := H
             go_wp2_with (first | ((with_reducible refine gate_callee (f := 37) rfl ?_); refine goesL_ (some 56) rfl rfl Tryz.func37 (by kernel_rfl) rfl #[.int .i64 x3_4] rfl (by (try simp only [List.map_toArray, List.map_cons, List.map_nil]); first | done | rfl | (simp only [List.length_drop, List.length_take]; rfl)) ?_; (with_reducible refine (brookref1_Digits.calls x3_4 t248 _ A29.out).mono ?_); rintro e w33 ⟨rfl, hb⟩; refine ⟨_, rfl, ?_⟩; have n0_ := Aside0.mk (blk_below (g := gb246) (o := .cells #[.int .i64 x247000_4, .bool x247001_4] 47 (0, 0)) (by (with_reducible repeat (first | refine blk_drewN ?_ _ | refine blk_drew ?_ | refine blk_alloc ?_ _)); exact BK246.out) hb); have n1_ := Aside0.mk (below_step (by repeat (first | (with_reducible first | exact HB.out | apply below_alloc | apply pw_below_drewN | apply below_drew1 | refine below_set ?_ GE246.out) | exact HB.out)) hb); clear BK246; clear HB; have BK246 := n0_; have HB := n1_; clear n0_ n1_; (try clear hb); (try clear hb2); (try clear hk); (try clear hi); have hcz34_0 : w33.cell? ⟨gb246, 0, none⟩ = some (.int .i64 x247000_4) := (blk_cell BK246.out 0).trans rfl; have hcz34_1 : w33.cell? ⟨gb246, 1, none⟩ = some (.bool x247001_4) := (blk_cell BK246.out 1).trans rfl; have hfz34_0 := blk_frozen BK246.out 0; have hfz34_1 := blk_frozen BK246.out 1))
             refine bodyPost_ret (results_cell_row rfl _ _ gb246 47 #[.int .i64 0, .bool false] (0, 0) _ rfl (by (with_reducible repeat (first | refine blk_drewN ?_ _ | refine blk_drew ?_ | refine blk_alloc ?_ _)); refine blk_put (cs := #[.int .i64 0, .bool x247001_4]) ?_ 1 _ (by first | rfl | (simp only [bneNil, beqNil]; rfl) | simp [bneNil, beqNil]); (with_reducible repeat (first | refine blk_drewN ?_ _ | refine blk_drew ?_ | refine blk_alloc ?_ _)); refine blk_put (cs := #[.int .i64 x247000_4, .bool x247001_4]) ?_ 0 _ (by first | rfl | (simp only [bneNil, beqNil]; rfl) | simp [bneNil, beqNil]); (with_reducible repeat (first | refine blk_drewN ?_ _ | refine blk_drew ?_ | refine blk_alloc ?_ _)); exact BK246.out) Tryz.underlying47 rfl (by kernel_rfl)) rfl ?_
             exact ⟨by first | rfl | (simp [errW_none, errW_some] <;> rfl) | (simp [*, errW_none, errW_some] <;> rfl), by repeat (first | (with_reducible first | exact HB.out | apply below_alloc | apply pw_below_drewN | apply below_drew1 | refine below_set ?_ GE246.out) | exact HB.out)⟩
end Go.Proofs.YtpcjjpkmebgjjaaGreatDoor.P

namespace Go.Proofs.YtpcjjpkmebgjjaaGreatDoor.P
open Go.RowKit Go.Proofs.YtpcjjpkmebgjjaaGreatDoorW.PrintWords Go.Proofs.YtpcjjpkmebgjjaaGreatDoorW.PrintLast Go.Proofs.YtpcjjpkmebgjjaaGreatDoorW.PrintMore
attribute [local go_sem] max2_int min2_int max_two min_two max_three min_three max_four min_four
set_option linter.unusedVariables false
set_option linter.unusedSimpArgs false
attribute [local go_sem high] fld47_1
def brookref1_Norm.j0 : Nat → ByteArray → ByteArray → Bool → Option (ByteArray × Bool)
 | 0, _, _, _ => none
 | k + 1, x0, x1, x13 => if x13 = true then (some ((⟨#[]⟩ : ByteArray), false)) else ((brookref1_Rule.f k x0).bind fun t250 => (if t250 = 1 then ((brookref1_Fold.f k x1).bind fun t251 => (some (t251, (t251.toList != ([] : List UInt8))))) else (if t250 = 2 then ((brookref1_Number.f k x1).bind fun bt252 => (if bt252.2 = true then (some (x1, true)) else (some ((⟨#[]⟩ : ByteArray), false)))) else (if t250 = 3 then ((brookref1_Key.f k x1).bind fun bt254 => (if bt254.2 = true then (if bt254.1.toList = ([] : List UInt8) then (some ((⟨#[]⟩ : ByteArray), false)) else (some (bt254.1, bt254.2))) else (some ((⟨#[]⟩ : ByteArray), false)))) else (if t250 = 4 then (some (x1, true)) else (some ((⟨#[]⟩ : ByteArray), false)))))))
def brookref1_Norm.f (k : Nat) (a0 : ByteArray) (a1 : ByteArray) : Option (ByteArray × Bool) := if a1.toList = ([] : List UInt8) then (brookref1_Norm.j0 k a0 a1 true) else (brookref1_Norm.j0 k a0 a1 (decide ((a1.size : Int) > 100)))
set_option maxHeartbeats 8000000 in
set_option maxRecDepth 100000 in
theorem brookref1_Norm.calls (k : Nat) (a0 : ByteArray) (a1 : ByteArray) (r1 : ByteArray) (r2 : Bool) (w : World) (h : brookref1_Norm.f k a0 a1 = some (r1, r2)) :
  Calls Tryz.prog 10 #[.string a0, .string a1] w fun e w' => e = .returned (.agg #[.string r1, .bool r2]) ∧ Below w.heap.size w w' := by
 have hu26 := Tryz.underlying26
 have hu47 := Tryz.underlying47
 have HB := Aside0.mk (Below.refl w.heap.size w)
 have H : (if a1.toList = ([] : List UInt8) then (brookref1_Norm.j0 k a0 a1 true) else (brookref1_Norm.j0 k a0 a1 (decide ((a1.size : Int) > 100)))) = some (r1, r2) := h
 clear h
 have HC3 := Aside0.mk H
 clear H
 go_enter Tryz.func10, Tryz.ntmps10
 go_upto_region 1 with (first | ((with_reducible refine gate_dst (N := 4) rfl ?_); (try (refine gate_guard (by rfl) ?_; dsimp only)); refine box_event ?hg (N := 4) ?hd (cs := #[.string (⟨#[]⟩ : ByteArray), .bool false]) (t := 26) ?hr ?_; (case hd => rfl); (case hg => rfl); (case hr => first | (go_simp; done) | (go_simp; rfl)); intro gb249 hg w4 hbox hb; have n0_ := Aside0.mk (below_step (by repeat (first | (with_reducible first | exact HB.out | apply below_alloc | apply pw_below_drewN | apply below_drew1) | exact HB.out)) hb); have n1_ := Aside0.mk (hbox); have n2_ := Aside0.mk ((by rw [hg]; exact (below_size (by repeat (first | (with_reducible first | exact HB.out | apply below_alloc | apply pw_below_drewN | apply below_drew1) | exact HB.out))) : w.heap.size ≤ gb249)); have n3_ := Aside0.mk ((by rw [hg]; exact (below_size (by repeat (first | (with_reducible first | exact HB.out | apply below_alloc | apply pw_below_drewN | apply below_drew1) | exact HB.out))) : w.heap.size ≤ gb249)); clear HB; have HB := n0_; have BK249 := n1_; have GW249 := n2_; have GE249 := n3_; clear n0_ n1_ n2_ n3_; clear hb hbox hg))
 (try simp only [Act.put, List.setIfInBounds_toArray, List.set_cons_zero, List.set_cons_succ])
 go_cut [13] (fun v13 wc => ∃ (kq : Nat) (x13_2 : Bool), v13 = .bool x13_2 ∧ Aside0 (brookref1_Norm.j0 kq a0 a1 x13_2 = some (r1, r2)) ∧ Aside0 (kq ≤ k) ∧ Aside0 (wc.heap[gb249]? = some (.cells #[.string (⟨#[]⟩ : ByteArray), .bool false] 26 (0, 0))) ∧ Aside0 (Below w.heap.size w wc))
 case first =>
  have H := HC3.out
  clear HC3
  by_cases c5 : a1.toList = ([] : List UInt8)
  ·rw [if_pos c5] at H
   have c5b0 : (a1.toList == ([] : List UInt8)) = true := beq_iff_eq.mpr c5
   have c5b1 : (a1.toList != ([] : List UInt8)) = false := bne_eq_false_iff_eq.mpr c5
   clear c5
   (first | rw [c5b0] | (simp only [i64_w, i32_w]; rw [c5b0]) | skip)
   have H' := Aside0.mk H
   clear H
   go_wp2
   go_meet
   case rel => exact ⟨_, (true), (by first | rfl | (simp; done) | (simp [*]; done) | (simp [*, i64_w, i32_w, u8_w]; done) | (simp only [bneNil, beqNil]; done) | (simp only [bneNil, beqNil]; simp; done) | (simp only [bneNil, beqNil]; simp [*]; done)), H', ⟨by first | omega | exact Nat.le_refl _⟩, ⟨by (with_reducible repeat (first | refine blk_drewN ?_ _ | refine blk_drew ?_ | refine blk_alloc ?_ _)); exact BK249.out⟩, ⟨by repeat (first | (with_reducible first | exact HB.out | apply below_alloc | apply pw_below_drewN | apply below_drew1 | refine below_set ?_ GE249.out) | exact HB.out)⟩⟩
  ·rw [if_neg c5] at H
   have c5b0 : (a1.toList == ([] : List UInt8)) = false := beq_eq_false_iff_ne.mpr c5
   have c5b1 : (a1.toList != ([] : List UInt8)) = true := bne_iff_ne.mpr c5
   (first | rw [c5b0] | (simp only [i64_w, i32_w]; rw [c5b0]) | skip)
   have H' := Aside0.mk H
   clear H
   go_wp2
   go_meet
   case rel => exact ⟨_, (decide ((a1.size : Int) > 100)), (by first | rfl | (simp; done) | (simp [*]; done) | (simp [*, i64_w, i32_w, u8_w]; done) | (simp only [bneNil, beqNil]; done) | (simp only [bneNil, beqNil]; simp; done) | (simp only [bneNil, beqNil]; simp [*]; done)), H', ⟨by first | omega | exact Nat.le_refl _⟩, ⟨by (with_reducible repeat (first | refine blk_drewN ?_ _ | refine blk_drew ?_ | refine blk_alloc ?_ _)); exact BK249.out⟩, ⟨by repeat (first | (with_reducible first | exact HB.out | apply below_alloc | apply pw_below_drewN | apply below_drew1 | refine below_set ?_ GE249.out) | exact HB.out)⟩⟩
 case rest =>
  clear HC3
  try clear c1
  try clear p2
  try clear c5
  try clear c5b0
  try clear c5b1
  obtain ⟨kq, x13_2, rfl, HA, HJ2, BK249, HB⟩ := hcut
  cases kq with
  | zero => exact absurd HA.out (by simp [brookref1_Norm.j0])
  | succ kj2 =>
   have H := HA.out
   clear HA
   simp only [brookref1_Norm.j0] at H
   by_cases c6 : x13_2 = true
   ·subst c6
    have H1 : (some ((⟨#[]⟩ : ByteArray), false)) = some (r1, r2) := by rw [if_pos rfl] at H; exact H
    clear H
    have H := H1
    clear H1
    simp only [Option.some.injEq, Prod.mk.injEq] at H
    obtain ⟨rfl, rfl⟩ := H
    have hcz7_0 : wc.cell? ⟨gb249, 0, none⟩ = some (.string (⟨#[]⟩ : ByteArray)) := (blk_cell BK249.out 0).trans rfl
    have hcz7_1 : wc.cell? ⟨gb249, 1, none⟩ = some (.bool false) := (blk_cell BK249.out 1).trans rfl
    have hfz7_0 := blk_frozen BK249.out 0
    have hfz7_1 := blk_frozen BK249.out 1
    go_wp2
    refine bodyPost_ret (results_cell_row rfl _ _ gb249 26 #[.string (⟨#[]⟩ : ByteArray), .bool false] (0, 0) _ rfl (by (with_reducible repeat (first | refine blk_drewN ?_ _ | refine blk_drew ?_ | refine blk_alloc ?_ _)); refine blk_put (cs := #[.string (⟨#[]⟩ : ByteArray), .bool false]) ?_ 1 _ (by first | rfl | (simp only [bneNil, beqNil]; rfl) | simp [bneNil, beqNil]); (with_reducible repeat (first | refine blk_drewN ?_ _ | refine blk_drew ?_ | refine blk_alloc ?_ _)); refine blk_put (cs := #[.string (⟨#[]⟩ : ByteArray), .bool false]) ?_ 0 _ (by first | rfl | (simp only [bneNil, beqNil]; rfl) | simp [bneNil, beqNil]); (with_reducible repeat (first | refine blk_drewN ?_ _ | refine blk_drew ?_ | refine blk_alloc ?_ _)); exact BK249.out) Tryz.underlying26 rfl (by kernel_rfl)) rfl ?_
    exact ⟨by first | rfl | (simp [errW_none, errW_some] <;> rfl) | (simp [*, errW_none, errW_some] <;> rfl), by repeat (first | (with_reducible first | exact HB.out | apply below_alloc | apply pw_below_drewN | apply below_drew1 | refine below_set ?_ GE249.out) | exact HB.out)⟩
   ·replace c6 := Bool.eq_false_iff.mpr c6
    subst c6
    have H1 : ((brookref1_Rule.f kj2 a0).bind fun t250 => (if t250 = 1 then ((brookref1_Fold.f kj2 a1).bind fun t251 => (some (t251, (t251.toList != ([] : List UInt8))))) else (if t250 = 2 then ((brookref1_Number.f kj2 a1).bind fun bt252 => (if bt252.2 = true then (some (a1, true)) else (some ((⟨#[]⟩ : ByteArray), false)))) else (if t250 = 3 then ((brookref1_Key.f kj2 a1).bind fun bt254 => (if bt254.2 = true then (if bt254.1.toList = ([] : List UInt8) then (some ((⟨#[]⟩ : ByteArray), false)) else (some (bt254.1, bt254.2))) else (some ((⟨#[]⟩ : ByteArray), false)))) else (if t250 = 4 then (some (a1, true)) else (some ((⟨#[]⟩ : ByteArray), false))))))) = some (r1, r2) := by rw [if_neg (show ¬ (false = true) by decide)] at H; exact H
    clear H
    have H := H1
    clear H1
    replace H := Option.bind_eq_some_iff.mp H
    obtain ⟨t250, A80, H⟩ := H
    replace H : (if t250 = 1 then ((brookref1_Fold.f kj2 a1).bind fun t251 => (some (t251, (t251.toList != ([] : List UInt8))))) else (if t250 = 2 then ((brookref1_Number.f kj2 a1).bind fun bt252 => (if bt252.2 = true then (some (a1, true)) else (some ((⟨#[]⟩ : ByteArray), false)))) else (if t250 = 3 then ((brookref1_Key.f kj2 a1).bind fun bt254 => (if bt254.2 = true then (if bt254.1.toList = ([] : List UInt8) then (some ((⟨#[]⟩ : ByteArray), false)) else (some (bt254.1, bt254.2))) else (some ((⟨#[]⟩ : ByteArray), false)))) else (if t250 = 4 then (some (a1, true)) else (some ((⟨#[]⟩ : ByteArray), false)))))) = some (r1, r2) := H
    have A8 := Aside0.mk A80
    clear A80
    by_cases c9 : t250 = 1
    ·rw [if_pos c9] at H
     have c9b0 : (t250 == 1) = true := beq_iff_eq.mpr c9
     have c9b1 : (t250 != 1) = false := bne_eq_false_iff_eq.mpr c9
     clear c9
     replace H := Option.bind_eq_some_iff.mp H
     obtain ⟨t251, A100, H⟩ := H
     replace H : (some (t251, (t251.toList != ([] : List UInt8)))) = some (r1, r2) := H
     have A10 := Aside0.mk A100
     clear A100
     simp only [Option.some.injEq, Prod.mk.injEq] at H
     obtain ⟨rfl, rfl⟩ := H
     go_wp2_with (first | ((with_reducible refine gate_callee (f := 14) rfl ?_); refine goesL_ (some 16) rfl rfl Tryz.func14 (by kernel_rfl) rfl #[.string a0] rfl (by (try simp only [List.map_toArray, List.map_cons, List.map_nil]); first | done | rfl | (simp only [List.length_drop, List.length_take]; rfl)) ?_; (with_reducible refine (brookref1_Rule.calls kj2 a0 t250 _ A8.out).mono ?_); rintro e w11 ⟨rfl, hb⟩; refine ⟨_, rfl, ?_⟩; have n0_ := Aside0.mk (blk_below (g := gb249) (o := .cells #[.string (⟨#[]⟩ : ByteArray), .bool false] 26 (0, 0)) (by (with_reducible repeat (first | refine blk_drewN ?_ _ | refine blk_drew ?_ | refine blk_alloc ?_ _)); exact BK249.out) hb); have n1_ := Aside0.mk (below_step (by repeat (first | (with_reducible first | exact HB.out | apply below_alloc | apply pw_below_drewN | apply below_drew1 | refine below_set ?_ GE249.out) | exact HB.out)) hb); clear BK249; clear HB; have BK249 := n0_; have HB := n1_; clear n0_ n1_; (try clear hb); (try clear hb2); (try clear hk); (try clear hi)) | ((with_reducible refine gate_callee (f := 25) rfl ?_); refine goesL_ (some 20) rfl rfl Tryz.func25 (by kernel_rfl) rfl #[.string a1] rfl (by (try simp only [List.map_toArray, List.map_cons, List.map_nil]); first | done | rfl | (simp only [List.length_drop, List.length_take]; rfl)) ?_; (with_reducible refine (brookref1_Fold.calls kj2 a1 t251 _ A10.out).mono ?_); rintro e w12 ⟨rfl, hb⟩; refine ⟨_, rfl, ?_⟩; have n0_ := Aside0.mk (blk_below (g := gb249) (o := .cells #[.string (⟨#[]⟩ : ByteArray), .bool false] 26 (0, 0)) (by (with_reducible repeat (first | refine blk_drewN ?_ _ | refine blk_drew ?_ | refine blk_alloc ?_ _)); exact BK249.out) hb); have n1_ := Aside0.mk (below_step (by repeat (first | (with_reducible first | exact HB.out | apply below_alloc | apply pw_below_drewN | apply below_drew1 | refine below_set ?_ GE249.out) | exact HB.out)) hb); clear BK249; clear HB; have BK249 := n0_; have HB := n1_; clear n0_ n1_; (try clear hb); (try clear hb2); (try clear hk); (try clear hi); have hcz13_0 : w12.cell? ⟨gb249, 0, none⟩ = some (.string (⟨#[]⟩ : ByteArray)) := (blk_cell BK249.out 0).trans rfl; have hcz13_1 : w12.cell? ⟨gb249, 1, none⟩ = some (.bool false) := (blk_cell BK249.out 1).trans rfl; have hfz13_0 := blk_frozen BK249.out 0; have hfz13_1 := blk_frozen BK249.out 1))
     refine bodyPost_ret (results_cell_row rfl _ _ gb249 26 #[.string t251, .bool (t251.toList != ([] : List UInt8))] (0, 0) _ rfl (by (with_reducible repeat (first | refine blk_drewN ?_ _ | refine blk_drew ?_ | refine blk_alloc ?_ _)); refine blk_put (cs := #[.string t251, .bool false]) ?_ 1 _ (by first | rfl | (simp only [bneNil, beqNil]; rfl) | simp [bneNil, beqNil]); (with_reducible repeat (first | refine blk_drewN ?_ _ | refine blk_drew ?_ | refine blk_alloc ?_ _)); refine blk_put (cs := #[.string (⟨#[]⟩ : ByteArray), .bool false]) ?_ 0 _ (by first | rfl | (simp only [bneNil, beqNil]; rfl) | simp [bneNil, beqNil]); (with_reducible repeat (first | refine blk_drewN ?_ _ | refine blk_drew ?_ | refine blk_alloc ?_ _)); exact BK249.out) Tryz.underlying26 rfl (by kernel_rfl)) rfl ?_
     exact ⟨by first | rfl | (simp [errW_none, errW_some] <;> rfl) | (simp [*, errW_none, errW_some] <;> rfl), by repeat (first | (with_reducible first | exact HB.out | apply below_alloc | apply pw_below_drewN | apply below_drew1 | refine below_set ?_ GE249.out) | exact HB.out)⟩
    ·rw [if_neg c9] at H
     have c9b0 : (t250 == 1) = false := beq_eq_false_iff_ne.mpr c9
     have c9b1 : (t250 != 1) = true := bne_iff_ne.mpr c9
     by_cases c14 : t250 = 2
     ·rw [if_pos c14] at H
      have c14b0 : (t250 == 2) = true := beq_iff_eq.mpr c14
      have c14b1 : (t250 != 2) = false := bne_eq_false_iff_eq.mpr c14
      clear c14
      replace H := Option.bind_eq_some_iff.mp H
      obtain ⟨⟨t252, t253⟩, A150, H⟩ := H
      replace H : (if t253 = true then (some (a1, true)) else (some ((⟨#[]⟩ : ByteArray), false))) = some (r1, r2) := H
      have A15 := Aside0.mk A150
      clear A150
      by_cases c16 : t253 = true
      ·subst c16
       have H1 : (some (a1, true)) = some (r1, r2) := by rw [if_pos rfl] at H; exact H
       clear H
       have H := H1
       clear H1
       simp only [Option.some.injEq, Prod.mk.injEq] at H
       obtain ⟨rfl, rfl⟩ := H
       go_wp2_with (first | ((with_reducible refine gate_callee (f := 14) rfl ?_); refine goesL_ (some 16) rfl rfl Tryz.func14 (by kernel_rfl) rfl #[.string a0] rfl (by (try simp only [List.map_toArray, List.map_cons, List.map_nil]); first | done | rfl | (simp only [List.length_drop, List.length_take]; rfl)) ?_; (with_reducible refine (brookref1_Rule.calls kj2 a0 t250 _ A8.out).mono ?_); rintro e w17 ⟨rfl, hb⟩; refine ⟨_, rfl, ?_⟩; have n0_ := Aside0.mk (blk_below (g := gb249) (o := .cells #[.string (⟨#[]⟩ : ByteArray), .bool false] 26 (0, 0)) (by (with_reducible repeat (first | refine blk_drewN ?_ _ | refine blk_drew ?_ | refine blk_alloc ?_ _)); exact BK249.out) hb); have n1_ := Aside0.mk (below_step (by repeat (first | (with_reducible first | exact HB.out | apply below_alloc | apply pw_below_drewN | apply below_drew1 | refine below_set ?_ GE249.out) | exact HB.out)) hb); clear BK249; clear HB; have BK249 := n0_; have HB := n1_; clear n0_ n1_; (try clear hb); (try clear hb2); (try clear hk); (try clear hi)) | ((with_reducible refine gate_callee (f := 26) rfl ?_); refine goesL_ (some 28) rfl rfl Tryz.func26 (by kernel_rfl) rfl #[.string a1] rfl (by (try simp only [List.map_toArray, List.map_cons, List.map_nil]); first | done | rfl | (simp only [List.length_drop, List.length_take]; rfl)) ?_; (with_reducible refine (brookref1_Number.calls kj2 a1 t252 true _ A15.out).mono ?_); rintro e w18 ⟨rfl, hb⟩; refine ⟨_, rfl, ?_⟩; have n0_ := Aside0.mk (blk_below (g := gb249) (o := .cells #[.string (⟨#[]⟩ : ByteArray), .bool false] 26 (0, 0)) (by (with_reducible repeat (first | refine blk_drewN ?_ _ | refine blk_drew ?_ | refine blk_alloc ?_ _)); exact BK249.out) hb); have n1_ := Aside0.mk (below_step (by repeat (first | (with_reducible first | exact HB.out | apply below_alloc | apply pw_below_drewN | apply below_drew1 | refine below_set ?_ GE249.out) | exact HB.out)) hb); clear BK249; clear HB; have BK249 := n0_; have HB := n1_; clear n0_ n1_; (try clear hb); (try clear hb2); (try clear hk); (try clear hi); have hcz19_0 : w18.cell? ⟨gb249, 0, none⟩ = some (.string (⟨#[]⟩ : ByteArray)) := (blk_cell BK249.out 0).trans rfl; have hcz19_1 : w18.cell? ⟨gb249, 1, none⟩ = some (.bool false) := (blk_cell BK249.out 1).trans rfl; have hfz19_0 := blk_frozen BK249.out 0; have hfz19_1 := blk_frozen BK249.out 1))
       refine bodyPost_ret (results_cell_row rfl _ _ gb249 26 #[.string a1, .bool true] (0, 0) _ rfl (by (with_reducible repeat (first | refine blk_drewN ?_ _ | refine blk_drew ?_ | refine blk_alloc ?_ _)); refine blk_put (cs := #[.string a1, .bool false]) ?_ 1 _ (by first | rfl | (simp only [bneNil, beqNil]; rfl) | simp [bneNil, beqNil]); (with_reducible repeat (first | refine blk_drewN ?_ _ | refine blk_drew ?_ | refine blk_alloc ?_ _)); refine blk_put (cs := #[.string (⟨#[]⟩ : ByteArray), .bool false]) ?_ 0 _ (by first | rfl | (simp only [bneNil, beqNil]; rfl) | simp [bneNil, beqNil]); (with_reducible repeat (first | refine blk_drewN ?_ _ | refine blk_drew ?_ | refine blk_alloc ?_ _)); exact BK249.out) Tryz.underlying26 rfl (by kernel_rfl)) rfl ?_
       exact ⟨by first | rfl | (simp [errW_none, errW_some] <;> rfl) | (simp [*, errW_none, errW_some] <;> rfl), by repeat (first | (with_reducible first | exact HB.out | apply below_alloc | apply pw_below_drewN | apply below_drew1 | refine below_set ?_ GE249.out) | exact HB.out)⟩
      ·replace c16 := Bool.eq_false_iff.mpr c16
       subst c16
       have H1 : (some ((⟨#[]⟩ : ByteArray), false)) = some (r1, r2) := by rw [if_neg (show ¬ (false = true) by decide)] at H; exact H
       clear H
       have H := H1
       clear H1
       simp only [Option.some.injEq, Prod.mk.injEq] at H
       obtain ⟨rfl, rfl⟩ := H
       go_wp2_with (first | ((with_reducible refine gate_callee (f := 14) rfl ?_); refine goesL_ (some 16) rfl rfl Tryz.func14 (by kernel_rfl) rfl #[.string a0] rfl (by (try simp only [List.map_toArray, List.map_cons, List.map_nil]); first | done | rfl | (simp only [List.length_drop, List.length_take]; rfl)) ?_; (with_reducible refine (brookref1_Rule.calls kj2 a0 t250 _ A8.out).mono ?_); rintro e w20 ⟨rfl, hb⟩; refine ⟨_, rfl, ?_⟩; have n0_ := Aside0.mk (blk_below (g := gb249) (o := .cells #[.string (⟨#[]⟩ : ByteArray), .bool false] 26 (0, 0)) (by (with_reducible repeat (first | refine blk_drewN ?_ _ | refine blk_drew ?_ | refine blk_alloc ?_ _)); exact BK249.out) hb); have n1_ := Aside0.mk (below_step (by repeat (first | (with_reducible first | exact HB.out | apply below_alloc | apply pw_below_drewN | apply below_drew1 | refine below_set ?_ GE249.out) | exact HB.out)) hb); clear BK249; clear HB; have BK249 := n0_; have HB := n1_; clear n0_ n1_; (try clear hb); (try clear hb2); (try clear hk); (try clear hi)) | ((with_reducible refine gate_callee (f := 26) rfl ?_); refine goesL_ (some 28) rfl rfl Tryz.func26 (by kernel_rfl) rfl #[.string a1] rfl (by (try simp only [List.map_toArray, List.map_cons, List.map_nil]); first | done | rfl | (simp only [List.length_drop, List.length_take]; rfl)) ?_; (with_reducible refine (brookref1_Number.calls kj2 a1 t252 false _ A15.out).mono ?_); rintro e w21 ⟨rfl, hb⟩; refine ⟨_, rfl, ?_⟩; have n0_ := Aside0.mk (blk_below (g := gb249) (o := .cells #[.string (⟨#[]⟩ : ByteArray), .bool false] 26 (0, 0)) (by (with_reducible repeat (first | refine blk_drewN ?_ _ | refine blk_drew ?_ | refine blk_alloc ?_ _)); exact BK249.out) hb); have n1_ := Aside0.mk (below_step (by repeat (first | (with_reducible first | exact HB.out | apply below_alloc | apply pw_below_drewN | apply below_drew1 | refine below_set ?_ GE249.out) | exact HB.out)) hb); clear BK249; clear HB; have BK249 := n0_; have HB := n1_; clear n0_ n1_; (try clear hb); (try clear hb2); (try clear hk); (try clear hi); have hcz22_0 : w21.cell? ⟨gb249, 0, none⟩ = some (.string (⟨#[]⟩ : ByteArray)) := (blk_cell BK249.out 0).trans rfl; have hcz22_1 : w21.cell? ⟨gb249, 1, none⟩ = some (.bool false) := (blk_cell BK249.out 1).trans rfl; have hfz22_0 := blk_frozen BK249.out 0; have hfz22_1 := blk_frozen BK249.out 1))
       refine bodyPost_ret (results_cell_row rfl _ _ gb249 26 #[.string (⟨#[]⟩ : ByteArray), .bool false] (0, 0) _ rfl (by (with_reducible repeat (first | refine blk_drewN ?_ _ | refine blk_drew ?_ | refine blk_alloc ?_ _)); refine blk_put (cs := #[.string (⟨#[]⟩ : ByteArray), .bool false]) ?_ 1 _ (by first | rfl | (simp only [bneNil, beqNil]; rfl) | simp [bneNil, beqNil]); (with_reducible repeat (first | refine blk_drewN ?_ _ | refine blk_drew ?_ | refine blk_alloc ?_ _)); refine blk_put (cs := #[.string (⟨#[]⟩ : ByteArray), .bool false]) ?_ 0 _ (by first | rfl | (simp only [bneNil, beqNil]; rfl) | simp [bneNil, beqNil]); (with_reducible repeat (first | refine blk_drewN ?_ _ | refine blk_drew ?_ | refine blk_alloc ?_ _)); exact BK249.out) Tryz.underlying26 rfl (by kernel_rfl)) rfl ?_
       exact ⟨by first | rfl | (simp [errW_none, errW_some] <;> rfl) | (simp [*, errW_none, errW_some] <;> rfl), by repeat (first | (with_reducible first | exact HB.out | apply below_alloc | apply pw_below_drewN | apply below_drew1 | refine below_set ?_ GE249.out) | exact HB.out)⟩
     ·rw [if_neg c14] at H
      have c14b0 : (t250 == 2) = false := beq_eq_false_iff_ne.mpr c14
      have c14b1 : (t250 != 2) = true := bne_iff_ne.mpr c14
      by_cases c23 : t250 = 3
      ·rw [if_pos c23] at H
       have c23b0 : (t250 == 3) = true := beq_iff_eq.mpr c23
       have c23b1 : (t250 != 3) = false := bne_eq_false_iff_eq.mpr c23
       clear c23
       replace H := Option.bind_eq_some_iff.mp H
       obtain ⟨⟨t254, t255⟩, A240, H⟩ := H
       replace H : (if t255 = true then (if t254.toList = ([] : List UInt8) then (some ((⟨#[]⟩ : ByteArray), false)) else (some (t254, t255))) else (some ((⟨#[]⟩ : ByteArray), false))) = some (r1, r2) := H
       have A24 := Aside0.mk A240
       clear A240
       by_cases c25 : t255 = true
       ·subst c25
        have H1 : (if t254.toList = ([] : List UInt8) then (some ((⟨#[]⟩ : ByteArray), false)) else (some (t254, true))) = some (r1, r2) := by rw [if_pos rfl] at H; exact H
        clear H
        have H := H1
        clear H1
        by_cases c26 : t254.toList = ([] : List UInt8)
        ·rw [if_pos c26] at H
         have c26b0 : (t254.toList == ([] : List UInt8)) = true := beq_iff_eq.mpr c26
         have c26b1 : (t254.toList != ([] : List UInt8)) = false := bne_eq_false_iff_eq.mpr c26
         clear c26
         simp only [Option.some.injEq, Prod.mk.injEq] at H
         obtain ⟨rfl, rfl⟩ := H
         go_wp2_with (first | ((with_reducible refine gate_callee (f := 14) rfl ?_); refine goesL_ (some 16) rfl rfl Tryz.func14 (by kernel_rfl) rfl #[.string a0] rfl (by (try simp only [List.map_toArray, List.map_cons, List.map_nil]); first | done | rfl | (simp only [List.length_drop, List.length_take]; rfl)) ?_; (with_reducible refine (brookref1_Rule.calls kj2 a0 t250 _ A8.out).mono ?_); rintro e w27 ⟨rfl, hb⟩; refine ⟨_, rfl, ?_⟩; have n0_ := Aside0.mk (blk_below (g := gb249) (o := .cells #[.string (⟨#[]⟩ : ByteArray), .bool false] 26 (0, 0)) (by (with_reducible repeat (first | refine blk_drewN ?_ _ | refine blk_drew ?_ | refine blk_alloc ?_ _)); exact BK249.out) hb); have n1_ := Aside0.mk (below_step (by repeat (first | (with_reducible first | exact HB.out | apply below_alloc | apply pw_below_drewN | apply below_drew1 | refine below_set ?_ GE249.out) | exact HB.out)) hb); clear BK249; clear HB; have BK249 := n0_; have HB := n1_; clear n0_ n1_; (try clear hb); (try clear hb2); (try clear hk); (try clear hi)) | ((with_reducible refine gate_callee (f := 20) rfl ?_); refine goesL_ (some 35) rfl rfl Tryz.func20 (by kernel_rfl) rfl #[.string a1] rfl (by (try simp only [List.map_toArray, List.map_cons, List.map_nil]); first | done | rfl | (simp only [List.length_drop, List.length_take]; rfl)) ?_; (with_reducible refine (brookref1_Key.calls kj2 a1 t254 true _ A24.out).mono ?_); rintro e w28 ⟨rfl, hb⟩; refine ⟨_, rfl, ?_⟩; have n0_ := Aside0.mk (blk_below (g := gb249) (o := .cells #[.string (⟨#[]⟩ : ByteArray), .bool false] 26 (0, 0)) (by (with_reducible repeat (first | refine blk_drewN ?_ _ | refine blk_drew ?_ | refine blk_alloc ?_ _)); exact BK249.out) hb); have n1_ := Aside0.mk (below_step (by repeat (first | (with_reducible first | exact HB.out | apply below_alloc | apply pw_below_drewN | apply below_drew1 | refine below_set ?_ GE249.out) | exact HB.out)) hb); clear BK249; clear HB; have BK249 := n0_; have HB := n1_; clear n0_ n1_; (try clear hb); (try clear hb2); (try clear hk); (try clear hi)) | ((with_reducible refine gate_dst (N := 6) rfl ?_); (try (refine gate_guard (by rfl) ?_; dsimp only)); refine box_event ?hg (N := 6) ?hd (cs := #[.string (⟨#[]⟩ : ByteArray), .bool false]) (t := 26) ?hr ?_; (case hd => rfl); (case hg => rfl); (case hr => first | (go_simp; done) | (go_simp; rfl)); intro gb256 hg w29 hbox hb; have n0_ := Aside0.mk (blk_below (g := gb249) (o := .cells #[.string (⟨#[]⟩ : ByteArray), .bool false] 26 (0, 0)) (by (with_reducible repeat (first | refine blk_drewN ?_ _ | refine blk_drew ?_ | refine blk_alloc ?_ _)); exact BK249.out) hb); have n1_ := Aside0.mk (below_step (by repeat (first | (with_reducible first | exact HB.out | apply below_alloc | apply pw_below_drewN | apply below_drew1 | refine below_set ?_ GE249.out) | exact HB.out)) hb); have n2_ := Aside0.mk (hbox); have n3_ := Aside0.mk ((by rw [hg]; exact (below_size (by repeat (first | (with_reducible first | exact HB.out | apply below_alloc | apply pw_below_drewN | apply below_drew1 | refine below_set ?_ GE249.out) | exact HB.out))) : w.heap.size ≤ gb256)); have n4_ := Aside0.mk ((by rw [hg]; exact (below_size (by repeat (first | (with_reducible first | exact HB.out | apply below_alloc | apply pw_below_drewN | apply below_drew1 | refine below_set ?_ GE249.out) | exact HB.out))) : w.heap.size ≤ gb256)); have n5_ := Aside0.mk ((by rw [hg]; exact Nat.ne_of_lt (blk_lt (g := gb249) (o := .cells #[.string (⟨#[]⟩ : ByteArray), .bool false] 26 (0, 0)) (by (with_reducible repeat (first | refine blk_drewN ?_ _ | refine blk_drew ?_ | refine blk_alloc ?_ _)); exact BK249.out)) : gb249 ≠ gb256)); have n6_ := Aside0.mk ((by rw [hg]; exact Nat.ne_of_gt (blk_lt (g := gb249) (o := .cells #[.string (⟨#[]⟩ : ByteArray), .bool false] 26 (0, 0)) (by (with_reducible repeat (first | refine blk_drewN ?_ _ | refine blk_drew ?_ | refine blk_alloc ?_ _)); exact BK249.out)) : gb256 ≠ gb249)); clear BK249; clear HB; have BK249 := n0_; have HB := n1_; have BK256 := n2_; have GW256 := n3_; have GE256 := n4_; have NB249_256 := n5_; have NB256_249 := n6_; clear n0_ n1_ n2_ n3_ n4_ n5_ n6_; clear hb hbox hg; have hnb30 := NB256_249.out; have hnc30 := NB249_256.out; have hcz31_0 : w29.cell? ⟨gb256, 0, none⟩ = some (.string (⟨#[]⟩ : ByteArray)) := (blk_cell BK256.out 0).trans rfl; have hcz31_1 : w29.cell? ⟨gb256, 1, none⟩ = some (.bool false) := (blk_cell BK256.out 1).trans rfl; have hfz31_0 := blk_frozen BK256.out 0; have hfz31_1 := blk_frozen BK256.out 1; have hcz32_0 : w29.cell? ⟨gb249, 0, none⟩ = some (.string (⟨#[]⟩ : ByteArray)) := (blk_cell BK249.out 0).trans rfl; have hcz32_1 : w29.cell? ⟨gb249, 1, none⟩ = some (.bool false) := (blk_cell BK249.out 1).trans rfl; have hfz32_0 := blk_frozen BK249.out 0; have hfz32_1 := blk_frozen BK249.out 1))
         refine bodyPost_ret (results_cell_row rfl _ _ gb249 26 #[.string (⟨#[]⟩ : ByteArray), .bool false] (0, 0) _ rfl (by (with_reducible repeat (first | refine blk_drewN ?_ _ | refine blk_drew ?_ | refine blk_alloc ?_ _)); refine blk_put (cs := #[.string (⟨#[]⟩ : ByteArray), .bool false]) ?_ 1 _ (by first | rfl | (simp only [bneNil, beqNil]; rfl) | simp [bneNil, beqNil]); (with_reducible repeat (first | refine blk_drewN ?_ _ | refine blk_drew ?_ | refine blk_alloc ?_ _)); refine blk_put (cs := #[.string (⟨#[]⟩ : ByteArray), .bool false]) ?_ 0 _ (by first | rfl | (simp only [bneNil, beqNil]; rfl) | simp [bneNil, beqNil]); (with_reducible repeat (first | refine blk_drewN ?_ _ | refine blk_drew ?_ | refine blk_alloc ?_ _)); refine blk_far ?_ NB249_256.out _; (with_reducible repeat (first | refine blk_drewN ?_ _ | refine blk_drew ?_ | refine blk_alloc ?_ _)); refine blk_far ?_ NB249_256.out _; (with_reducible repeat (first | refine blk_drewN ?_ _ | refine blk_drew ?_ | refine blk_alloc ?_ _)); exact BK249.out) Tryz.underlying26 rfl (by kernel_rfl)) rfl ?_
         exact ⟨by first | rfl | (simp [errW_none, errW_some] <;> rfl) | (simp [*, errW_none, errW_some] <;> rfl), by repeat (first | (with_reducible first | exact HB.out | apply below_alloc | apply pw_below_drewN | apply below_drew1 | refine below_set ?_ GE249.out | refine below_set ?_ GE256.out) | exact HB.out)⟩
        ·rw [if_neg c26] at H
         have c26b0 : (t254.toList == ([] : List UInt8)) = false := beq_eq_false_iff_ne.mpr c26
         have c26b1 : (t254.toList != ([] : List UInt8)) = true := bne_iff_ne.mpr c26
         simp only [Option.some.injEq, Prod.mk.injEq] at H
         obtain ⟨rfl, rfl⟩ := H
         go_wp2_with (first | ((with_reducible refine gate_callee (f := 14) rfl ?_); refine goesL_ (some 16) rfl rfl Tryz.func14 (by kernel_rfl) rfl #[.string a0] rfl (by (try simp only [List.map_toArray, List.map_cons, List.map_nil]); first | done | rfl | (simp only [List.length_drop, List.length_take]; rfl)) ?_; (with_reducible refine (brookref1_Rule.calls kj2 a0 t250 _ A8.out).mono ?_); rintro e w33 ⟨rfl, hb⟩; refine ⟨_, rfl, ?_⟩; have n0_ := Aside0.mk (blk_below (g := gb249) (o := .cells #[.string (⟨#[]⟩ : ByteArray), .bool false] 26 (0, 0)) (by (with_reducible repeat (first | refine blk_drewN ?_ _ | refine blk_drew ?_ | refine blk_alloc ?_ _)); exact BK249.out) hb); have n1_ := Aside0.mk (below_step (by repeat (first | (with_reducible first | exact HB.out | apply below_alloc | apply pw_below_drewN | apply below_drew1 | refine below_set ?_ GE249.out) | exact HB.out)) hb); clear BK249; clear HB; have BK249 := n0_; have HB := n1_; clear n0_ n1_; (try clear hb); (try clear hb2); (try clear hk); (try clear hi)) | ((with_reducible refine gate_callee (f := 20) rfl ?_); refine goesL_ (some 35) rfl rfl Tryz.func20 (by kernel_rfl) rfl #[.string a1] rfl (by (try simp only [List.map_toArray, List.map_cons, List.map_nil]); first | done | rfl | (simp only [List.length_drop, List.length_take]; rfl)) ?_; (with_reducible refine (brookref1_Key.calls kj2 a1 t254 true _ A24.out).mono ?_); rintro e w34 ⟨rfl, hb⟩; refine ⟨_, rfl, ?_⟩; have n0_ := Aside0.mk (blk_below (g := gb249) (o := .cells #[.string (⟨#[]⟩ : ByteArray), .bool false] 26 (0, 0)) (by (with_reducible repeat (first | refine blk_drewN ?_ _ | refine blk_drew ?_ | refine blk_alloc ?_ _)); exact BK249.out) hb); have n1_ := Aside0.mk (below_step (by repeat (first | (with_reducible first | exact HB.out | apply below_alloc | apply pw_below_drewN | apply below_drew1 | refine below_set ?_ GE249.out) | exact HB.out)) hb); clear BK249; clear HB; have BK249 := n0_; have HB := n1_; clear n0_ n1_; (try clear hb); (try clear hb2); (try clear hk); (try clear hi)) | ((with_reducible refine gate_dst (N := 6) rfl ?_); (try (refine gate_guard (by rfl) ?_; dsimp only)); refine box_event ?hg (N := 6) ?hd (cs := #[.string (⟨#[]⟩ : ByteArray), .bool false]) (t := 26) ?hr ?_; (case hd => rfl); (case hg => rfl); (case hr => first | (go_simp; done) | (go_simp; rfl)); intro gb256 hg w35 hbox hb; have n0_ := Aside0.mk (blk_below (g := gb249) (o := .cells #[.string (⟨#[]⟩ : ByteArray), .bool false] 26 (0, 0)) (by (with_reducible repeat (first | refine blk_drewN ?_ _ | refine blk_drew ?_ | refine blk_alloc ?_ _)); exact BK249.out) hb); have n1_ := Aside0.mk (below_step (by repeat (first | (with_reducible first | exact HB.out | apply below_alloc | apply pw_below_drewN | apply below_drew1 | refine below_set ?_ GE249.out) | exact HB.out)) hb); have n2_ := Aside0.mk (hbox); have n3_ := Aside0.mk ((by rw [hg]; exact (below_size (by repeat (first | (with_reducible first | exact HB.out | apply below_alloc | apply pw_below_drewN | apply below_drew1 | refine below_set ?_ GE249.out) | exact HB.out))) : w.heap.size ≤ gb256)); have n4_ := Aside0.mk ((by rw [hg]; exact (below_size (by repeat (first | (with_reducible first | exact HB.out | apply below_alloc | apply pw_below_drewN | apply below_drew1 | refine below_set ?_ GE249.out) | exact HB.out))) : w.heap.size ≤ gb256)); have n5_ := Aside0.mk ((by rw [hg]; exact Nat.ne_of_lt (blk_lt (g := gb249) (o := .cells #[.string (⟨#[]⟩ : ByteArray), .bool false] 26 (0, 0)) (by (with_reducible repeat (first | refine blk_drewN ?_ _ | refine blk_drew ?_ | refine blk_alloc ?_ _)); exact BK249.out)) : gb249 ≠ gb256)); have n6_ := Aside0.mk ((by rw [hg]; exact Nat.ne_of_gt (blk_lt (g := gb249) (o := .cells #[.string (⟨#[]⟩ : ByteArray), .bool false] 26 (0, 0)) (by (with_reducible repeat (first | refine blk_drewN ?_ _ | refine blk_drew ?_ | refine blk_alloc ?_ _)); exact BK249.out)) : gb256 ≠ gb249)); clear BK249; clear HB; have BK249 := n0_; have HB := n1_; have BK256 := n2_; have GW256 := n3_; have GE256 := n4_; have NB249_256 := n5_; have NB256_249 := n6_; clear n0_ n1_ n2_ n3_ n4_ n5_ n6_; clear hb hbox hg; have hnb36 := NB256_249.out; have hnc36 := NB249_256.out; have hcz37_0 : w35.cell? ⟨gb256, 0, none⟩ = some (.string (⟨#[]⟩ : ByteArray)) := (blk_cell BK256.out 0).trans rfl; have hcz37_1 : w35.cell? ⟨gb256, 1, none⟩ = some (.bool false) := (blk_cell BK256.out 1).trans rfl; have hfz37_0 := blk_frozen BK256.out 0; have hfz37_1 := blk_frozen BK256.out 1; have hcz38_0 : w35.cell? ⟨gb249, 0, none⟩ = some (.string (⟨#[]⟩ : ByteArray)) := (blk_cell BK249.out 0).trans rfl; have hcz38_1 : w35.cell? ⟨gb249, 1, none⟩ = some (.bool false) := (blk_cell BK249.out 1).trans rfl; have hfz38_0 := blk_frozen BK249.out 0; have hfz38_1 := blk_frozen BK249.out 1))
         refine bodyPost_ret (results_cell_row rfl _ _ gb249 26 #[.string t254, .bool true] (0, 0) _ rfl (by (with_reducible repeat (first | refine blk_drewN ?_ _ | refine blk_drew ?_ | refine blk_alloc ?_ _)); refine blk_put (cs := #[.string t254, .bool false]) ?_ 1 _ (by first | rfl | (simp only [bneNil, beqNil]; rfl) | simp [bneNil, beqNil]); (with_reducible repeat (first | refine blk_drewN ?_ _ | refine blk_drew ?_ | refine blk_alloc ?_ _)); refine blk_put (cs := #[.string (⟨#[]⟩ : ByteArray), .bool false]) ?_ 0 _ (by first | rfl | (simp only [bneNil, beqNil]; rfl) | simp [bneNil, beqNil]); (with_reducible repeat (first | refine blk_drewN ?_ _ | refine blk_drew ?_ | refine blk_alloc ?_ _)); refine blk_far ?_ NB249_256.out _; (with_reducible repeat (first | refine blk_drewN ?_ _ | refine blk_drew ?_ | refine blk_alloc ?_ _)); refine blk_far ?_ NB249_256.out _; (with_reducible repeat (first | refine blk_drewN ?_ _ | refine blk_drew ?_ | refine blk_alloc ?_ _)); exact BK249.out) Tryz.underlying26 rfl (by kernel_rfl)) rfl ?_
         exact ⟨by first | rfl | (simp [errW_none, errW_some] <;> rfl) | (simp [*, errW_none, errW_some] <;> rfl), by repeat (first | (with_reducible first | exact HB.out | apply below_alloc | apply pw_below_drewN | apply below_drew1 | refine below_set ?_ GE249.out | refine below_set ?_ GE256.out) | exact HB.out)⟩
       ·replace c25 := Bool.eq_false_iff.mpr c25
        subst c25
        have H1 : (some ((⟨#[]⟩ : ByteArray), false)) = some (r1, r2) := by rw [if_neg (show ¬ (false = true) by decide)] at H; exact H
        clear H
        have H := H1
        clear H1
        simp only [Option.some.injEq, Prod.mk.injEq] at H
        obtain ⟨rfl, rfl⟩ := H
        go_wp2_with (first | ((with_reducible refine gate_callee (f := 14) rfl ?_); refine goesL_ (some 16) rfl rfl Tryz.func14 (by kernel_rfl) rfl #[.string a0] rfl (by (try simp only [List.map_toArray, List.map_cons, List.map_nil]); first | done | rfl | (simp only [List.length_drop, List.length_take]; rfl)) ?_; (with_reducible refine (brookref1_Rule.calls kj2 a0 t250 _ A8.out).mono ?_); rintro e w39 ⟨rfl, hb⟩; refine ⟨_, rfl, ?_⟩; have n0_ := Aside0.mk (blk_below (g := gb249) (o := .cells #[.string (⟨#[]⟩ : ByteArray), .bool false] 26 (0, 0)) (by (with_reducible repeat (first | refine blk_drewN ?_ _ | refine blk_drew ?_ | refine blk_alloc ?_ _)); exact BK249.out) hb); have n1_ := Aside0.mk (below_step (by repeat (first | (with_reducible first | exact HB.out | apply below_alloc | apply pw_below_drewN | apply below_drew1 | refine below_set ?_ GE249.out) | exact HB.out)) hb); clear BK249; clear HB; have BK249 := n0_; have HB := n1_; clear n0_ n1_; (try clear hb); (try clear hb2); (try clear hk); (try clear hi)) | ((with_reducible refine gate_callee (f := 20) rfl ?_); refine goesL_ (some 35) rfl rfl Tryz.func20 (by kernel_rfl) rfl #[.string a1] rfl (by (try simp only [List.map_toArray, List.map_cons, List.map_nil]); first | done | rfl | (simp only [List.length_drop, List.length_take]; rfl)) ?_; (with_reducible refine (brookref1_Key.calls kj2 a1 t254 false _ A24.out).mono ?_); rintro e w40 ⟨rfl, hb⟩; refine ⟨_, rfl, ?_⟩; have n0_ := Aside0.mk (blk_below (g := gb249) (o := .cells #[.string (⟨#[]⟩ : ByteArray), .bool false] 26 (0, 0)) (by (with_reducible repeat (first | refine blk_drewN ?_ _ | refine blk_drew ?_ | refine blk_alloc ?_ _)); exact BK249.out) hb); have n1_ := Aside0.mk (below_step (by repeat (first | (with_reducible first | exact HB.out | apply below_alloc | apply pw_below_drewN | apply below_drew1 | refine below_set ?_ GE249.out) | exact HB.out)) hb); clear BK249; clear HB; have BK249 := n0_; have HB := n1_; clear n0_ n1_; (try clear hb); (try clear hb2); (try clear hk); (try clear hi)) | ((with_reducible refine gate_dst (N := 6) rfl ?_); (try (refine gate_guard (by rfl) ?_; dsimp only)); refine box_event ?hg (N := 6) ?hd (cs := #[.string (⟨#[]⟩ : ByteArray), .bool false]) (t := 26) ?hr ?_; (case hd => rfl); (case hg => rfl); (case hr => first | (go_simp; done) | (go_simp; rfl)); intro gb256 hg w41 hbox hb; have n0_ := Aside0.mk (blk_below (g := gb249) (o := .cells #[.string (⟨#[]⟩ : ByteArray), .bool false] 26 (0, 0)) (by (with_reducible repeat (first | refine blk_drewN ?_ _ | refine blk_drew ?_ | refine blk_alloc ?_ _)); exact BK249.out) hb); have n1_ := Aside0.mk (below_step (by repeat (first | (with_reducible first | exact HB.out | apply below_alloc | apply pw_below_drewN | apply below_drew1 | refine below_set ?_ GE249.out) | exact HB.out)) hb); have n2_ := Aside0.mk (hbox); have n3_ := Aside0.mk ((by rw [hg]; exact (below_size (by repeat (first | (with_reducible first | exact HB.out | apply below_alloc | apply pw_below_drewN | apply below_drew1 | refine below_set ?_ GE249.out) | exact HB.out))) : w.heap.size ≤ gb256)); have n4_ := Aside0.mk ((by rw [hg]; exact (below_size (by repeat (first | (with_reducible first | exact HB.out | apply below_alloc | apply pw_below_drewN | apply below_drew1 | refine below_set ?_ GE249.out) | exact HB.out))) : w.heap.size ≤ gb256)); have n5_ := Aside0.mk ((by rw [hg]; exact Nat.ne_of_lt (blk_lt (g := gb249) (o := .cells #[.string (⟨#[]⟩ : ByteArray), .bool false] 26 (0, 0)) (by (with_reducible repeat (first | refine blk_drewN ?_ _ | refine blk_drew ?_ | refine blk_alloc ?_ _)); exact BK249.out)) : gb249 ≠ gb256)); have n6_ := Aside0.mk ((by rw [hg]; exact Nat.ne_of_gt (blk_lt (g := gb249) (o := .cells #[.string (⟨#[]⟩ : ByteArray), .bool false] 26 (0, 0)) (by (with_reducible repeat (first | refine blk_drewN ?_ _ | refine blk_drew ?_ | refine blk_alloc ?_ _)); exact BK249.out)) : gb256 ≠ gb249)); clear BK249; clear HB; have BK249 := n0_; have HB := n1_; have BK256 := n2_; have GW256 := n3_; have GE256 := n4_; have NB249_256 := n5_; have NB256_249 := n6_; clear n0_ n1_ n2_ n3_ n4_ n5_ n6_; clear hb hbox hg; have hnb42 := NB256_249.out; have hnc42 := NB249_256.out; have hcz43_0 : w41.cell? ⟨gb256, 0, none⟩ = some (.string (⟨#[]⟩ : ByteArray)) := (blk_cell BK256.out 0).trans rfl; have hcz43_1 : w41.cell? ⟨gb256, 1, none⟩ = some (.bool false) := (blk_cell BK256.out 1).trans rfl; have hfz43_0 := blk_frozen BK256.out 0; have hfz43_1 := blk_frozen BK256.out 1; have hcz44_0 : w41.cell? ⟨gb249, 0, none⟩ = some (.string (⟨#[]⟩ : ByteArray)) := (blk_cell BK249.out 0).trans rfl; have hcz44_1 : w41.cell? ⟨gb249, 1, none⟩ = some (.bool false) := (blk_cell BK249.out 1).trans rfl; have hfz44_0 := blk_frozen BK249.out 0; have hfz44_1 := blk_frozen BK249.out 1))
        refine bodyPost_ret (results_cell_row rfl _ _ gb249 26 #[.string (⟨#[]⟩ : ByteArray), .bool false] (0, 0) _ rfl (by (with_reducible repeat (first | refine blk_drewN ?_ _ | refine blk_drew ?_ | refine blk_alloc ?_ _)); refine blk_put (cs := #[.string (⟨#[]⟩ : ByteArray), .bool false]) ?_ 1 _ (by first | rfl | (simp only [bneNil, beqNil]; rfl) | simp [bneNil, beqNil]); (with_reducible repeat (first | refine blk_drewN ?_ _ | refine blk_drew ?_ | refine blk_alloc ?_ _)); refine blk_put (cs := #[.string (⟨#[]⟩ : ByteArray), .bool false]) ?_ 0 _ (by first | rfl | (simp only [bneNil, beqNil]; rfl) | simp [bneNil, beqNil]); (with_reducible repeat (first | refine blk_drewN ?_ _ | refine blk_drew ?_ | refine blk_alloc ?_ _)); refine blk_far ?_ NB249_256.out _; (with_reducible repeat (first | refine blk_drewN ?_ _ | refine blk_drew ?_ | refine blk_alloc ?_ _)); refine blk_far ?_ NB249_256.out _; (with_reducible repeat (first | refine blk_drewN ?_ _ | refine blk_drew ?_ | refine blk_alloc ?_ _)); exact BK249.out) Tryz.underlying26 rfl (by kernel_rfl)) rfl ?_
        exact ⟨by first | rfl | (simp [errW_none, errW_some] <;> rfl) | (simp [*, errW_none, errW_some] <;> rfl), by repeat (first | (with_reducible first | exact HB.out | apply below_alloc | apply pw_below_drewN | apply below_drew1 | refine below_set ?_ GE249.out | refine below_set ?_ GE256.out) | exact HB.out)⟩
      ·rw [if_neg c23] at H
       have c23b0 : (t250 == 3) = false := beq_eq_false_iff_ne.mpr c23
       have c23b1 : (t250 != 3) = true := bne_iff_ne.mpr c23
       by_cases c45 : t250 = 4
       ·rw [if_pos c45] at H
        have c45b0 : (t250 == 4) = true := beq_iff_eq.mpr c45
        have c45b1 : (t250 != 4) = false := bne_eq_false_iff_eq.mpr c45
        clear c45
        simp only [Option.some.injEq, Prod.mk.injEq] at H
        obtain ⟨rfl, rfl⟩ := H
        go_wp2_with (first | ((with_reducible refine gate_callee (f := 14) rfl ?_); refine goesL_ (some 16) rfl rfl Tryz.func14 (by kernel_rfl) rfl #[.string a0] rfl (by (try simp only [List.map_toArray, List.map_cons, List.map_nil]); first | done | rfl | (simp only [List.length_drop, List.length_take]; rfl)) ?_; (with_reducible refine (brookref1_Rule.calls kj2 a0 t250 _ A8.out).mono ?_); rintro e w46 ⟨rfl, hb⟩; refine ⟨_, rfl, ?_⟩; have n0_ := Aside0.mk (blk_below (g := gb249) (o := .cells #[.string (⟨#[]⟩ : ByteArray), .bool false] 26 (0, 0)) (by (with_reducible repeat (first | refine blk_drewN ?_ _ | refine blk_drew ?_ | refine blk_alloc ?_ _)); exact BK249.out) hb); have n1_ := Aside0.mk (below_step (by repeat (first | (with_reducible first | exact HB.out | apply below_alloc | apply pw_below_drewN | apply below_drew1 | refine below_set ?_ GE249.out) | exact HB.out)) hb); clear BK249; clear HB; have BK249 := n0_; have HB := n1_; clear n0_ n1_; (try clear hb); (try clear hb2); (try clear hk); (try clear hi); have hcz47_0 : w46.cell? ⟨gb249, 0, none⟩ = some (.string (⟨#[]⟩ : ByteArray)) := (blk_cell BK249.out 0).trans rfl; have hcz47_1 : w46.cell? ⟨gb249, 1, none⟩ = some (.bool false) := (blk_cell BK249.out 1).trans rfl; have hfz47_0 := blk_frozen BK249.out 0; have hfz47_1 := blk_frozen BK249.out 1))
        refine bodyPost_ret (results_cell_row rfl _ _ gb249 26 #[.string a1, .bool true] (0, 0) _ rfl (by (with_reducible repeat (first | refine blk_drewN ?_ _ | refine blk_drew ?_ | refine blk_alloc ?_ _)); refine blk_put (cs := #[.string a1, .bool false]) ?_ 1 _ (by first | rfl | (simp only [bneNil, beqNil]; rfl) | simp [bneNil, beqNil]); (with_reducible repeat (first | refine blk_drewN ?_ _ | refine blk_drew ?_ | refine blk_alloc ?_ _)); refine blk_put (cs := #[.string (⟨#[]⟩ : ByteArray), .bool false]) ?_ 0 _ (by first | rfl | (simp only [bneNil, beqNil]; rfl) | simp [bneNil, beqNil]); (with_reducible repeat (first | refine blk_drewN ?_ _ | refine blk_drew ?_ | refine blk_alloc ?_ _)); exact BK249.out) Tryz.underlying26 rfl (by kernel_rfl)) rfl ?_
        exact ⟨by first | rfl | (simp [errW_none, errW_some] <;> rfl) | (simp [*, errW_none, errW_some] <;> rfl), by repeat (first | (with_reducible first | exact HB.out | apply below_alloc | apply pw_below_drewN | apply below_drew1 | refine below_set ?_ GE249.out) | exact HB.out)⟩
       ·rw [if_neg c45] at H
        have c45b0 : (t250 == 4) = false := beq_eq_false_iff_ne.mpr c45
        have c45b1 : (t250 != 4) = true := bne_iff_ne.mpr c45
        simp only [Option.some.injEq, Prod.mk.injEq] at H
        obtain ⟨rfl, rfl⟩ := H
        go_wp2_with (first | ((with_reducible refine gate_callee (f := 14) rfl ?_); refine goesL_ (some 16) rfl rfl Tryz.func14 (by kernel_rfl) rfl #[.string a0] rfl (by (try simp only [List.map_toArray, List.map_cons, List.map_nil]); first | done | rfl | (simp only [List.length_drop, List.length_take]; rfl)) ?_; (with_reducible refine (brookref1_Rule.calls kj2 a0 t250 _ A8.out).mono ?_); rintro e w48 ⟨rfl, hb⟩; refine ⟨_, rfl, ?_⟩; have n0_ := Aside0.mk (blk_below (g := gb249) (o := .cells #[.string (⟨#[]⟩ : ByteArray), .bool false] 26 (0, 0)) (by (with_reducible repeat (first | refine blk_drewN ?_ _ | refine blk_drew ?_ | refine blk_alloc ?_ _)); exact BK249.out) hb); have n1_ := Aside0.mk (below_step (by repeat (first | (with_reducible first | exact HB.out | apply below_alloc | apply pw_below_drewN | apply below_drew1 | refine below_set ?_ GE249.out) | exact HB.out)) hb); clear BK249; clear HB; have BK249 := n0_; have HB := n1_; clear n0_ n1_; (try clear hb); (try clear hb2); (try clear hk); (try clear hi); have hcz49_0 : w48.cell? ⟨gb249, 0, none⟩ = some (.string (⟨#[]⟩ : ByteArray)) := (blk_cell BK249.out 0).trans rfl; have hcz49_1 : w48.cell? ⟨gb249, 1, none⟩ = some (.bool false) := (blk_cell BK249.out 1).trans rfl; have hfz49_0 := blk_frozen BK249.out 0; have hfz49_1 := blk_frozen BK249.out 1))
        refine bodyPost_ret (results_cell_row rfl _ _ gb249 26 #[.string (⟨#[]⟩ : ByteArray), .bool false] (0, 0) _ rfl (by (with_reducible repeat (first | refine blk_drewN ?_ _ | refine blk_drew ?_ | refine blk_alloc ?_ _)); refine blk_put (cs := #[.string (⟨#[]⟩ : ByteArray), .bool false]) ?_ 1 _ (by first | rfl | (simp only [bneNil, beqNil]; rfl) | simp [bneNil, beqNil]); (with_reducible repeat (first | refine blk_drewN ?_ _ | refine blk_drew ?_ | refine blk_alloc ?_ _)); refine blk_put (cs := #[.string (⟨#[]⟩ : ByteArray), .bool false]) ?_ 0 _ (by first | rfl | (simp only [bneNil, beqNil]; rfl) | simp [bneNil, beqNil]); (with_reducible repeat (first | refine blk_drewN ?_ _ | refine blk_drew ?_ | refine blk_alloc ?_ _)); exact BK249.out) Tryz.underlying26 rfl (by kernel_rfl)) rfl ?_
        exact ⟨by first | rfl | (simp [errW_none, errW_some] <;> rfl) | (simp [*, errW_none, errW_some] <;> rfl), by repeat (first | (with_reducible first | exact HB.out | apply below_alloc | apply pw_below_drewN | apply below_drew1 | refine below_set ?_ GE249.out) | exact HB.out)⟩
end Go.Proofs.YtpcjjpkmebgjjaaGreatDoor.P

namespace Go.Proofs.YtpcjjpkmebgjjaaGreatDoor.P
open Go.RowKit Go.Proofs.YtpcjjpkmebgjjaaGreatDoorW.PrintWords Go.Proofs.YtpcjjpkmebgjjaaGreatDoorW.PrintLast Go.Proofs.YtpcjjpkmebgjjaaGreatDoorW.PrintMore
attribute [local go_sem] max2_int min2_int max_two min_two max_three min_three max_four min_four
set_option linter.unusedVariables false
set_option linter.unusedSimpArgs false
def brookref1_SameVal.f (k : Nat) (a0 : ByteArray) (a1 : ByteArray) (a2 : ByteArray) : Option (Bool) := (brookref1_Norm.f k a0 a1).bind fun bt268 => ((brookref1_Norm.f k a0 a2).bind fun bt270 => (if bt268.2 = true then (if bt270.2 = true then (some (bt268.1.toList == bt270.1.toList)) else (some false)) else (some false)))
set_option maxHeartbeats 8000000 in
set_option maxRecDepth 100000 in
theorem brookref1_SameVal.calls (k : Nat) (a0 : ByteArray) (a1 : ByteArray) (a2 : ByteArray) (r : Bool) (w : World) (h : brookref1_SameVal.f k a0 a1 a2 = some r) :
  Calls Tryz.prog 16 #[.string a0, .string a1, .string a2] w fun e w' => e = .returned (.bool r) ∧ Below w.heap.size w w' := by
 have hu26 := Tryz.underlying26
 have HB := Aside0.mk (Below.refl w.heap.size w)
 have H : ((brookref1_Norm.f k a0 a1).bind fun bt268 => ((brookref1_Norm.f k a0 a2).bind fun bt270 => (if bt268.2 = true then (if bt270.2 = true then (some (bt268.1.toList == bt270.1.toList)) else (some false)) else (some false)))) = some r := h
 clear h
 replace H := Option.bind_eq_some_iff.mp H
 obtain ⟨⟨t268, t269⟩, A40, H⟩ := H
 replace H : ((brookref1_Norm.f k a0 a2).bind fun bt270 => (if t269 = true then (if bt270.2 = true then (some (t268.toList == bt270.1.toList)) else (some false)) else (some false))) = some r := H
 have A4 := Aside0.mk A40
 clear A40
 replace H := Option.bind_eq_some_iff.mp H
 obtain ⟨⟨t270, t271⟩, A50, H⟩ := H
 replace H : (if t269 = true then (if t271 = true then (some (t268.toList == t270.toList)) else (some false)) else (some false)) = some r := H
 have A5 := Aside0.mk A50
 clear A50
 by_cases c6 : t269 = true
 ·subst c6
  have H1 : (if t271 = true then (some (t268.toList == t270.toList)) else (some false)) = some r := by rw [if_pos rfl] at H; exact H
  clear H
  have H := H1
  clear H1
  by_cases c7 : t271 = true
  ·subst c7
   have H1 : (some (t268.toList == t270.toList)) = some r := by rw [if_pos rfl] at H; exact H
   clear H
   have H := H1
   clear H1
   obtain rfl := Option.some.inj H
   go_enter Tryz.func16, Tryz.ntmps16
   go_wp2_with (first | ((with_reducible refine gate_callee (f := 10) rfl ?_); refine goesL_ (some 11) rfl rfl Tryz.func10 (by kernel_rfl) rfl #[.string a0, .string a1] rfl (by (try simp only [List.map_toArray, List.map_cons, List.map_nil]); first | done | rfl | (simp only [List.length_drop, List.length_take]; rfl)) ?_; (with_reducible refine (brookref1_Norm.calls k a0 a1 t268 true _ A4.out).mono ?_); rintro e w8 ⟨rfl, hb⟩; refine ⟨_, rfl, ?_⟩; have n0_ := Aside0.mk (below_step (by repeat (first | (with_reducible first | exact HB.out | apply below_alloc | apply pw_below_drewN | apply below_drew1) | exact HB.out)) hb); clear HB; have HB := n0_; clear n0_; (try clear hb); (try clear hb2); (try clear hk); (try clear hi)) | ((with_reducible refine gate_callee (f := 10) rfl ?_); refine goesL_ (some 14) rfl rfl Tryz.func10 (by kernel_rfl) rfl #[.string a0, .string a2] rfl (by (try simp only [List.map_toArray, List.map_cons, List.map_nil]); first | done | rfl | (simp only [List.length_drop, List.length_take]; rfl)) ?_; (with_reducible refine (brookref1_Norm.calls k a0 a2 t270 true _ A5.out).mono ?_); rintro e w9 ⟨rfl, hb⟩; refine ⟨_, rfl, ?_⟩; have n0_ := Aside0.mk (below_step (by repeat (first | (with_reducible first | exact HB.out | apply below_alloc | apply pw_below_drewN | apply below_drew1) | exact HB.out)) hb); clear HB; have HB := n0_; clear n0_; (try clear hb); (try clear hb2); (try clear hk); (try clear hi)) | ((with_reducible refine gate_dst (N := 7) rfl ?_); refine box_event ?hg (N := 7) ?hd (cs := #[.string (⟨#[]⟩ : ByteArray), .bool false]) (t := 26) ?hr ?_; (case hd => rfl); (case hg => rfl); (case hr => first | (go_simp; done) | (go_simp; rfl)); intro gb272 hg w10 hbox hb; have n0_ := Aside0.mk (below_step (by repeat (first | (with_reducible first | exact HB.out | apply below_alloc | apply pw_below_drewN | apply below_drew1) | exact HB.out)) hb); have n1_ := Aside0.mk (hbox); have n2_ := Aside0.mk ((by rw [hg]; exact (below_size (by repeat (first | (with_reducible first | exact HB.out | apply below_alloc | apply pw_below_drewN | apply below_drew1) | exact HB.out))) : w.heap.size ≤ gb272)); have n3_ := Aside0.mk ((by rw [hg]; exact (below_size (by repeat (first | (with_reducible first | exact HB.out | apply below_alloc | apply pw_below_drewN | apply below_drew1) | exact HB.out))) : w.heap.size ≤ gb272)); clear HB; have HB := n0_; have BK272 := n1_; have GW272 := n2_; have GE272 := n3_; clear n0_ n1_ n2_ n3_; clear hb hbox hg) | ((with_reducible refine gate_dst (N := 8) rfl ?_); refine box_event ?hg (N := 8) ?hd (cs := #[.string (⟨#[]⟩ : ByteArray), .bool false]) (t := 26) ?hr ?_; (case hd => rfl); (case hg => rfl); (case hr => first | (go_simp; done) | (go_simp; rfl)); intro gb273 hg w11 hbox hb; have n0_ := Aside0.mk (blk_below (g := gb272) (o := .cells #[.string (⟨#[]⟩ : ByteArray), .bool false] 26 (0, 0)) (by (with_reducible repeat (first | refine blk_drewN ?_ _ | refine blk_drew ?_ | refine blk_alloc ?_ _)); exact BK272.out) hb); have n1_ := Aside0.mk (below_step (by repeat (first | (with_reducible first | exact HB.out | apply below_alloc | apply pw_below_drewN | apply below_drew1 | refine below_set ?_ GE272.out) | exact HB.out)) hb); have n2_ := Aside0.mk (hbox); have n3_ := Aside0.mk ((by rw [hg]; exact (below_size (by repeat (first | (with_reducible first | exact HB.out | apply below_alloc | apply pw_below_drewN | apply below_drew1 | refine below_set ?_ GE272.out) | exact HB.out))) : w.heap.size ≤ gb273)); have n4_ := Aside0.mk ((by rw [hg]; exact (below_size (by repeat (first | (with_reducible first | exact HB.out | apply below_alloc | apply pw_below_drewN | apply below_drew1 | refine below_set ?_ GE272.out) | exact HB.out))) : w.heap.size ≤ gb273)); have n5_ := Aside0.mk ((by rw [hg]; exact Nat.ne_of_lt (blk_lt (g := gb272) (o := .cells #[.string (⟨#[]⟩ : ByteArray), .bool false] 26 (0, 0)) (by (with_reducible repeat (first | refine blk_drewN ?_ _ | refine blk_drew ?_ | refine blk_alloc ?_ _)); exact BK272.out)) : gb272 ≠ gb273)); have n6_ := Aside0.mk ((by rw [hg]; exact Nat.ne_of_gt (blk_lt (g := gb272) (o := .cells #[.string (⟨#[]⟩ : ByteArray), .bool false] 26 (0, 0)) (by (with_reducible repeat (first | refine blk_drewN ?_ _ | refine blk_drew ?_ | refine blk_alloc ?_ _)); exact BK272.out)) : gb273 ≠ gb272)); clear BK272; clear HB; have BK272 := n0_; have HB := n1_; have BK273 := n2_; have GW273 := n3_; have GE273 := n4_; have NB272_273 := n5_; have NB273_272 := n6_; clear n0_ n1_ n2_ n3_ n4_ n5_ n6_; clear hb hbox hg; have hnb12 := NB272_273.out; have hnc12 := NB273_272.out; have hcz13_0 : w11.cell? ⟨gb272, 0, none⟩ = some (.string (⟨#[]⟩ : ByteArray)) := (blk_cell BK272.out 0).trans rfl; have hcz13_1 : w11.cell? ⟨gb272, 1, none⟩ = some (.bool false) := (blk_cell BK272.out 1).trans rfl; have hfz13_0 := blk_frozen BK272.out 0; have hfz13_1 := blk_frozen BK272.out 1; have hcz14_0 : w11.cell? ⟨gb273, 0, none⟩ = some (.string (⟨#[]⟩ : ByteArray)) := (blk_cell BK273.out 0).trans rfl; have hcz14_1 : w11.cell? ⟨gb273, 1, none⟩ = some (.bool false) := (blk_cell BK273.out 1).trans rfl; have hfz14_0 := blk_frozen BK273.out 0; have hfz14_1 := blk_frozen BK273.out 1))
   go_ret
   exact ⟨by first | rfl | (simp [errW_none, errW_some] <;> rfl) | (simp [*, errW_none, errW_some] <;> rfl), by repeat (first | (with_reducible first | exact HB.out | apply below_alloc | apply pw_below_drewN | apply below_drew1 | refine below_set ?_ GE272.out | refine below_set ?_ GE273.out) | exact HB.out)⟩
  ·replace c7 := Bool.eq_false_iff.mpr c7
   subst c7
   have H1 : (some false) = some r := by rw [if_neg (show ¬ (false = true) by decide)] at H; exact H
   clear H
   have H := H1
   clear H1
   obtain rfl := Option.some.inj H
   go_enter Tryz.func16, Tryz.ntmps16
   go_wp2_with (first | ((with_reducible refine gate_callee (f := 10) rfl ?_); refine goesL_ (some 11) rfl rfl Tryz.func10 (by kernel_rfl) rfl #[.string a0, .string a1] rfl (by (try simp only [List.map_toArray, List.map_cons, List.map_nil]); first | done | rfl | (simp only [List.length_drop, List.length_take]; rfl)) ?_; (with_reducible refine (brookref1_Norm.calls k a0 a1 t268 true _ A4.out).mono ?_); rintro e w15 ⟨rfl, hb⟩; refine ⟨_, rfl, ?_⟩; have n0_ := Aside0.mk (below_step (by repeat (first | (with_reducible first | exact HB.out | apply below_alloc | apply pw_below_drewN | apply below_drew1) | exact HB.out)) hb); clear HB; have HB := n0_; clear n0_; (try clear hb); (try clear hb2); (try clear hk); (try clear hi)) | ((with_reducible refine gate_callee (f := 10) rfl ?_); refine goesL_ (some 14) rfl rfl Tryz.func10 (by kernel_rfl) rfl #[.string a0, .string a2] rfl (by (try simp only [List.map_toArray, List.map_cons, List.map_nil]); first | done | rfl | (simp only [List.length_drop, List.length_take]; rfl)) ?_; (with_reducible refine (brookref1_Norm.calls k a0 a2 t270 false _ A5.out).mono ?_); rintro e w16 ⟨rfl, hb⟩; refine ⟨_, rfl, ?_⟩; have n0_ := Aside0.mk (below_step (by repeat (first | (with_reducible first | exact HB.out | apply below_alloc | apply pw_below_drewN | apply below_drew1) | exact HB.out)) hb); clear HB; have HB := n0_; clear n0_; (try clear hb); (try clear hb2); (try clear hk); (try clear hi)) | ((with_reducible refine gate_dst (N := 7) rfl ?_); refine box_event ?hg (N := 7) ?hd (cs := #[.string (⟨#[]⟩ : ByteArray), .bool false]) (t := 26) ?hr ?_; (case hd => rfl); (case hg => rfl); (case hr => first | (go_simp; done) | (go_simp; rfl)); intro gb272 hg w17 hbox hb; have n0_ := Aside0.mk (below_step (by repeat (first | (with_reducible first | exact HB.out | apply below_alloc | apply pw_below_drewN | apply below_drew1) | exact HB.out)) hb); have n1_ := Aside0.mk (hbox); have n2_ := Aside0.mk ((by rw [hg]; exact (below_size (by repeat (first | (with_reducible first | exact HB.out | apply below_alloc | apply pw_below_drewN | apply below_drew1) | exact HB.out))) : w.heap.size ≤ gb272)); have n3_ := Aside0.mk ((by rw [hg]; exact (below_size (by repeat (first | (with_reducible first | exact HB.out | apply below_alloc | apply pw_below_drewN | apply below_drew1) | exact HB.out))) : w.heap.size ≤ gb272)); clear HB; have HB := n0_; have BK272 := n1_; have GW272 := n2_; have GE272 := n3_; clear n0_ n1_ n2_ n3_; clear hb hbox hg) | ((with_reducible refine gate_dst (N := 8) rfl ?_); refine box_event ?hg (N := 8) ?hd (cs := #[.string (⟨#[]⟩ : ByteArray), .bool false]) (t := 26) ?hr ?_; (case hd => rfl); (case hg => rfl); (case hr => first | (go_simp; done) | (go_simp; rfl)); intro gb273 hg w18 hbox hb; have n0_ := Aside0.mk (blk_below (g := gb272) (o := .cells #[.string (⟨#[]⟩ : ByteArray), .bool false] 26 (0, 0)) (by (with_reducible repeat (first | refine blk_drewN ?_ _ | refine blk_drew ?_ | refine blk_alloc ?_ _)); exact BK272.out) hb); have n1_ := Aside0.mk (below_step (by repeat (first | (with_reducible first | exact HB.out | apply below_alloc | apply pw_below_drewN | apply below_drew1 | refine below_set ?_ GE272.out) | exact HB.out)) hb); have n2_ := Aside0.mk (hbox); have n3_ := Aside0.mk ((by rw [hg]; exact (below_size (by repeat (first | (with_reducible first | exact HB.out | apply below_alloc | apply pw_below_drewN | apply below_drew1 | refine below_set ?_ GE272.out) | exact HB.out))) : w.heap.size ≤ gb273)); have n4_ := Aside0.mk ((by rw [hg]; exact (below_size (by repeat (first | (with_reducible first | exact HB.out | apply below_alloc | apply pw_below_drewN | apply below_drew1 | refine below_set ?_ GE272.out) | exact HB.out))) : w.heap.size ≤ gb273)); have n5_ := Aside0.mk ((by rw [hg]; exact Nat.ne_of_lt (blk_lt (g := gb272) (o := .cells #[.string (⟨#[]⟩ : ByteArray), .bool false] 26 (0, 0)) (by (with_reducible repeat (first | refine blk_drewN ?_ _ | refine blk_drew ?_ | refine blk_alloc ?_ _)); exact BK272.out)) : gb272 ≠ gb273)); have n6_ := Aside0.mk ((by rw [hg]; exact Nat.ne_of_gt (blk_lt (g := gb272) (o := .cells #[.string (⟨#[]⟩ : ByteArray), .bool false] 26 (0, 0)) (by (with_reducible repeat (first | refine blk_drewN ?_ _ | refine blk_drew ?_ | refine blk_alloc ?_ _)); exact BK272.out)) : gb273 ≠ gb272)); clear BK272; clear HB; have BK272 := n0_; have HB := n1_; have BK273 := n2_; have GW273 := n3_; have GE273 := n4_; have NB272_273 := n5_; have NB273_272 := n6_; clear n0_ n1_ n2_ n3_ n4_ n5_ n6_; clear hb hbox hg; have hnb19 := NB272_273.out; have hnc19 := NB273_272.out; have hcz20_0 : w18.cell? ⟨gb272, 0, none⟩ = some (.string (⟨#[]⟩ : ByteArray)) := (blk_cell BK272.out 0).trans rfl; have hcz20_1 : w18.cell? ⟨gb272, 1, none⟩ = some (.bool false) := (blk_cell BK272.out 1).trans rfl; have hfz20_0 := blk_frozen BK272.out 0; have hfz20_1 := blk_frozen BK272.out 1; have hcz21_0 : w18.cell? ⟨gb273, 0, none⟩ = some (.string (⟨#[]⟩ : ByteArray)) := (blk_cell BK273.out 0).trans rfl; have hcz21_1 : w18.cell? ⟨gb273, 1, none⟩ = some (.bool false) := (blk_cell BK273.out 1).trans rfl; have hfz21_0 := blk_frozen BK273.out 0; have hfz21_1 := blk_frozen BK273.out 1))
   go_ret
   exact ⟨by first | rfl | (simp [errW_none, errW_some] <;> rfl) | (simp [*, errW_none, errW_some] <;> rfl), by repeat (first | (with_reducible first | exact HB.out | apply below_alloc | apply pw_below_drewN | apply below_drew1 | refine below_set ?_ GE272.out | refine below_set ?_ GE273.out) | exact HB.out)⟩
 ·replace c6 := Bool.eq_false_iff.mpr c6
  subst c6
  have H1 : (some false) = some r := by rw [if_neg (show ¬ (false = true) by decide)] at H; exact H
  clear H
  have H := H1
  clear H1
  obtain rfl := Option.some.inj H
  go_enter Tryz.func16, Tryz.ntmps16
  go_wp2_with (first | ((with_reducible refine gate_callee (f := 10) rfl ?_); refine goesL_ (some 11) rfl rfl Tryz.func10 (by kernel_rfl) rfl #[.string a0, .string a1] rfl (by (try simp only [List.map_toArray, List.map_cons, List.map_nil]); first | done | rfl | (simp only [List.length_drop, List.length_take]; rfl)) ?_; (with_reducible refine (brookref1_Norm.calls k a0 a1 t268 false _ A4.out).mono ?_); rintro e w22 ⟨rfl, hb⟩; refine ⟨_, rfl, ?_⟩; have n0_ := Aside0.mk (below_step (by repeat (first | (with_reducible first | exact HB.out | apply below_alloc | apply pw_below_drewN | apply below_drew1) | exact HB.out)) hb); clear HB; have HB := n0_; clear n0_; (try clear hb); (try clear hb2); (try clear hk); (try clear hi)) | ((with_reducible refine gate_callee (f := 10) rfl ?_); refine goesL_ (some 14) rfl rfl Tryz.func10 (by kernel_rfl) rfl #[.string a0, .string a2] rfl (by (try simp only [List.map_toArray, List.map_cons, List.map_nil]); first | done | rfl | (simp only [List.length_drop, List.length_take]; rfl)) ?_; (with_reducible refine (brookref1_Norm.calls k a0 a2 t270 t271 _ A5.out).mono ?_); rintro e w23 ⟨rfl, hb⟩; refine ⟨_, rfl, ?_⟩; have n0_ := Aside0.mk (below_step (by repeat (first | (with_reducible first | exact HB.out | apply below_alloc | apply pw_below_drewN | apply below_drew1) | exact HB.out)) hb); clear HB; have HB := n0_; clear n0_; (try clear hb); (try clear hb2); (try clear hk); (try clear hi)) | ((with_reducible refine gate_dst (N := 7) rfl ?_); refine box_event ?hg (N := 7) ?hd (cs := #[.string (⟨#[]⟩ : ByteArray), .bool false]) (t := 26) ?hr ?_; (case hd => rfl); (case hg => rfl); (case hr => first | (go_simp; done) | (go_simp; rfl)); intro gb272 hg w24 hbox hb; have n0_ := Aside0.mk (below_step (by repeat (first | (with_reducible first | exact HB.out | apply below_alloc | apply pw_below_drewN | apply below_drew1) | exact HB.out)) hb); have n1_ := Aside0.mk (hbox); have n2_ := Aside0.mk ((by rw [hg]; exact (below_size (by repeat (first | (with_reducible first | exact HB.out | apply below_alloc | apply pw_below_drewN | apply below_drew1) | exact HB.out))) : w.heap.size ≤ gb272)); have n3_ := Aside0.mk ((by rw [hg]; exact (below_size (by repeat (first | (with_reducible first | exact HB.out | apply below_alloc | apply pw_below_drewN | apply below_drew1) | exact HB.out))) : w.heap.size ≤ gb272)); clear HB; have HB := n0_; have BK272 := n1_; have GW272 := n2_; have GE272 := n3_; clear n0_ n1_ n2_ n3_; clear hb hbox hg) | ((with_reducible refine gate_dst (N := 8) rfl ?_); refine box_event ?hg (N := 8) ?hd (cs := #[.string (⟨#[]⟩ : ByteArray), .bool false]) (t := 26) ?hr ?_; (case hd => rfl); (case hg => rfl); (case hr => first | (go_simp; done) | (go_simp; rfl)); intro gb273 hg w25 hbox hb; have n0_ := Aside0.mk (blk_below (g := gb272) (o := .cells #[.string (⟨#[]⟩ : ByteArray), .bool false] 26 (0, 0)) (by (with_reducible repeat (first | refine blk_drewN ?_ _ | refine blk_drew ?_ | refine blk_alloc ?_ _)); exact BK272.out) hb); have n1_ := Aside0.mk (below_step (by repeat (first | (with_reducible first | exact HB.out | apply below_alloc | apply pw_below_drewN | apply below_drew1 | refine below_set ?_ GE272.out) | exact HB.out)) hb); have n2_ := Aside0.mk (hbox); have n3_ := Aside0.mk ((by rw [hg]; exact (below_size (by repeat (first | (with_reducible first | exact HB.out | apply below_alloc | apply pw_below_drewN | apply below_drew1 | refine below_set ?_ GE272.out) | exact HB.out))) : w.heap.size ≤ gb273)); have n4_ := Aside0.mk ((by rw [hg]; exact (below_size (by repeat (first | (with_reducible first | exact HB.out | apply below_alloc | apply pw_below_drewN | apply below_drew1 | refine below_set ?_ GE272.out) | exact HB.out))) : w.heap.size ≤ gb273)); have n5_ := Aside0.mk ((by rw [hg]; exact Nat.ne_of_lt (blk_lt (g := gb272) (o := .cells #[.string (⟨#[]⟩ : ByteArray), .bool false] 26 (0, 0)) (by (with_reducible repeat (first | refine blk_drewN ?_ _ | refine blk_drew ?_ | refine blk_alloc ?_ _)); exact BK272.out)) : gb272 ≠ gb273)); have n6_ := Aside0.mk ((by rw [hg]; exact Nat.ne_of_gt (blk_lt (g := gb272) (o := .cells #[.string (⟨#[]⟩ : ByteArray), .bool false] 26 (0, 0)) (by (with_reducible repeat (first | refine blk_drewN ?_ _ | refine blk_drew ?_ | refine blk_alloc ?_ _)); exact BK272.out)) : gb273 ≠ gb272)); clear BK272; clear HB; have BK272 := n0_; have HB := n1_; have BK273 := n2_; have GW273 := n3_; have GE273 := n4_; have NB272_273 := n5_; have NB273_272 := n6_; clear n0_ n1_ n2_ n3_ n4_ n5_ n6_; clear hb hbox hg; have hnb26 := NB272_273.out; have hnc26 := NB273_272.out; have hcz27_0 : w25.cell? ⟨gb272, 0, none⟩ = some (.string (⟨#[]⟩ : ByteArray)) := (blk_cell BK272.out 0).trans rfl; have hcz27_1 : w25.cell? ⟨gb272, 1, none⟩ = some (.bool false) := (blk_cell BK272.out 1).trans rfl; have hfz27_0 := blk_frozen BK272.out 0; have hfz27_1 := blk_frozen BK272.out 1; have hcz28_0 : w25.cell? ⟨gb273, 0, none⟩ = some (.string (⟨#[]⟩ : ByteArray)) := (blk_cell BK273.out 0).trans rfl; have hcz28_1 : w25.cell? ⟨gb273, 1, none⟩ = some (.bool false) := (blk_cell BK273.out 1).trans rfl; have hfz28_0 := blk_frozen BK273.out 0; have hfz28_1 := blk_frozen BK273.out 1))
  go_ret
  exact ⟨by first | rfl | (simp [errW_none, errW_some] <;> rfl) | (simp [*, errW_none, errW_some] <;> rfl), by repeat (first | (with_reducible first | exact HB.out | apply below_alloc | apply pw_below_drewN | apply below_drew1 | refine below_set ?_ GE272.out | refine below_set ?_ GE273.out) | exact HB.out)⟩
end Go.Proofs.YtpcjjpkmebgjjaaGreatDoor.P

namespace Go.Proofs.YtpcjjpkmebgjjaaGreatDoor.P
open Go.RowKit Go.Proofs.YtpcjjpkmebgjjaaGreatDoorW.PrintWords Go.Proofs.YtpcjjpkmebgjjaaGreatDoorW.PrintLast Go.Proofs.YtpcjjpkmebgjjaaGreatDoorW.PrintMore
attribute [local go_sem] max2_int min2_int max_two min_two max_three min_three max_four min_four
set_option linter.unusedVariables false
set_option linter.unusedSimpArgs false
attribute [local go_sem high] fld47_0
def brookref1_Less.j0 : Nat → Int → Bool → ByteArray → Bool → ByteArray → Bool → Option (Bool × Bool)
 | 0, _, _, _, _, _, _ => none
 | k + 1, x10, x34, x263000, x263001, x264000, x264001 => if x34 = true then (some (false, false)) else (if x10 = 2 then ((brookref1_Number.f k x263000).bind fun bt264 => ((brookref1_Number.f k x264000).bind fun bt266 => (some (decide (bt264.1 < bt266.1), true)))) else (some ((Op.bytesLess x263000.toList x264000.toList), true)))
def brookref1_Less.f (k : Nat) (a0 : ByteArray) (a1 : ByteArray) (a2 : ByteArray) : Option (Bool × Bool) := (brookref1_Norm.f k a0 a1).bind fun bt257 => ((brookref1_Norm.f k a0 a2).bind fun bt259 => ((brookref1_Rule.f k a0).bind fun t261 => (if bt257.2 = true then (if bt259.2 = true then (if t261 = 1 then (brookref1_Less.j0 k t261 false bt257.1 bt257.2 bt259.1 bt259.2) else (brookref1_Less.j0 k t261 (t261 != 2) bt257.1 bt257.2 bt259.1 bt259.2)) else (brookref1_Less.j0 k t261 true bt257.1 bt257.2 bt259.1 bt259.2)) else (brookref1_Less.j0 k t261 true bt257.1 bt257.2 bt259.1 bt259.2))))
def brookref1_Less.T5 : Bool × List (List Nat × List Nat) := (true, [([], []), ([0], [0]), ([1], [1]), ([2], [2]), ([], []), ([4], [4]), ([5, 2], [5]), ([6], [6]), ([3, 7], [3, 7]), ([8, 6, 0, 1, 2, 3, 4, 5, 6, 7, 8], [8]), ([9, 0, 1, 2, 3, 4, 5, 6, 7, 8, 9], [])])
def brookref1_Less.B5 : List Nat := [0, 1, 3, 7, 0, 16, 55, 119, 255, 511, 1023]
theorem brookref1_Less.tab5 : rtab .any (opsOf Tryz.f12 5) = brookref1_Less.T5 := by kernel_rfl
theorem brookref1_Less.bits5 : waitsOk brookref1_Less.T5.2 brookref1_Less.B5 = true := by kernel_rfl
set_option maxHeartbeats 8000000 in
set_option maxRecDepth 100000 in
theorem brookref1_Less.calls (k : Nat) (a0 : ByteArray) (a1 : ByteArray) (a2 : ByteArray) (r1 : Bool) (r2 : Bool) (w : World) (h : brookref1_Less.f k a0 a1 a2 = some (r1, r2)) :
  Calls Tryz.prog 12 #[.string a0, .string a1, .string a2] w fun e w' => e = .returned (.tuple #[.bool r1, .bool r2]) ∧ Below w.heap.size w w' := by
 have hu26 := Tryz.underlying26
 have hu47 := Tryz.underlying47
 have HB := Aside0.mk (Below.refl w.heap.size w)
 have H : ((brookref1_Norm.f k a0 a1).bind fun bt257 => ((brookref1_Norm.f k a0 a2).bind fun bt259 => ((brookref1_Rule.f k a0).bind fun t261 => (if bt257.2 = true then (if bt259.2 = true then (if t261 = 1 then (brookref1_Less.j0 k t261 false bt257.1 bt257.2 bt259.1 bt259.2) else (brookref1_Less.j0 k t261 (t261 != 2) bt257.1 bt257.2 bt259.1 bt259.2)) else (brookref1_Less.j0 k t261 true bt257.1 bt257.2 bt259.1 bt259.2)) else (brookref1_Less.j0 k t261 true bt257.1 bt257.2 bt259.1 bt259.2))))) = some (r1, r2) := h
 clear h
 replace H := Option.bind_eq_some_iff.mp H
 obtain ⟨⟨t257, t258⟩, A40, H⟩ := H
 replace H : ((brookref1_Norm.f k a0 a2).bind fun bt259 => ((brookref1_Rule.f k a0).bind fun t261 => (if t258 = true then (if bt259.2 = true then (if t261 = 1 then (brookref1_Less.j0 k t261 false t257 t258 bt259.1 bt259.2) else (brookref1_Less.j0 k t261 (t261 != 2) t257 t258 bt259.1 bt259.2)) else (brookref1_Less.j0 k t261 true t257 t258 bt259.1 bt259.2)) else (brookref1_Less.j0 k t261 true t257 t258 bt259.1 bt259.2)))) = some (r1, r2) := H
 have A4 := Aside0.mk A40
 clear A40
 replace H := Option.bind_eq_some_iff.mp H
 obtain ⟨⟨t259, t260⟩, A50, H⟩ := H
 replace H : ((brookref1_Rule.f k a0).bind fun t261 => (if t258 = true then (if t260 = true then (if t261 = 1 then (brookref1_Less.j0 k t261 false t257 t258 t259 t260) else (brookref1_Less.j0 k t261 (t261 != 2) t257 t258 t259 t260)) else (brookref1_Less.j0 k t261 true t257 t258 t259 t260)) else (brookref1_Less.j0 k t261 true t257 t258 t259 t260))) = some (r1, r2) := H
 have A5 := Aside0.mk A50
 clear A50
 replace H := Option.bind_eq_some_iff.mp H
 obtain ⟨t261, A60, H⟩ := H
 replace H : (if t258 = true then (if t260 = true then (if t261 = 1 then (brookref1_Less.j0 k t261 false t257 t258 t259 t260) else (brookref1_Less.j0 k t261 (t261 != 2) t257 t258 t259 t260)) else (brookref1_Less.j0 k t261 true t257 t258 t259 t260)) else (brookref1_Less.j0 k t261 true t257 t258 t259 t260)) = some (r1, r2) := H
 have A6 := Aside0.mk A60
 clear A60
 have HC7 := Aside0.mk H
 clear H
 go_enter Tryz.func12, Tryz.ntmps12
 go_upto_region 2 with (first | ((with_reducible refine gate_callee (f := 10) rfl ?_); refine goesL_ (some 13) rfl rfl Tryz.func10 (by kernel_rfl) rfl #[.string a0, .string a1] rfl (by (try simp only [List.map_toArray, List.map_cons, List.map_nil]); first | done | rfl | (simp only [List.length_drop, List.length_take]; rfl)) ?_; (with_reducible refine (brookref1_Norm.calls k a0 a1 t257 t258 _ A4.out).mono ?_); rintro e w8 ⟨rfl, hb⟩; refine ⟨_, rfl, ?_⟩; have n0_ := Aside0.mk (below_step (by repeat (first | (with_reducible first | exact HB.out | apply below_alloc | apply pw_below_drewN | apply below_drew1) | exact HB.out)) hb); clear HB; have HB := n0_; clear n0_; (try clear hb); (try clear hb2); (try clear hk); (try clear hi)) | ((with_reducible refine gate_callee (f := 10) rfl ?_); refine goesL_ (some 16) rfl rfl Tryz.func10 (by kernel_rfl) rfl #[.string a0, .string a2] rfl (by (try simp only [List.map_toArray, List.map_cons, List.map_nil]); first | done | rfl | (simp only [List.length_drop, List.length_take]; rfl)) ?_; (with_reducible refine (brookref1_Norm.calls k a0 a2 t259 t260 _ A5.out).mono ?_); rintro e w9 ⟨rfl, hb⟩; refine ⟨_, rfl, ?_⟩; have n0_ := Aside0.mk (below_step (by repeat (first | (with_reducible first | exact HB.out | apply below_alloc | apply pw_below_drewN | apply below_drew1) | exact HB.out)) hb); clear HB; have HB := n0_; clear n0_; (try clear hb); (try clear hb2); (try clear hk); (try clear hi)) | ((with_reducible refine gate_callee (f := 14) rfl ?_); refine goesL_ (some 18) rfl rfl Tryz.func14 (by kernel_rfl) rfl #[.string a0] rfl (by (try simp only [List.map_toArray, List.map_cons, List.map_nil]); first | done | rfl | (simp only [List.length_drop, List.length_take]; rfl)) ?_; (with_reducible refine (brookref1_Rule.calls k a0 t261 _ A6.out).mono ?_); rintro e w10 ⟨rfl, hb⟩; refine ⟨_, rfl, ?_⟩; have n0_ := Aside0.mk (below_step (by repeat (first | (with_reducible first | exact HB.out | apply below_alloc | apply pw_below_drewN | apply below_drew1) | exact HB.out)) hb); clear HB; have HB := n0_; clear n0_; (try clear hb); (try clear hb2); (try clear hk); (try clear hi)) | ((with_reducible refine gate_dst (N := 8) rfl ?_); refine box_event ?hg (N := 8) ?hd (cs := #[.string (⟨#[]⟩ : ByteArray), .bool false]) (t := 26) ?hr ?_; (case hd => rfl); (case hg => rfl); (case hr => first | (go_simp; done) | (go_simp; rfl)); intro gb262 hg w11 hbox hb; have n0_ := Aside0.mk (below_step (by repeat (first | (with_reducible first | exact HB.out | apply below_alloc | apply pw_below_drewN | apply below_drew1) | exact HB.out)) hb); have n1_ := Aside0.mk (hbox); have n2_ := Aside0.mk ((by rw [hg]; exact (below_size (by repeat (first | (with_reducible first | exact HB.out | apply below_alloc | apply pw_below_drewN | apply below_drew1) | exact HB.out))) : w.heap.size ≤ gb262)); have n3_ := Aside0.mk ((by rw [hg]; exact (below_size (by repeat (first | (with_reducible first | exact HB.out | apply below_alloc | apply pw_below_drewN | apply below_drew1) | exact HB.out))) : w.heap.size ≤ gb262)); clear HB; have HB := n0_; have BK262 := n1_; have GW262 := n2_; have GE262 := n3_; clear n0_ n1_ n2_ n3_; clear hb hbox hg) | ((with_reducible refine gate_dst (N := 9) rfl ?_); refine box_event ?hg (N := 9) ?hd (cs := #[.string (⟨#[]⟩ : ByteArray), .bool false]) (t := 26) ?hr ?_; (case hd => rfl); (case hg => rfl); (case hr => first | (go_simp; done) | (go_simp; rfl)); intro gb263 hg w12 hbox hb; have n0_ := Aside0.mk (blk_below (g := gb262) (o := .cells #[.string (⟨#[]⟩ : ByteArray), .bool false] 26 (0, 0)) (by (with_reducible repeat (first | refine blk_drewN ?_ _ | refine blk_drew ?_ | refine blk_alloc ?_ _)); exact BK262.out) hb); have n1_ := Aside0.mk (below_step (by repeat (first | (with_reducible first | exact HB.out | apply below_alloc | apply pw_below_drewN | apply below_drew1 | refine below_set ?_ GE262.out) | exact HB.out)) hb); have n2_ := Aside0.mk (hbox); have n3_ := Aside0.mk ((by rw [hg]; exact (below_size (by repeat (first | (with_reducible first | exact HB.out | apply below_alloc | apply pw_below_drewN | apply below_drew1 | refine below_set ?_ GE262.out) | exact HB.out))) : w.heap.size ≤ gb263)); have n4_ := Aside0.mk ((by rw [hg]; exact (below_size (by repeat (first | (with_reducible first | exact HB.out | apply below_alloc | apply pw_below_drewN | apply below_drew1 | refine below_set ?_ GE262.out) | exact HB.out))) : w.heap.size ≤ gb263)); have n5_ := Aside0.mk ((by rw [hg]; exact Nat.ne_of_lt (blk_lt (g := gb262) (o := .cells #[.string (⟨#[]⟩ : ByteArray), .bool false] 26 (0, 0)) (by (with_reducible repeat (first | refine blk_drewN ?_ _ | refine blk_drew ?_ | refine blk_alloc ?_ _)); exact BK262.out)) : gb262 ≠ gb263)); have n6_ := Aside0.mk ((by rw [hg]; exact Nat.ne_of_gt (blk_lt (g := gb262) (o := .cells #[.string (⟨#[]⟩ : ByteArray), .bool false] 26 (0, 0)) (by (with_reducible repeat (first | refine blk_drewN ?_ _ | refine blk_drew ?_ | refine blk_alloc ?_ _)); exact BK262.out)) : gb263 ≠ gb262)); clear BK262; clear HB; have BK262 := n0_; have HB := n1_; have BK263 := n2_; have GW263 := n3_; have GE263 := n4_; have NB262_263 := n5_; have NB263_262 := n6_; clear n0_ n1_ n2_ n3_ n4_ n5_ n6_; clear hb hbox hg; have hnb13 := NB262_263.out; have hnc13 := NB263_262.out; have hcz14_0 : w12.cell? ⟨gb262, 0, none⟩ = some (.string (⟨#[]⟩ : ByteArray)) := (blk_cell BK262.out 0).trans rfl; have hcz14_1 : w12.cell? ⟨gb262, 1, none⟩ = some (.bool false) := (blk_cell BK262.out 1).trans rfl; have hfz14_0 := blk_frozen BK262.out 0; have hfz14_1 := blk_frozen BK262.out 1; have hcz15_0 : w12.cell? ⟨gb263, 0, none⟩ = some (.string (⟨#[]⟩ : ByteArray)) := (blk_cell BK263.out 0).trans rfl; have hcz15_1 : w12.cell? ⟨gb263, 1, none⟩ = some (.bool false) := (blk_cell BK263.out 1).trans rfl; have hfz15_0 := blk_frozen BK263.out 0; have hfz15_1 := blk_frozen BK263.out 1))
 (try simp only [Act.put, List.setIfInBounds_toArray, List.set_cons_zero, List.set_cons_succ])
 go_cut [34] (fun v34 wc => ∃ (kq : Nat) (x34_6 : Bool), v34 = .bool x34_6 ∧ Aside0 (brookref1_Less.j0 kq t261 x34_6 t257 t258 t259 t260 = some (r1, r2)) ∧ Aside0 (kq ≤ k) ∧ Aside0 (wc.heap[gb262]? = some (.cells #[.string t257, .bool t258] 26 (0, 0))) ∧ Aside0 (wc.heap[gb263]? = some (.cells #[.string t259, .bool t260] 26 (0, 0))) ∧ Aside0 (Below w.heap.size w wc))
 case first =>
  have H := HC7.out
  clear HC7
  by_cases c16 : t258 = true
  ·subst c16
   have H1 : (if t260 = true then (if t261 = 1 then (brookref1_Less.j0 k t261 false t257 true t259 t260) else (brookref1_Less.j0 k t261 (t261 != 2) t257 true t259 t260)) else (brookref1_Less.j0 k t261 true t257 true t259 t260)) = some (r1, r2) := by rw [if_pos rfl] at H; exact H
   clear H
   have H := H1
   clear H1
   by_cases c17 : t260 = true
   ·subst c17
    have H1 : (if t261 = 1 then (brookref1_Less.j0 k t261 false t257 true t259 true) else (brookref1_Less.j0 k t261 (t261 != 2) t257 true t259 true)) = some (r1, r2) := by rw [if_pos rfl] at H; exact H
    clear H
    have H := H1
    clear H1
    by_cases c18 : t261 = 1
    ·rw [if_pos c18] at H
     have c18b0 : (t261 == 1) = true := beq_iff_eq.mpr c18
     have c18b1 : (t261 != 1) = false := bne_eq_false_iff_eq.mpr c18
     clear c18
     (first | rw [c18b0] | (simp only [i64_w, i32_w]; rw [c18b0]) | skip)
     have H' := Aside0.mk H
     clear H
     have hnb19 := NB262_263.out
     have hnc19 := NB263_262.out
     have hcz20_0 : w12.cell? ⟨gb262, 0, none⟩ = some (.string (⟨#[]⟩ : ByteArray)) := (blk_cell BK262.out 0).trans rfl
     have hcz20_1 : w12.cell? ⟨gb262, 1, none⟩ = some (.bool false) := (blk_cell BK262.out 1).trans rfl
     have hfz20_0 := blk_frozen BK262.out 0
     have hfz20_1 := blk_frozen BK262.out 1
     have hcz21_0 : w12.cell? ⟨gb263, 0, none⟩ = some (.string (⟨#[]⟩ : ByteArray)) := (blk_cell BK263.out 0).trans rfl
     have hcz21_1 : w12.cell? ⟨gb263, 1, none⟩ = some (.bool false) := (blk_cell BK263.out 1).trans rfl
     have hfz21_0 := blk_frozen BK263.out 0
     have hfz21_1 := blk_frozen BK263.out 1
     go_wp2
     go_meet
     case rel => exact ⟨_, (false), (by first | rfl | (simp; done) | (simp [*]; done) | (simp [*, i64_w, i32_w, u8_w]; done) | (simp only [bneNil, beqNil]; done) | (simp only [bneNil, beqNil]; simp; done) | (simp only [bneNil, beqNil]; simp [*]; done)), H', ⟨by first | omega | exact Nat.le_refl _⟩, ⟨by (with_reducible repeat (first | refine blk_drewN ?_ _ | refine blk_drew ?_ | refine blk_alloc ?_ _)); refine blk_far ?_ NB262_263.out _; (with_reducible repeat (first | refine blk_drewN ?_ _ | refine blk_drew ?_ | refine blk_alloc ?_ _)); refine blk_far ?_ NB262_263.out _; (with_reducible repeat (first | refine blk_drewN ?_ _ | refine blk_drew ?_ | refine blk_alloc ?_ _)); refine blk_put (cs := #[.string t257, .bool false]) ?_ 1 _ (by first | rfl | (simp only [bneNil, beqNil]; rfl) | simp [bneNil, beqNil]); (with_reducible repeat (first | refine blk_drewN ?_ _ | refine blk_drew ?_ | refine blk_alloc ?_ _)); refine blk_put (cs := #[.string (⟨#[]⟩ : ByteArray), .bool false]) ?_ 0 _ (by first | rfl | (simp only [bneNil, beqNil]; rfl) | simp [bneNil, beqNil]); (with_reducible repeat (first | refine blk_drewN ?_ _ | refine blk_drew ?_ | refine blk_alloc ?_ _)); exact BK262.out⟩, ⟨by (with_reducible repeat (first | refine blk_drewN ?_ _ | refine blk_drew ?_ | refine blk_alloc ?_ _)); refine blk_put (cs := #[.string t259, .bool false]) ?_ 1 _ (by first | rfl | (simp only [bneNil, beqNil]; rfl) | simp [bneNil, beqNil]); (with_reducible repeat (first | refine blk_drewN ?_ _ | refine blk_drew ?_ | refine blk_alloc ?_ _)); refine blk_put (cs := #[.string (⟨#[]⟩ : ByteArray), .bool false]) ?_ 0 _ (by first | rfl | (simp only [bneNil, beqNil]; rfl) | simp [bneNil, beqNil]); (with_reducible repeat (first | refine blk_drewN ?_ _ | refine blk_drew ?_ | refine blk_alloc ?_ _)); refine blk_far ?_ NB263_262.out _; (with_reducible repeat (first | refine blk_drewN ?_ _ | refine blk_drew ?_ | refine blk_alloc ?_ _)); refine blk_far ?_ NB263_262.out _; (with_reducible repeat (first | refine blk_drewN ?_ _ | refine blk_drew ?_ | refine blk_alloc ?_ _)); exact BK263.out⟩, ⟨by repeat (first | (with_reducible first | exact HB.out | apply below_alloc | apply pw_below_drewN | apply below_drew1 | refine below_set ?_ GE262.out | refine below_set ?_ GE263.out) | exact HB.out)⟩⟩
    ·rw [if_neg c18] at H
     have c18b0 : (t261 == 1) = false := beq_eq_false_iff_ne.mpr c18
     have c18b1 : (t261 != 1) = true := bne_iff_ne.mpr c18
     (first | rw [c18b0] | (simp only [i64_w, i32_w]; rw [c18b0]) | skip)
     have H' := Aside0.mk H
     clear H
     have hnb22 := NB262_263.out
     have hnc22 := NB263_262.out
     have hcz23_0 : w12.cell? ⟨gb262, 0, none⟩ = some (.string (⟨#[]⟩ : ByteArray)) := (blk_cell BK262.out 0).trans rfl
     have hcz23_1 : w12.cell? ⟨gb262, 1, none⟩ = some (.bool false) := (blk_cell BK262.out 1).trans rfl
     have hfz23_0 := blk_frozen BK262.out 0
     have hfz23_1 := blk_frozen BK262.out 1
     have hcz24_0 : w12.cell? ⟨gb263, 0, none⟩ = some (.string (⟨#[]⟩ : ByteArray)) := (blk_cell BK263.out 0).trans rfl
     have hcz24_1 : w12.cell? ⟨gb263, 1, none⟩ = some (.bool false) := (blk_cell BK263.out 1).trans rfl
     have hfz24_0 := blk_frozen BK263.out 0
     have hfz24_1 := blk_frozen BK263.out 1
     go_wp2
     go_meet
     case rel => exact ⟨_, ((t261 != 2)), (by first | rfl | (simp; done) | (simp [*]; done) | (simp [*, i64_w, i32_w, u8_w]; done) | (simp only [bneNil, beqNil]; done) | (simp only [bneNil, beqNil]; simp; done) | (simp only [bneNil, beqNil]; simp [*]; done)), H', ⟨by first | omega | exact Nat.le_refl _⟩, ⟨by (with_reducible repeat (first | refine blk_drewN ?_ _ | refine blk_drew ?_ | refine blk_alloc ?_ _)); refine blk_far ?_ NB262_263.out _; (with_reducible repeat (first | refine blk_drewN ?_ _ | refine blk_drew ?_ | refine blk_alloc ?_ _)); refine blk_far ?_ NB262_263.out _; (with_reducible repeat (first | refine blk_drewN ?_ _ | refine blk_drew ?_ | refine blk_alloc ?_ _)); refine blk_put (cs := #[.string t257, .bool false]) ?_ 1 _ (by first | rfl | (simp only [bneNil, beqNil]; rfl) | simp [bneNil, beqNil]); (with_reducible repeat (first | refine blk_drewN ?_ _ | refine blk_drew ?_ | refine blk_alloc ?_ _)); refine blk_put (cs := #[.string (⟨#[]⟩ : ByteArray), .bool false]) ?_ 0 _ (by first | rfl | (simp only [bneNil, beqNil]; rfl) | simp [bneNil, beqNil]); (with_reducible repeat (first | refine blk_drewN ?_ _ | refine blk_drew ?_ | refine blk_alloc ?_ _)); exact BK262.out⟩, ⟨by (with_reducible repeat (first | refine blk_drewN ?_ _ | refine blk_drew ?_ | refine blk_alloc ?_ _)); refine blk_put (cs := #[.string t259, .bool false]) ?_ 1 _ (by first | rfl | (simp only [bneNil, beqNil]; rfl) | simp [bneNil, beqNil]); (with_reducible repeat (first | refine blk_drewN ?_ _ | refine blk_drew ?_ | refine blk_alloc ?_ _)); refine blk_put (cs := #[.string (⟨#[]⟩ : ByteArray), .bool false]) ?_ 0 _ (by first | rfl | (simp only [bneNil, beqNil]; rfl) | simp [bneNil, beqNil]); (with_reducible repeat (first | refine blk_drewN ?_ _ | refine blk_drew ?_ | refine blk_alloc ?_ _)); refine blk_far ?_ NB263_262.out _; (with_reducible repeat (first | refine blk_drewN ?_ _ | refine blk_drew ?_ | refine blk_alloc ?_ _)); refine blk_far ?_ NB263_262.out _; (with_reducible repeat (first | refine blk_drewN ?_ _ | refine blk_drew ?_ | refine blk_alloc ?_ _)); exact BK263.out⟩, ⟨by repeat (first | (with_reducible first | exact HB.out | apply below_alloc | apply pw_below_drewN | apply below_drew1 | refine below_set ?_ GE262.out | refine below_set ?_ GE263.out) | exact HB.out)⟩⟩
   ·replace c17 := Bool.eq_false_iff.mpr c17
    subst c17
    have H1 : (brookref1_Less.j0 k t261 true t257 true t259 false) = some (r1, r2) := by rw [if_neg (show ¬ (false = true) by decide)] at H; exact H
    clear H
    have H := H1
    clear H1
    have H' := Aside0.mk H
    clear H
    have hnb25 := NB262_263.out
    have hnc25 := NB263_262.out
    have hcz26_0 : w12.cell? ⟨gb262, 0, none⟩ = some (.string (⟨#[]⟩ : ByteArray)) := (blk_cell BK262.out 0).trans rfl
    have hcz26_1 : w12.cell? ⟨gb262, 1, none⟩ = some (.bool false) := (blk_cell BK262.out 1).trans rfl
    have hfz26_0 := blk_frozen BK262.out 0
    have hfz26_1 := blk_frozen BK262.out 1
    have hcz27_0 : w12.cell? ⟨gb263, 0, none⟩ = some (.string (⟨#[]⟩ : ByteArray)) := (blk_cell BK263.out 0).trans rfl
    have hcz27_1 : w12.cell? ⟨gb263, 1, none⟩ = some (.bool false) := (blk_cell BK263.out 1).trans rfl
    have hfz27_0 := blk_frozen BK263.out 0
    have hfz27_1 := blk_frozen BK263.out 1
    go_wp2
    go_meet
    case rel => exact ⟨_, (true), (by first | rfl | (simp; done) | (simp [*]; done) | (simp [*, i64_w, i32_w, u8_w]; done) | (simp only [bneNil, beqNil]; done) | (simp only [bneNil, beqNil]; simp; done) | (simp only [bneNil, beqNil]; simp [*]; done)), H', ⟨by first | omega | exact Nat.le_refl _⟩, ⟨by (with_reducible repeat (first | refine blk_drewN ?_ _ | refine blk_drew ?_ | refine blk_alloc ?_ _)); refine blk_far ?_ NB262_263.out _; (with_reducible repeat (first | refine blk_drewN ?_ _ | refine blk_drew ?_ | refine blk_alloc ?_ _)); refine blk_far ?_ NB262_263.out _; (with_reducible repeat (first | refine blk_drewN ?_ _ | refine blk_drew ?_ | refine blk_alloc ?_ _)); refine blk_put (cs := #[.string t257, .bool false]) ?_ 1 _ (by first | rfl | (simp only [bneNil, beqNil]; rfl) | simp [bneNil, beqNil]); (with_reducible repeat (first | refine blk_drewN ?_ _ | refine blk_drew ?_ | refine blk_alloc ?_ _)); refine blk_put (cs := #[.string (⟨#[]⟩ : ByteArray), .bool false]) ?_ 0 _ (by first | rfl | (simp only [bneNil, beqNil]; rfl) | simp [bneNil, beqNil]); (with_reducible repeat (first | refine blk_drewN ?_ _ | refine blk_drew ?_ | refine blk_alloc ?_ _)); exact BK262.out⟩, ⟨by (with_reducible repeat (first | refine blk_drewN ?_ _ | refine blk_drew ?_ | refine blk_alloc ?_ _)); refine blk_put (cs := #[.string t259, .bool false]) ?_ 1 _ (by first | rfl | (simp only [bneNil, beqNil]; rfl) | simp [bneNil, beqNil]); (with_reducible repeat (first | refine blk_drewN ?_ _ | refine blk_drew ?_ | refine blk_alloc ?_ _)); refine blk_put (cs := #[.string (⟨#[]⟩ : ByteArray), .bool false]) ?_ 0 _ (by first | rfl | (simp only [bneNil, beqNil]; rfl) | simp [bneNil, beqNil]); (with_reducible repeat (first | refine blk_drewN ?_ _ | refine blk_drew ?_ | refine blk_alloc ?_ _)); refine blk_far ?_ NB263_262.out _; (with_reducible repeat (first | refine blk_drewN ?_ _ | refine blk_drew ?_ | refine blk_alloc ?_ _)); refine blk_far ?_ NB263_262.out _; (with_reducible repeat (first | refine blk_drewN ?_ _ | refine blk_drew ?_ | refine blk_alloc ?_ _)); exact BK263.out⟩, ⟨by repeat (first | (with_reducible first | exact HB.out | apply below_alloc | apply pw_below_drewN | apply below_drew1 | refine below_set ?_ GE262.out | refine below_set ?_ GE263.out) | exact HB.out)⟩⟩
  ·replace c16 := Bool.eq_false_iff.mpr c16
   subst c16
   have H1 : (brookref1_Less.j0 k t261 true t257 false t259 t260) = some (r1, r2) := by rw [if_neg (show ¬ (false = true) by decide)] at H; exact H
   clear H
   have H := H1
   clear H1
   have H' := Aside0.mk H
   clear H
   have hnb28 := NB262_263.out
   have hnc28 := NB263_262.out
   have hcz29_0 : w12.cell? ⟨gb262, 0, none⟩ = some (.string (⟨#[]⟩ : ByteArray)) := (blk_cell BK262.out 0).trans rfl
   have hcz29_1 : w12.cell? ⟨gb262, 1, none⟩ = some (.bool false) := (blk_cell BK262.out 1).trans rfl
   have hfz29_0 := blk_frozen BK262.out 0
   have hfz29_1 := blk_frozen BK262.out 1
   go_wp2
   go_meet
   case rel => exact ⟨_, (true), (by first | rfl | (simp; done) | (simp [*]; done) | (simp [*, i64_w, i32_w, u8_w]; done) | (simp only [bneNil, beqNil]; done) | (simp only [bneNil, beqNil]; simp; done) | (simp only [bneNil, beqNil]; simp [*]; done)), H', ⟨by first | omega | exact Nat.le_refl _⟩, ⟨by (with_reducible repeat (first | refine blk_drewN ?_ _ | refine blk_drew ?_ | refine blk_alloc ?_ _)); refine blk_far ?_ NB262_263.out _; (with_reducible repeat (first | refine blk_drewN ?_ _ | refine blk_drew ?_ | refine blk_alloc ?_ _)); refine blk_far ?_ NB262_263.out _; (with_reducible repeat (first | refine blk_drewN ?_ _ | refine blk_drew ?_ | refine blk_alloc ?_ _)); refine blk_put (cs := #[.string t257, .bool false]) ?_ 1 _ (by first | rfl | (simp only [bneNil, beqNil]; rfl) | simp [bneNil, beqNil]); (with_reducible repeat (first | refine blk_drewN ?_ _ | refine blk_drew ?_ | refine blk_alloc ?_ _)); refine blk_put (cs := #[.string (⟨#[]⟩ : ByteArray), .bool false]) ?_ 0 _ (by first | rfl | (simp only [bneNil, beqNil]; rfl) | simp [bneNil, beqNil]); (with_reducible repeat (first | refine blk_drewN ?_ _ | refine blk_drew ?_ | refine blk_alloc ?_ _)); exact BK262.out⟩, ⟨by (with_reducible repeat (first | refine blk_drewN ?_ _ | refine blk_drew ?_ | refine blk_alloc ?_ _)); refine blk_put (cs := #[.string t259, .bool false]) ?_ 1 _ (by first | rfl | (simp only [bneNil, beqNil]; rfl) | simp [bneNil, beqNil]); (with_reducible repeat (first | refine blk_drewN ?_ _ | refine blk_drew ?_ | refine blk_alloc ?_ _)); refine blk_put (cs := #[.string (⟨#[]⟩ : ByteArray), .bool false]) ?_ 0 _ (by first | rfl | (simp only [bneNil, beqNil]; rfl) | simp [bneNil, beqNil]); (with_reducible repeat (first | refine blk_drewN ?_ _ | refine blk_drew ?_ | refine blk_alloc ?_ _)); refine blk_far ?_ NB263_262.out _; (with_reducible repeat (first | refine blk_drewN ?_ _ | refine blk_drew ?_ | refine blk_alloc ?_ _)); refine blk_far ?_ NB263_262.out _; (with_reducible repeat (first | refine blk_drewN ?_ _ | refine blk_drew ?_ | refine blk_alloc ?_ _)); exact BK263.out⟩, ⟨by repeat (first | (with_reducible first | exact HB.out | apply below_alloc | apply pw_below_drewN | apply below_drew1 | refine below_set ?_ GE262.out | refine below_set ?_ GE263.out) | exact HB.out)⟩⟩
 case rest =>
  clear HC7
  try clear c1
  try clear c2
  try clear p2
  try clear c10
  try clear c12
  try clear c13
  try clear c14
  try clear c16
  try clear c17
  try clear c18
  try clear c18b0
  try clear c18b1
  try clear c19
  try clear c22
  try clear c25
  try clear c28
  try clear hcz14_0
  try clear hcz14_1
  try clear hcz15_0
  try clear hcz15_1
  try clear hcz20_0
  try clear hcz20_1
  try clear hcz21_0
  try clear hcz21_1
  try clear hcz23_0
  try clear hcz23_1
  try clear hcz24_0
  try clear hcz24_1
  try clear hcz26_0
  try clear hcz26_1
  try clear hcz27_0
  try clear hcz27_1
  try clear hcz29_0
  try clear hcz29_1
  try clear hfz14_0
  try clear hfz14_1
  try clear hfz15_0
  try clear hfz15_1
  try clear hfz20_0
  try clear hfz20_1
  try clear hfz21_0
  try clear hfz21_1
  try clear hfz23_0
  try clear hfz23_1
  try clear hfz24_0
  try clear hfz24_1
  try clear hfz26_0
  try clear hfz26_1
  try clear hfz27_0
  try clear hfz27_1
  try clear hfz29_0
  try clear hfz29_1
  obtain ⟨kq, x34_6, rfl, HA, HJ6, BK262, BK263, HB⟩ := hcut
  cases kq with
  | zero => exact absurd HA.out (by simp [brookref1_Less.j0])
  | succ kj6 =>
   have H := HA.out
   clear HA
   simp only [brookref1_Less.j0] at H
   by_cases c30 : x34_6 = true
   ·subst c30
    have H1 : (some (false, false)) = some (r1, r2) := by rw [if_pos rfl] at H; exact H
    clear H
    have H := H1
    clear H1
    simp only [Option.some.injEq, Prod.mk.injEq] at H
    obtain ⟨rfl, rfl⟩ := H
    go_wp2
    go_ret2
    exact ⟨by first | rfl | (simp [errW_none, errW_some] <;> rfl) | (simp [*, errW_none, errW_some] <;> rfl), by repeat (first | (with_reducible first | exact HB.out | apply below_alloc | apply pw_below_drewN | apply below_drew1 | refine below_set ?_ GE262.out | refine below_set ?_ GE263.out) | exact HB.out)⟩
   ·replace c30 := Bool.eq_false_iff.mpr c30
    subst c30
    have H1 : (if t261 = 2 then ((brookref1_Number.f kj6 t257).bind fun bt264 => ((brookref1_Number.f kj6 t259).bind fun bt266 => (some (decide (bt264.1 < bt266.1), true)))) else (some ((Op.bytesLess t257.toList t259.toList), true))) = some (r1, r2) := by rw [if_neg (show ¬ (false = true) by decide)] at H; exact H
    clear H
    have H := H1
    clear H1
    by_cases c31 : t261 = 2
    ·rw [if_pos c31] at H
     have c31b0 : (t261 == 2) = true := beq_iff_eq.mpr c31
     have c31b1 : (t261 != 2) = false := bne_eq_false_iff_eq.mpr c31
     clear c31
     replace H := Option.bind_eq_some_iff.mp H
     obtain ⟨⟨t264, t265⟩, A320, H⟩ := H
     replace H : ((brookref1_Number.f kj6 t259).bind fun bt266 => (some (decide (t264 < bt266.1), true))) = some (r1, r2) := H
     have A32 := Aside0.mk A320
     clear A320
     replace H := Option.bind_eq_some_iff.mp H
     obtain ⟨⟨t266, t267⟩, A330, H⟩ := H
     replace H : (some (decide (t264 < t266), true)) = some (r1, r2) := H
     have A33 := Aside0.mk A330
     clear A330
     simp only [Option.some.injEq, Prod.mk.injEq] at H
     obtain ⟨rfl, rfl⟩ := H
     try go_wp2
     have n0_ := Aside0.mk (blk_drew BK262.out)
     have n1_ := Aside0.mk (blk_drew BK263.out)
     have n2_ := Aside0.mk (below_drew1 HB.out)
     clear BK262
     clear BK263
     clear HB
     have BK262 := n0_
     have BK263 := n1_
     have HB := n2_
     clear n0_ n1_ n2_
     refine start_ (n := 11) (S := fun w' => w'.cell? ⟨gb262, 0, none⟩ = some (.string t257) ∧ w'.cell? ⟨gb262, 1, none⟩ = some (.bool t258) ∧ w'.cell? ⟨gb263, 0, none⟩ = some (.string t259) ∧ w'.cell? ⟨gb263, 1, none⟩ = some (.bool t260)) (ds := []) #[false, false, false, false, false, false, false, false, false, false, false] (by kernel_rfl) rfl rfl ⟨(blk_cell BK262.out 0).trans rfl, (blk_cell BK262.out 1).trans rfl, (blk_cell BK263.out 0).trans rfl, (blk_cell BK263.out 1).trans rfl⟩ (fun hHeld => ?_); refine with_tabW brookref1_Less.tab5 brookref1_Less.bits5 (fun HT_ HW_ => ?_)
     generalize wc.drew = w34 at BK262 BK263 HB hHeld ⊢
     refine pure_ (i := 0) (N := some 37) (v := ?_) (a' := ?_) #[true, false, false, false, false, false, false, false, false, false, false] rfl rfl (any_of HT_.out (by kernel_rfl)) (fun _ _ _ h => h) (Or.inl ⟨by rfl, ?_⟩) ?_ ?_
     rotate_left
     ·intro w'
      go_simp
      with_reducible rfl
     rotate_left
     ·simp only [Act.put, List.setIfInBounds_toArray, List.set_cons_zero, List.set_cons_succ, i64_w, i32_w]
      rfl
     refine pure_ (i := 4) (N := some 41) (v := ?_) (a' := ?_) #[true, false, false, false, true, false, false, false, false, false, false] rfl rfl (any_of HT_.out (by kernel_rfl)) (fun _ _ _ h => h) (Or.inl ⟨by rfl, ?_⟩) ?_ ?_
     rotate_left
     ·intro w'
      go_simp
      with_reducible rfl
     rotate_left
     ·simp only [Act.put, List.setIfInBounds_toArray, List.set_cons_zero, List.set_cons_succ, i64_w, i32_w]
      rfl
     refine take_ (i := 1) (N := some 38) (v := ?_) (a' := ?_) #[true, true, false, false, true, false, false, false, false, false, false] rfl rfl (take_ofW HT_.out HW_.out (by kernel_rfl)) (fun _ _ _ h => h) (Or.inl ⟨by rfl, ?_⟩) hHeld ?_ ?_
     rotate_left
     ·rintro w' ⟨s0, s1, s2, s3⟩
      go_simp
      with_reducible rfl
     rotate_left
     ·simp only [Act.put, List.setIfInBounds_toArray, List.set_cons_zero, List.set_cons_succ, i64_w, i32_w]
      rfl
     refine take_ (i := 5) (N := some 42) (v := ?_) (a' := ?_) #[true, true, false, false, true, true, false, false, false, false, false] rfl rfl (take_ofW HT_.out HW_.out (by kernel_rfl)) (fun _ _ _ h => h) (Or.inl ⟨by rfl, ?_⟩) hHeld ?_ ?_
     rotate_left
     ·rintro w' ⟨s0, s1, s2, s3⟩
      go_simp
      with_reducible rfl
     rotate_left
     ·simp only [Act.put, List.setIfInBounds_toArray, List.set_cons_zero, List.set_cons_succ, i64_w, i32_w]
      rfl
     refine one_ (i := 2) (N := some 39) #[true, true, true, false, true, true, false, false, false, false, false] rfl rfl (one_of HT_.out (by kernel_rfl)) (by decide) (fun K hK => ?_)
     refine goes_ Tryz.func26 (by kernel_rfl) rfl #[.string t257] (by rfl) rfl rfl (by (try simp only [List.map_toArray, List.map_cons, List.map_nil]); first | done | rfl | (simp only [List.length_drop, List.length_take]; rfl)) ?_
     with_reducible refine (brookref1_Number.calls kj6 t257 t264 t265 _ A32.out).mono ?_
     rintro e w35 ⟨rfl, hb⟩
     refine ⟨_, rfl, ?_⟩
     have n0_ := Aside0.mk (blk_below (g := gb262) (o := .cells #[.string t257, .bool t258] 26 (0, 0)) (by (with_reducible repeat (first | refine blk_drewN ?_ _ | refine blk_drew ?_ | refine blk_alloc ?_ _)); exact BK262.out) hb)
     have n1_ := Aside0.mk (blk_below (g := gb263) (o := .cells #[.string t259, .bool t260] 26 (0, 0)) (by (with_reducible repeat (first | refine blk_drewN ?_ _ | refine blk_drew ?_ | refine blk_alloc ?_ _)); exact BK263.out) hb)
     have n2_ := Aside0.mk (below_step (by repeat (first | (with_reducible first | exact HB.out | apply below_alloc | apply pw_below_drewN | apply below_drew1 | refine below_set ?_ GE262.out | refine below_set ?_ GE263.out) | exact HB.out)) hb)
     clear BK262
     clear BK263
     clear HB
     have BK262 := n0_
     have BK263 := n1_
     have HB := n2_
     clear n0_ n1_ n2_
     (try clear hb)
     (try clear hb2)
     (try clear hk)
     (try clear hi)
     refine hK.out _ _ ⟨(blk_cell BK262.out 0).trans rfl, (blk_cell BK262.out 1).trans rfl, (blk_cell BK263.out 0).trans rfl, (blk_cell BK263.out 1).trans rfl⟩ (fun hHeld => ?_)
     clear hK K
     refine norm_ (a' := ?_) ?_ ?_
     rotate_left
     ·show Act.put _ (some 39) _ = _
      simp only [Act.put, List.setIfInBounds_toArray, List.set_cons_zero, List.set_cons_succ, i64_w, i32_w]
      rfl
     refine pure_ (i := 3) (N := some 40) (v := ?_) (a' := ?_) #[true, true, true, true, true, true, false, false, false, false, false] rfl rfl (any_of HT_.out (by kernel_rfl)) (fun _ _ _ h => h) (Or.inl ⟨by rfl, ?_⟩) ?_ ?_
     rotate_left
     ·intro w'
      go_simp
      with_reducible rfl
     rotate_left
     ·simp only [Act.put, List.setIfInBounds_toArray, List.set_cons_zero, List.set_cons_succ, i64_w, i32_w]
      rfl
     refine one_ (i := 6) (N := some 43) #[true, true, true, true, true, true, true, false, false, false, false] rfl rfl (one_of HT_.out (by kernel_rfl)) (by decide) (fun K hK => ?_)
     refine goes_ Tryz.func26 (by kernel_rfl) rfl #[.string t259] (by rfl) rfl rfl (by (try simp only [List.map_toArray, List.map_cons, List.map_nil]); first | done | rfl | (simp only [List.length_drop, List.length_take]; rfl)) ?_
     with_reducible refine (brookref1_Number.calls kj6 t259 t266 t267 _ A33.out).mono ?_
     rintro e w36 ⟨rfl, hb⟩
     refine ⟨_, rfl, ?_⟩
     have n0_ := Aside0.mk (blk_below (g := gb262) (o := .cells #[.string t257, .bool t258] 26 (0, 0)) (by (with_reducible repeat (first | refine blk_drewN ?_ _ | refine blk_drew ?_ | refine blk_alloc ?_ _)); exact BK262.out) hb)
     have n1_ := Aside0.mk (blk_below (g := gb263) (o := .cells #[.string t259, .bool t260] 26 (0, 0)) (by (with_reducible repeat (first | refine blk_drewN ?_ _ | refine blk_drew ?_ | refine blk_alloc ?_ _)); exact BK263.out) hb)
     have n2_ := Aside0.mk (below_step (by repeat (first | (with_reducible first | exact HB.out | apply below_alloc | apply pw_below_drewN | apply below_drew1 | refine below_set ?_ GE262.out | refine below_set ?_ GE263.out) | exact HB.out)) hb)
     clear BK262
     clear BK263
     clear HB
     have BK262 := n0_
     have BK263 := n1_
     have HB := n2_
     clear n0_ n1_ n2_
     (try clear hb)
     (try clear hb2)
     (try clear hk)
     (try clear hi)
     refine hK.out _ _ ⟨(blk_cell BK262.out 0).trans rfl, (blk_cell BK262.out 1).trans rfl, (blk_cell BK263.out 0).trans rfl, (blk_cell BK263.out 1).trans rfl⟩ (fun hHeld => ?_)
     clear hK K
     refine norm_ (a' := ?_) ?_ ?_
     rotate_left
     ·show Act.put _ (some 43) _ = _
      simp only [Act.put, List.setIfInBounds_toArray, List.set_cons_zero, List.set_cons_succ, i64_w, i32_w]
      rfl
     refine pure_ (i := 7) (N := some 44) (v := ?_) (a' := ?_) #[true, true, true, true, true, true, true, true, false, false, false] rfl rfl (any_of HT_.out (by kernel_rfl)) (fun _ _ _ h => h) (Or.inl ⟨by rfl, ?_⟩) ?_ ?_
     rotate_left
     ·intro w'
      go_simp
      with_reducible rfl
     rotate_left
     ·simp only [Act.put, List.setIfInBounds_toArray, List.set_cons_zero, List.set_cons_succ, i64_w, i32_w]
      rfl
     refine pure_ (i := 8) (N := some 45) (v := ?_) (a' := ?_) #[true, true, true, true, true, true, true, true, true, false, false] rfl rfl (any_of HT_.out (by kernel_rfl)) (fun _ _ _ h => h) (Or.inl ⟨by rfl, ?_⟩) ?_ ?_
     rotate_left
     ·intro w'
      go_simp
      with_reducible rfl
     rotate_left
     ·simp only [Act.put, List.setIfInBounds_toArray, List.set_cons_zero, List.set_cons_succ, i64_w, i32_w]
      rfl
     refine pure_ (i := 9) (N := some 6) (v := ?_) (a' := ?_) #[true, true, true, true, true, true, true, true, true, true, false] rfl rfl (any_of HT_.out (by kernel_rfl)) (fun _ _ _ h => h) (Or.inl ⟨by rfl, ?_⟩) ?_ ?_
     rotate_left
     ·intro w'
      go_simp
      with_reducible rfl
     rotate_left
     ·simp only [Act.put, List.setIfInBounds_toArray, List.set_cons_zero, List.set_cons_succ, i64_w, i32_w]
      rfl
     refine pure_ (i := 10) (N := some 7) (v := ?_) (a' := ?_) #[true, true, true, true, true, true, true, true, true, true, true] rfl rfl (any_of HT_.out (by kernel_rfl)) (fun _ _ _ h => h) (Or.inl ⟨by rfl, ?_⟩) ?_ ?_
     rotate_left
     ·intro w'
      go_simp
      with_reducible rfl
     rotate_left
     ·simp only [Act.put, List.setIfInBounds_toArray, List.set_cons_zero, List.set_cons_succ, i64_w, i32_w]
      rfl
     refine done_ (done_of HT_.out (by kernel_rfl)) ?_
     try go_wp2
     go_ret2
     exact ⟨by first | rfl | (simp [errW_none, errW_some] <;> rfl) | (simp [*, errW_none, errW_some] <;> rfl), by repeat (first | (with_reducible first | exact HB.out | apply below_alloc | apply pw_below_drewN | apply below_drew1 | refine below_set ?_ GE262.out | refine below_set ?_ GE263.out) | exact HB.out)⟩
    ·rw [if_neg c31] at H
     have c31b0 : (t261 == 2) = false := beq_eq_false_iff_ne.mpr c31
     have c31b1 : (t261 != 2) = true := bne_iff_ne.mpr c31
     simp only [Option.some.injEq, Prod.mk.injEq] at H
     obtain ⟨rfl, rfl⟩ := H
     have hnb37 := NB262_263.out
     have hnc37 := NB263_262.out
     have hcz38_0 : wc.cell? ⟨gb262, 0, none⟩ = some (.string t257) := (blk_cell BK262.out 0).trans rfl
     have hcz38_1 : wc.cell? ⟨gb262, 1, none⟩ = some (.bool t258) := (blk_cell BK262.out 1).trans rfl
     have hfz38_0 := blk_frozen BK262.out 0
     have hfz38_1 := blk_frozen BK262.out 1
     have hcz39_0 : wc.cell? ⟨gb263, 0, none⟩ = some (.string t259) := (blk_cell BK263.out 0).trans rfl
     have hcz39_1 : wc.cell? ⟨gb263, 1, none⟩ = some (.bool t260) := (blk_cell BK263.out 1).trans rfl
     have hfz39_0 := blk_frozen BK263.out 0
     have hfz39_1 := blk_frozen BK263.out 1
     go_wp2
     go_ret2
     exact ⟨by first | rfl | (simp [errW_none, errW_some] <;> rfl) | (simp [*, errW_none, errW_some] <;> rfl), by repeat (first | (with_reducible first | exact HB.out | apply below_alloc | apply pw_below_drewN | apply below_drew1 | refine below_set ?_ GE262.out | refine below_set ?_ GE263.out) | exact HB.out)⟩
end Go.Proofs.YtpcjjpkmebgjjaaGreatDoor.P

namespace Go.Proofs.YtpcjjpkmebgjjaaGreatDoor.P
open Go.RowKit Go.Proofs.YtpcjjpkmebgjjaaGreatDoorW.PrintWords Go.Proofs.YtpcjjpkmebgjjaaGreatDoorW.PrintLast Go.Proofs.YtpcjjpkmebgjjaaGreatDoorW.PrintMore
attribute [local go_sem] max2_int min2_int max_two min_two max_three min_three max_four min_four
set_option linter.unusedVariables false
set_option linter.unusedSimpArgs false
def brookref1_Canon.f (k : Nat) (a0 : ByteArray) : Option (ByteArray × Bool) := (brookref1_Lower.f a0).bind fun t169 => ((brookref1_Rule.f k t169).bind fun t170 => (if t170 = 0 then (some ((⟨#[]⟩ : ByteArray), false)) else (some (t169, true))))
set_option maxHeartbeats 8000000 in
set_option maxRecDepth 100000 in
theorem brookref1_Canon.calls (k : Nat) (a0 : ByteArray) (r1 : ByteArray) (r2 : Bool) (w : World) (h : brookref1_Canon.f k a0 = some (r1, r2)) :
  Calls Tryz.prog 8 #[.string a0] w fun e w' => e = .returned (.agg #[.string r1, .bool r2]) ∧ Below w.heap.size w w' := by
 have hu26 := Tryz.underlying26
 have HB := Aside0.mk (Below.refl w.heap.size w)
 have H : ((brookref1_Lower.f a0).bind fun t169 => ((brookref1_Rule.f k t169).bind fun t170 => (if t170 = 0 then (some ((⟨#[]⟩ : ByteArray), false)) else (some (t169, true))))) = some (r1, r2) := h
 clear h
 replace H := Option.bind_eq_some_iff.mp H
 obtain ⟨t169, A20, H⟩ := H
 replace H : ((brookref1_Rule.f k t169).bind fun t170 => (if t170 = 0 then (some ((⟨#[]⟩ : ByteArray), false)) else (some (t169, true)))) = some (r1, r2) := H
 have A2 := Aside0.mk A20
 clear A20
 replace H := Option.bind_eq_some_iff.mp H
 obtain ⟨t170, A30, H⟩ := H
 replace H : (if t170 = 0 then (some ((⟨#[]⟩ : ByteArray), false)) else (some (t169, true))) = some (r1, r2) := H
 have A3 := Aside0.mk A30
 clear A30
 by_cases c4 : t170 = 0
 ·rw [if_pos c4] at H
  have c4b0 : (t170 == 0) = true := beq_iff_eq.mpr c4
  have c4b1 : (t170 != 0) = false := bne_eq_false_iff_eq.mpr c4
  clear c4
  simp only [Option.some.injEq, Prod.mk.injEq] at H
  obtain ⟨rfl, rfl⟩ := H
  go_enter Tryz.func8, Tryz.ntmps8
  go_wp2_with (first | ((with_reducible refine gate_dst (N := 2) rfl ?_); refine box_event ?hg (N := 2) ?hd (cs := #[.string (⟨#[]⟩ : ByteArray), .bool false]) (t := 26) ?hr ?_; (case hd => rfl); (case hg => rfl); (case hr => first | (go_simp; done) | (go_simp; rfl)); intro gb168 hg w5 hbox hb; have n0_ := Aside0.mk (below_step (by repeat (first | (with_reducible first | exact HB.out | apply below_alloc | apply pw_below_drewN | apply below_drew1) | exact HB.out)) hb); have n1_ := Aside0.mk (hbox); have n2_ := Aside0.mk ((by rw [hg]; exact (below_size (by repeat (first | (with_reducible first | exact HB.out | apply below_alloc | apply pw_below_drewN | apply below_drew1) | exact HB.out))) : w.heap.size ≤ gb168)); have n3_ := Aside0.mk ((by rw [hg]; exact (below_size (by repeat (first | (with_reducible first | exact HB.out | apply below_alloc | apply pw_below_drewN | apply below_drew1) | exact HB.out))) : w.heap.size ≤ gb168)); clear HB; have HB := n0_; have BK168 := n1_; have GW168 := n2_; have GE168 := n3_; clear n0_ n1_ n2_ n3_; clear hb hbox hg) | ((with_reducible refine gate_callee (f := 19) rfl ?_); refine goesL_ (some 5) rfl rfl Tryz.func19 (by kernel_rfl) rfl #[.string a0] rfl (by (try simp only [List.map_toArray, List.map_cons, List.map_nil]); first | done | rfl | (simp only [List.length_drop, List.length_take]; rfl)) ?_; (with_reducible refine (brookref1_Lower.calls a0 t169 _ A2.out).mono ?_); rintro e w6 ⟨rfl, hb⟩; refine ⟨_, rfl, ?_⟩; have n0_ := Aside0.mk (blk_below (g := gb168) (o := .cells #[.string (⟨#[]⟩ : ByteArray), .bool false] 26 (0, 0)) (by (with_reducible repeat (first | refine blk_drewN ?_ _ | refine blk_drew ?_ | refine blk_alloc ?_ _)); exact BK168.out) hb); have n1_ := Aside0.mk (below_step (by repeat (first | (with_reducible first | exact HB.out | apply below_alloc | apply pw_below_drewN | apply below_drew1 | refine below_set ?_ GE168.out) | exact HB.out)) hb); clear BK168; clear HB; have BK168 := n0_; have HB := n1_; clear n0_ n1_; (try clear hb); (try clear hb2); (try clear hk); (try clear hi)) | ((with_reducible refine gate_callee (f := 14) rfl ?_); refine goesL_ (some 7) rfl rfl Tryz.func14 (by kernel_rfl) rfl #[.string t169] rfl (by (try simp only [List.map_toArray, List.map_cons, List.map_nil]); first | done | rfl | (simp only [List.length_drop, List.length_take]; rfl)) ?_; (with_reducible refine (brookref1_Rule.calls k t169 t170 _ A3.out).mono ?_); rintro e w7 ⟨rfl, hb⟩; refine ⟨_, rfl, ?_⟩; have n0_ := Aside0.mk (blk_below (g := gb168) (o := .cells #[.string (⟨#[]⟩ : ByteArray), .bool false] 26 (0, 0)) (by (with_reducible repeat (first | refine blk_drewN ?_ _ | refine blk_drew ?_ | refine blk_alloc ?_ _)); exact BK168.out) hb); have n1_ := Aside0.mk (below_step (by repeat (first | (with_reducible first | exact HB.out | apply below_alloc | apply pw_below_drewN | apply below_drew1 | refine below_set ?_ GE168.out) | exact HB.out)) hb); clear BK168; clear HB; have BK168 := n0_; have HB := n1_; clear n0_ n1_; (try clear hb); (try clear hb2); (try clear hk); (try clear hi); have hcz8_0 : w7.cell? ⟨gb168, 0, none⟩ = some (.string (⟨#[]⟩ : ByteArray)) := (blk_cell BK168.out 0).trans rfl; have hcz8_1 : w7.cell? ⟨gb168, 1, none⟩ = some (.bool false) := (blk_cell BK168.out 1).trans rfl; have hfz8_0 := blk_frozen BK168.out 0; have hfz8_1 := blk_frozen BK168.out 1))
  refine bodyPost_ret (results_cell_row rfl _ _ gb168 26 #[.string (⟨#[]⟩ : ByteArray), .bool false] (0, 0) _ rfl (by (with_reducible repeat (first | refine blk_drewN ?_ _ | refine blk_drew ?_ | refine blk_alloc ?_ _)); refine blk_put (cs := #[.string (⟨#[]⟩ : ByteArray), .bool false]) ?_ 1 _ (by first | rfl | (simp only [bneNil, beqNil]; rfl) | simp [bneNil, beqNil]); (with_reducible repeat (first | refine blk_drewN ?_ _ | refine blk_drew ?_ | refine blk_alloc ?_ _)); refine blk_put (cs := #[.string (⟨#[]⟩ : ByteArray), .bool false]) ?_ 0 _ (by first | rfl | (simp only [bneNil, beqNil]; rfl) | simp [bneNil, beqNil]); (with_reducible repeat (first | refine blk_drewN ?_ _ | refine blk_drew ?_ | refine blk_alloc ?_ _)); exact BK168.out) Tryz.underlying26 rfl (by kernel_rfl)) rfl ?_
  exact ⟨by first | rfl | (simp [errW_none, errW_some] <;> rfl) | (simp [*, errW_none, errW_some] <;> rfl), by repeat (first | (with_reducible first | exact HB.out | apply below_alloc | apply pw_below_drewN | apply below_drew1 | refine below_set ?_ GE168.out) | exact HB.out)⟩
 ·rw [if_neg c4] at H
  have c4b0 : (t170 == 0) = false := beq_eq_false_iff_ne.mpr c4
  have c4b1 : (t170 != 0) = true := bne_iff_ne.mpr c4
  simp only [Option.some.injEq, Prod.mk.injEq] at H
  obtain ⟨rfl, rfl⟩ := H
  go_enter Tryz.func8, Tryz.ntmps8
  go_wp2_with (first | ((with_reducible refine gate_dst (N := 2) rfl ?_); refine box_event ?hg (N := 2) ?hd (cs := #[.string (⟨#[]⟩ : ByteArray), .bool false]) (t := 26) ?hr ?_; (case hd => rfl); (case hg => rfl); (case hr => first | (go_simp; done) | (go_simp; rfl)); intro gb168 hg w9 hbox hb; have n0_ := Aside0.mk (below_step (by repeat (first | (with_reducible first | exact HB.out | apply below_alloc | apply pw_below_drewN | apply below_drew1) | exact HB.out)) hb); have n1_ := Aside0.mk (hbox); have n2_ := Aside0.mk ((by rw [hg]; exact (below_size (by repeat (first | (with_reducible first | exact HB.out | apply below_alloc | apply pw_below_drewN | apply below_drew1) | exact HB.out))) : w.heap.size ≤ gb168)); have n3_ := Aside0.mk ((by rw [hg]; exact (below_size (by repeat (first | (with_reducible first | exact HB.out | apply below_alloc | apply pw_below_drewN | apply below_drew1) | exact HB.out))) : w.heap.size ≤ gb168)); clear HB; have HB := n0_; have BK168 := n1_; have GW168 := n2_; have GE168 := n3_; clear n0_ n1_ n2_ n3_; clear hb hbox hg) | ((with_reducible refine gate_callee (f := 19) rfl ?_); refine goesL_ (some 5) rfl rfl Tryz.func19 (by kernel_rfl) rfl #[.string a0] rfl (by (try simp only [List.map_toArray, List.map_cons, List.map_nil]); first | done | rfl | (simp only [List.length_drop, List.length_take]; rfl)) ?_; (with_reducible refine (brookref1_Lower.calls a0 t169 _ A2.out).mono ?_); rintro e w10 ⟨rfl, hb⟩; refine ⟨_, rfl, ?_⟩; have n0_ := Aside0.mk (blk_below (g := gb168) (o := .cells #[.string (⟨#[]⟩ : ByteArray), .bool false] 26 (0, 0)) (by (with_reducible repeat (first | refine blk_drewN ?_ _ | refine blk_drew ?_ | refine blk_alloc ?_ _)); exact BK168.out) hb); have n1_ := Aside0.mk (below_step (by repeat (first | (with_reducible first | exact HB.out | apply below_alloc | apply pw_below_drewN | apply below_drew1 | refine below_set ?_ GE168.out) | exact HB.out)) hb); clear BK168; clear HB; have BK168 := n0_; have HB := n1_; clear n0_ n1_; (try clear hb); (try clear hb2); (try clear hk); (try clear hi)) | ((with_reducible refine gate_callee (f := 14) rfl ?_); refine goesL_ (some 7) rfl rfl Tryz.func14 (by kernel_rfl) rfl #[.string t169] rfl (by (try simp only [List.map_toArray, List.map_cons, List.map_nil]); first | done | rfl | (simp only [List.length_drop, List.length_take]; rfl)) ?_; (with_reducible refine (brookref1_Rule.calls k t169 t170 _ A3.out).mono ?_); rintro e w11 ⟨rfl, hb⟩; refine ⟨_, rfl, ?_⟩; have n0_ := Aside0.mk (blk_below (g := gb168) (o := .cells #[.string (⟨#[]⟩ : ByteArray), .bool false] 26 (0, 0)) (by (with_reducible repeat (first | refine blk_drewN ?_ _ | refine blk_drew ?_ | refine blk_alloc ?_ _)); exact BK168.out) hb); have n1_ := Aside0.mk (below_step (by repeat (first | (with_reducible first | exact HB.out | apply below_alloc | apply pw_below_drewN | apply below_drew1 | refine below_set ?_ GE168.out) | exact HB.out)) hb); clear BK168; clear HB; have BK168 := n0_; have HB := n1_; clear n0_ n1_; (try clear hb); (try clear hb2); (try clear hk); (try clear hi); have hcz12_0 : w11.cell? ⟨gb168, 0, none⟩ = some (.string (⟨#[]⟩ : ByteArray)) := (blk_cell BK168.out 0).trans rfl; have hcz12_1 : w11.cell? ⟨gb168, 1, none⟩ = some (.bool false) := (blk_cell BK168.out 1).trans rfl; have hfz12_0 := blk_frozen BK168.out 0; have hfz12_1 := blk_frozen BK168.out 1))
  refine bodyPost_ret (results_cell_row rfl _ _ gb168 26 #[.string t169, .bool true] (0, 0) _ rfl (by (with_reducible repeat (first | refine blk_drewN ?_ _ | refine blk_drew ?_ | refine blk_alloc ?_ _)); refine blk_put (cs := #[.string t169, .bool false]) ?_ 1 _ (by first | rfl | (simp only [bneNil, beqNil]; rfl) | simp [bneNil, beqNil]); (with_reducible repeat (first | refine blk_drewN ?_ _ | refine blk_drew ?_ | refine blk_alloc ?_ _)); refine blk_put (cs := #[.string (⟨#[]⟩ : ByteArray), .bool false]) ?_ 0 _ (by first | rfl | (simp only [bneNil, beqNil]; rfl) | simp [bneNil, beqNil]); (with_reducible repeat (first | refine blk_drewN ?_ _ | refine blk_drew ?_ | refine blk_alloc ?_ _)); exact BK168.out) Tryz.underlying26 rfl (by kernel_rfl)) rfl ?_
  exact ⟨by first | rfl | (simp [errW_none, errW_some] <;> rfl) | (simp [*, errW_none, errW_some] <;> rfl), by repeat (first | (with_reducible first | exact HB.out | apply below_alloc | apply pw_below_drewN | apply below_drew1 | refine below_set ?_ GE168.out) | exact HB.out)⟩
end Go.Proofs.YtpcjjpkmebgjjaaGreatDoor.P


namespace Go.Proofs.YtpcjjpkmebgjjaaGreatDoor.P
open Go.RowKit Go.Proofs.YtpcjjpkmebgjjaaGreatDoorW.PrintWords Go.Proofs.YtpcjjpkmebgjjaaGreatDoorW.PrintLast Go.Proofs.YtpcjjpkmebgjjaaGreatDoorW.PrintMore
set_option linter.unusedVariables false
set_option linter.unusedSimpArgs false
theorem ref_lower (s : ByteArray) (h : s.size ≤ 9223372036854775807) : brookref1_Lower.f s = some (lowS s) := by unfold brookref1_Lower.f; rw [if_pos h]
theorem ref_rule (s : ByteArray) (h : s.size ≤ 9223372036854775807) : Ev (fun k => brookref1_Rule.f k s) (ruleL s.data.toList) := by
  unfold brookref1_Rule.f ruleL
  rw [ref_lower s h, ← lowS_data]
  refine Ev.bs ?_
  generalize lowS s = t
  rw [toList_data]
  generalize hl : t.data.toList = l
  have j1 : Ev (fun k => brookref1_Rule.j0 k t true) 1 := Ev.step (fun k => by rw [brookref1_Rule.j0]) (Ev.ifp rfl (Ev.now _))
  have one : ∀ (x : List UInt8), l = x → (decide (rulesL x = 1)) = true → Ev (fun k => brookref1_Rule.j0 k t (l == x)) (rulesL l) := by
    intro x hx hr
    rw [hx, beq_self_eq_true, of_decide_eq_true hr]
    exact j1
  by_cases h1 : l = [111, 98, 106, 101, 99, 116, 99, 108, 97, 115, 115]
  · exact Ev.ifp h1 (one _ h1 (by decide))
  refine Ev.ifn h1 ?_
  by_cases h2 : l = [99, 110]
  · exact Ev.ifp h2 (one _ h2 (by decide))
  refine Ev.ifn h2 ?_
  by_cases h3 : l = [115, 110]
  · exact Ev.ifp h3 (one _ h3 (by decide))
  refine Ev.ifn h3 ?_
  by_cases h4 : l = [111]
  · exact Ev.ifp h4 (one _ h4 (by decide))
  refine Ev.ifn h4 ?_
  by_cases h5 : l = [111, 117]
  · exact Ev.ifp h5 (one _ h5 (by decide))
  refine Ev.ifn h5 ?_
  by_cases h6 : l = [117, 105, 100]
  · exact Ev.ifp h6 (one _ h6 (by decide))
  refine Ev.ifn h6 ?_
  by_cases h7 : l = [109, 97, 105, 108]
  · exact Ev.ifp h7 (one _ h7 (by decide))
  refine Ev.ifn h7 ?_
  by_cases h8 : l = [100, 101, 115, 99, 114, 105, 112, 116, 105, 111, 110]
  · exact one _ h8 (by decide)
  rw [beq_eq_false_iff_ne.2 h8]
  refine Ev.step (fun k => by rw [brookref1_Rule.j0]) (Ev.ifn Bool.false_ne_true ?_)
  rw [toList_data, hl]
  by_cases g1 : l = [117, 105, 100, 110, 117, 109, 98, 101, 114]
  · have e : rulesL l = 2 := by unfold rulesL; rw [if_pos g1]
    rw [e]; exact Ev.ifp g1 (Ev.now _)
  refine Ev.ifn g1 ?_
  by_cases g2 : l = [109, 101, 109, 98, 101, 114]
  · have e : rulesL l = 3 := by unfold rulesL; rw [if_neg g1, if_pos g2]
    rw [e]; exact Ev.ifp g2 (Ev.now _)
  refine Ev.ifn g2 ?_
  by_cases g3 : l = [117, 115, 101, 114, 112, 97, 115, 115, 119, 111, 114, 100]
  · have e : rulesL l = 4 := by unfold rulesL; rw [if_neg g1, if_neg g2, if_pos g3]
    rw [e]; exact Ev.ifp g3 (Ev.now _)
  have e : rulesL l = 0 := by unfold rulesL; rw [if_neg g1, if_neg g2, if_neg g3, if_neg h1, if_neg h2, if_neg h3, if_neg h4, if_neg h5, if_neg h6, if_neg h7, if_neg h8]
  rw [e]
  exact Ev.ifn g3 (Ev.now _)
theorem ref_canon (s : ByteArray) (h : s.size ≤ 9223372036854775807) : Ev (fun k => brookref1_Canon.f k s) (if ruleL s.data.toList = 0 then (mk [], false) else (lowS s, true)) := by
  unfold brookref1_Canon.f
  rw [ref_lower s h]
  refine Ev.bs ((ref_rule (lowS s) (by rw [lowS_size]; exact h)).bind ?_)
  have e : ruleL (lowS s).data.toList = ruleL s.data.toList := by unfold ruleL; rw [lowS_data, low_idem]
  rw [e]
  by_cases h0 : ruleL s.data.toList = 0
  · have e : (if ruleL s.data.toList = 0 then (mk [], false) else (lowS s, true)) = (mk [], false) := if_pos h0
    rw [e]; exact Ev.ifp h0 (Ev.now _)
  · have e : (if ruleL s.data.toList = 0 then (mk [], false) else (lowS s, true)) = (lowS s, true) := if_neg h0
    rw [e]; exact Ev.ifn h0 (Ev.now _)
theorem in_loop (s : ByteArray) (hs : s.size ≤ 1073741824) (c : UInt8) : ∀ n i : Nat, s.size - i = n → i ≤ s.size → Ev (fun k => brookref1_in.l0 k s (c.toNat : Int) (i : Int)) ((s.data.toList.drop i).any (· == c)) := by
  intro n
  have hlen : s.data.toList.length = s.size := (size_len s).symm
  induction n with
  | zero =>
    intro i hn hi
    refine Ev.step (fun k => by rw [brookref1_in.l0]) (Ev.ifn (by omega) ?_)
    rw [List.drop_eq_nil_of_le (by omega)]
    exact Ev.now _
  | succ n ih =>
    intro i hn hi
    have hd := drop_cons s.data.toList i (by omega)
    generalize hc : s.data.toList.getD i 0 = d at hd
    have hb : bt s (i : Int) = (d.toNat : Int) := by rw [bt_nat, hc]
    refine Ev.step (fun k => by rw [brookref1_in.l0]) (Ev.ifp (by omega) (Ev.ifp (by omega) ?_))
    rw [hd, List.any_cons, hb]
    by_cases h : d = c
    · rw [h, beq_self_eq_true, Bool.true_or]; exact Ev.ifp rfl (Ev.now _)
    · rw [beq_eq_false_iff_ne.2 h, Bool.false_or, wrap_small _ (by omega) (by omega), show (i : Int) + 1 = ((i + 1 : Nat) : Int) by omega]
      exact Ev.ifn (fun e => h ((u8i d c).1 e)) (ih (i + 1) (by omega) (by omega))
theorem in_ev (s : ByteArray) (hs : s.size ≤ 1073741824) (c : UInt8) : Ev (fun k => brookref1_in.f k s (c.toNat : Int)) (s.data.toList.any (· == c)) := in_loop s hs c s.size 0 (by omega) (by omega)
theorem in_special (c : UInt8) : ([44, 43, 34, 92, 60, 62, 59] : List UInt8).any (· == c) = specialB c := byteAll (p := fun c => ([44, 43, 34, 92, 60, 62, 59] : List UInt8).any (· == c) = specialB c) (by decide +kernel) c
theorem ref_two (c : UInt8) : brookref1_two.f (c.toNat : Int) = some (mk [92, hexD (c >>> 4), hexD (c &&& 15)]) := by
  unfold brookref1_two.f
  have := c.toNat_lt
  rw [if_pos (by omega), Int.toNat_natCast, UInt8.ofNat_toNat]
theorem extract_one (s : ByteArray) (i : Nat) (h : i < s.size) : s.extract i (i + 1) = mk [s.data.toList.getD i 0] := by
  apply ba_ext
  have hlen : s.data.toList.length = s.size := (size_len s).symm
  rw [extract_data, mk_data, drop_cons s.data.toList i (by omega)]
  rw [show i + 1 - i = 1 by omega]; rfl
theorem mk_app (a b : List UInt8) : mk a ++ mk b = mk (a ++ b) := by apply ba_ext; rw [append_data, mk_data, mk_data, mk_data]
theorem escTo_len3 (l : List UInt8) : ∀ k, (escTo l k).length ≤ 3 * k
  | 0 => Nat.zero_le _
  | k + 1 => by
    have h1 := escTo_len3 l k
    rw [escTo_succ, List.length_append]
    have : (escB l.length k (l.getD k 0)).length ≤ 3 := by unfold escB; split; simp; split <;> simp
    omega
theorem escaped_loop (s : ByteArray) (hs : s.size ≤ 1073741824) : ∀ n i : Nat, s.size - i = n → i ≤ s.size →
    Ev (fun k => brookref1_escaped.l0 k s (mk (escTo s.data.toList i)) (i : Int)) (mk (escV s.data.toList)) := by
  intro n
  have hlen : s.data.toList.length = s.size := (size_len s).symm
  induction n with
  | zero =>
    intro i hn hi
    have e : i = s.data.toList.length := by omega
    refine Ev.step (fun k => by rw [brookref1_escaped.l0]) (Ev.ifn (by omega) ?_)
    unfold escV
    rw [← e]
    exact Ev.now _
  | succ n ih =>
    intro i hn hi
    generalize hc : s.data.toList.getD i 0 = c
    have hb : bt s (i : Int) = (c.toNat : Int) := by rw [bt_nat, hc]
    have hx : s.extract (i : Int).toNat (wrap64 ((i : Int) + 1)).toNat = mk [c] := by
      rw [wrap_small _ (by omega) (by omega), Int.toNat_natCast, show ((i : Int) + 1).toNat = i + 1 by omega, extract_one s i (by omega), hc]
    have l3 := escTo_len3 s.data.toList i
    have next : Ev (fun k => brookref1_escaped.l0 k s (mk (escTo s.data.toList i ++ escB s.data.toList.length i c)) (wrap64 ((i : Int) + 1))) (mk (escV s.data.toList)) := by
      have := ih (i + 1) (by omega) (by omega)
      rw [escTo_succ, hc] at this
      rw [wrap_small _ (by omega) (by omega), show (i : Int) + 1 = ((i + 1 : Nat) : Int) by omega]
      exact this
    have w1 : wrap64 ((i : Int) + 1) = (i : Int) + 1 := wrap_small _ (by omega) (by omega)
    have w2 : wrap64 ((s.size : Int) - 1) = (s.size : Int) - 1 := wrap_small _ (by omega) (by omega)
    have odd : oddB c = true → Ev (fun k => brookref1_escaped.j1 k s (mk (escTo s.data.toList i)) (i : Int) (c.toNat : Int) true) (mk (escV s.data.toList)) := by
      intro ho
      refine Ev.step (fun k => by rw [brookref1_escaped.j1]) (Ev.ifp rfl ?_)
      rw [ref_two]
      refine Ev.bs (Ev.ifp (by rw [mk_size, mk_size]; simp only [List.length_cons, List.length_nil]; omega) ?_)
      rw [mk_app]
      have e : escB s.data.toList.length i c = [92, hexD (c >>> 4), hexD (c &&& 15)] := by unfold escB; rw [if_pos ho]
      rw [e] at next
      exact next
    have back : oddB c = false → backB s.data.toList.length i c = true → Ev (fun k => if (mk (escTo s.data.toList i)).size + 1 ≤ 9223372036854775807 then (if 0 ≤ (i : Int) then (if (i : Int) ≤ (wrap64 ((i : Int) + 1)) then (if (wrap64 ((i : Int) + 1)) ≤ (s.size : Int) then (if (mk (escTo s.data.toList i) ++ (⟨#[92]⟩ : ByteArray)).size + (s.extract (i : Int).toNat (wrap64 ((i : Int) + 1)).toNat).size ≤ 9223372036854775807 then (brookref1_escaped.l0 k s ((mk (escTo s.data.toList i) ++ (⟨#[92]⟩ : ByteArray)) ++ (s.extract (i : Int).toNat (wrap64 ((i : Int) + 1)).toNat)) (wrap64 ((i : Int) + 1))) else none) else none) else none) else none) else none) (mk (escV s.data.toList)) := by
      intro ho hk
      rw [hx, show (⟨#[92]⟩ : ByteArray) = mk [92] from rfl, mk_app, mk_app, List.append_assoc]
      refine Ev.ifp (by rw [mk_size]; omega) (Ev.ifp (by omega) (Ev.ifp (by rw [w1]; omega) (Ev.ifp (by rw [w1]; omega) (Ev.ifp (by rw [mk_size, mk_size]; simp only [List.length_append, List.length_cons, List.length_nil]; omega) ?_))))
      have e : escB s.data.toList.length i c = [92] ++ [c] := by unfold escB; rw [if_neg (by rw [ho]; exact Bool.false_ne_true), if_pos hk]; rfl
      rw [e] at next
      exact next
    have bare : oddB c = false → backB s.data.toList.length i c = false → Ev (fun k => if 0 ≤ (i : Int) then (if (i : Int) ≤ (wrap64 ((i : Int) + 1)) then (if (wrap64 ((i : Int) + 1)) ≤ (s.size : Int) then (if (mk (escTo s.data.toList i)).size + (s.extract (i : Int).toNat (wrap64 ((i : Int) + 1)).toNat).size ≤ 9223372036854775807 then (brookref1_escaped.l0 k s (mk (escTo s.data.toList i) ++ (s.extract (i : Int).toNat (wrap64 ((i : Int) + 1)).toNat)) (wrap64 ((i : Int) + 1))) else none) else none) else none) else none) (mk (escV s.data.toList)) := by
      intro ho hk
      rw [hx, mk_app]
      refine Ev.ifp (by omega) (Ev.ifp (by rw [w1]; omega) (Ev.ifp (by rw [w1]; omega) (Ev.ifp (by rw [mk_size, mk_size]; simp only [List.length_cons, List.length_nil]; omega) ?_)))
      have e : escB s.data.toList.length i c = [c] := by unfold escB; rw [if_neg (by rw [ho]; exact Bool.false_ne_true), if_neg (by rw [hk]; exact Bool.false_ne_true)]
      rw [e] at next
      exact next
    have plain : oddB c = false → Ev (fun k => brookref1_escaped.j1 k s (mk (escTo s.data.toList i)) (i : Int) (c.toNat : Int) false) (mk (escV s.data.toList)) := by
      intro ho
      refine Ev.step (fun k => by rw [brookref1_escaped.j1]) (Ev.ifn Bool.false_ne_true ?_)
      have hin := in_ev (⟨#[44, 43, 34, 92, 60, 62, 59]⟩ : ByteArray) (by decide) c
      rw [show (⟨#[44, 43, 34, 92, 60, 62, 59]⟩ : ByteArray).data.toList = [44, 43, 34, 92, 60, 62, 59] from rfl, in_special] at hin
      refine hin.bind ?_
      by_cases hsp : specialB c = true
      · exact Ev.ifp hsp (back ho (by unfold backB; rw [hsp, Bool.true_or, Bool.true_or]))
      refine Ev.ifn hsp ?_
      have hsp' := Bool.eq_false_iff.2 hsp
      by_cases h0 : i = 0
      · refine Ev.ifp (by omega) ?_
        by_cases h35 : c = 35
        · exact Ev.ifp ((u8i c 35).2 h35) (back ho (by unfold backB; rw [h0, h35]; rfl))
        refine Ev.ifn (fun e => h35 ((u8i c 35).1 e)) ?_
        by_cases h32 : c = 32
        · exact Ev.ifp ((u8i c 32).2 h32) (back ho (by unfold backB; rw [h0, h32]; rfl))
        refine Ev.ifn (fun e => h32 ((u8i c 32).1 e)) ?_
        have hk : backB s.data.toList.length i c = false := by unfold backB; rw [hsp', decide_eq_false h35, decide_eq_false h32]; simp
        by_cases hl : (i : Int) = wrap64 ((s.size : Int) - 1)
        · exact Ev.ifp hl (bare ho hk)
        · exact Ev.ifn hl (bare ho hk)
      · refine Ev.ifn (by omega) ?_
        by_cases hl : (i : Int) = wrap64 ((s.size : Int) - 1)
        · refine Ev.ifp hl ?_
          rw [w2] at hl
          by_cases h32 : c = 32
          · exact Ev.ifp ((u8i c 32).2 h32) (back ho (by unfold backB; rw [h32, decide_eq_true (show i + 1 = s.data.toList.length by omega)]; simp))
          · exact Ev.ifn (fun e => h32 ((u8i c 32).1 e)) (bare ho (by unfold backB; rw [hsp', decide_eq_false h0, decide_eq_false h32]; simp))
        · refine Ev.ifn hl ?_
          rw [w2] at hl
          exact bare ho (by unfold backB; rw [hsp', decide_eq_false h0, decide_eq_false (show ¬ i + 1 = s.data.toList.length by omega)]; simp)
    refine Ev.step (fun k => by rw [brookref1_escaped.l0]) (Ev.ifp (by omega) (Ev.ifp (by omega) ?_))
    rw [hb]
    have t32 : (32 : UInt8).toNat = 32 := rfl
    have t126 : (126 : UInt8).toNat = 126 := rfl
    by_cases g1 : c < 32
    · have : c.toNat < (32 : UInt8).toNat := g1
      exact Ev.ifp (by omega) (odd (by unfold oddB; rw [decide_eq_true g1, Bool.true_or]))
    · have g1' : ¬ c.toNat < (32 : UInt8).toNat := g1
      refine Ev.ifn (by omega) ?_
      by_cases g2 : 126 < c
      · have : (126 : UInt8).toNat < c.toNat := g2
        rw [decide_eq_true (show (c.toNat : Int) > 126 by omega)]
        exact odd (by unfold oddB; rw [decide_eq_true g2, Bool.or_true])
      · have g2' : ¬ (126 : UInt8).toNat < c.toNat := g2
        rw [decide_eq_false (show ¬ (c.toNat : Int) > 126 by omega)]
        exact plain (by unfold oddB; rw [decide_eq_false g1, decide_eq_false g2]; rfl)
theorem ref_escaped (s : ByteArray) (hs : s.size ≤ 1073741824) : Ev (fun k => brookref1_escaped.f k s) (mk (escV s.data.toList)) := escaped_loop s hs s.size 0 (by omega) (by omega)
theorem rd_S (rs : List SR) (i : Nat) : rd_T41 rs (i : Int) = rs.getD i z41 := by unfold rd_T41; rw [Int.toNat_natCast]
theorem text_loop (rs : List SR) (hb : ∀ i, i < rs.length → (rs.getD i z41).f0.size ≤ 1073741824 ∧ (rs.getD i z41).f1.size ≤ 1073741824) (hl : (textL rs).length ≤ 1125899906842624) (hn : rs.length ≤ 1073741824) : ∀ n i : Nat, rs.length - i = n → i ≤ rs.length →
    Ev (fun k => brookref1_TextDn.l0 k rs (mk (textTo rs i)) (i : Int)) (mk (textL rs)) := by
  intro n
  induction n with
  | zero =>
    intro i h1 h2
    have e : i = rs.length := by omega
    refine Ev.step (fun k => by rw [brookref1_TextDn.l0]) (Ev.ifn (by omega) ?_)
    subst e
    exact Ev.now _
  | succ n ih =>
    intro i h1 h2
    have hnext := ih (i + 1) (by omega) (by omega)
    rw [textTo_succ] at hnext
    obtain ⟨b0, b1⟩ := hb i (by omega)
    have hlen := textTo_max rs i (by omega)
    refine Ev.step (fun k => by rw [brookref1_TextDn.l0]) (Ev.ifp (by omega) ?_)
    rw [rd_S, wrap_small ((i : Int) + 1) (by omega) (by omega), show (i : Int) + 1 = ((i + 1 : Nat) : Int) by omega]
    generalize rs.getD i z41 = r at hnext b0 b1
    have he := ref_escaped r.f1 b1
    have l3 := escTo_len3 r.f1.data.toList r.f1.data.toList.length
    rw [size_len] at b0 b1
    by_cases h0 : i = 0
    · refine Ev.ifn (by omega) (Ev.ifp (by omega) (Ev.ifp (by rw [mk_size, size_len]; omega) ?_))
      rw [← mk_of r.f0, mk_app]
      refine Ev.ifp (by rw [mk_size, List.length_append]; omega) (he.bind ?_)
      rw [show (⟨#[61]⟩ : ByteArray) = mk [61] from rfl, mk_app, mk_app]
      refine Ev.ifp (by rw [mk_size, mk_size]; unfold escV; simp only [List.length_append, List.length_cons, List.length_nil]; omega) ?_
      unfold sepB rdnB at hnext
      rw [if_pos h0] at hnext
      simp only [List.nil_append, List.append_assoc] at hnext ⊢
      exact hnext
    · refine Ev.ifp (by omega) (Ev.ifp (by rw [mk_size]; omega) (Ev.ifp (by omega) ?_))
      rw [show (⟨#[44]⟩ : ByteArray) = mk [44] from rfl, mk_app, ← mk_of r.f0, mk_app]
      refine Ev.ifp (by rw [mk_size, mk_size]; simp only [List.length_append, List.length_cons, List.length_nil]; omega) (Ev.ifp (by rw [mk_size]; simp only [List.length_append, List.length_cons, List.length_nil]; omega) (he.bind ?_))
      rw [show (⟨#[61]⟩ : ByteArray) = mk [61] from rfl, mk_app, mk_app]
      refine Ev.ifp (by rw [mk_size, mk_size]; unfold escV; simp only [List.length_append, List.length_cons, List.length_nil]; omega) ?_
      unfold sepB rdnB at hnext
      rw [if_neg h0] at hnext
      simp only [List.append_assoc] at hnext ⊢
      exact hnext
theorem ref_text (rs : List SR) (hb : ∀ i, i < rs.length → (rs.getD i z41).f0.size ≤ 1073741824 ∧ (rs.getD i z41).f1.size ≤ 1073741824) (hl : (textL rs).length ≤ 1125899906842624) (hn : rs.length ≤ 1073741824) :
    Ev (fun k => brookref1_TextDn.f k rs) (mk (textL rs)) := text_loop rs hb hl hn rs.length 0 (by omega) (by omega)
def foldG (acc : List UInt8) (gap : Bool) : List UInt8 → List UInt8
  | [] => acc
  | c :: r => if c = 32 then foldG acc (decide (acc ≠ [])) r else foldG (acc ++ (if gap = true then [32] else []) ++ [c]) false r
theorem fold_loop (s : ByteArray) (hs : s.size ≤ 1073741824) : ∀ (n i : Nat) (acc : List UInt8) (gap : Bool), s.size - i = n → i ≤ s.size → acc.length ≤ 2 * i →
    Ev (fun k => brookref1_Fold.l0 k s (mk acc) gap (i : Int)) (mk (foldG acc gap (s.data.toList.drop i))) := by
  intro n
  have hlen : s.data.toList.length = s.size := (size_len s).symm
  induction n with
  | zero =>
    intro i acc gap hn hi ha
    refine Ev.step (fun k => by rw [brookref1_Fold.l0]) (Ev.ifn (by omega) ?_)
    rw [List.drop_eq_nil_of_le (by omega)]
    exact Ev.now _
  | succ n ih =>
    intro i acc gap hn hi ha
    have hd := drop_cons s.data.toList i (by omega)
    generalize hc : s.data.toList.getD i 0 = c at hd
    have hb : bt s (i : Int) = (c.toNat : Int) := by rw [bt_nat, hc]
    have w1 : wrap64 ((i : Int) + 1) = (i : Int) + 1 := wrap_small _ (by omega) (by omega)
    have hx : s.extract (i : Int).toNat (wrap64 ((i : Int) + 1)).toNat = mk [c] := by
      rw [w1, Int.toNat_natCast, show ((i : Int) + 1).toNat = i + 1 by omega, extract_one s i (by omega), hc]
    refine Ev.step (fun k => by rw [brookref1_Fold.l0]) (Ev.ifp (by omega) (Ev.ifp (by omega) ?_))
    rw [hd, foldG, hb]
    by_cases h32 : c = 32
    · rw [if_pos h32]
      refine Ev.ifp ((u8i c 32).2 h32) ?_
      have e : ((mk acc).toList != []) = decide (acc ≠ []) := by rw [bne_nil]; by_cases h : acc = [] <;> simp [h]
      rw [e, w1, show (i : Int) + 1 = ((i + 1 : Nat) : Int) by omega]
      exact ih (i + 1) acc _ (by omega) (by omega) (by omega)
    · rw [if_neg h32]
      refine Ev.ifn (fun e => h32 ((u8i c 32).1 e)) ?_
      rw [hx, show (⟨#[32]⟩ : ByteArray) = mk [32] from rfl, mk_app, mk_app, mk_app]
      cases gap with
      | true =>
        refine Ev.ifp rfl (Ev.ifp (by rw [mk_size]; omega) (Ev.ifp (by rw [w1]; omega) (Ev.ifp (by rw [w1]; omega) (Ev.ifp (by rw [mk_size, mk_size]; simp only [List.length_append, List.length_cons, List.length_nil]; omega) ?_))))
        rw [w1, show (i : Int) + 1 = ((i + 1 : Nat) : Int) by omega]
        exact ih (i + 1) (acc ++ [32] ++ [c]) false (by omega) (by omega) (by simp only [List.length_append, List.length_cons, List.length_nil]; omega)
      | false =>
        refine Ev.ifn Bool.false_ne_true (Ev.ifp (by rw [w1]; omega) (Ev.ifp (by rw [w1]; omega) (Ev.ifp (by rw [mk_size, mk_size]; simp only [List.length_cons, List.length_nil]; omega) ?_)))
        rw [w1, show (i : Int) + 1 = ((i + 1 : Nat) : Int) by omega, if_neg Bool.false_ne_true, List.append_nil]
        exact ih (i + 1) (acc ++ [c]) false (by omega) (by omega) (by simp only [List.length_append, List.length_cons, List.length_nil]; omega)
def trR : List UInt8 → List UInt8
  | [] => []
  | c :: r => if c = 32 ∧ trR r = [] then [] else c :: trR r
theorem trR_eq : ∀ l : List UInt8, Lib.trimRightB l 32 = trR l
  | [] => rfl
  | c :: r => by
    have ih := trR_eq r
    unfold Lib.trimRightB at ih ⊢
    rw [List.reverse_cons, List.dropWhile_append, trR]
    rw [← ih]
    by_cases h : (r.reverse.dropWhile (· == 32)) = []
    · have e1 : (r.reverse.dropWhile (· == 32)).isEmpty = true := by rw [h]; rfl
      rw [if_pos e1, h]
      by_cases hc : c = 32
      · rw [if_pos ⟨hc, rfl⟩, hc]; rfl
      · rw [if_neg (fun x => hc x.1)]
        have : ([c].dropWhile (· == 32)) = [c] := by rw [List.dropWhile_cons, if_neg (by rw [beq_iff_eq]; exact hc)]
        rw [this]; rfl
    · have e1 : ¬ (r.reverse.dropWhile (· == 32)).isEmpty = true := by rw [List.isEmpty_iff]; exact h
      rw [if_neg e1, List.reverse_append, if_neg (fun x => h (List.reverse_eq_nil_iff.1 x.2))]; rfl
theorem foldG_acc : ∀ (r acc : List UInt8) (gap : Bool), acc ≠ [] → foldG acc gap r = acc ++ (if trR r = [] then [] else (if gap = true then [32] else []) ++ sqR gap (trR r))
  | [], acc, gap, h => by simp [foldG, trR]
  | c :: r, acc, gap, h => by
    by_cases hc : c = 32
    · rw [foldG, if_pos hc, decide_eq_true h, foldG_acc r acc true h]
      by_cases ht : trR r = []
      · have e : trR (c :: r) = [] := by rw [trR, if_pos ⟨hc, ht⟩]
        rw [if_pos ht, e, if_pos rfl]
      · have e : trR (c :: r) = c :: trR r := by rw [trR, if_neg (fun x => ht x.2)]
        rw [if_neg ht, e, if_neg (List.cons_ne_nil _ _)]
        cases gap with
        | true =>
          have e2 : sqR true (c :: trR r) = sqR true (trR r) := by rw [sqR, if_pos ⟨hc, rfl⟩]
          rw [e2]
        | false =>
          have e2 : sqR false (c :: trR r) = 32 :: sqR true (trR r) := by rw [sqR, if_neg (fun x => Bool.false_ne_true x.2), decide_eq_true hc, hc]
          rw [e2]; rfl
    · have e : trR (c :: r) = c :: trR r := by rw [trR, if_neg (fun x => hc x.1)]
      have e2 : sqR gap (c :: trR r) = c :: sqR false (trR r) := by rw [sqR, if_neg (fun x => hc x.1), decide_eq_false hc]
      rw [foldG, if_neg hc, foldG_acc r _ false (by simp), e, if_neg (List.cons_ne_nil _ _), e2]
      have : (if trR r = [] then ([] : List UInt8) else (if false = true then [32] else []) ++ sqR false (trR r)) = sqR false (trR r) := by
        by_cases ht : trR r = []
        · rw [if_pos ht, ht]; rfl
        · rw [if_neg ht, if_neg Bool.false_ne_true]; rfl
      rw [this]
      simp only [List.append_assoc, List.singleton_append]
theorem foldG_nil : ∀ r : List UInt8, foldG [] false r = sqR false (Lib.trimB r 32)
  | [] => rfl
  | c :: r => by
    unfold Lib.trimB
    rw [trR_eq]
    by_cases hc : c = 32
    · rw [foldG, if_pos hc, decide_eq_false (by simp), foldG_nil r]
      unfold Lib.trimB
      rw [trR_eq]
      by_cases ht : trR r = []
      · have e : trR (c :: r) = [] := by rw [trR, if_pos ⟨hc, ht⟩]
        rw [e, ht]
      · have e : trR (c :: r) = c :: trR r := by rw [trR, if_neg (fun x => ht x.2)]
        rw [e]
        unfold Lib.trimLeftB
        rw [List.dropWhile_cons, if_pos (by rw [hc]; rfl)]
    · have e : trR (c :: r) = c :: trR r := by rw [trR, if_neg (fun x => hc x.1)]
      have e2 : sqR false (c :: trR r) = c :: sqR false (trR r) := by rw [sqR, if_neg (fun x => hc x.1), decide_eq_false hc]
      rw [e, foldG, if_neg hc, foldG_acc r _ false (by simp)]
      unfold Lib.trimLeftB
      rw [List.dropWhile_cons, if_neg (show ¬ (c == 32) = true by rw [beq_iff_eq]; exact hc), e2]
      by_cases ht : trR r = []
      · rw [if_pos ht, ht]; rfl
      · rw [if_neg ht, if_neg Bool.false_ne_true]; rfl
theorem trR_low : ∀ l : List UInt8, trR (l.map lowB) = (trR l).map lowB
  | [] => rfl
  | c :: r => by
    rw [List.map_cons, trR, trR, trR_low r]
    by_cases h : c = 32 ∧ trR r = []
    · rw [if_pos h, if_pos ⟨(lowB_blank c).2 h.1, by rw [h.2]; rfl⟩]; rfl
    · rw [if_neg h, if_neg (fun x => h ⟨(lowB_blank c).1 x.1, List.map_eq_nil_iff.1 x.2⟩)]; rfl
theorem dropW_low : ∀ l : List UInt8, (l.map lowB).dropWhile (· == 32) = (l.dropWhile (· == 32)).map lowB
  | [] => rfl
  | c :: r => by
    rw [List.map_cons, List.dropWhile_cons, List.dropWhile_cons]
    by_cases h : c = 32
    · rw [if_pos (by rw [h]; rfl), if_pos (by rw [h]; rfl), dropW_low r]
    · rw [if_neg (by rw [beq_iff_eq]; exact fun e => h ((lowB_blank c).1 e)), if_neg (by rw [beq_iff_eq]; exact h)]; rfl
theorem trim_low (l : List UInt8) : Lib.trimB (l.map lowB) 32 = (Lib.trimB l 32).map lowB := by
  unfold Lib.trimB Lib.trimLeftB
  rw [trR_eq, trR_eq, trR_low, dropW_low]
theorem ref_fold (s : ByteArray) (hs : s.size ≤ 1073741824) : Ev (fun k => brookref1_Fold.f k s) (mk (foldL s.data.toList)) := by
  unfold brookref1_Fold.f
  rw [ref_lower s (by omega)]
  refine Ev.bs ?_
  have h := fold_loop (lowS s) (by rw [lowS_size]; exact hs) (lowS s).size 0 [] false (by omega) (by omega) (by simp)
  rw [List.drop_zero, lowS_data, foldG_nil, trim_low] at h
  rw [foldL_R]
  exact h
end Go.Proofs.YtpcjjpkmebgjjaaGreatDoor.P


namespace Go.Proofs.YtpcjjpkmebgjjaaGreatDoor.P
open Go.RowKit Go.Proofs.YtpcjjpkmebgjjaaGreatDoorW.PrintWords Go.Proofs.YtpcjjpkmebgjjaaGreatDoorW.PrintLast Go.Proofs.YtpcjjpkmebgjjaaGreatDoorW.PrintMore
set_option linter.unusedVariables false
set_option linter.unusedSimpArgs false
def hexI (c : UInt8) : Int := if isHexB c = true then ((hexVB c).toNat : Int) else -1
theorem hex_at (c : UInt8) : brookref1_hex.f 3 (c.toNat : Int) = some (hexI c) := byteAll (p := fun c => brookref1_hex.f 3 (c.toNat : Int) = some (hexI c)) (by decide +kernel) c
theorem hex_ev (c : UInt8) : Ev (fun k => brookref1_hex.f k (c.toNat : Int)) (hexI c) := Ev.of (fun k => brookref1_hex.mono _ k) (hex_at c)
theorem hexI_ge (c : UInt8) : (hexI c ≥ 0) ↔ isHexB c = true := by
  unfold hexI
  by_cases h : isHexB c = true
  · rw [if_pos h]; exact ⟨fun _ => h, fun _ => by omega⟩
  · rw [if_neg h]; exact ⟨fun e => by omega, fun e => absurd e h⟩
theorem hex_sum : ∀ a b : Fin 16, (wrap64 ((wrap64 ((a.val : Int) * 16)) + (b.val : Int))) % 256 = ((UInt8.ofNat a.val * 16 + UInt8.ofNat b.val).toNat : Int) := by decide +kernel
theorem hex_two' (c d : UInt8) (hc : isHexB c = true) (hd : isHexB d = true) : (wrap64 ((wrap64 (hexI c * 16)) + hexI d)) % 256 = ((hexVB c * 16 + hexVB d).toNat : Int) := by
  have h := hex_sum ⟨(hexVB c).toNat, hexVB_lt c hc⟩ ⟨(hexVB d).toNat, hexVB_lt d hd⟩
  unfold hexI
  rw [if_pos hc, if_pos hd]
  simpa using h
def valW (f sp : Bool) (l : List UInt8) : Option (List UInt8) := (valG f sp l).bind fun q => if q.2 = [] then some q.1 else none
def spec6 (c : UInt8) : Bool := ([44, 43, 34, 60, 62, 59] : List UInt8).any (· == c)
theorem spec6_eq (c : UInt8) : c ≠ 92 → spec6 c = specialB c := byteAll (p := fun c => c ≠ 92 → spec6 c = specialB c) (by decide +kernel) c
def esc10 (c : UInt8) : Bool := ([44, 43, 34, 92, 60, 62, 59, 61, 35, 32] : List UInt8).any (· == c)
theorem esc10_eq (c : UInt8) : esc10 c = (specialB c || c == 61 || c == 35 || c == 32) := byteAll (p := fun c => esc10 c = (specialB c || c == 61 || c == 35 || c == 32)) (by decide +kernel) c
theorem esc_hex (c : UInt8) : (specialB c || c == 61 || c == 35 || c == 32) = true → isHexB c = false := byteAll (p := fun c => (specialB c || c == 61 || c == 35 || c == 32) = true → isHexB c = false) (by decide +kernel) c
theorem valW_nil (f sp : Bool) : valW f sp [] = if sp = true then none else some [] := by
  unfold valW; rw [valG]; cases sp <;> rfl
theorem valW_comma (f sp : Bool) (r : List UInt8) : valW f sp (44 :: r) = none := by
  unfold valW; rw [valG, if_pos rfl]; cases sp <;> rfl
theorem valW_back (f sp : Bool) (r : List UInt8) : valW f sp (92 :: r) = match escN r with | none => none | some (b, n) => (valW false false (r.drop n)).map (b :: ·) := by
  unfold valW
  rw [valG, if_neg (by decide), if_pos rfl]
  cases escN r with
  | none => rfl
  | some q =>
    obtain ⟨b, n⟩ := q
    show ((valG false false (r.drop n)).map _).bind _ = ((valG false false (r.drop n)).bind _).map _
    generalize valG false false (r.drop n) = x
    cases x with
    | none => rfl
    | some p =>
      obtain ⟨v, t⟩ := p
      simp only [Option.map_some, Option.bind_some]
      by_cases h : t = []
      · rw [if_pos h, if_pos h]; rfl
      · rw [if_neg h, if_neg h]; rfl
theorem valW_raw (f sp : Bool) (c : UInt8) (r : List UInt8) (h1 : c ≠ 44) (h2 : c ≠ 92) : valW f sp (c :: r) = if badB f c = true then none else (valW false (c == 32) r).map (c :: ·) := by
  unfold valW
  rw [valG, if_neg h1, if_neg h2]
  by_cases hb : badB f c = true
  · rw [if_pos hb, if_pos hb]; rfl
  · rw [if_neg hb, if_neg hb]
    cases valG false (c == 32) r with
    | none => rfl
    | some p =>
      obtain ⟨v, t⟩ := p
      simp only [Option.map_some, Option.bind_some]
      by_cases h : t = []
      · rw [if_pos h, if_pos h]; rfl
      · rw [if_neg h, if_neg h]; rfl
theorem valW_sp (f : Bool) (c : UInt8) (r : List UInt8) : valW f true (c :: r) = valW f false (c :: r) := by
  by_cases h1 : c = 44
  · rw [h1, valW_comma, valW_comma]
  by_cases h2 : c = 92
  · rw [h2, valW_back, valW_back]
  · rw [valW_raw _ _ _ _ h1 h2, valW_raw _ _ _ _ h1 h2]
def endV (o : List UInt8) (x : Option (List UInt8)) : ByteArray × Bool := match x with | some v => (mk (o ++ v), true) | none => (mk [], false)
theorem endV_push (o : List UInt8) (b : UInt8) (x : Option (List UInt8)) : endV (o ++ [b]) x = endV o (x.map (b :: ·)) := by
  cases x with
  | none => rfl
  | some v => unfold endV; simp
theorem w_1 (i : Nat) (h : i < 4611686018427387904) : wrap64 ((i : Int) + 1) = ((i + 1 : Nat) : Int) := by
  rw [wrap_small _ (by omega) (by omega)]; omega
theorem w_2 (i : Nat) (h : i < 4611686018427387904) : wrap64 ((i : Int) + 2) = ((i + 2 : Nat) : Int) := by
  rw [wrap_small _ (by omega) (by omega)]; omega
theorem w_m (n : Nat) (h : 0 < n ∧ n < 4611686018427387904) : wrap64 ((n : Int) - 1) = (n : Int) - 1 := wrap_small _ (by omega) (by omega)
set_option maxHeartbeats 4000000 in
theorem rvalue_loop (s : ByteArray) (hs : s.size ≤ 1073741824) : ∀ (n i : Nat) (o : List UInt8), s.size - i = n → i ≤ s.size → o.length ≤ i →
    Ev (fun k => brookref1_value.l0 k s (numsB o) (i : Int)) (endV o (valW (decide (i = 0)) false (s.data.toList.drop i))) := by
  intro n
  have hlen : s.data.toList.length = s.size := (size_len s).symm
  induction n using Nat.strongRecOn with
  | _ n ih =>
    intro i o hn hi ho
    by_cases hlt : i < s.size
    · have hd := drop_cons s.data.toList i (by omega)
      generalize hc : s.data.toList.getD i 0 = c at hd
      have hb : bt s (i : Int) = (c.toNat : Int) := by rw [bt_nat, hc]
      refine Ev.step (fun k => by rw [brookref1_value.l0]) (Ev.ifp (by omega) (Ev.ifp (by omega) ?_))
      rw [hd, hb, w_1 i (by omega), w_2 i (by omega)]
      by_cases h92 : c = 92
      · rw [h92, valW_back]
        refine Ev.ifp rfl ?_
        have j2 : ∀ (d : UInt8) (r : List UInt8), s.data.toList.drop (i + 1) = d :: r → (specialB d || d == 61 || d == 35 || d == 32) = true →
            Ev (fun k => brookref1_value.j2 k s (numsB o) (i : Int) false) (endV o (match escN (d :: r) with | none => none | some (b, n) => (valW false false ((d :: r).drop n)).map (b :: ·))) := by
          intro d r hr hd2
          have hl2 := congrArg List.length hr
          rw [List.length_drop, List.length_cons] at hl2
          rw [escN_t d r hd2]
          refine Ev.step (fun k => by rw [brookref1_value.j2]) (Ev.ifn Bool.false_ne_true ?_)
          rw [w_1 i (by omega)]
          refine Ev.ifp (by omega) (Ev.ifp (by omega) (Ev.ifp (by rw [numsB_len]; omega) ?_))
          have hb2 : bt s ((i + 1 : Nat) : Int) = (d.toNat : Int) := by
            have := drop_cons s.data.toList (i + 1) (by omega)
            rw [hr] at this
            rw [bt_nat, ← (List.cons.inj this).1]
          have hr2 : s.data.toList.drop (i + 2) = r := by
            have := drop_cons s.data.toList (i + 1) (by omega)
            rw [hr] at this
            exact (List.cons.inj this).2.symm
          rw [hb2, ← numsB_snoc, w_1 (i + 1) (by omega)]
          have := ih (s.size - (i + 2)) (by omega) (i + 2) (o ++ [d]) rfl (by omega) (by rw [List.length_append, List.length_singleton]; omega)
          rw [hr2, endV_push, show decide (i + 2 = 0) = false from decide_eq_false (by omega)] at this
          exact this
        have j2t : Ev (fun k => brookref1_value.j2 k s (numsB o) (i : Int) true) (endV o none) := by
          show Ev _ ((⟨#[]⟩ : ByteArray), false)
          exact Ev.step (fun k => by rw [brookref1_value.j2]) (Ev.ifp rfl (Ev.now _))
        have j1f : (∀ d e r, s.data.toList.drop (i + 1) = d :: e :: r → (isHexB d && isHexB e) = false) → Ev (fun k => brookref1_value.j1 k s (numsB o) (i : Int) false) (endV o (match escN (s.data.toList.drop (i + 1)) with | none => none | some (b, n) => (valW false false ((s.data.toList.drop (i + 1)).drop n)).map (b :: ·))) := by
          intro hno
          refine Ev.step (fun k => by rw [brookref1_value.j1]) (Ev.ifn Bool.false_ne_true ?_)
          rw [w_1 i (by omega)]
          cases hr : s.data.toList.drop (i + 1) with
          | nil =>
            have hl2 := congrArg List.length hr
            rw [List.length_drop, List.length_nil] at hl2
            exact Ev.ifp (by omega) j2t
          | cons d r =>
            have hl2 := congrArg List.length hr
            rw [List.length_drop, List.length_cons] at hl2
            have hb2 : bt s ((i + 1 : Nat) : Int) = (d.toNat : Int) := by
              have := drop_cons s.data.toList (i + 1) (by omega)
              rw [hr] at this
              rw [bt_nat, ← (List.cons.inj this).1]
            refine Ev.ifn (by omega) (Ev.ifp (by omega) (Ev.ifp (by omega) ?_))
            rw [hb2]
            have hin := in_ev (⟨#[44, 43, 34, 92, 60, 62, 59, 61, 35, 32]⟩ : ByteArray) (by decide) d
            refine hin.bind ?_
            show Ev (fun k => brookref1_value.j2 k s (numsB o) (i : Int) (!(esc10 d))) _
            rw [esc10_eq]
            cases hd2 : (specialB d || d == 61 || d == 35 || d == 32) with
            | true => exact j2 d r hr hd2
            | false =>
              have e : escN (d :: r) = none := by
                cases r with
                | nil => exact escN_f1 d hd2
                | cons e r => rw [escN_f2 d e r hd2, hno d e r hr]; rfl
              rw [e]
              exact j2t
        by_cases h2 : i + 2 < s.size
        · refine Ev.ifp (by omega) (Ev.ifp (by omega) (Ev.ifp (by omega) ?_))
          obtain ⟨d, hd0⟩ : ∃ d, s.data.toList.getD (i + 1) 0 = d := ⟨_, rfl⟩
          obtain ⟨e, he0⟩ : ∃ e, s.data.toList.getD (i + 2) 0 = e := ⟨_, rfl⟩
          have hr : s.data.toList.drop (i + 1) = d :: e :: s.data.toList.drop (i + 3) := by
            rw [drop_cons s.data.toList (i + 1) (by omega), drop_cons s.data.toList (i + 2) (by omega), hd0, he0]
          have hb1 : bt s ((i + 1 : Nat) : Int) = (d.toNat : Int) := by rw [bt_nat, hd0]
          have hb2 : bt s ((i + 2 : Nat) : Int) = (e.toNat : Int) := by rw [bt_nat, he0]
          rw [hb1]
          refine (hex_ev d).bind ?_
          by_cases hx : isHexB d = true
          · refine Ev.ifp ((hexI_ge d).2 hx) (Ev.ifp (by omega) ?_)
            rw [hb2]
            refine (hex_ev e).bind ?_
            by_cases hy : isHexB e = true
            · rw [decide_eq_true ((hexI_ge e).2 hy)]
              have hd2 : (specialB d || d == 61 || d == 35 || d == 32) = false := by
                cases h : (specialB d || d == 61 || d == 35 || d == 32) with
                | false => rfl
                | true => rw [esc_hex d h] at hx; cases hx
              rw [hr, escN_f2 d e _ hd2, hx, hy]
              refine Ev.step (fun k => by rw [brookref1_value.j1]) (Ev.ifp rfl ?_)
              rw [w_1 i (by omega), w_2 i (by omega), hb1, hb2]
              refine Ev.ifp (by omega) (Ev.ifp (by omega) ((hex_ev d).bind (Ev.ifp (by omega) (Ev.ifp (by omega) ((hex_ev e).bind (Ev.ifp (by rw [numsB_len]; omega) ?_))))))
              rw [hex_two' d e hx hy, ← numsB_snoc, w_1 (i + 2) (by omega)]
              have := ih (s.size - (i + 3)) (by omega) (i + 3) (o ++ [hexVB d * 16 + hexVB e]) rfl (by omega) (by rw [List.length_append, List.length_singleton]; omega)
              rw [endV_push, show decide (i + 3 = 0) = false from decide_eq_false (by omega)] at this
              exact this
            · rw [decide_eq_false (fun h => hy ((hexI_ge e).1 h))]
              refine j1f (fun d' e' r' h' => ?_)
              rw [hr] at h'
              have q2 := (List.cons.inj (List.cons.inj h').2).1
              rw [← q2, Bool.eq_false_iff.2 hy, Bool.and_false]
          · refine Ev.ifn (fun h => hx ((hexI_ge d).1 h)) (j1f (fun d' e' r' h' => ?_))
            rw [hr] at h'
            have q1 := (List.cons.inj h').1
            rw [← q1, Bool.eq_false_iff.2 hx, Bool.false_and]
        · refine Ev.ifn (by omega) (j1f (fun d' e' r' h' => ?_))
          have := congrArg List.length h'
          rw [List.length_drop] at this
          simp only [List.length_cons] at this
          omega
      · refine Ev.ifn (fun h => h92 ((u8i c 92).1 h)) ?_
        have t32 : (32 : UInt8).toNat = 32 := rfl
        have t126 : (126 : UInt8).toNat = 126 := rfl
        have fail : valW (decide (i = 0)) false (c :: s.data.toList.drop (i + 1)) = none → Ev (fun _ => some ((⟨#[]⟩ : ByteArray), false)) (endV o (valW (decide (i = 0)) false (c :: s.data.toList.drop (i + 1)))) := by
          intro h; rw [h]; exact Ev.now _
        by_cases h44 : c = 44
        · rw [h44, valW_comma]
          refine Ev.ifn (by decide) (Ev.ifn (by decide) ?_)
          have hin := in_ev (⟨#[44, 43, 34, 60, 62, 59]⟩ : ByteArray) (by decide) 44
          exact hin.bind (Ev.ifp (by decide) (Ev.now _))
        have raw := valW_raw (decide (i = 0)) false c (s.data.toList.drop (i + 1)) h44 h92
        by_cases g1 : c < 32
        · have : c.toNat < (32 : UInt8).toNat := g1
          exact Ev.ifp (by omega) (fail (by rw [raw, if_pos (by unfold badB; rw [decide_eq_true g1]; rfl)]))
        have g1' : ¬ c.toNat < (32 : UInt8).toNat := g1
        refine Ev.ifn (by omega) ?_
        by_cases g2 : 126 < c
        · have : (126 : UInt8).toNat < c.toNat := g2
          exact Ev.ifp (by omega) (fail (by rw [raw, if_pos (by unfold badB; rw [decide_eq_true g2, Bool.or_true]; rfl)]))
        have g2' : ¬ (126 : UInt8).toNat < c.toNat := g2
        refine Ev.ifn (by omega) ?_
        have hin := in_ev (⟨#[44, 43, 34, 60, 62, 59]⟩ : ByteArray) (by decide) c
        refine hin.bind ?_
        show Ev (fun k => if spec6 c = true then _ else _) _
        rw [spec6_eq c h92]
        by_cases hsp : specialB c = true
        · exact Ev.ifp hsp (fail (by rw [raw, if_pos (by unfold badB; rw [hsp, Bool.or_true]; rfl)]))
        refine Ev.ifn hsp ?_
        have base : badB (decide (i = 0)) c = (decide (i = 0) && (c == 35 || c == 32)) := by unfold badB; rw [decide_eq_false g1, decide_eq_false g2, Bool.eq_false_iff.2 hsp]; rfl
        have go : badB (decide (i = 0)) c = false → (s.data.toList.drop (i + 1) = [] → c ≠ 32) → Ev (fun k => if (numsB o).length < 140737488355328 then (brookref1_value.l0 k s (numsB o ++ [(c.toNat : Int)]) ((i + 1 : Nat) : Int)) else none) (endV o (valW (decide (i = 0)) false (c :: s.data.toList.drop (i + 1)))) := by
          intro hbad hlast
          refine Ev.ifp (by rw [numsB_len]; omega) ?_
          rw [raw, if_neg (by rw [hbad]; exact Bool.false_ne_true), ← numsB_snoc, ← endV_push]
          have := ih (s.size - (i + 1)) (by omega) (i + 1) (o ++ [c]) rfl (by omega) (by rw [List.length_append, List.length_singleton]; omega)
          rw [show decide (i + 1 = 0) = false from decide_eq_false (by omega)] at this
          have e : valW false (c == 32) (s.data.toList.drop (i + 1)) = valW false false (s.data.toList.drop (i + 1)) := by
            by_cases h32 : c = 32
            · cases hr : s.data.toList.drop (i + 1) with
              | nil => exact absurd h32 (hlast hr)
              | cons d r => rw [h32]; exact valW_sp false d r
            · rw [beq_eq_false_iff_ne.2 h32]
          rw [e]
          exact this
        by_cases h0 : i = 0
        · refine Ev.ifp (by omega) ?_
          by_cases h35 : c = 35
          · exact Ev.ifp ((u8i c 35).2 h35) (fail (by rw [raw, base, h35, decide_eq_true h0]; rfl))
          refine Ev.ifn (fun h => h35 ((u8i c 35).1 h)) ?_
          by_cases h32 : c = 32
          · exact Ev.ifp ((u8i c 32).2 h32) (fail (by rw [raw, base, h32, decide_eq_true h0]; rfl))
          refine Ev.ifn (fun h => h32 ((u8i c 32).1 h)) ?_
          have hbad : badB (decide (i = 0)) c = false := by rw [base, beq_eq_false_iff_ne.2 h35, beq_eq_false_iff_ne.2 h32]; simp
          by_cases hl : (i : Int) = wrap64 ((s.size : Int) - 1)
          · exact Ev.ifp hl (go hbad (fun _ => h32))
          · exact Ev.ifn hl (go hbad (fun _ => h32))
        · refine Ev.ifn (by omega) ?_
          have hbad : badB (decide (i = 0)) c = false := by rw [base, decide_eq_false h0]; rfl
          by_cases hl : (i : Int) = wrap64 ((s.size : Int) - 1)
          · refine Ev.ifp hl ?_
            rw [w_m s.size (by omega)] at hl
            by_cases h32 : c = 32
            · refine Ev.ifp ((u8i c 32).2 h32) (fail ?_)
              rw [raw, hbad, if_neg Bool.false_ne_true, h32, List.drop_eq_nil_of_le (by omega), valW_nil]; rfl
            · exact Ev.ifn (fun h => h32 ((u8i c 32).1 h)) (go hbad (fun _ => h32))
          · refine Ev.ifn hl ?_
            rw [w_m s.size (by omega)] at hl
            refine go hbad (fun h => ?_)
            have := congrArg List.length h
            rw [List.length_drop, List.length_nil] at this
            omega
    · refine Ev.step (fun k => by rw [brookref1_value.l0]) (Ev.ifn (by omega) ?_)
      rw [List.drop_eq_nil_of_le (by omega), valW_nil, if_neg Bool.false_ne_true, strOf_numsB]
      show Ev _ (mk (o ++ []), true)
      rw [List.append_nil]
      exact Ev.now _
theorem ref_value (s : ByteArray) (hs : s.size ≤ 1073741824) : Ev (fun k => brookref1_value.f k s) (endV [] (valW true false s.data.toList)) :=
  rvalue_loop s hs s.size 0 [] (by omega) (by omega) (Nat.le_refl _)
theorem letter_eq (c : UInt8) : brookref1_letter.f (c.toNat : Int) = some (isLtr c) := byteAll (p := fun c => brookref1_letter.f (c.toNat : Int) = some (isLtr c)) (by decide +kernel) c
theorem mayType_loop (s : ByteArray) (hs : s.size ≤ 1073741824) : ∀ n i : Nat, s.size - i = n → i ≤ s.size → Ev (fun k => brookref1_MayType.l0 k s (i : Int)) ((s.data.toList.drop i).all inName) := by
  intro n
  have hlen : s.data.toList.length = s.size := (size_len s).symm
  induction n with
  | zero =>
    intro i hn hi
    refine Ev.step (fun k => by rw [brookref1_MayType.l0]) (Ev.ifn (by omega) ?_)
    rw [List.drop_eq_nil_of_le (by omega)]
    exact Ev.now _
  | succ n ih =>
    intro i hn hi
    have hd := drop_cons s.data.toList i (by omega)
    generalize hc : s.data.toList.getD i 0 = c at hd
    have hb : bt s (i : Int) = (c.toNat : Int) := by rw [bt_nat, hc]
    refine Ev.step (fun k => by rw [brookref1_MayType.l0]) (Ev.ifp (by omega) (Ev.ifp (by omega) ?_))
    rw [hd, List.all_cons, hb, letter_eq, wrap_small _ (by omega) (by omega), show (i : Int) + 1 = ((i + 1 : Nat) : Int) by omega]
    have next := ih (i + 1) (by omega) (by omega)
    refine Ev.bs ?_
    by_cases hl : isLtr c = true
    · rw [inName_ltr c hl, Bool.true_and]; exact Ev.ifp hl next
    refine Ev.ifn hl ?_
    rw [inName_digit c (Bool.eq_false_iff.2 hl)]
    by_cases h1 : (c.toNat : Int) < 48
    · refine Ev.ifp h1 ?_
      rw [decide_eq_false (show ¬ (48 : Int) ≤ (c.toNat : Int) by omega), Bool.false_and, Bool.false_or]
      by_cases h2 : (c.toNat : Int) = 45
      · rw [decide_eq_true h2, Bool.true_and]; exact Ev.ifp h2 next
      · rw [decide_eq_false h2, Bool.false_and]; exact Ev.ifn h2 (Ev.now _)
    · refine Ev.ifn h1 ?_
      rw [decide_eq_true (show (48 : Int) ≤ (c.toNat : Int) by omega), Bool.true_and]
      by_cases h3 : (c.toNat : Int) > 57
      · refine Ev.ifp h3 ?_
        rw [decide_eq_false (show ¬ (c.toNat : Int) ≤ 57 by omega), Bool.false_or]
        by_cases h2 : (c.toNat : Int) = 45
        · rw [decide_eq_true h2, Bool.true_and]; exact Ev.ifp h2 next
        · rw [decide_eq_false h2, Bool.false_and]; exact Ev.ifn h2 (Ev.now _)
      · rw [decide_eq_true (show (c.toNat : Int) ≤ 57 by omega), Bool.true_or, Bool.true_and]
        exact Ev.ifn h3 next
theorem ref_mayType (s : ByteArray) (hs : s.size ≤ 1073741824) : Ev (fun k => brookref1_MayType.f k s) (typedL s.data.toList) := by
  have hlen : s.data.toList.length = s.size := (size_len s).symm
  have jt : Ev (fun k => brookref1_MayType.j0 k s true) false := Ev.step (fun k => by rw [brookref1_MayType.j0]) (Ev.ifp rfl (Ev.now _))
  unfold brookref1_MayType.f typedL
  rw [toList_data]
  by_cases h0 : s.data.toList = []
  · have e : (!s.data.toList.isEmpty && decide (s.data.toList.length ≤ 30) && isLtr (s.data.toList.getD 0 0) && s.data.toList.all inName) = false := by rw [h0]; rfl
    rw [e]; exact Ev.ifp h0 jt
  refine Ev.ifn h0 ?_
  have hne : (!s.data.toList.isEmpty) = true := by cases h : s.data.toList with | nil => exact absurd h h0 | cons c r => rfl
  have hpos : 0 < s.data.toList.length := List.length_pos_iff.2 h0
  rw [hne, Bool.true_and]
  by_cases h1 : (s.size : Int) > 30
  · rw [decide_eq_false (show ¬ s.data.toList.length ≤ 30 by omega), Bool.false_and, Bool.false_and]; exact Ev.ifp h1 jt
  rw [decide_eq_true (show s.data.toList.length ≤ 30 by omega), Bool.true_and]
  refine Ev.ifn h1 (Ev.ifp (by omega) ?_)
  have hb : bt s 0 = ((s.data.toList.getD 0 0).toNat : Int) := bt_nat s 0
  rw [hb, letter_eq]
  refine Ev.bs ?_
  cases isLtr (s.data.toList.getD 0 0) with
  | false => rw [Bool.false_and]; exact jt
  | true =>
    rw [Bool.true_and]
    exact Ev.step (fun k => by rw [brookref1_MayType.j0]) (Ev.ifn (c := (!true) = true) (by decide) (show Ev (fun k => brookref1_MayType.l0 k s 0) _ from mayType_loop s hs s.size 0 (by omega) (by omega)))
theorem rmay_loop (rs : List PR) (hr : rs.length ≤ 1000000000) (hb : ∀ p ∈ rs, p.1.length ≤ 1073741824) : ∀ n i : Nat, rs.length - i = n → i ≤ rs.length →
    Ev (fun k => brookref1_MayDn.l0 k (rs.map toS) (i : Int)) ((rs.drop i).all okR && decide (rs.length ≤ 8)) := by
  intro n
  induction n with
  | zero =>
    intro i hn hi
    refine Ev.step (fun k => by rw [brookref1_MayDn.l0]) (Ev.ifn (by rw [List.length_map]; omega) (Ev.const fun k => ?_))
    rw [List.drop_eq_nil_of_le (by omega), List.length_map]
    simp only [List.all_nil, Bool.true_and]
    congr 1
    exact decide_eq_decide.2 (by omega)
  | succ n ih =>
    intro i hn hi
    refine Ev.step (fun k => by rw [brookref1_MayDn.l0]) (Ev.ifp (by rw [List.length_map]; omega) (Ev.ifp (by omega) ?_))
    rw [rd_map rs i (by omega), dropP_cons rs i (by omega)]
    have hm : rs.getD i ([], []) ∈ rs := by rw [List.getD_eq_getElem?_getD, List.getElem?_eq_getElem (by omega)]; exact List.getElem_mem _
    generalize rs.getD i ([], []) = p at hm
    have ht := ref_mayType (mk p.1) (by rw [mk_size]; exact hb p hm)
    rw [mk_data] at ht
    refine ht.bind ?_
    show Ev (fun k => if typedL p.1 = true then (if (mk p.2).toList = [] then some false else (if ((mk p.2).size : Int) > 100 then some false else _)) else some false) _
    rw [List.all_cons]
    by_cases h1 : typedL p.1 = true
    · refine Ev.ifp h1 ?_
      rw [mk_toList, mk_size]
      by_cases h2 : p.2 = []
      · refine Ev.ifp h2 (Ev.const fun k => ?_)
        unfold okR okV; rw [h2]; simp
      refine Ev.ifn h2 ?_
      by_cases h3 : (p.2.length : Int) > 100
      · refine Ev.ifp h3 (Ev.const fun k => ?_)
        unfold okR okV; rw [decide_eq_false (show ¬ p.2.length ≤ 100 by omega)]; simp
      refine Ev.ifn h3 ?_
      have hp : okR p = true := by unfold okR okV; rw [h1, decide_eq_true (by omega)]; simp [List.isEmpty_iff, h2]
      rw [hp, Bool.true_and, wrap_small _ (by omega) (by omega), show (i : Int) + 1 = ((i + 1 : Nat) : Int) by omega]
      exact ih (i + 1) (by omega) (by omega)
    · refine Ev.ifn h1 (Ev.const fun k => ?_)
      unfold okR; rw [Bool.eq_false_iff.2 h1]; simp
theorem ref_may (rs : List PR) (hr : rs.length ≤ 1000000000) (hb : ∀ p ∈ rs, p.1.length ≤ 1073741824) : Ev (fun k => brookref1_MayDn.f k (rs.map toS)) (mayL rs) := rmay_loop rs hr hb rs.length 0 (by omega) (by omega)
end Go.Proofs.YtpcjjpkmebgjjaaGreatDoor.P


namespace Go.Proofs.YtpcjjpkmebgjjaaGreatDoor.P
open Go.RowKit Go.Proofs.YtpcjjpkmebgjjaaGreatDoorW.PrintWords Go.Proofs.YtpcjjpkmebgjjaaGreatDoorW.PrintLast Go.Proofs.YtpcjjpkmebgjjaaGreatDoorW.PrintMore
set_option linter.unusedVariables false
set_option linter.unusedSimpArgs false
def spl : List UInt8 → List UInt8 × Option (List UInt8)
  | [] => ([], none)
  | [c] => if c = 44 then ([], some []) else ([c], none)
  | c :: d :: r => if c = 44 then ([], some (d :: r)) else if c = 92 then (c :: d :: (spl r).1, (spl r).2) else (c :: (spl (d :: r)).1, (spl (d :: r)).2)
theorem spl_comma (r : List UInt8) : spl (44 :: r) = ([], some r) := by cases r <;> (rw [spl]; rfl)
theorem spl_back (d : UInt8) (r : List UInt8) : spl (92 :: d :: r) = (92 :: d :: (spl r).1, (spl r).2) := by rw [spl, if_neg (by decide), if_pos rfl]
theorem spl_raw (c : UInt8) (r : List UInt8) (h1 : c ≠ 44) (h2 : c ≠ 92) : spl (c :: r) = (c :: (spl r).1, (spl r).2) := by
  cases r with
  | nil => show (if c = 44 then (([] : List UInt8), some []) else ([c], none)) = _; rw [if_neg h1]; rfl
  | cons d r => rw [spl, if_neg h1, if_neg h2]
def tailB : Option (List UInt8) → List UInt8
  | none => []
  | some r => 44 :: r
theorem spl_app : ∀ (n : Nat) (l : List UInt8), l.length = n → l = (spl l).1 ++ tailB (spl l).2 := by
  intro n
  induction n using Nat.strongRecOn with
  | _ n ih =>
    intro l hn
    cases l with
    | nil => rfl
    | cons c r =>
      rw [List.length_cons] at hn
      by_cases h1 : c = 44
      · rw [h1, spl_comma]; rfl
      by_cases h2 : c = 92
      · cases r with
        | nil => rw [h2]; rfl
        | cons d r =>
          rw [List.length_cons] at hn
          rw [h2, spl_back]
          have := ih r.length (by omega) r rfl
          show 92 :: d :: r = 92 :: d :: ((spl r).1 ++ tailB (spl r).2)
          rw [← this]
      · rw [spl_raw c r h1 h2]
        have := ih r.length (by omega) r rfl
        show c :: r = c :: ((spl r).1 ++ tailB (spl r).2)
        rw [← this]
def cont (t : List UInt8) (q : Option (List UInt8 × List UInt8)) : Option (List UInt8 × List UInt8) := q.bind fun p => if p.2 = [] then some (p.1, t) else none
theorem cont_map (t : List UInt8) (b : UInt8) (q : Option (List UInt8 × List UInt8)) : (cont t q).map (fun p => (b :: p.1, p.2)) = cont t (q.map fun p => (b :: p.1, p.2)) := by
  cases q with
  | none => rfl
  | some p =>
    unfold cont
    simp only [Option.bind_some, Option.map_some]
    by_cases h : p.2 = []
    · rw [if_pos h, if_pos h]; rfl
    · rw [if_neg h, if_neg h]; rfl
theorem spl_val : ∀ (n : Nat) (l : List UInt8) (f sp : Bool), l.length = n → valG f sp l = cont (tailB (spl l).2) (valG f sp (spl l).1) := by
  intro n
  induction n using Nat.strongRecOn with
  | _ n ih =>
    intro l f sp hn
    cases l with
    | nil => show valG f sp [] = cont [] (valG f sp []); rw [valG]; cases sp <;> rfl
    | cons c r =>
      rw [List.length_cons] at hn
      by_cases h1 : c = 44
      · rw [h1, spl_comma]
        show valG f sp (44 :: r) = cont (44 :: r) (valG f sp [])
        have e1 : valG f sp (44 :: r) = if sp = true then none else some ([], 44 :: r) := by rw [valG, if_pos rfl]
        have e2 : valG f sp [] = if sp = true then none else some ([], []) := by rw [valG]
        rw [e1, e2]; cases sp <;> rfl
      by_cases h2 : c = 92
      · subst h2
        cases r with
        | nil => show valG f sp [92] = cont [] (valG f sp [92]); rw [valG, if_neg (by decide), if_pos rfl]; rfl
        | cons d r =>
          rw [List.length_cons] at hn
          rw [spl_back, valG, if_neg (by decide), if_pos rfl]
          show _ = cont (tailB (spl r).2) (valG f sp (92 :: d :: (spl r).1))
          conv => rhs; rw [valG, if_neg (by decide), if_pos rfl]
          cases hd : (specialB d || d == 61 || d == 35 || d == 32) with
          | true =>
            rw [escN_t d _ hd, escN_t d _ hd]
            show (valG false false r).map _ = cont _ ((valG false false (spl r).1).map _)
            rw [ih r.length (by omega) r false false rfl, cont_map]
          | false =>
            cases r with
            | nil => rw [show (spl []).1 = [] from rfl, escN_f1 d hd]; rfl
            | cons e r2 =>
              rw [List.length_cons] at hn
              by_cases e44 : e = 44
              · rw [e44, spl_comma, escN_f2 d 44 r2 hd, escN_f1 d hd, show isHexB 44 = false from by decide, Bool.and_false]; rfl
              by_cases e92 : e = 92
              · have hx : ∃ y, (spl (e :: r2)).1 = 92 :: y := by
                  rw [e92]
                  cases r2 with
                  | nil => exact ⟨[], rfl⟩
                  | cons g r3 => exact ⟨g :: (spl r3).1, by rw [spl_back]⟩
                obtain ⟨y, hy⟩ := hx
                rw [hy, e92, escN_f2 d 92 r2 hd, escN_f2 d 92 y hd, show isHexB 92 = false from by decide, Bool.and_false]; rfl
              · rw [spl_raw e r2 e44 e92, escN_f2 d e r2 hd]
                simp only
                rw [escN_f2 d e _ hd]
                by_cases hh : (isHexB d && isHexB e) = true
                · rw [if_pos hh]
                  show (valG false false r2).map _ = cont _ ((valG false false (spl r2).1).map _)
                  rw [ih r2.length (by omega) r2 false false rfl, cont_map]
                · rw [if_neg hh]; rfl
      · rw [spl_raw c r h1 h2, valG, if_neg h1, if_neg h2]
        show _ = cont (tailB (spl r).2) (valG f sp (c :: (spl r).1))
        conv => rhs; rw [valG, if_neg h1, if_neg h2]
        by_cases hb : badB f c = true
        · rw [if_pos hb, if_pos hb]; rfl
        · rw [if_neg hb, if_neg hb, ih r.length (by omega) r false (c == 32) rfl, cont_map]
def pieces : Nat → List UInt8 → List (List UInt8)
  | 0, l => [(spl l).1]
  | n + 1, l => (spl l).1 :: (match (spl l).2 with | none => [] | some r => pieces n r)
def tailP (n : Nat) : Option (List UInt8) → List (List UInt8)
  | none => []
  | some r => pieces n r
theorem pieces_succ (n : Nat) (l : List UInt8) : pieces (n + 1) l = (spl l).1 :: tailP n (spl l).2 := by
  rw [pieces]; cases (spl l).2 <;> rfl
theorem w_p1 (i : Nat) (h : i < 4611686018427387903) : wrap64 (wrap64 ((i : Int) + 1) + 1) = ((i + 2 : Nat) : Int) := by rw [w_1 i (by omega), w_1 (i + 1) (by omega)]
theorem cut_loop (s : ByteArray) (hs : s.size ≤ 1073741824) : ∀ (m i st : Nat) (acc : List (List UInt8)) (n : Nat), s.size + 2 - i = m → i ≤ s.size + 1 → st ≤ i → st ≤ s.size → acc.length ≤ i → s.size ≤ n + i →
    Ev (fun k => brookref1_cut.l0 k s (acc.map mk) (st : Int) (i : Int)) ((acc ++ (((s.data.toList.drop st).take (i - st) ++ (spl (s.data.toList.drop i)).1) :: tailP n (spl (s.data.toList.drop i)).2)).map mk) := by
  intro m
  have hlen : s.data.toList.length = s.size := (size_len s).symm
  induction m using Nat.strongRecOn with
  | _ m ih =>
    intro i st acc n hm hi hst hst2 hacc hn
    by_cases hlt : i < s.size
    · have hd := drop_cons s.data.toList i (by omega)
      have hb0 : bt s (i : Int) = ((s.data.toList.getD i 0).toNat : Int) := bt_nat s i
      have htk : (s.data.toList.drop st).take (i + 1 - st) = (s.data.toList.drop st).take (i - st) ++ [s.data.toList.getD i 0] := by
        rw [show i + 1 - st = (i - st) + 1 by omega, List.take_succ_eq_append_getElem (by rw [List.length_drop]; omega)]
        congr 2
        rw [List.getElem_drop, List.getD_eq_getElem?_getD, List.getElem?_eq_getElem (by omega)]
        simp only [show st + (i - st) = i by omega]; rfl
      generalize hc : s.data.toList.getD i 0 = c at hd hb0 htk
      refine Ev.step (fun k => by rw [brookref1_cut.l0]) (Ev.ifp (by omega) (Ev.ifp (by omega) ?_))
      rw [hb0]
      by_cases h92 : c = 92
      · refine Ev.ifp ((u8i c 92).2 h92) ?_
        rw [w_p1 i (by omega)]
        have := ih (s.size + 2 - (i + 2)) (by omega) (i + 2) st acc n rfl (by omega) (by omega) hst2 (by omega) (by omega)
        by_cases h1 : i + 1 < s.size
        · have hd2 := drop_cons s.data.toList (i + 1) (by omega)
          have htk2 : (s.data.toList.drop st).take (i + 2 - st) = (s.data.toList.drop st).take (i + 1 - st) ++ [s.data.toList.getD (i + 1) 0] := by
            rw [show i + 2 - st = (i + 1 - st) + 1 by omega, List.take_succ_eq_append_getElem (by rw [List.length_drop]; omega)]
            congr 2
            rw [List.getElem_drop, List.getD_eq_getElem?_getD, List.getElem?_eq_getElem (by omega)]
            simp only [show st + (i + 1 - st) = i + 1 by omega]; rfl
          rw [hd, hd2, h92, spl_back]
          rw [htk2, htk, h92] at this
          simp only [List.append_assoc, List.singleton_append] at this ⊢
          exact this
        · rw [List.drop_eq_nil_of_le (show s.data.toList.length ≤ i + 2 by omega)] at this
          rw [hd, List.drop_eq_nil_of_le (show s.data.toList.length ≤ i + 1 by omega), h92]
          have e : (s.data.toList.drop st).take (i + 2 - st) = (s.data.toList.drop st).take (i - st) ++ [92] := by
            rw [← h92, ← htk, List.take_of_length_le (by rw [List.length_drop]; omega), List.take_of_length_le (by rw [List.length_drop]; omega)]
          rw [e] at this
          have e1 : spl [92] = ([92], none) := rfl
          have e2 : spl [] = ([], none) := rfl
          rw [e1]
          rw [e2, List.append_nil] at this
          exact this
      · refine Ev.ifn (fun h => h92 ((u8i c 92).1 h)) ?_
        by_cases h44 : c = 44
        · refine Ev.ifp ((u8i c 44).2 h44) (Ev.ifp (by omega) (Ev.ifp (by omega) (Ev.ifp (by omega) (Ev.ifp (by rw [List.length_map]; omega) ?_))))
          obtain ⟨n', rfl⟩ : ∃ n', n = n' + 1 := ⟨n - 1, by omega⟩
          have := ih (s.size + 2 - (i + 1)) (by omega) (i + 1) (i + 1) (acc ++ [(s.data.toList.drop st).take (i - st)]) n' rfl (by omega) (Nat.le_refl _) (by omega) (by rw [List.length_append, List.length_singleton]; omega) (by omega)
          rw [w_1 i (by omega), Int.toNat_natCast, Int.toNat_natCast]
          have ex : s.extract st i = mk ((s.data.toList.drop st).take (i - st)) := by apply ba_ext; rw [extract_data, mk_data]
          rw [ex, hd, h44, spl_comma]
          rw [List.map_append, Nat.sub_self, List.take_zero, List.nil_append, List.append_assoc] at this
          show Ev _ ((acc ++ (((s.data.toList.drop st).take (i - st) ++ []) :: pieces (n' + 1) (s.data.toList.drop (i + 1)))).map mk)
          rw [List.append_nil, pieces_succ]
          exact this
        · refine Ev.ifn (fun h => h44 ((u8i c 44).1 h)) ?_
          have := ih (s.size + 2 - (i + 1)) (by omega) (i + 1) st acc n rfl (by omega) (by omega) hst2 (by omega) (by omega)
          rw [w_1 i (by omega), hd, spl_raw c _ h44 h92]
          rw [htk] at this
          simp only [List.append_assoc, List.singleton_append] at this ⊢
          exact this
    · refine Ev.step (fun k => by rw [brookref1_cut.l0]) (Ev.ifn (by omega) (Ev.ifp (by omega) (Ev.ifp (by omega) (Ev.ifp (by rw [List.length_map]; omega) (Ev.const fun k => ?_)))))
      rw [Int.toNat_natCast, extract_tail, List.drop_eq_nil_of_le (show s.data.toList.length ≤ i by omega), List.take_of_length_le (by rw [List.length_drop]; omega)]
      show _ = some ((acc ++ [s.data.toList.drop st ++ []]).map mk)
      rw [List.append_nil, List.map_append]; rfl
theorem ref_cut (s : ByteArray) (hs : s.size ≤ 1073741824) : Ev (fun k => brookref1_cut.f k s) ((pieces (s.size + 1) s.data.toList).map mk) := by
  have h := cut_loop s hs (s.size + 2) 0 0 [] s.size rfl (by omega) (Nat.le_refl _) (by omega) (Nat.le_refl _) (by omega)
  rw [pieces_succ]
  exact h
def pr (p : List UInt8) : Option PR := (cutEq p).bind fun q => (valW true false q.2).map fun x => (q.1, x)
def prs : List (List UInt8) → Option (List PR)
  | [] => some []
  | p :: r => (pr p).bind fun x => (prs r).map fun y => x :: y
def idx61 : List UInt8 → Nat
  | [] => 0
  | c :: r => if c = 61 then 0 else idx61 r + 1
theorem idx_le : ∀ p : List UInt8, idx61 p ≤ p.length
  | [] => Nat.le_refl _
  | c :: r => by
    have := idx_le r
    rw [idx61]; split
    · omega
    · rw [List.length_cons]; omega
theorem cutEq_idx : ∀ p : List UInt8, cutEq p = if idx61 p = p.length then none else some (p.take (idx61 p), p.drop (idx61 p + 1))
  | [] => rfl
  | c :: r => by
    have ih := cutEq_idx r
    rw [cutEq, idx61]
    by_cases h : c = 61
    · rw [if_pos h, if_pos h, if_neg (by simp)]; rfl
    · rw [if_neg h, if_neg h, ih]
      by_cases h2 : idx61 r = r.length
      · rw [if_pos h2, if_pos (by rw [List.length_cons, h2])]; rfl
      · rw [if_neg h2, if_neg (by rw [List.length_cons]; omega)]; rfl
theorem rdOf_map (ps : List (List UInt8)) (i : Nat) (h : i < ps.length) : rdOf ByteArray.empty (ps.map mk) (i : Int) = mk (ps.getD i []) := by
  unfold rdOf
  rw [Int.toNat_natCast, List.getD_eq_getElem?_getD, List.getElem?_map, List.getElem?_eq_getElem h, List.getD_eq_getElem?_getD, List.getElem?_eq_getElem h]; rfl
theorem find61 (x3 : List SR) (ps : List (List UInt8)) (i : Nat) (hi : i < ps.length) (hp : (ps.getD i []).length ≤ 1073741824) (r : List SR × Bool)
    (h : Ev (fun k => brookref1_ParseDn.j2 k x3 (ps.map mk) (i : Int) ((idx61 (ps.getD i []) : Nat) : Int)) r) : ∀ n j : Nat, (ps.getD i []).length - j = n → j ≤ (ps.getD i []).length → j + idx61 ((ps.getD i []).drop j) = idx61 (ps.getD i []) →
    Ev (fun k => brookref1_ParseDn.l1 k x3 (ps.map mk) (i : Int) (j : Int)) r := by
  intro n
  generalize hq : ps.getD i [] = p at hp h
  have hr : rdOf ByteArray.empty (ps.map mk) (i : Int) = mk p := by rw [rdOf_map ps i hi, hq]
  induction n with
  | zero =>
    intro j hn hj he
    refine Ev.step (fun k => by rw [brookref1_ParseDn.l1]) (Ev.ifp (by omega) (Ev.ifp (by rw [List.length_map]; omega) ?_))
    rw [hr]
    refine Ev.ifn (by rw [mk_size]; omega) ?_
    rw [List.drop_eq_nil_of_le (by omega)] at he
    rw [show (j : Int) = ((idx61 p : Nat) : Int) by rw [← he]; simp [idx61]]
    exact h
  | succ n ih =>
    intro j hn hj he
    refine Ev.step (fun k => by rw [brookref1_ParseDn.l1]) (Ev.ifp (by omega) (Ev.ifp (by rw [List.length_map]; omega) ?_))
    rw [hr]
    refine Ev.ifp (by rw [mk_size]; omega) (Ev.ifp (by omega) ?_)
    have hb : bt (mk p) (j : Int) = ((p.getD j 0).toNat : Int) := bt_nat _ _
    rw [hb]
    rw [drop_cons p j (by omega), idx61] at he
    by_cases h61 : p.getD j 0 = 61
    · rw [if_pos h61] at he
      refine Ev.ifp ((u8i _ 61).2 h61) ?_
      rw [show (j : Int) = ((idx61 p : Nat) : Int) by omega]
      exact h
    · rw [if_neg h61] at he
      refine Ev.ifn (fun e => h61 ((u8i _ 61).1 e)) ?_
      rw [w_1 j (by omega)]
      exact ih (j + 1) (by omega) (by omega) (by omega)
theorem parse_loop_ref (ps : List (List UInt8)) (hps : ∀ p ∈ ps, p.length ≤ 1073741824) (hn8 : ps.length ≤ 1000000000) : ∀ (n i : Nat) (acc : List PR), ps.length - i = n → i ≤ ps.length → acc.length ≤ i → (∀ p ∈ acc, p.1.length ≤ 1073741824) →
    Ev (fun k => brookref1_ParseDn.l0 k (acc.map toS) (ps.map mk) (i : Int)) (parseEnd ((prs (ps.drop i)).bind fun rs => if mayL (acc ++ rs) = true then some (acc ++ rs) else none)) := by
  intro n
  induction n with
  | zero =>
    intro i acc hn hi ha hb
    refine Ev.step (fun k => by rw [brookref1_ParseDn.l0]) (Ev.ifn (by rw [List.length_map]; omega) ((ref_may acc (by omega) hb).bind ?_))
    rw [List.drop_eq_nil_of_le (by omega)]
    show Ev _ (parseEnd (if mayL (acc ++ []) = true then some (acc ++ []) else none))
    rw [List.append_nil]
    by_cases h : mayL acc = true
    · rw [h]; exact Ev.now _
    · rw [Bool.eq_false_iff.2 h]; exact Ev.now _
  | succ n ih =>
    intro i acc hn hi ha hb
    refine Ev.step (fun k => by rw [brookref1_ParseDn.l0]) (Ev.ifp (by rw [List.length_map]; omega) ?_)
    have hmem : ps.getD i [] ∈ ps := by rw [List.getD_eq_getElem?_getD, List.getElem?_eq_getElem (by omega)]; exact List.getElem_mem _
    have hp := hps _ hmem
    have hdrop : ps.drop i = ps.getD i [] :: ps.drop (i + 1) := by rw [List.drop_eq_getElem_cons (by omega), List.getD_eq_getElem?_getD, List.getElem?_eq_getElem (by omega)]; rfl
    refine find61 (acc.map toS) ps i (by omega) hp _ ?_ (ps.getD i []).length 0 (by omega) (by omega) (by rw [List.drop_zero]; omega)
    have hr : rdOf ByteArray.empty (ps.map mk) (i : Int) = mk (ps.getD i []) := rdOf_map ps i (by omega)
    rw [hdrop]
    generalize ps.getD i [] = p at hp hr
    have hle := idx_le p
    refine Ev.step (fun k => by rw [brookref1_ParseDn.j2]) (Ev.ifp (by omega) (Ev.ifp (by rw [List.length_map]; omega) ?_))
    rw [hr, mk_size, prs]
    unfold pr
    rw [cutEq_idx]
    by_cases h0 : idx61 p = p.length
    · rw [if_pos h0]
      exact Ev.ifp (by omega) (Ev.now _)
    · rw [if_neg h0]
      refine Ev.ifn (by omega) ?_
      rw [w_1 _ (by omega)]
      refine Ev.ifp (by omega) (Ev.ifp (by omega) ?_)
      have hv := ref_value ((mk p).extract (idx61 p + 1) (mk p).size) (by rw [extract_tail, mk_size, mk_data, List.length_drop]; omega)
      rw [Int.toNat_natCast, ← mk_size p]
      refine hv.bind ?_
      rw [extract_tail, mk_data, mk_data]
      show Ev _ (parseEnd ((((valW true false (p.drop (idx61 p + 1))).map fun x => (p.take (idx61 p), x)).bind fun x => (prs (ps.drop (i + 1))).map fun y => x :: y).bind _))
      cases valW true false (p.drop (idx61 p + 1)) with
      | none => exact Ev.ifn Bool.false_ne_true (Ev.now _)
      | some v =>
        have ex : (mk p).extract 0 (idx61 p) = mk (p.take (idx61 p)) := by apply ba_ext; rw [extract_data, mk_data, mk_data]; rfl
        refine Ev.ifp rfl (Ev.ifp (by omega) (Ev.ifp (by rw [mk_size]; omega) (Ev.ifp (by rw [List.length_map]; omega) ?_)))
        rw [Int.toNat_natCast, ex, w_1 i (by omega)]
        have := ih (i + 1) (acc ++ [(p.take (idx61 p), v)]) (by omega) (by omega) (by rw [List.length_append, List.length_singleton]; omega) (by
          intro q hq
          rcases List.mem_append.1 hq with hq | hq
          · exact hb q hq
          · rw [List.mem_singleton.1 hq]
            simp only [List.length_take]; omega)
        rw [List.map_append] at this
        have e : ((some (p.take (idx61 p), v)).bind fun x => (prs (ps.drop (i + 1))).map fun y => x :: y).bind (fun rs => if mayL (acc ++ rs) = true then some (acc ++ rs) else none) = ((prs (ps.drop (i + 1))).bind fun rs => if mayL ((acc ++ [(p.take (idx61 p), v)]) ++ rs) = true then some ((acc ++ [(p.take (idx61 p), v)]) ++ rs) else none) := by
          cases prs (ps.drop (i + 1)) with
          | none => rfl
          | some y => simp only [Option.bind_some, Option.map_some, List.append_assoc, List.singleton_append]
        show Ev _ (parseEnd (((some (p.take (idx61 p), v)).bind fun x => (prs (ps.drop (i + 1))).map fun y => x :: y).bind (fun rs => if mayL (acc ++ rs) = true then some (acc ++ rs) else none)))
        rw [e]
        exact this
end Go.Proofs.YtpcjjpkmebgjjaaGreatDoor.P


namespace Go.Proofs.YtpcjjpkmebgjjaaGreatDoor.P
open Go.RowKit Go.Proofs.YtpcjjpkmebgjjaaGreatDoorW.PrintWords Go.Proofs.YtpcjjpkmebgjjaaGreatDoorW.PrintLast Go.Proofs.YtpcjjpkmebgjjaaGreatDoorW.PrintMore
set_option linter.unusedVariables false
set_option linter.unusedSimpArgs false
theorem cutEq_more : ∀ (a b : List UInt8), cutEq (a ++ b) = none → cutEq a = none
  | [], b, _ => rfl
  | c :: r, b, h => by
    rw [List.cons_append, cutEq] at h
    rw [cutEq]
    by_cases hc : c = 61
    · rw [if_pos hc] at h; cases h
    · rw [if_neg hc] at h ⊢
      rw [cutEq_more r b (Option.map_eq_none_iff.1 h)]; rfl
theorem cutEq_pre : ∀ (a b t v : List UInt8), cutEq a = some (t, v) → cutEq (a ++ b) = some (t, v ++ b)
  | [], b, t, v, h => by cases h
  | c :: r, b, t, v, h => by
    rw [cutEq] at h
    rw [List.cons_append, cutEq]
    by_cases hc : c = 61
    · rw [if_pos hc] at h ⊢
      obtain ⟨rfl, rfl⟩ := Prod.mk.inj (Option.some.inj h)
      rfl
    · rw [if_neg hc] at h ⊢
      obtain ⟨⟨t', v'⟩, h1, h2⟩ := Option.map_eq_some_iff.1 h
      obtain ⟨rfl, rfl⟩ := Prod.mk.inj h2
      rw [cutEq_pre r b t' v' h1]; rfl
theorem cont_valW (t : List UInt8) (f sp : Bool) (p : List UInt8) : cont t (valG f sp p) = (valW f sp p).map fun x => (x, t) := by
  unfold cont valW
  cases valG f sp p with
  | none => rfl
  | some q =>
    simp only [Option.bind_some]
    by_cases h : q.2 = []
    · rw [if_pos h, if_pos h]; rfl
    · rw [if_neg h, if_neg h]; rfl
theorem spl_typed : ∀ (t r : List UInt8), (∀ c ∈ t, c ≠ 44 ∧ c ≠ 92) → spl (t ++ r) = (t ++ (spl r).1, (spl r).2)
  | [], r, _ => rfl
  | c :: t, r, h => by
    have hc := h c (List.mem_cons_self)
    rw [List.cons_append, spl_raw c _ hc.1 hc.2, spl_typed t r (fun x hx => h x (List.mem_cons_of_mem _ hx))]; rfl
theorem name_not (c : UInt8) : inName c = true → c ≠ 44 ∧ c ≠ 92 := byteAll (p := fun c => inName c = true → c ≠ 44 ∧ c ≠ 92) (by decide +kernel) c
theorem typed_not {t : List UInt8} (h : typedL t = true) : ∀ c ∈ t, c ≠ 44 ∧ c ≠ 92 := by
  intro c hc
  unfold typedL at h
  simp only [Bool.and_eq_true] at h
  exact name_not c (List.all_eq_true.1 h.2 c hc)
def keep8 (m : Nat) (rs : List PR) : Option (List PR) := if (rs.all (fun p => typedL p.1) && decide (rs.length ≤ m)) = true then some rs else none
theorem pieces_parse : ∀ (N : Nat) (l : List UInt8), l.length = N → ∀ m n : Nat, l.length ≤ n → parseN m l = (prs ((spl l).1 :: tailP n (spl l).2)).bind (keep8 m) := by
  intro N
  induction N using Nat.strongRecOn with
  | _ N ih =>
    intro l hN m n hn
    have happ := spl_app l.length l rfl
    cases m with
    | zero =>
      show none = _
      rw [prs]
      cases pr (spl l).1 with
      | none => rfl
      | some x =>
        cases prs (tailP n (spl l).2) with
        | none => rfl
        | some y => show none = keep8 0 (x :: y); unfold keep8; rw [if_neg]; simp
    | succ m =>
      rw [parseN]
      cases hc : cutEq l with
      | none =>
        have : cutEq (spl l).1 = none := cutEq_more _ (tailB (spl l).2) (by rw [← happ]; exact hc)
        rw [prs]
        unfold pr
        rw [this]; rfl
      | some q =>
        obtain ⟨t, v⟩ := q
        have hl := cutEq_len _ _ _ hc
        simp only
        by_cases ht : typedL t = true
        · rw [if_pos ht]
          have hs : spl l = (t ++ 61 :: (spl v).1, (spl v).2) := by
            rw [hl, spl_typed t _ (typed_not ht), spl_raw 61 v (by decide) (by decide)]
          have hlen := congrArg List.length hl
          rw [List.length_append, List.length_cons] at hlen
          rw [hs, prs]
          have hpr : pr (t ++ 61 :: (spl v).1) = (valW true false (spl v).1).map fun x => (t, x) := by
            unfold pr
            rw [cutEq_app t _ (typed_no61 ht)]; rfl
          rw [hpr, spl_val v.length v true false rfl, cont_valW]
          cases valW true false (spl v).1 with
          | none => rfl
          | some x =>
            cases hv2 : (spl v).2 with
            | none =>
              show some [(t, x)] = keep8 (m + 1) [(t, x)]
              unfold keep8
              rw [if_pos (by simp [ht])]
            | some r =>
              show (parseN m r).map (fun y => (t, x) :: y) = ((prs (pieces n r)).map fun y => (t, x) :: y).bind (keep8 (m + 1))
              have hvapp := congrArg List.length (spl_app v.length v rfl)
              rw [hv2] at hvapp
              simp only [tailB, List.length_append, List.length_cons] at hvapp
              obtain ⟨n', rfl⟩ : ∃ n', n = n' + 1 := ⟨n - 1, by omega⟩
              rw [pieces_succ, ih r.length (by omega) r rfl m n' (by omega)]
              cases prs ((spl r).1 :: tailP n' (spl r).2) with
              | none => rfl
              | some y =>
                show (keep8 m y).map _ = keep8 (m + 1) ((t, x) :: y)
                unfold keep8
                have e : (((t, x) :: y).all (fun p => typedL p.1) && decide (((t, x) :: y).length ≤ m + 1)) = (y.all (fun p => typedL p.1) && decide (y.length ≤ m)) := by
                  rw [List.all_cons, ht, Bool.true_and, List.length_cons]
                  congr 1
                  exact decide_eq_decide.2 (by omega)
                rw [e]
                by_cases hh : (y.all (fun p => typedL p.1) && decide (y.length ≤ m)) = true
                · rw [if_pos hh, if_pos hh]; rfl
                · rw [if_neg hh, if_neg hh]; rfl
        · rw [if_neg ht, prs]
          unfold pr
          cases hp : cutEq (spl l).1 with
          | none => rfl
          | some q =>
            obtain ⟨t', v'⟩ := q
            have h2 := cutEq_pre _ (tailB (spl l).2) _ _ hp
            rw [← happ, hc] at h2
            have e := (Prod.mk.inj (Option.some.inj h2)).1
            subst e
            show none = ((((valW true false v').map fun x => (t, x)).bind _).bind _)
            cases valW true false v' with
            | none => rfl
            | some x =>
              show none = ((prs (tailP n (spl l).2)).map fun y => (t, x) :: y).bind _
              cases prs (tailP n (spl l).2) with
              | none => rfl
              | some y => show none = keep8 (m + 1) ((t, x) :: y); unfold keep8; rw [if_neg]; rw [List.all_cons, Bool.eq_false_iff.2 ht]; simp
theorem may_split (rs : List PR) : mayL rs = (rs.all (fun p => typedL p.1) && decide (rs.length ≤ 8) && rs.all okV) := by
  have e : rs.all okR = (rs.all (fun p => typedL p.1) && rs.all okV) := by
    induction rs with
    | nil => rfl
    | cons a r ih =>
      rw [List.all_cons, List.all_cons, List.all_cons, ih]
      unfold okR
      cases typedL a.1 <;> cases okV a <;> cases r.all (fun p => typedL p.1) <;> rfl
  unfold mayL
  rw [e]
  cases rs.all (fun p => typedL p.1) <;> cases rs.all okV <;> cases decide (rs.length ≤ 8) <;> rfl
theorem parse_same (l : List UInt8) (h0 : l ≠ []) (n : Nat) (hn : l.length ≤ n) : parseL l = (prs (pieces (n + 1) l)).bind fun rs => if mayL rs = true then some rs else none := by
  unfold parseL
  rw [if_neg h0, pieces_succ, pieces_parse l.length l rfl 8 n hn]
  cases prs ((spl l).1 :: tailP n (spl l).2) with
  | none => rfl
  | some rs =>
    show (keep8 8 rs).bind _ = if mayL rs = true then some rs else none
    unfold keep8
    rw [may_split]
    cases (rs.all (fun p => typedL p.1) && decide (rs.length ≤ 8)) with
    | false => rfl
    | true =>
      rw [if_pos rfl, Bool.true_and]; rfl
theorem pieces_len : ∀ (n : Nat) (l : List UInt8), (pieces n l).length ≤ n + 1 ∧ ∀ p ∈ pieces n l, p.length ≤ l.length := by
  intro n
  induction n with
  | zero =>
    intro l
    have := congrArg List.length (spl_app l.length l rfl)
    rw [List.length_append] at this
    refine ⟨by simp [pieces], fun p hp => ?_⟩
    rw [pieces, List.mem_singleton] at hp
    rw [hp]; omega
  | succ n ih =>
    intro l
    have h := congrArg List.length (spl_app l.length l rfl)
    rw [List.length_append] at h
    rw [pieces_succ]
    cases h2 : (spl l).2 with
    | none =>
      refine ⟨by simp [tailP], fun p hp => ?_⟩
      rw [tailP, List.mem_singleton] at hp
      rw [hp]; omega
    | some r =>
      obtain ⟨i1, i2⟩ := ih r
      rw [h2] at h
      simp only [tailB, List.length_cons] at h
      refine ⟨by rw [List.length_cons]; show (pieces n r).length + 1 ≤ _; omega, fun p hp => ?_⟩
      rcases List.mem_cons.1 hp with hp | hp
      · rw [hp]; omega
      · have := i2 p hp; omega
theorem ref_parse (s : ByteArray) (hs : s.size ≤ 100000000) : Ev (fun k => brookref1_ParseDn.f k s) (parseEnd (parseL s.data.toList)) := by
  have hlen : s.data.toList.length = s.size := (size_len s).symm
  unfold brookref1_ParseDn.f
  rw [toList_data]
  by_cases h0 : s.data.toList = []
  · have e : parseEnd (parseL s.data.toList) = (([] : List SR), true) := by rw [h0]; rfl
    rw [e]; exact Ev.ifp h0 (Ev.now _)
  · refine Ev.ifn h0 ((ref_cut s (by omega)).bind ?_)
    obtain ⟨p1, p2⟩ := pieces_len (s.size + 1) s.data.toList
    have h := parse_loop_ref (pieces (s.size + 1) s.data.toList) (fun p hp => by have := p2 p hp; omega) (by omega) _ 0 [] rfl (by omega) (by simp) (by simp)
    rw [List.drop_zero] at h
    rw [parse_same s.data.toList h0 s.size (by omega)]
    exact h
theorem rkey_loop (rs : List PR) (hr : mayL rs = true) : ∀ n i : Nat, rs.length - i = n → i ≤ rs.length → (rs.take i).all (fun p => !(foldL p.2).isEmpty) = true →
    Ev (fun k => brookref1_Key.l0 k (((rs.take i).map normR).map toS) (i : Int) (rs.map toS) true) (encO (keyR rs)) := by
  have hm := hr
  unfold mayL at hm
  rw [Bool.and_eq_true, decide_eq_true_eq] at hm
  have hb : ∀ p ∈ rs, p.1.length ≤ 30 ∧ p.2.length ≤ 100 := by
    intro p hp
    have := List.all_eq_true.1 hm.1 p hp
    unfold okR okV typedL at this
    simp only [Bool.and_eq_true, decide_eq_true_eq] at this
    exact ⟨this.1.1.1.2, this.2.2⟩
  intro n
  induction n with
  | zero =>
    intro i hn hi hall
    have e : i = rs.length := by omega
    subst e
    rw [List.take_length] at hall ⊢
    have ek : keyR rs = some (textR true (rs.map normR)) := by unfold keyR; rw [if_pos hall]
    rw [ek]
    refine Ev.step (fun k => by rw [brookref1_Key.l0]) (Ev.ifn (by rw [List.length_map]; omega) ?_)
    have hbq : ∀ q ∈ rs.map normR, q.1.length ≤ 30 ∧ q.2.length ≤ 100 := fun q hq => by
      obtain ⟨p, hp, rfl⟩ := List.mem_map.1 hq
      have := hb p hp
      unfold normR
      have h2 := foldL_len p.2
      simp only [List.length_map]
      omega
    have hl := textR_len 100 (rs.map normR) true hbq
    rw [List.length_map] at hl
    have ht := ref_text ((rs.map normR).map toS) (fun i hi => by
      rw [List.length_map] at hi
      have hg : ((rs.map normR).map toS).getD i z41 = toS ((rs.map normR)[i]'hi) := by
        rw [List.getD_eq_getElem?_getD, List.getElem?_map, List.getElem?_eq_getElem hi]; rfl
      have hq := hbq _ (List.getElem_mem hi)
      rw [hg]
      unfold toS
      simp only [mk_size]
      omega) (by rw [textL_R]; omega) (by rw [List.length_map, List.length_map]; omega)
    rw [textL_R] at ht
    exact ht.bind (Ev.now _)
  | succ n ih =>
    intro i hn hi hall
    refine Ev.step (fun k => by rw [brookref1_Key.l0]) (Ev.ifp (by rw [List.length_map]; omega) (Ev.ifp (by omega) ?_))
    rw [rd_map rs i (by omega)]
    generalize hp : rs.getD i ([], []) = p
    have hpm : p ∈ rs := by
      rw [← hp, List.getD_eq_getElem?_getD, List.getElem?_eq_getElem (by omega)]
      exact List.getElem_mem _
    have hbp := hb p hpm
    have e1 : brookref1_Lower.f (toS p).f0 = some (mk (p.1.map lowB)) := by
      rw [ref_lower _ (by unfold toS; rw [mk_size]; omega)]
      congr 1
      apply ba_ext
      rw [lowS_data, mk_data]; rfl
    rw [e1]
    have e2 := ref_fold (toS p).f1 (by unfold toS; rw [mk_size]; omega)
    refine Ev.bs (e2.bind ?_)
    show Ev (fun k => if (mk (foldL p.2)).toList = [] then _ else _) _
    rw [mk_toList]
    by_cases hf : foldL p.2 = []
    · refine Ev.ifp hf ?_
      have ek : keyR rs = none := by
        unfold keyR
        rw [if_neg]
        intro h
        have := List.all_eq_true.1 h p hpm
        rw [hf] at this
        exact absurd this (by decide)
      rw [ek]
      exact Ev.now _
    · refine Ev.ifn hf (Ev.ifp (by rw [List.length_map, List.length_map, List.length_take]; omega) ?_)
      have eg : rs[i]'(by omega) = p := by rw [← hp, List.getD_eq_getElem?_getD, List.getElem?_eq_getElem (by omega)]; rfl
      have eapp : (((rs.take i).map normR).map toS) ++ [(⟨mk (p.1.map lowB), mk (foldL p.2)⟩ : SR)] = (((rs.take (i + 1)).map normR).map toS) := by
        rw [List.take_succ_eq_append_getElem (by omega), List.map_append, List.map_append, eg]; rfl
      have := ih (i + 1) (by omega) (by omega) (by
        rw [List.take_succ_eq_append_getElem (by omega), List.all_append, hall, eg]
        simp [List.isEmpty_iff, hf])
      rw [← eapp] at this
      rw [w_1 i (by omega)]
      exact this
theorem ref_key (s : ByteArray) (hs : s.size ≤ 100000000) : Ev (fun k => brookref1_Key.f k s) (encO (keyL s.data.toList)) := by
  unfold brookref1_Key.f keyL
  refine (ref_parse s hs).bind ?_
  cases h : parseL s.data.toList with
  | none => exact Ev.ifn Bool.false_ne_true (Ev.now _)
  | some rs =>
    refine Ev.ifp rfl ?_
    exact rkey_loop rs (parse_may h) rs.length 0 (by omega) (by omega) (by rfl)
end Go.Proofs.YtpcjjpkmebgjjaaGreatDoor.P
