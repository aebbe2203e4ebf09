/- Part 5 of 6 of the proof. See the last part. -/
import Derived.Test.YthfpaoacjpjnfaaGreatDoorMEParts2
import Derived.Test.YthfpaoacjpjnfaaGreatDoorMEParts3
import Derived.Test.YthfpaoacjpjnfaaGreatDoorMEParts4
import Derived.Deep.QuietTactic
import Derived.BigQuiet
import Derived.Deep.CutRange
namespace Go.Proofs.YthfpaoacjpjnfaaGreatDoor.P
open Go.RowKit Go.Proofs.YthfpaoacjpjnfaaGreatDoorW.PrintWords Go.Proofs.YthfpaoacjpjnfaaGreatDoorW.PrintLast Go.Proofs.YthfpaoacjpjnfaaGreatDoorW.PrintMore
attribute [local go_sem] max2_int min2_int max_two min_two max_three min_three max_four min_four
set_option linter.unusedVariables false
set_option linter.unusedSimpArgs false
mutual
def eval_eval.l0 : Nat → List Int → List (S25) → Int → Int → Int → ByteArray → ByteArray → List ByteArray → List (S25) → ByteArray → List (S45) → Option (Int)
 | 0, _, _, _, _, _, _, _, _, _, _, _ => none
 | k + 1, x5, x13, x14, x15, x196000, x196001, x196002, x196003, x196004, x197000, x197001 => if x15 < x14 then (if 0 ≤ x15 then (if x15 < (x13.length : Int) then ((eval_eval.f k ((rd_T25 x13 x15).f0) ((rd_T25 x13 x15).f1) ((rd_T25 x13 x15).f2) ((rd_T25 x13 x15).f3) ((rd_T25 x13 x15).f4) x197000 x197001).bind fun t199 => (if x5.length < 17592186044416 then (eval_eval.l0 k (x5 ++ [t199]) x13 x14 (wrap64 (x15 + 1)) x196000 x196001 x196002 x196003 x196004 x197000 x197001) else (none))) else (none)) else (none)) else (if x196000 = 1 then ((eval_first.f k x5 0 1).bind fun t203 => (some t203)) else (if x196000 = 2 then ((eval_first.f k x5 1 0).bind fun t204 => (some t204)) else (if x196000 = 3 then ((some (([1, 0, 2] : List Int) : List Int)).bind fun y205 => (if 0 < (x5.length : Int) then (if 0 ≤ (rd x5 0) then (if (rd x5 0) < (y205.length : Int) then (some (rd y205 (rd x5 0))) else (none)) else (none)) else (none))) else ((match_Canon.f x196001).bind fun bt210 => (if bt210.2 = true then (if x196000 = 8 then ((entry_Vals.f x197000 x197001 x196001).bind fun t212 => ((eval_truth.f (decide ((t212.length : Int) > 0))).bind fun t215 => (some t215))) else (if x196000 = 5 then ((eval_sub.f x196000 x196001 x196002 x196003 x196004 x197000 x197001).bind fun t216 => (some t216)) else (if x196000 = 4 then ((match_Norm.f k x196001 x196002).bind fun bt217 => (if bt217.2 = true then ((entry_Has.f x197000 x197001 x196001 x196002).bind fun t219 => ((eval_truth.f t219).bind fun t220 => (some t220))) else (some 2))) else ((eval_order.f x196000 x196001 x196002 x196003 x196004 x197000 x197001).bind fun t221 => (some t221))))) else (some 2))))))
def eval_eval.f : Nat → Int → ByteArray → ByteArray → List ByteArray → List (S25) → ByteArray → List (S45) → Option (Int)
 | 0, _, _, _, _, _, _, _ => none
 | k + 1, a0_0, a0_1, a0_2, l0_3, l0_4, a1_0, l1_1 => eval_eval.l0 k ([] : List Int) l0_4 (l0_4.length : Int) 0 a0_0 a0_1 a0_2 l0_3 l0_4 a1_0 l1_1
end
set_option maxHeartbeats 8000000 in
set_option maxRecDepth 100000 in
theorem eval_eval.calls (k : Nat) : ∀ (a0_0 : Int) (a0_1 : ByteArray) (a0_2 : ByteArray) (A0_3 : Option Addr) (c0_3 : Nat) (l0_3 : List ByteArray) (A0_4 : Option Addr) (c0_4 : Nat) (l0_4 : List (S25)) (a1_0 : ByteArray) (A1_1 : Option Addr) (c1_1 : Nat) (l1_1 : List (S45)) (r : Int) (w : World) (hr0_3 : Kd.C Kd.string w A0_3 l0_3.length l0_3) (hc0_3 : l0_3.length ≤ c0_3) (hr0_4 : Kd.C k25 w A0_4 l0_4.length l0_4) (hc0_4 : l0_4.length ≤ c0_4) (hr1_1 : Kd.C k45 w A1_1 l1_1.length l1_1) (hc1_1 : l1_1.length ≤ c1_1) (hG : Gl w) (h : eval_eval.f k a0_0 a0_1 a0_2 l0_3 l0_4 a1_0 l1_1 = some r),
  Calls Tryz.prog 27 #[.agg #[.int .i64 a0_0, .string a0_1, .string a0_2, .slice A0_3 l0_3.length c0_3, .slice A0_4 l0_4.length c0_4], .agg #[.string a1_0, .slice A1_1 l1_1.length c1_1]] w fun e w' => e = .returned (.int .i64 r) ∧ Below w.heap.size w w' := by
 induction k using Nat.strongRecOn with
 | _ k ih =>
 intro a0_0 a0_1 a0_2 A0_3 c0_3 l0_3 A0_4 c0_4 l0_4 a1_0 A1_1 c1_1 l1_1 r w hr0_3 hc0_3 hr0_4 hc0_4 hr1_1 hc1_1 hG h
 cases k with
 | zero => exact absurd h (by simp [eval_eval.f])
 | succ k =>
 simp only [eval_eval.f] at h
 have hu25 := Tryz.underlying25
 have hu28 := Tryz.underlying28
 have HR0_3 := Aside0.mk hr0_3
 have HC0_3 := Aside0.mk hc0_3
 clear hr0_3 hc0_3
 have HR0_4 := Aside0.mk hr0_4
 have HC0_4 := Aside0.mk hc0_4
 clear hr0_4 hc0_4
 have HR1_1 := Aside0.mk hr1_1
 have HC1_1 := Aside0.mk hc1_1
 clear hr1_1 hc1_1
 have HB := Aside0.mk (Below.refl w.heap.size w)
 have HG := Aside0.mk hG
 clear hG
 have H : (eval_eval.l0 k ([] : List Int) l0_4 (l0_4.length : Int) 0 a0_0 a0_1 a0_2 l0_3 l0_4 a1_0 l1_1) = some r := h
 clear h
 have H' := Aside0.mk H
 clear H
 go_enter Tryz.func27, Tryz.ntmps27
 go_wp2_with (first | ((with_reducible refine gate_dst (N := 2) rfl ?_); refine box_event ?hg (N := 2) ?hd (cs := #[.int .i64 a0_0, .string a0_1, .string a0_2, .slice A0_3 l0_3.length c0_3, .slice A0_4 l0_4.length c0_4]) (t := 25) ?hr ?_; (case hd => rfl); (case hg => rfl); (case hr => first | (go_simp; done) | (go_simp; rfl)); intro gb195 hg w3 hbox hb; have n0_ := Aside0.mk (below_step (by repeat (first | (with_reducible first | exact HB.out | apply below_alloc | apply pw_below_drewN | apply below_drew1) | exact HB.out)) hb); have n1_ := Aside0.mk (hbox); have n2_ := Aside0.mk ((by rw [hg]; exact (below_size (by repeat (first | (with_reducible first | exact HB.out | apply below_alloc | apply pw_below_drewN | apply below_drew1) | exact HB.out))) : w.heap.size ≤ gb195)); have n3_ := Aside0.mk ((by rw [hg]; exact (below_size (by repeat (first | (with_reducible first | exact HB.out | apply below_alloc | apply pw_below_drewN | apply below_drew1) | exact HB.out))) : w.heap.size ≤ gb195)); clear HB; have HB := n0_; have BK195 := n1_; have GW195 := n2_; have GE195 := n3_; clear n0_ n1_ n2_ n3_; clear hb hbox hg) | ((with_reducible refine gate_dst (N := 3) rfl ?_); refine box_event ?hg (N := 3) ?hd (cs := #[.string a1_0, .slice A1_1 l1_1.length c1_1]) (t := 28) ?hr ?_; (case hd => rfl); (case hg => rfl); (case hr => first | (go_simp; done) | (go_simp; rfl)); intro gb196 hg w4 hbox hb; have n0_ := Aside0.mk (blk_below (g := gb195) (o := .cells #[.int .i64 a0_0, .string a0_1, .string a0_2, .slice A0_3 l0_3.length c0_3, .slice A0_4 l0_4.length c0_4] 25 (0, 0)) (by (with_reducible repeat (first | refine blk_drewN ?_ _ | refine blk_drew ?_ | refine blk_alloc ?_ _)); exact BK195.out) hb); have n1_ := Aside0.mk (below_step (by repeat (first | (with_reducible first | exact HB.out | apply below_alloc | apply pw_below_drewN | apply below_drew1 | refine below_set ?_ GE195.out) | exact HB.out)) hb); have n2_ := Aside0.mk (hbox); have n3_ := Aside0.mk ((by rw [hg]; exact (below_size (by repeat (first | (with_reducible first | exact HB.out | apply below_alloc | apply pw_below_drewN | apply below_drew1 | refine below_set ?_ GE195.out) | exact HB.out))) : w.heap.size ≤ gb196)); have n4_ := Aside0.mk ((by rw [hg]; exact (below_size (by repeat (first | (with_reducible first | exact HB.out | apply below_alloc | apply pw_below_drewN | apply below_drew1 | refine below_set ?_ GE195.out) | exact HB.out))) : w.heap.size ≤ gb196)); have n5_ := Aside0.mk ((by rw [hg]; exact Nat.ne_of_lt (blk_lt (g := gb195) (o := .cells #[.int .i64 a0_0, .string a0_1, .string a0_2, .slice A0_3 l0_3.length c0_3, .slice A0_4 l0_4.length c0_4] 25 (0, 0)) (by (with_reducible repeat (first | refine blk_drewN ?_ _ | refine blk_drew ?_ | refine blk_alloc ?_ _)); exact BK195.out)) : gb195 ≠ gb196)); have n6_ := Aside0.mk ((by rw [hg]; exact Nat.ne_of_gt (blk_lt (g := gb195) (o := .cells #[.int .i64 a0_0, .string a0_1, .string a0_2, .slice A0_3 l0_3.length c0_3, .slice A0_4 l0_4.length c0_4] 25 (0, 0)) (by (with_reducible repeat (first | refine blk_drewN ?_ _ | refine blk_drew ?_ | refine blk_alloc ?_ _)); exact BK195.out)) : gb196 ≠ gb195)); clear BK195; clear HB; have BK195 := n0_; have HB := n1_; have BK196 := n2_; have GW196 := n3_; have GE196 := n4_; have NB195_196 := n5_; have NB196_195 := n6_; clear n0_ n1_ n2_ n3_ n4_ n5_ n6_; clear hb hbox hg; have hnb5 := NB195_196.out; have hnc5 := NB196_195.out; have hcz6_0 : w4.cell? ⟨gb195, 0, none⟩ = some (.int .i64 a0_0) := (blk_cell BK195.out 0).trans rfl; have hcz6_1 : w4.cell? ⟨gb195, 1, none⟩ = some (.string a0_1) := (blk_cell BK195.out 1).trans rfl; have hcz6_2 : w4.cell? ⟨gb195, 2, none⟩ = some (.string a0_2) := (blk_cell BK195.out 2).trans rfl; have hcz6_3 : w4.cell? ⟨gb195, 3, none⟩ = some (.slice A0_3 l0_3.length c0_3) := (blk_cell BK195.out 3).trans rfl; have hcz6_4 : w4.cell? ⟨gb195, 4, none⟩ = some (.slice A0_4 l0_4.length c0_4) := (blk_cell BK195.out 4).trans rfl; have hfz6_0 := blk_frozen BK195.out 0; have hfz6_1 := blk_frozen BK195.out 1; have hfz6_2 := blk_frozen BK195.out 2; have hfz6_3 := blk_frozen BK195.out 3; have hfz6_4 := blk_frozen BK195.out 4))
 go_loopg [5, 15] k (fun kq v5 v15 w' => ∃ (x5_1 : List Int) (x15_1 : Int), v15 = .int .i64 x15_1 ∧ Aside0 (eval_eval.l0 kq x5_1 l0_4 (l0_4.length : Int) x15_1 a0_0 a0_1 a0_2 l0_3 l0_4 a1_0 l1_1 = some r) ∧ Aside0 (kq ≤ k) ∧ Aside0 (Kd.R (Kd.int .i64) 3 w' w.heap.size (fun _ => True) v5 x5_1) ∧ Aside0 (w'.heap[gb195]? = some (.cells #[.int .i64 a0_0, .string a0_1, .string a0_2, (.slice A0_3 l0_3.length c0_3), (.slice A0_4 l0_4.length c0_4)] 25 (0, 0))) ∧ Aside0 (w'.heap[gb196]? = some (.cells #[.string a1_0, (.slice A1_1 l1_1.length c1_1)] 28 (0, 0))) ∧ Aside0 (Below w.heap.size w w'))
 case atStart => exact ⟨(([] : List Int)), (0), (by first | rfl | (simp; done) | (simp [*]; done) | (simp [*, i64_w, i32_w, u8_w]; done) | (simp only [bneNil, beqNil]; done) | (simp only [bneNil, beqNil]; simp; done) | (simp only [bneNil, beqNil]; simp [*]; done)), H', ⟨Nat.le_refl _⟩, ⟨by first | exact Kd.R_nil _ _ _ _ _ | exact Kd.N_nil _ _ _ _ _ | exact Kd.V_nil _ _ _ _ _ | exact Kd.Q_nil _ _ _ _ _ | exact Kd.S_nil _ _ _ _ _⟩, ⟨by (with_reducible repeat (first | refine blk_drewN ?_ _ | refine blk_drew ?_ | refine blk_alloc ?_ _)); exact BK195.out⟩, ⟨by (with_reducible repeat (first | refine blk_drewN ?_ _ | refine blk_drew ?_ | refine blk_alloc ?_ _)); exact BK196.out⟩, ⟨by repeat (first | (with_reducible first | exact HB.out | apply below_alloc | apply pw_below_drewN | apply below_drew1 | refine below_set ?_ GE195.out | refine below_set ?_ GE196.out) | exact HB.out)⟩⟩
 case round =>
  clear H'
  try clear c1
  try clear c2
  try clear p2
  try clear c5
  try clear hcz6_0
  try clear hcz6_1
  try clear hcz6_2
  try clear hcz6_3
  try clear hcz6_4
  try clear hfz6_0
  try clear hfz6_1
  try clear hfz6_2
  try clear hfz6_3
  try clear hfz6_4
  obtain ⟨x5_1, x15_1, rfl, HA, HK1, HO_5, BK195, BK196, HB⟩ := hrel
  cases gk with
  | zero => exact absurd HA.out (by simp [eval_eval.l0])
  | succ k1 =>
   have H := HA.out
   clear HA
   simp only [eval_eval.l0] at H
   by_cases c7 : x15_1 < (l0_4.length : Int)
   ·rw [if_pos c7] at H
    have c7b0 : decide (x15_1 < (l0_4.length : Int)) = true := decide_eq_true c7
    clear c7
    by_cases c8 : 0 ≤ x15_1
    ·rw [if_pos c8] at H
     have c8b0 : decide (0 ≤ x15_1) = true := decide_eq_true c8
     clear c8
     by_cases c9 : x15_1 < (l0_4.length : Int)
     ·rw [if_pos c9] at H
      have c9b0 : decide (x15_1 < (l0_4.length : Int)) = true := decide_eq_true c9
      clear c9
      replace H := Option.bind_eq_some_iff.mp H
      obtain ⟨t199, A100, H⟩ := H
      replace H : (if x5_1.length < 17592186044416 then (eval_eval.l0 k1 (x5_1 ++ [t199]) l0_4 (l0_4.length : Int) (wrap64 (x15_1 + 1)) a0_0 a0_1 a0_2 l0_3 l0_4 a1_0 l1_1) else (none)) = some r := H
      have A10 := Aside0.mk A100
      clear A100
      by_cases c11 : x5_1.length < 17592186044416
      ·rw [if_pos c11] at H
       have LMc11 := Aside0.mk c11
       clear c11
       obtain ⟨y200, hy200⟩ : ∃ y_ : List Int, y_ = (x5_1 ++ [t199]) := ⟨_, rfl⟩
       replace H : (eval_eval.l0 k1 y200 l0_4 (l0_4.length : Int) (wrap64 (x15_1 + 1)) a0_0 a0_1 a0_2 l0_3 l0_4 a1_0 l1_1) = some r := by first | (rw [hy200]; with_reducible exact H) | (have H2_ := (Option.bind_some _ _).symm.trans H; rw [hy200]; with_reducible exact H2_) | (have H2_ := (Option.bind_some _ _).symm.trans H; with_reducible exact H2_) | with_reducible exact H | (rw [hy200]; exact H) | exact H
       have Ny200 := Aside0.mk hy200
       clear hy200
       have H' := Aside0.mk H
       clear H
       have p197 : 0 ≤ (x15_1 : Int) := of_decide_eq_true (by first | (with_reducible assumption) | assumption)
       have q197 : x15_1 < (l0_4.length : Int) := of_decide_eq_true (by first | (with_reducible assumption) | assumption)
       obtain ⟨ad197, A197_3, c197_3, A197_4, c197_4, e197, hx197_0, hx197_1, hx197_2, hx197_3, hx197_4, hl197_3, hi197_3, hl197_4, hi197_4⟩ := at_T25 HR0_4.out x15_1 p197 q197
       cases e197
       replace hx197_0 := (HB.out.cell (World.block_lt_of_cell? w _ hx197_0)).trans hx197_0
       replace hx197_1 := (HB.out.cell (World.block_lt_of_cell? w _ hx197_1)).trans hx197_1
       replace hx197_2 := (HB.out.cell (World.block_lt_of_cell? w _ hx197_2)).trans hx197_2
       replace hx197_3 := (HB.out.cell (World.block_lt_of_cell? w _ hx197_3)).trans hx197_3
       replace hx197_4 := (HB.out.cell (World.block_lt_of_cell? w _ hx197_4)).trans hx197_4
       have HR197_3 := Aside0.mk hi197_3
       have HC197_3 := Aside0.mk hl197_3
       clear hi197_3 hl197_3
       have HR197_4 := Aside0.mk hi197_4
       have HC197_4 := Aside0.mk hl197_4
       clear hi197_4 hl197_4
       replace p197 := eq_true p197
       replace q197 := eq_true q197
       go_wp2_with (first | ((with_reducible refine gate_dst (N := 7) rfl ?_); refine box_event ?hg (N := 7) ?hd (cs := #[.int .i64 0, .string (⟨#[]⟩ : ByteArray), .string (⟨#[]⟩ : ByteArray), .slice none 0 0, .slice none 0 0]) (t := 25) ?hr ?_; (case hd => rfl); (case hg => rfl); (case hr => first | (go_simp; done) | (go_simp; rfl)); intro gb198 hg w12 hbox hb; have n0_ := Aside0.mk (Kd.R_below (by (with_reducible repeat (first | apply Kd.R_alloc | apply Kd.R_drewN | apply Kd.R_drew)); exact HO_5.out) hb); have n1_ := Aside0.mk (blk_below (g := gb195) (o := .cells #[.int .i64 a0_0, .string a0_1, .string a0_2, .slice A0_3 l0_3.length c0_3, .slice (some ad197) l0_4.length c0_4] 25 (0, 0)) (by (with_reducible repeat (first | refine blk_drewN ?_ _ | refine blk_drew ?_ | refine blk_alloc ?_ _)); exact BK195.out) hb); have n2_ := Aside0.mk (blk_below (g := gb196) (o := .cells #[.string a1_0, .slice A1_1 l1_1.length c1_1] 28 (0, 0)) (by (with_reducible repeat (first | refine blk_drewN ?_ _ | refine blk_drew ?_ | refine blk_alloc ?_ _)); exact BK196.out) hb); have n3_ := Aside0.mk (below_step (by repeat (first | (with_reducible first | exact HB.out | apply below_alloc | apply pw_below_drewN | apply below_drew1 | refine below_set ?_ GE195.out | refine below_set ?_ GE196.out) | exact HB.out)) hb); have n4_ := Aside0.mk (hbox); have n5_ := Aside0.mk ((by rw [hg]; exact (below_size (by repeat (first | (with_reducible first | exact HB.out | apply below_alloc | apply pw_below_drewN | apply below_drew1 | refine below_set ?_ GE195.out | refine below_set ?_ GE196.out) | exact HB.out))) : w.heap.size ≤ gb198)); have n6_ := Aside0.mk ((by rw [hg]; exact (below_size (by repeat (first | (with_reducible first | exact HB.out | apply below_alloc | apply pw_below_drewN | apply below_drew1 | refine below_set ?_ GE195.out | refine below_set ?_ GE196.out) | exact HB.out))) : w.heap.size ≤ gb198)); have n7_ := Aside0.mk ((by rw [hg]; exact Nat.ne_of_lt (blk_lt (g := gb195) (o := .cells #[.int .i64 a0_0, .string a0_1, .string a0_2, .slice A0_3 l0_3.length c0_3, .slice (some ad197) l0_4.length c0_4] 25 (0, 0)) (by (with_reducible repeat (first | refine blk_drewN ?_ _ | refine blk_drew ?_ | refine blk_alloc ?_ _)); exact BK195.out)) : gb195 ≠ gb198)); have n8_ := Aside0.mk ((by rw [hg]; exact Nat.ne_of_gt (blk_lt (g := gb195) (o := .cells #[.int .i64 a0_0, .string a0_1, .string a0_2, .slice A0_3 l0_3.length c0_3, .slice (some ad197) l0_4.length c0_4] 25 (0, 0)) (by (with_reducible repeat (first | refine blk_drewN ?_ _ | refine blk_drew ?_ | refine blk_alloc ?_ _)); exact BK195.out)) : gb198 ≠ gb195)); have n9_ := Aside0.mk ((by rw [hg]; exact Nat.ne_of_lt (blk_lt (g := gb196) (o := .cells #[.string a1_0, .slice A1_1 l1_1.length c1_1] 28 (0, 0)) (by (with_reducible repeat (first | refine blk_drewN ?_ _ | refine blk_drew ?_ | refine blk_alloc ?_ _)); exact BK196.out)) : gb196 ≠ gb198)); have n10_ := Aside0.mk ((by rw [hg]; exact Nat.ne_of_gt (blk_lt (g := gb196) (o := .cells #[.string a1_0, .slice A1_1 l1_1.length c1_1] 28 (0, 0)) (by (with_reducible repeat (first | refine blk_drewN ?_ _ | refine blk_drew ?_ | refine blk_alloc ?_ _)); exact BK196.out)) : gb198 ≠ gb196)); clear HO_5; clear BK195; clear BK196; clear HB; have HO_5 := n0_; have BK195 := n1_; have BK196 := n2_; have HB := n3_; have BK198 := n4_; have GW198 := n5_; have GE198 := n6_; have NB195_198 := n7_; have NB198_195 := n8_; have NB196_198 := n9_; have NB198_196 := n10_; clear n0_ n1_ n2_ n3_ n4_ n5_ n6_ n7_ n8_ n9_ n10_; clear hb hbox hg; have hnb13 := NB198_195.out; have hnc13 := NB195_198.out; have hnb14 := NB198_196.out; have hnc14 := NB196_198.out; have hcz15_0 : w12.cell? ⟨gb198, 0, none⟩ = some (.int .i64 0) := (blk_cell BK198.out 0).trans rfl; have hcz15_1 : w12.cell? ⟨gb198, 1, none⟩ = some (.string (⟨#[]⟩ : ByteArray)) := (blk_cell BK198.out 1).trans rfl; have hcz15_2 : w12.cell? ⟨gb198, 2, none⟩ = some (.string (⟨#[]⟩ : ByteArray)) := (blk_cell BK198.out 2).trans rfl; have hcz15_3 : w12.cell? ⟨gb198, 3, none⟩ = some (.slice none 0 0) := (blk_cell BK198.out 3).trans rfl; have hcz15_4 : w12.cell? ⟨gb198, 4, none⟩ = some (.slice none 0 0) := (blk_cell BK198.out 4).trans rfl; have hfz15_0 := blk_frozen BK198.out 0; have hfz15_1 := blk_frozen BK198.out 1; have hfz15_2 := blk_frozen BK198.out 2; have hfz15_3 := blk_frozen BK198.out 3; have hfz15_4 := blk_frozen BK198.out 4; have hnb16 := NB196_195.out; have hnc16 := NB195_196.out; have hcz17_0 : w12.cell? ⟨gb196, 0, none⟩ = some (.string a1_0) := (blk_cell BK196.out 0).trans rfl; have hcz17_1 : w12.cell? ⟨gb196, 1, none⟩ = some (.slice A1_1 l1_1.length c1_1) := (blk_cell BK196.out 1).trans rfl; have hfz17_0 := blk_frozen BK196.out 0; have hfz17_1 := blk_frozen BK196.out 1) | ((with_reducible refine gate_callee (f := 27) rfl ?_); refine goesL_ (some 22) rfl rfl Tryz.func27 (by kernel_rfl) rfl #[.agg #[.int .i64 ((rd_T25 l0_4 x15_1).f0), .string ((rd_T25 l0_4 x15_1).f1), .string ((rd_T25 l0_4 x15_1).f2), .slice A197_3 ((rd_T25 l0_4 x15_1).f3).length c197_3, .slice A197_4 ((rd_T25 l0_4 x15_1).f4).length c197_4], .agg #[.string a1_0, .slice A1_1 l1_1.length c1_1]] rfl (by (try simp only [List.map_toArray, List.map_cons, List.map_nil]); first | done | rfl | (simp only [List.length_drop, List.length_take]; rfl)) ?_; (with_reducible refine (ih k1 (by have := HK1.out; omega) ((rd_T25 l0_4 x15_1).f0) ((rd_T25 l0_4 x15_1).f1) ((rd_T25 l0_4 x15_1).f2) _ _ ((rd_T25 l0_4 x15_1).f3) _ _ ((rd_T25 l0_4 x15_1).f4) a1_0 _ _ l1_1 t199 _ ?side1 ?side2 ?side3 ?side4 ?side5 ?side6 ?side7 A10.out).mono ?_); (case side1 => exact Kd.C_below HR197_3.out (by repeat (first | (with_reducible first | exact HB.out | apply below_alloc | apply pw_below_drewN | apply below_drew1 | refine below_set ?_ GE195.out | refine below_set ?_ GE196.out | refine below_set ?_ GE198.out) | exact HB.out))); (case side2 => exact HC197_3.out); (case side3 => exact Kd.C_below HR197_4.out (by repeat (first | (with_reducible first | exact HB.out | apply below_alloc | apply pw_below_drewN | apply below_drew1 | refine below_set ?_ GE195.out | refine below_set ?_ GE196.out | refine below_set ?_ GE198.out) | exact HB.out))); (case side4 => exact HC197_4.out); (case side5 => exact Kd.C_below HR1_1.out (by repeat (first | (with_reducible first | exact HB.out | apply below_alloc | apply pw_below_drewN | apply below_drew1 | refine below_set ?_ GE195.out | refine below_set ?_ GE196.out | refine below_set ?_ GE198.out) | exact HB.out))); (case side6 => exact HC1_1.out); (case side7 => first | exact HG.out | exact Gl.drewN HG.out _ | exact Gl.below HG.out (by repeat (first | (with_reducible first | exact HB.out | apply below_alloc | apply pw_below_drewN | apply below_drew1 | refine below_set ?_ GE195.out | refine below_set ?_ GE196.out | refine below_set ?_ GE198.out) | exact HB.out))); rintro e w18 ⟨rfl, hb⟩; refine ⟨_, rfl, ?_⟩; have n0_ := Aside0.mk (Kd.R_below (by (with_reducible repeat (first | apply Kd.R_alloc | apply Kd.R_drewN | apply Kd.R_drew)); exact (Kd.R_mono (Kd.R_far (p := ⟨gb198, 4, none⟩) (Kd.R_far (p := ⟨gb198, 3, none⟩) (Kd.R_far (p := ⟨gb198, 2, none⟩) (Kd.R_far (p := ⟨gb198, 1, none⟩) (Kd.R_far (p := ⟨gb198, 0, none⟩) (Kd.R_types HO_5.out BK198.out (by decide)) (fun _ hk => hk.2) (.int .i64 ((rd_T25 l0_4 x15_1).f0))) (fun _ hk => hk.2) (.string ((rd_T25 l0_4 x15_1).f1))) (fun _ hk => hk.2) (.string ((rd_T25 l0_4 x15_1).f2))) (fun _ hk => hk.2) (.slice A197_3 ((rd_T25 l0_4 x15_1).f3).length c197_3)) (fun _ hk => hk.2) (.slice A197_4 ((rd_T25 l0_4 x15_1).f4).length c197_4)) (fun _ h_ => h_.1))) hb); have n1_ := Aside0.mk (blk_below (g := gb195) (o := .cells #[.int .i64 a0_0, .string a0_1, .string a0_2, .slice A0_3 l0_3.length c0_3, .slice (some ad197) l0_4.length c0_4] 25 (0, 0)) (by (with_reducible repeat (first | refine blk_drewN ?_ _ | refine blk_drew ?_ | refine blk_alloc ?_ _)); refine blk_far ?_ NB195_198.out _; (with_reducible repeat (first | refine blk_drewN ?_ _ | refine blk_drew ?_ | refine blk_alloc ?_ _)); refine blk_far ?_ NB195_198.out _; (with_reducible repeat (first | refine blk_drewN ?_ _ | refine blk_drew ?_ | refine blk_alloc ?_ _)); refine blk_far ?_ NB195_198.out _; (with_reducible repeat (first | refine blk_drewN ?_ _ | refine blk_drew ?_ | refine blk_alloc ?_ _)); refine blk_far ?_ NB195_198.out _; (with_reducible repeat (first | refine blk_drewN ?_ _ | refine blk_drew ?_ | refine blk_alloc ?_ _)); refine blk_far ?_ NB195_198.out _; (with_reducible repeat (first | refine blk_drewN ?_ _ | refine blk_drew ?_ | refine blk_alloc ?_ _)); exact BK195.out) hb); have n2_ := Aside0.mk (blk_below (g := gb196) (o := .cells #[.string a1_0, .slice A1_1 l1_1.length c1_1] 28 (0, 0)) (by (with_reducible repeat (first | refine blk_drewN ?_ _ | refine blk_drew ?_ | refine blk_alloc ?_ _)); refine blk_far ?_ NB196_198.out _; (with_reducible repeat (first | refine blk_drewN ?_ _ | refine blk_drew ?_ | refine blk_alloc ?_ _)); refine blk_far ?_ NB196_198.out _; (with_reducible repeat (first | refine blk_drewN ?_ _ | refine blk_drew ?_ | refine blk_alloc ?_ _)); refine blk_far ?_ NB196_198.out _; (with_reducible repeat (first | refine blk_drewN ?_ _ | refine blk_drew ?_ | refine blk_alloc ?_ _)); refine blk_far ?_ NB196_198.out _; (with_reducible repeat (first | refine blk_drewN ?_ _ | refine blk_drew ?_ | refine blk_alloc ?_ _)); refine blk_far ?_ NB196_198.out _; (with_reducible repeat (first | refine blk_drewN ?_ _ | refine blk_drew ?_ | refine blk_alloc ?_ _)); exact BK196.out) hb); have n3_ := Aside0.mk (blk_below (g := gb198) (o := .cells #[.int .i64 ((rd_T25 l0_4 x15_1).f0), .string ((rd_T25 l0_4 x15_1).f1), .string ((rd_T25 l0_4 x15_1).f2), .slice A197_3 ((rd_T25 l0_4 x15_1).f3).length c197_3, .slice A197_4 ((rd_T25 l0_4 x15_1).f4).length c197_4] 25 (0, 0)) (by (with_reducible repeat (first | refine blk_drewN ?_ _ | refine blk_drew ?_ | refine blk_alloc ?_ _)); refine blk_put (cs := #[.int .i64 ((rd_T25 l0_4 x15_1).f0), .string ((rd_T25 l0_4 x15_1).f1), .string ((rd_T25 l0_4 x15_1).f2), .slice A197_3 ((rd_T25 l0_4 x15_1).f3).length c197_3, .slice none 0 0]) ?_ 4 _ (by first | rfl | (simp only [bneNil, beqNil]; rfl) | simp [bneNil, beqNil]); (with_reducible repeat (first | refine blk_drewN ?_ _ | refine blk_drew ?_ | refine blk_alloc ?_ _)); refine blk_put (cs := #[.int .i64 ((rd_T25 l0_4 x15_1).f0), .string ((rd_T25 l0_4 x15_1).f1), .string ((rd_T25 l0_4 x15_1).f2), .slice none 0 0, .slice none 0 0]) ?_ 3 _ (by first | rfl | (simp only [bneNil, beqNil]; rfl) | simp [bneNil, beqNil]); (with_reducible repeat (first | refine blk_drewN ?_ _ | refine blk_drew ?_ | refine blk_alloc ?_ _)); refine blk_put (cs := #[.int .i64 ((rd_T25 l0_4 x15_1).f0), .string ((rd_T25 l0_4 x15_1).f1), .string (⟨#[]⟩ : ByteArray), .slice none 0 0, .slice none 0 0]) ?_ 2 _ (by first | rfl | (simp only [bneNil, beqNil]; rfl) | simp [bneNil, beqNil]); (with_reducible repeat (first | refine blk_drewN ?_ _ | refine blk_drew ?_ | refine blk_alloc ?_ _)); refine blk_put (cs := #[.int .i64 ((rd_T25 l0_4 x15_1).f0), .string (⟨#[]⟩ : ByteArray), .string (⟨#[]⟩ : ByteArray), .slice none 0 0, .slice none 0 0]) ?_ 1 _ (by first | rfl | (simp only [bneNil, beqNil]; rfl) | simp [bneNil, beqNil]); (with_reducible repeat (first | refine blk_drewN ?_ _ | refine blk_drew ?_ | refine blk_alloc ?_ _)); refine blk_put (cs := #[.int .i64 0, .string (⟨#[]⟩ : ByteArray), .string (⟨#[]⟩ : ByteArray), .slice none 0 0, .slice none 0 0]) ?_ 0 _ (by first | rfl | (simp only [bneNil, beqNil]; rfl) | simp [bneNil, beqNil]); (with_reducible repeat (first | refine blk_drewN ?_ _ | refine blk_drew ?_ | refine blk_alloc ?_ _)); exact BK198.out) hb); have n4_ := Aside0.mk (below_step (by repeat (first | (with_reducible first | exact HB.out | apply below_alloc | apply pw_below_drewN | apply below_drew1 | refine below_set ?_ GE195.out | refine below_set ?_ GE196.out | refine below_set ?_ GE198.out) | exact HB.out)) hb); clear HO_5; clear BK195; clear BK196; clear BK198; clear HB; have HO_5 := n0_; have BK195 := n1_; have BK196 := n2_; have BK198 := n3_; have HB := n4_; clear n0_ n1_ n2_ n3_ n4_; (try clear hb); (try clear hb2); (try clear hk); (try clear hi)) | ((with_reducible refine gate_builtin (b := .append) (xs := #[.tmp 19, .tmp 23]) rfl ?_); at_builtin; refine Kd.R_append (Kd.int .i64) (w0 := w) w.heap.size rfl (.tmp 19) (.tmp 23) 41 3 (.int .i64 0) 8 rfl Tryz.underlying41 info3 rfl (by decide) (by omega) u5 x5_1 t199 [.int .i64 t199] (fun _ => True) (fun _ => False) rfl rfl ?aP (fun _ hk => hk.elim) ?aF ?aO ?aB ?aS ?aL ?_; (case aP => exact rfl); (case aB => exact (by repeat (first | (with_reducible first | exact HB.out | apply below_alloc | apply pw_below_drewN | apply below_drew1 | refine below_set ?_ GE195.out | refine below_set ?_ GE196.out | refine below_set ?_ GE198.out) | exact HB.out))); (case aF => exact (fun _ _ => trivial)); (case aO => exact (by (with_reducible repeat (first | apply Kd.R_alloc | apply Kd.R_drewN | apply Kd.R_drew)); exact HO_5.out)); (case aS => exact (below_size (by repeat (first | (with_reducible first | exact HB.out | apply below_alloc | apply pw_below_drewN | apply below_drew1 | refine below_set ?_ GE195.out | refine below_set ?_ GE196.out | refine below_set ?_ GE198.out) | exact HB.out)))); (case aL => have := LMc11.out; omega); intro v201 w19 ho hb hg hat; rw [← Ny200.out] at ho; have n0_ := Aside0.mk (blk_grown (g := gb195) (o := .cells #[.int .i64 a0_0, .string a0_1, .string a0_2, .slice A0_3 l0_3.length c0_3, .slice (some ad197) l0_4.length c0_4] 25 (0, 0)) (by (with_reducible repeat (first | refine blk_drewN ?_ _ | refine blk_drew ?_ | refine blk_alloc ?_ _)); exact BK195.out) hg (Kd.R_ne HO_5.out BK195.out (by decide))); have n1_ := Aside0.mk (blk_grown (g := gb196) (o := .cells #[.string a1_0, .slice A1_1 l1_1.length c1_1] 28 (0, 0)) (by (with_reducible repeat (first | refine blk_drewN ?_ _ | refine blk_drew ?_ | refine blk_alloc ?_ _)); exact BK196.out) hg (Kd.R_ne HO_5.out BK196.out (by decide))); have n2_ := Aside0.mk (blk_grown (g := gb198) (o := .cells #[.int .i64 ((rd_T25 l0_4 x15_1).f0), .string ((rd_T25 l0_4 x15_1).f1), .string ((rd_T25 l0_4 x15_1).f2), .slice A197_3 ((rd_T25 l0_4 x15_1).f3).length c197_3, .slice A197_4 ((rd_T25 l0_4 x15_1).f4).length c197_4] 25 (0, 0)) (by (with_reducible repeat (first | refine blk_drewN ?_ _ | refine blk_drew ?_ | refine blk_alloc ?_ _)); exact BK198.out) hg (Kd.R_ne HO_5.out BK198.out (by decide))); have n3_ := Aside0.mk (hb); have n4_ := Aside0.mk (ho); clear BK195; clear BK196; clear BK198; clear HB; clear HO_5; have BK195 := n0_; have BK196 := n1_; have BK198 := n2_; have HB := n3_; have HO202 := n4_; clear n0_ n1_ n2_ n3_ n4_; clear ho hb hg hat))
       go_roundg k1
       case measure => have := HK1.out; omega
       case rel => exact ⟨(y200), (wrap64 (x15_1 + 1)), (by first | rfl | (simp; done) | (simp [*]; done) | (simp [*, i64_w, i32_w, u8_w]; done) | (simp only [bneNil, beqNil]; done) | (simp only [bneNil, beqNil]; simp; done) | (simp only [bneNil, beqNil]; simp [*]; done)), H', ⟨by have := HK1.out; omega⟩, ⟨by (with_reducible repeat (first | apply Kd.R_alloc | apply Kd.R_drewN | apply Kd.R_drew)); exact HO202.out⟩, ⟨by (with_reducible repeat (first | refine blk_drewN ?_ _ | refine blk_drew ?_ | refine blk_alloc ?_ _)); exact BK195.out⟩, ⟨by (with_reducible repeat (first | refine blk_drewN ?_ _ | refine blk_drew ?_ | refine blk_alloc ?_ _)); exact BK196.out⟩, ⟨by repeat (first | (with_reducible first | exact HB.out | apply below_alloc | apply pw_below_drewN | apply below_drew1 | refine below_set ?_ GE195.out | refine below_set ?_ GE196.out | refine below_set ?_ GE198.out) | exact HB.out)⟩⟩
      ·rw [if_neg c11] at H
       exact absurd H (by simp)
     ·rw [if_neg c9] at H
      exact absurd H (by simp)
    ·rw [if_neg c8] at H
     exact absurd H (by simp)
   ·rw [if_neg c7] at H
    have c7b0 : decide (x15_1 < (l0_4.length : Int)) = false := decide_eq_false c7
    clear c7
    by_cases c20 : a0_0 = 1
    ·rw [if_pos c20] at H
     have c20b0 : (a0_0 == 1) = true := beq_iff_eq.mpr c20
     have c20b1 : (a0_0 != 1) = false := bne_eq_false_iff_eq.mpr c20
     clear c20
     replace H := Option.bind_eq_some_iff.mp H
     obtain ⟨t203, A210, H⟩ := H
     replace H : (some t203) = some r := H
     have A21 := Aside0.mk A210
     clear A210
     obtain rfl := Option.some.inj H
     have hnb22 := NB195_196.out
     have hnc22 := NB196_195.out
     have hcz23_0 : wr.cell? ⟨gb195, 0, none⟩ = some (.int .i64 a0_0) := (blk_cell BK195.out 0).trans rfl
     have hcz23_1 : wr.cell? ⟨gb195, 1, none⟩ = some (.string a0_1) := (blk_cell BK195.out 1).trans rfl
     have hcz23_2 : wr.cell? ⟨gb195, 2, none⟩ = some (.string a0_2) := (blk_cell BK195.out 2).trans rfl
     have hcz23_3 : wr.cell? ⟨gb195, 3, none⟩ = some (.slice A0_3 l0_3.length c0_3) := (blk_cell BK195.out 3).trans rfl
     have hcz23_4 : wr.cell? ⟨gb195, 4, none⟩ = some (.slice A0_4 l0_4.length c0_4) := (blk_cell BK195.out 4).trans rfl
     have hfz23_0 := blk_frozen BK195.out 0
     have hfz23_1 := blk_frozen BK195.out 1
     have hfz23_2 := blk_frozen BK195.out 2
     have hfz23_3 := blk_frozen BK195.out 3
     have hfz23_4 := blk_frozen BK195.out 4
     obtain ⟨Ao24, co24, eo24⟩ := Kd.R_slice HO_5.out
     subst eo24
     go_wp2_with (first | ((with_reducible refine gate_callee (f := 34) rfl ?_); refine goesL_ (some 31) rfl rfl Tryz.func34 (by kernel_rfl) rfl #[.slice Ao24 x5_1.length co24, .int .i64 0, .int .i64 1] rfl (by (try simp only [List.map_toArray, List.map_cons, List.map_nil]); first | done | rfl | (simp only [List.length_drop, List.length_take]; rfl)) ?_; (with_reducible refine (eval_first.calls k1 _ _ x5_1 0 1 t203 _ ?side1 ?side2 A21.out).mono ?_); (case side1 => repeat (first | exact (Kd.R_reads' HO_5.out).2.2 | (with_reducible refine Kd.C_alloc ?_ _) | (with_reducible refine Kd.C_drewN ?_ _) | (with_reducible refine Kd.C_drew ?_))); (case side2 => exact (Kd.R_reads' HO_5.out).2.1); rintro e w' ⟨rfl, ⟨nd, rfl⟩⟩; refine ⟨_, rfl, ?_⟩))
     go_ret
     exact ⟨by first | rfl | (simp [errW_none, errW_some] <;> rfl) | (simp [*, errW_none, errW_some] <;> rfl), by repeat (first | (with_reducible first | exact HB.out | apply below_alloc | apply pw_below_drewN | apply below_drew1 | refine below_set ?_ GE195.out | refine below_set ?_ GE196.out) | exact HB.out)⟩
    ·rw [if_neg c20] at H
     have c20b0 : (a0_0 == 1) = false := beq_eq_false_iff_ne.mpr c20
     have c20b1 : (a0_0 != 1) = true := bne_iff_ne.mpr c20
     by_cases c25 : a0_0 = 2
     ·rw [if_pos c25] at H
      have c25b0 : (a0_0 == 2) = true := beq_iff_eq.mpr c25
      have c25b1 : (a0_0 != 2) = false := bne_eq_false_iff_eq.mpr c25
      clear c25
      replace H := Option.bind_eq_some_iff.mp H
      obtain ⟨t204, A260, H⟩ := H
      replace H : (some t204) = some r := H
      have A26 := Aside0.mk A260
      clear A260
      obtain rfl := Option.some.inj H
      have hnb27 := NB195_196.out
      have hnc27 := NB196_195.out
      have hcz28_0 : wr.cell? ⟨gb195, 0, none⟩ = some (.int .i64 a0_0) := (blk_cell BK195.out 0).trans rfl
      have hcz28_1 : wr.cell? ⟨gb195, 1, none⟩ = some (.string a0_1) := (blk_cell BK195.out 1).trans rfl
      have hcz28_2 : wr.cell? ⟨gb195, 2, none⟩ = some (.string a0_2) := (blk_cell BK195.out 2).trans rfl
      have hcz28_3 : wr.cell? ⟨gb195, 3, none⟩ = some (.slice A0_3 l0_3.length c0_3) := (blk_cell BK195.out 3).trans rfl
      have hcz28_4 : wr.cell? ⟨gb195, 4, none⟩ = some (.slice A0_4 l0_4.length c0_4) := (blk_cell BK195.out 4).trans rfl
      have hfz28_0 := blk_frozen BK195.out 0
      have hfz28_1 := blk_frozen BK195.out 1
      have hfz28_2 := blk_frozen BK195.out 2
      have hfz28_3 := blk_frozen BK195.out 3
      have hfz28_4 := blk_frozen BK195.out 4
      obtain ⟨Ao29, co29, eo29⟩ := Kd.R_slice HO_5.out
      subst eo29
      go_wp2_with (first | ((with_reducible refine gate_callee (f := 34) rfl ?_); refine goesL_ (some 35) rfl rfl Tryz.func34 (by kernel_rfl) rfl #[.slice Ao29 x5_1.length co29, .int .i64 1, .int .i64 0] rfl (by (try simp only [List.map_toArray, List.map_cons, List.map_nil]); first | done | rfl | (simp only [List.length_drop, List.length_take]; rfl)) ?_; (with_reducible refine (eval_first.calls k1 _ _ x5_1 1 0 t204 _ ?side1 ?side2 A26.out).mono ?_); (case side1 => repeat (first | exact (Kd.R_reads' HO_5.out).2.2 | (with_reducible refine Kd.C_alloc ?_ _) | (with_reducible refine Kd.C_drewN ?_ _) | (with_reducible refine Kd.C_drew ?_))); (case side2 => exact (Kd.R_reads' HO_5.out).2.1); rintro e w' ⟨rfl, ⟨nd, rfl⟩⟩; refine ⟨_, rfl, ?_⟩))
      go_ret
      exact ⟨by first | rfl | (simp [errW_none, errW_some] <;> rfl) | (simp [*, errW_none, errW_some] <;> rfl), by repeat (first | (with_reducible first | exact HB.out | apply below_alloc | apply pw_below_drewN | apply below_drew1 | refine below_set ?_ GE195.out | refine below_set ?_ GE196.out) | exact HB.out)⟩
     ·rw [if_neg c25] at H
      have c25b0 : (a0_0 == 2) = false := beq_eq_false_iff_ne.mpr c25
      have c25b1 : (a0_0 != 2) = true := bne_iff_ne.mpr c25
      by_cases c30 : a0_0 = 3
      ·rw [if_pos c30] at H
       have c30b0 : (a0_0 == 3) = true := beq_iff_eq.mpr c30
       have c30b1 : (a0_0 != 3) = false := bne_eq_false_iff_eq.mpr c30
       clear c30
       obtain ⟨y205, hy205⟩ : ∃ y_ : List Int, y_ = (([1, 0, 2] : List Int)) := ⟨_, rfl⟩
       replace H : (if 0 < (x5_1.length : Int) then (if 0 ≤ (rd x5_1 0) then (if (rd x5_1 0) < (y205.length : Int) then (some (rd y205 (rd x5_1 0))) else (none)) else (none)) else (none)) = some r := by first | (rw [hy205]; with_reducible exact H) | (have H2_ := (Option.bind_some _ _).symm.trans H; rw [hy205]; with_reducible exact H2_) | (have H2_ := (Option.bind_some _ _).symm.trans H; with_reducible exact H2_) | with_reducible exact H | (rw [hy205]; exact H) | exact H
       have Ny205 := Aside0.mk hy205
       clear hy205
       by_cases c31 : 0 < (x5_1.length : Int)
       ·rw [if_pos c31] at H
        have c31b0 : decide (0 < (x5_1.length : Int)) = true := decide_eq_true c31
        have c31b1 : decide (0 < x5_1.length) = true := decide_eq_true (by omega)
        clear c31
        by_cases c32 : 0 ≤ (rd x5_1 0)
        ·rw [if_pos c32] at H
         have c32b0 : decide (0 ≤ (rd x5_1 0)) = true := decide_eq_true c32
         clear c32
         by_cases c33 : (rd x5_1 0) < (y205.length : Int)
         ·rw [if_pos c33] at H
          have c33b0 : decide ((rd x5_1 0) < (y205.length : Int)) = true := decide_eq_true c33
          clear c33
          obtain rfl := Option.some.inj H
          have hnb34 := NB195_196.out
          have hnc34 := NB196_195.out
          have hcz35_0 : wr.cell? ⟨gb195, 0, none⟩ = some (.int .i64 a0_0) := (blk_cell BK195.out 0).trans rfl
          have hcz35_1 : wr.cell? ⟨gb195, 1, none⟩ = some (.string a0_1) := (blk_cell BK195.out 1).trans rfl
          have hcz35_2 : wr.cell? ⟨gb195, 2, none⟩ = some (.string a0_2) := (blk_cell BK195.out 2).trans rfl
          have hcz35_3 : wr.cell? ⟨gb195, 3, none⟩ = some (.slice A0_3 l0_3.length c0_3) := (blk_cell BK195.out 3).trans rfl
          have hcz35_4 : wr.cell? ⟨gb195, 4, none⟩ = some (.slice A0_4 l0_4.length c0_4) := (blk_cell BK195.out 4).trans rfl
          have hfz35_0 := blk_frozen BK195.out 0
          have hfz35_1 := blk_frozen BK195.out 1
          have hfz35_2 := blk_frozen BK195.out 2
          have hfz35_3 := blk_frozen BK195.out 3
          have hfz35_4 := blk_frozen BK195.out 4
          go_wp2_with (first | ((with_reducible refine gate_dst (N := 38) rfl ?_); refine Kd.R_lit (Kd.int .i64) _ 3 ?hg (N := 38) ?hd (xs := ([1, 0, 2] : List Int)) (inner := [.int .i64 1, .int .i64 0, .int .i64 2]) (ok := fun _ => True) (okp := fun _ => True) ?hr ?hp (fun _ hk => hk) trivial (Below.refl _ _) (Nat.le_refl _) (by simp) ?_; (case hd => rfl); (case hg => rfl); (case hr => first | (go_simp; done) | (go_simp; rfl)); (case hp => exact (Reps.one (show Kd.M (Kd.int .i64) _ _ _ 1 [.int .i64 1] from rfl) (Reps.one (show Kd.M (Kd.int .i64) _ _ _ 0 [.int .i64 0] from rfl) (Reps.one (show Kd.M (Kd.int .i64) _ _ _ 2 [.int .i64 2] from rfl) (Reps.none _ _))))); intro v206 w36 ho37 hb hg_ hnew_; clear hg_ hnew_; (first | rw [← Ny205.out] at ho37 | (simp only [Int.reduceToNat] at ho37; rw [← Ny205.out] at ho37)); have n0_ := Aside0.mk (Kd.R_elder' (by (with_reducible repeat (first | apply Kd.R_alloc | apply Kd.R_drewN | apply Kd.R_drew)); exact HO_5.out) (Kd.R_base ho37) hb); have n1_ := Aside0.mk (Kd.R_lower (Kd.R_new' ho37 (Kd.R_lt (by (with_reducible repeat (first | apply Kd.R_alloc | apply Kd.R_drewN | apply Kd.R_drew)); exact HO_5.out))) (below_size (by repeat (first | (with_reducible first | exact HB.out | apply below_alloc | apply pw_below_drewN | apply below_drew1 | refine below_set ?_ GE195.out | refine below_set ?_ GE196.out) | exact HB.out)))); have n2_ := Aside0.mk (blk_below (g := gb195) (o := .cells #[.int .i64 a0_0, .string a0_1, .string a0_2, .slice A0_3 l0_3.length c0_3, .slice A0_4 l0_4.length c0_4] 25 (0, 0)) (by (with_reducible repeat (first | refine blk_drewN ?_ _ | refine blk_drew ?_ | refine blk_alloc ?_ _)); exact BK195.out) hb); have n3_ := Aside0.mk (blk_below (g := gb196) (o := .cells #[.string a1_0, .slice A1_1 l1_1.length c1_1] 28 (0, 0)) (by (with_reducible repeat (first | refine blk_drewN ?_ _ | refine blk_drew ?_ | refine blk_alloc ?_ _)); exact BK196.out) hb); have n4_ := Aside0.mk (below_step (by repeat (first | (with_reducible first | exact HB.out | apply below_alloc | apply pw_below_drewN | apply below_drew1 | refine below_set ?_ GE195.out | refine below_set ?_ GE196.out) | exact HB.out)) hb); clear HO_5; clear BK195; clear BK196; clear HB; have HO_5 := n0_; have HO207 := n1_; have BK195 := n2_; have BK196 := n3_; have HB := n4_; clear n0_ n1_ n2_ n3_ n4_; clear hb ho37; obtain ⟨Ao38, co38, eo38⟩ := Kd.R_slice HO_5.out; subst eo38; have p208 : 0 ≤ (0 : Int) := (by omega); have q208 : 0 < (x5_1.length : Int) := of_decide_eq_true (by first | (with_reducible assumption) | assumption); obtain ⟨ad208, e208, hx208_0⟩ := Kd.at_int (Kd.R_reads' HO_5.out).2.2 0 p208 q208; cases e208; have qi208 : (0 < x5_1.length) = True := eq_true (by omega); (try rw [show ((0 : Int)).toNat = 0 from rfl] at hx208_0); (try rw [Addr.add_zero'] at hx208_0); replace p208 := eq_true p208; replace q208 := eq_true q208; obtain ⟨Ao39, co39, eo39⟩ := Kd.R_slice HO207.out; subst eo39; have p209 : 0 ≤ ((rd x5_1 0) : Int) := of_decide_eq_true (by first | (with_reducible assumption) | assumption); have q209 : (rd x5_1 0) < (y205.length : Int) := of_decide_eq_true (by first | (with_reducible assumption) | assumption); obtain ⟨ad209, e209, hx209_0⟩ := Kd.at_int (Kd.R_reads' HO207.out).2.2 (rd x5_1 0) p209 q209; cases e209; replace p209 := eq_true p209; replace q209 := eq_true q209))
          go_ret
          exact ⟨by first | rfl | (simp [errW_none, errW_some] <;> rfl) | (simp [*, errW_none, errW_some] <;> rfl), by repeat (first | (with_reducible first | exact HB.out | apply below_alloc | apply pw_below_drewN | apply below_drew1 | refine below_set ?_ GE195.out | refine below_set ?_ GE196.out) | exact HB.out)⟩
         ·rw [if_neg c33] at H
          exact absurd H (by simp)
        ·rw [if_neg c32] at H
         exact absurd H (by simp)
       ·rw [if_neg c31] at H
        exact absurd H (by simp)
      ·rw [if_neg c30] at H
       have c30b0 : (a0_0 == 3) = false := beq_eq_false_iff_ne.mpr c30
       have c30b1 : (a0_0 != 3) = true := bne_iff_ne.mpr c30
       replace H := Option.bind_eq_some_iff.mp H
       obtain ⟨⟨t210, t211⟩, A400, H⟩ := H
       replace H : (if t211 = true then (if a0_0 = 8 then ((entry_Vals.f a1_0 l1_1 a0_1).bind fun t212 => ((eval_truth.f (decide ((t212.length : Int) > 0))).bind fun t215 => (some t215))) else (if a0_0 = 5 then ((eval_sub.f a0_0 a0_1 a0_2 l0_3 l0_4 a1_0 l1_1).bind fun t216 => (some t216)) else (if a0_0 = 4 then ((match_Norm.f k1 a0_1 a0_2).bind fun bt217 => (if bt217.2 = true then ((entry_Has.f a1_0 l1_1 a0_1 a0_2).bind fun t219 => ((eval_truth.f t219).bind fun t220 => (some t220))) else (some 2))) else ((eval_order.f a0_0 a0_1 a0_2 l0_3 l0_4 a1_0 l1_1).bind fun t221 => (some t221))))) else (some 2)) = some r := H
       have A40 := Aside0.mk A400
       clear A400
       by_cases c41 : t211 = true
       ·subst c41
        have H1 : (if a0_0 = 8 then ((entry_Vals.f a1_0 l1_1 a0_1).bind fun t212 => ((eval_truth.f (decide ((t212.length : Int) > 0))).bind fun t215 => (some t215))) else (if a0_0 = 5 then ((eval_sub.f a0_0 a0_1 a0_2 l0_3 l0_4 a1_0 l1_1).bind fun t216 => (some t216)) else (if a0_0 = 4 then ((match_Norm.f k1 a0_1 a0_2).bind fun bt217 => (if bt217.2 = true then ((entry_Has.f a1_0 l1_1 a0_1 a0_2).bind fun t219 => ((eval_truth.f t219).bind fun t220 => (some t220))) else (some 2))) else ((eval_order.f a0_0 a0_1 a0_2 l0_3 l0_4 a1_0 l1_1).bind fun t221 => (some t221))))) = some r := by rw [if_pos rfl] at H; exact H
        clear H
        have H := H1
        clear H1
        by_cases c42 : a0_0 = 8
        ·rw [if_pos c42] at H
         have c42b0 : (a0_0 == 8) = true := beq_iff_eq.mpr c42
         have c42b1 : (a0_0 != 8) = false := bne_eq_false_iff_eq.mpr c42
         clear c42
         replace H := Option.bind_eq_some_iff.mp H
         obtain ⟨t212, A430, H⟩ := H
         replace H : ((eval_truth.f (decide ((t212.length : Int) > 0))).bind fun t215 => (some t215)) = some r := H
         have A43 := Aside0.mk A430
         clear A430
         replace H := Option.bind_eq_some_iff.mp H
         obtain ⟨t215, A440, H⟩ := H
         replace H : (some t215) = some r := H
         have A44 := Aside0.mk A440
         clear A440
         obtain rfl := Option.some.inj H
         have hnb45 := NB195_196.out
         have hnc45 := NB196_195.out
         have hcz46_0 : wr.cell? ⟨gb195, 0, none⟩ = some (.int .i64 a0_0) := (blk_cell BK195.out 0).trans rfl
         have hcz46_1 : wr.cell? ⟨gb195, 1, none⟩ = some (.string a0_1) := (blk_cell BK195.out 1).trans rfl
         have hcz46_2 : wr.cell? ⟨gb195, 2, none⟩ = some (.string a0_2) := (blk_cell BK195.out 2).trans rfl
         have hcz46_3 : wr.cell? ⟨gb195, 3, none⟩ = some (.slice A0_3 l0_3.length c0_3) := (blk_cell BK195.out 3).trans rfl
         have hcz46_4 : wr.cell? ⟨gb195, 4, none⟩ = some (.slice A0_4 l0_4.length c0_4) := (blk_cell BK195.out 4).trans rfl
         have hfz46_0 := blk_frozen BK195.out 0
         have hfz46_1 := blk_frozen BK195.out 1
         have hfz46_2 := blk_frozen BK195.out 2
         have hfz46_3 := blk_frozen BK195.out 3
         have hfz46_4 := blk_frozen BK195.out 4
         rcases Nat.eq_zero_or_pos t212.length with hq | hq
         ·have q1 : decide ((0 : Int) < (t212.length : Int)) = false := decide_eq_false (by omega)
          have q2 : (0 < t212.length) = False := eq_false (by omega)
          have q3 : ((0 : Int) < (t212.length : Int)) = False := eq_false (by omega)
          have A44 : Aside0 (eval_truth.f false = some t215) := ⟨by have := A44.out; rw [show decide ((t212.length : Int) > 0) = false from decide_eq_false (by omega)] at this; exact this⟩
          clear hq
          go_wp2_with (first | ((with_reducible refine gate_callee (f := 35) rfl ?_); refine goesL_ (some 47) rfl rfl Tryz.func35 (by kernel_rfl) rfl #[.string a0_1] rfl (by (try simp only [List.map_toArray, List.map_cons, List.map_nil]); first | done | rfl | (simp only [List.length_drop, List.length_take]; rfl)) ?_; (with_reducible refine (match_Canon.calls a0_1 t210 true _ A40.out).mono ?_); rintro e w47 ⟨rfl, hb⟩; refine ⟨_, rfl, ?_⟩; have n0_ := Aside0.mk (Kd.R_below (by (with_reducible repeat (first | apply Kd.R_alloc | apply Kd.R_drewN | apply Kd.R_drew)); exact HO_5.out) hb); have n1_ := Aside0.mk (blk_below (g := gb195) (o := .cells #[.int .i64 a0_0, .string a0_1, .string a0_2, .slice A0_3 l0_3.length c0_3, .slice A0_4 l0_4.length c0_4] 25 (0, 0)) (by (with_reducible repeat (first | refine blk_drewN ?_ _ | refine blk_drew ?_ | refine blk_alloc ?_ _)); exact BK195.out) hb); have n2_ := Aside0.mk (blk_below (g := gb196) (o := .cells #[.string a1_0, .slice A1_1 l1_1.length c1_1] 28 (0, 0)) (by (with_reducible repeat (first | refine blk_drewN ?_ _ | refine blk_drew ?_ | refine blk_alloc ?_ _)); exact BK196.out) hb); have n3_ := Aside0.mk (below_step (by repeat (first | (with_reducible first | exact HB.out | apply below_alloc | apply pw_below_drewN | apply below_drew1 | refine below_set ?_ GE195.out | refine below_set ?_ GE196.out) | exact HB.out)) hb); clear HO_5; clear BK195; clear BK196; clear HB; have HO_5 := n0_; have BK195 := n1_; have BK196 := n2_; have HB := n3_; clear n0_ n1_ n2_ n3_; (try clear hb); (try clear hb2); (try clear hk); (try clear hi); have hcz48_0 : w47.cell? ⟨gb195, 0, none⟩ = some (.int .i64 a0_0) := (blk_cell BK195.out 0).trans rfl; have hcz48_1 : w47.cell? ⟨gb195, 1, none⟩ = some (.string a0_1) := (blk_cell BK195.out 1).trans rfl; have hcz48_2 : w47.cell? ⟨gb195, 2, none⟩ = some (.string a0_2) := (blk_cell BK195.out 2).trans rfl; have hcz48_3 : w47.cell? ⟨gb195, 3, none⟩ = some (.slice A0_3 l0_3.length c0_3) := (blk_cell BK195.out 3).trans rfl; have hcz48_4 : w47.cell? ⟨gb195, 4, none⟩ = some (.slice A0_4 l0_4.length c0_4) := (blk_cell BK195.out 4).trans rfl; have hfz48_0 := blk_frozen BK195.out 0; have hfz48_1 := blk_frozen BK195.out 1; have hfz48_2 := blk_frozen BK195.out 2; have hfz48_3 := blk_frozen BK195.out 3; have hfz48_4 := blk_frozen BK195.out 4; have hcz49_0 : w47.cell? ⟨gb196, 0, none⟩ = some (.string a1_0) := (blk_cell BK196.out 0).trans rfl; have hcz49_1 : w47.cell? ⟨gb196, 1, none⟩ = some (.slice A1_1 l1_1.length c1_1) := (blk_cell BK196.out 1).trans rfl; have hfz49_0 := blk_frozen BK196.out 0; have hfz49_1 := blk_frozen BK196.out 1) | ((with_reducible refine gate_callee (f := 37) rfl ?_); refine goesL_ (some 59) rfl rfl Tryz.func37 (by kernel_rfl) rfl #[.agg #[.string a1_0, .slice A1_1 l1_1.length c1_1], .string a0_1] rfl (by (try simp only [List.map_toArray, List.map_cons, List.map_nil]); first | done | rfl | (simp only [List.length_drop, List.length_take]; rfl)) ?_; (with_reducible refine (entry_Vals.calls a1_0 _ _ l1_1 a0_1 t212 _ ?side1 ?side2 A43.out).mono ?_); (case side1 => repeat (first | exact (Kd.C_below HR1_1.out HB.out) | (with_reducible refine Kd.C_alloc ?_ _) | (with_reducible refine Kd.C_drewN ?_ _) | (with_reducible refine Kd.C_drew ?_))); (case side2 => exact HC1_1.out); rintro e w50 ⟨v213, rfl, ho0, hb⟩; refine ⟨_, rfl, ?_⟩; have n0_ := Aside0.mk (Kd.R_below (by (with_reducible repeat (first | apply Kd.R_alloc | apply Kd.R_drewN | apply Kd.R_drew)); exact HO_5.out) hb); have n1_ := Aside0.mk (Kd.R_lower ho0 (below_size (by repeat (first | (with_reducible first | exact HB.out | apply below_alloc | apply pw_below_drewN | apply below_drew1 | refine below_set ?_ GE195.out | refine below_set ?_ GE196.out) | exact HB.out)))); have n2_ := Aside0.mk (blk_below (g := gb195) (o := .cells #[.int .i64 a0_0, .string a0_1, .string a0_2, .slice A0_3 l0_3.length c0_3, .slice A0_4 l0_4.length c0_4] 25 (0, 0)) (by (with_reducible repeat (first | refine blk_drewN ?_ _ | refine blk_drew ?_ | refine blk_alloc ?_ _)); exact BK195.out) hb); have n3_ := Aside0.mk (blk_below (g := gb196) (o := .cells #[.string a1_0, .slice A1_1 l1_1.length c1_1] 28 (0, 0)) (by (with_reducible repeat (first | refine blk_drewN ?_ _ | refine blk_drew ?_ | refine blk_alloc ?_ _)); exact BK196.out) hb); have n4_ := Aside0.mk (below_step (by repeat (first | (with_reducible first | exact HB.out | apply below_alloc | apply pw_below_drewN | apply below_drew1 | refine below_set ?_ GE195.out | refine below_set ?_ GE196.out) | exact HB.out)) hb); clear HO_5; clear BK195; clear BK196; clear HB; have HO_5 := n0_; have HO214 := n1_; have BK195 := n2_; have BK196 := n3_; have HB := n4_; clear n0_ n1_ n2_ n3_ n4_; (try clear hb); (try clear hb2); (try clear hk); (try clear hi); (try clear ho0); obtain ⟨Ao51, co51, eo51⟩ := Kd.R_slice HO214.out; subst eo51) | ((with_reducible refine gate_callee (f := 36) rfl ?_); refine goesL_ (some 62) rfl rfl Tryz.func36 (by kernel_rfl) rfl #[.bool false] rfl (by (try simp only [List.map_toArray, List.map_cons, List.map_nil]); first | done | rfl | (simp only [List.length_drop, List.length_take]; rfl)) ?_; (with_reducible refine (eval_truth.calls false t215 _ A44.out).mono ?_); rintro e w' ⟨rfl, ⟨nd, rfl⟩⟩; refine ⟨_, rfl, ?_⟩))
          go_ret
          exact ⟨by first | rfl | (simp [errW_none, errW_some] <;> rfl) | (simp [*, errW_none, errW_some] <;> rfl), by repeat (first | (with_reducible first | exact HB.out | apply below_alloc | apply pw_below_drewN | apply below_drew1 | refine below_set ?_ GE195.out | refine below_set ?_ GE196.out) | exact HB.out)⟩
         ·have q1 : decide ((0 : Int) < (t212.length : Int)) = true := decide_eq_true (by omega)
          have q2 : (0 < t212.length) = True := eq_true (by omega)
          have q3 : ((0 : Int) < (t212.length : Int)) = True := eq_true (by omega)
          have A44 : Aside0 (eval_truth.f true = some t215) := ⟨by have := A44.out; rw [show decide ((t212.length : Int) > 0) = true from decide_eq_true (by omega)] at this; exact this⟩
          clear hq
          go_wp2_with (first | ((with_reducible refine gate_callee (f := 35) rfl ?_); refine goesL_ (some 47) rfl rfl Tryz.func35 (by kernel_rfl) rfl #[.string a0_1] rfl (by (try simp only [List.map_toArray, List.map_cons, List.map_nil]); first | done | rfl | (simp only [List.length_drop, List.length_take]; rfl)) ?_; (with_reducible refine (match_Canon.calls a0_1 t210 true _ A40.out).mono ?_); rintro e w47 ⟨rfl, hb⟩; refine ⟨_, rfl, ?_⟩; have n0_ := Aside0.mk (Kd.R_below (by (with_reducible repeat (first | apply Kd.R_alloc | apply Kd.R_drewN | apply Kd.R_drew)); exact HO_5.out) hb); have n1_ := Aside0.mk (blk_below (g := gb195) (o := .cells #[.int .i64 a0_0, .string a0_1, .string a0_2, .slice A0_3 l0_3.length c0_3, .slice A0_4 l0_4.length c0_4] 25 (0, 0)) (by (with_reducible repeat (first | refine blk_drewN ?_ _ | refine blk_drew ?_ | refine blk_alloc ?_ _)); exact BK195.out) hb); have n2_ := Aside0.mk (blk_below (g := gb196) (o := .cells #[.string a1_0, .slice A1_1 l1_1.length c1_1] 28 (0, 0)) (by (with_reducible repeat (first | refine blk_drewN ?_ _ | refine blk_drew ?_ | refine blk_alloc ?_ _)); exact BK196.out) hb); have n3_ := Aside0.mk (below_step (by repeat (first | (with_reducible first | exact HB.out | apply below_alloc | apply pw_below_drewN | apply below_drew1 | refine below_set ?_ GE195.out | refine below_set ?_ GE196.out) | exact HB.out)) hb); clear HO_5; clear BK195; clear BK196; clear HB; have HO_5 := n0_; have BK195 := n1_; have BK196 := n2_; have HB := n3_; clear n0_ n1_ n2_ n3_; (try clear hb); (try clear hb2); (try clear hk); (try clear hi); have hcz48_0 : w47.cell? ⟨gb195, 0, none⟩ = some (.int .i64 a0_0) := (blk_cell BK195.out 0).trans rfl; have hcz48_1 : w47.cell? ⟨gb195, 1, none⟩ = some (.string a0_1) := (blk_cell BK195.out 1).trans rfl; have hcz48_2 : w47.cell? ⟨gb195, 2, none⟩ = some (.string a0_2) := (blk_cell BK195.out 2).trans rfl; have hcz48_3 : w47.cell? ⟨gb195, 3, none⟩ = some (.slice A0_3 l0_3.length c0_3) := (blk_cell BK195.out 3).trans rfl; have hcz48_4 : w47.cell? ⟨gb195, 4, none⟩ = some (.slice A0_4 l0_4.length c0_4) := (blk_cell BK195.out 4).trans rfl; have hfz48_0 := blk_frozen BK195.out 0; have hfz48_1 := blk_frozen BK195.out 1; have hfz48_2 := blk_frozen BK195.out 2; have hfz48_3 := blk_frozen BK195.out 3; have hfz48_4 := blk_frozen BK195.out 4; have hcz49_0 : w47.cell? ⟨gb196, 0, none⟩ = some (.string a1_0) := (blk_cell BK196.out 0).trans rfl; have hcz49_1 : w47.cell? ⟨gb196, 1, none⟩ = some (.slice A1_1 l1_1.length c1_1) := (blk_cell BK196.out 1).trans rfl; have hfz49_0 := blk_frozen BK196.out 0; have hfz49_1 := blk_frozen BK196.out 1) | ((with_reducible refine gate_callee (f := 37) rfl ?_); refine goesL_ (some 59) rfl rfl Tryz.func37 (by kernel_rfl) rfl #[.agg #[.string a1_0, .slice A1_1 l1_1.length c1_1], .string a0_1] rfl (by (try simp only [List.map_toArray, List.map_cons, List.map_nil]); first | done | rfl | (simp only [List.length_drop, List.length_take]; rfl)) ?_; (with_reducible refine (entry_Vals.calls a1_0 _ _ l1_1 a0_1 t212 _ ?side1 ?side2 A43.out).mono ?_); (case side1 => repeat (first | exact (Kd.C_below HR1_1.out HB.out) | (with_reducible refine Kd.C_alloc ?_ _) | (with_reducible refine Kd.C_drewN ?_ _) | (with_reducible refine Kd.C_drew ?_))); (case side2 => exact HC1_1.out); rintro e w50 ⟨v213, rfl, ho0, hb⟩; refine ⟨_, rfl, ?_⟩; have n0_ := Aside0.mk (Kd.R_below (by (with_reducible repeat (first | apply Kd.R_alloc | apply Kd.R_drewN | apply Kd.R_drew)); exact HO_5.out) hb); have n1_ := Aside0.mk (Kd.R_lower ho0 (below_size (by repeat (first | (with_reducible first | exact HB.out | apply below_alloc | apply pw_below_drewN | apply below_drew1 | refine below_set ?_ GE195.out | refine below_set ?_ GE196.out) | exact HB.out)))); have n2_ := Aside0.mk (blk_below (g := gb195) (o := .cells #[.int .i64 a0_0, .string a0_1, .string a0_2, .slice A0_3 l0_3.length c0_3, .slice A0_4 l0_4.length c0_4] 25 (0, 0)) (by (with_reducible repeat (first | refine blk_drewN ?_ _ | refine blk_drew ?_ | refine blk_alloc ?_ _)); exact BK195.out) hb); have n3_ := Aside0.mk (blk_below (g := gb196) (o := .cells #[.string a1_0, .slice A1_1 l1_1.length c1_1] 28 (0, 0)) (by (with_reducible repeat (first | refine blk_drewN ?_ _ | refine blk_drew ?_ | refine blk_alloc ?_ _)); exact BK196.out) hb); have n4_ := Aside0.mk (below_step (by repeat (first | (with_reducible first | exact HB.out | apply below_alloc | apply pw_below_drewN | apply below_drew1 | refine below_set ?_ GE195.out | refine below_set ?_ GE196.out) | exact HB.out)) hb); clear HO_5; clear BK195; clear BK196; clear HB; have HO_5 := n0_; have HO214 := n1_; have BK195 := n2_; have BK196 := n3_; have HB := n4_; clear n0_ n1_ n2_ n3_ n4_; (try clear hb); (try clear hb2); (try clear hk); (try clear hi); (try clear ho0); obtain ⟨Ao51, co51, eo51⟩ := Kd.R_slice HO214.out; subst eo51) | ((with_reducible refine gate_callee (f := 36) rfl ?_); refine goesL_ (some 62) rfl rfl Tryz.func36 (by kernel_rfl) rfl #[.bool true] rfl (by (try simp only [List.map_toArray, List.map_cons, List.map_nil]); first | done | rfl | (simp only [List.length_drop, List.length_take]; rfl)) ?_; (with_reducible refine (eval_truth.calls true t215 _ A44.out).mono ?_); rintro e w' ⟨rfl, ⟨nd, rfl⟩⟩; refine ⟨_, rfl, ?_⟩))
          go_ret
          exact ⟨by first | rfl | (simp [errW_none, errW_some] <;> rfl) | (simp [*, errW_none, errW_some] <;> rfl), by repeat (first | (with_reducible first | exact HB.out | apply below_alloc | apply pw_below_drewN | apply below_drew1 | refine below_set ?_ GE195.out | refine below_set ?_ GE196.out) | exact HB.out)⟩
        ·rw [if_neg c42] at H
         have c42b0 : (a0_0 == 8) = false := beq_eq_false_iff_ne.mpr c42
         have c42b1 : (a0_0 != 8) = true := bne_iff_ne.mpr c42
         by_cases c52 : a0_0 = 5
         ·rw [if_pos c52] at H
          have c52b0 : (a0_0 == 5) = true := beq_iff_eq.mpr c52
          have c52b1 : (a0_0 != 5) = false := bne_eq_false_iff_eq.mpr c52
          clear c52
          replace H := Option.bind_eq_some_iff.mp H
          obtain ⟨t216, A530, H⟩ := H
          replace H : (some t216) = some r := H
          have A53 := Aside0.mk A530
          clear A530
          obtain rfl := Option.some.inj H
          have hnb54 := NB195_196.out
          have hnc54 := NB196_195.out
          have hcz55_0 : wr.cell? ⟨gb195, 0, none⟩ = some (.int .i64 a0_0) := (blk_cell BK195.out 0).trans rfl
          have hcz55_1 : wr.cell? ⟨gb195, 1, none⟩ = some (.string a0_1) := (blk_cell BK195.out 1).trans rfl
          have hcz55_2 : wr.cell? ⟨gb195, 2, none⟩ = some (.string a0_2) := (blk_cell BK195.out 2).trans rfl
          have hcz55_3 : wr.cell? ⟨gb195, 3, none⟩ = some (.slice A0_3 l0_3.length c0_3) := (blk_cell BK195.out 3).trans rfl
          have hcz55_4 : wr.cell? ⟨gb195, 4, none⟩ = some (.slice A0_4 l0_4.length c0_4) := (blk_cell BK195.out 4).trans rfl
          have hfz55_0 := blk_frozen BK195.out 0
          have hfz55_1 := blk_frozen BK195.out 1
          have hfz55_2 := blk_frozen BK195.out 2
          have hfz55_3 := blk_frozen BK195.out 3
          have hfz55_4 := blk_frozen BK195.out 4
          go_wp2_with (first | ((with_reducible refine gate_callee (f := 35) rfl ?_); refine goesL_ (some 47) rfl rfl Tryz.func35 (by kernel_rfl) rfl #[.string a0_1] rfl (by (try simp only [List.map_toArray, List.map_cons, List.map_nil]); first | done | rfl | (simp only [List.length_drop, List.length_take]; rfl)) ?_; (with_reducible refine (match_Canon.calls a0_1 t210 true _ A40.out).mono ?_); rintro e w56 ⟨rfl, hb⟩; refine ⟨_, rfl, ?_⟩; have n0_ := Aside0.mk (Kd.R_below (by (with_reducible repeat (first | apply Kd.R_alloc | apply Kd.R_drewN | apply Kd.R_drew)); exact HO_5.out) hb); have n1_ := Aside0.mk (blk_below (g := gb195) (o := .cells #[.int .i64 a0_0, .string a0_1, .string a0_2, .slice A0_3 l0_3.length c0_3, .slice A0_4 l0_4.length c0_4] 25 (0, 0)) (by (with_reducible repeat (first | refine blk_drewN ?_ _ | refine blk_drew ?_ | refine blk_alloc ?_ _)); exact BK195.out) hb); have n2_ := Aside0.mk (blk_below (g := gb196) (o := .cells #[.string a1_0, .slice A1_1 l1_1.length c1_1] 28 (0, 0)) (by (with_reducible repeat (first | refine blk_drewN ?_ _ | refine blk_drew ?_ | refine blk_alloc ?_ _)); exact BK196.out) hb); have n3_ := Aside0.mk (below_step (by repeat (first | (with_reducible first | exact HB.out | apply below_alloc | apply pw_below_drewN | apply below_drew1 | refine below_set ?_ GE195.out | refine below_set ?_ GE196.out) | exact HB.out)) hb); clear HO_5; clear BK195; clear BK196; clear HB; have HO_5 := n0_; have BK195 := n1_; have BK196 := n2_; have HB := n3_; clear n0_ n1_ n2_ n3_; (try clear hb); (try clear hb2); (try clear hk); (try clear hi); have hcz57_0 : w56.cell? ⟨gb195, 0, none⟩ = some (.int .i64 a0_0) := (blk_cell BK195.out 0).trans rfl; have hcz57_1 : w56.cell? ⟨gb195, 1, none⟩ = some (.string a0_1) := (blk_cell BK195.out 1).trans rfl; have hcz57_2 : w56.cell? ⟨gb195, 2, none⟩ = some (.string a0_2) := (blk_cell BK195.out 2).trans rfl; have hcz57_3 : w56.cell? ⟨gb195, 3, none⟩ = some (.slice A0_3 l0_3.length c0_3) := (blk_cell BK195.out 3).trans rfl; have hcz57_4 : w56.cell? ⟨gb195, 4, none⟩ = some (.slice A0_4 l0_4.length c0_4) := (blk_cell BK195.out 4).trans rfl; have hfz57_0 := blk_frozen BK195.out 0; have hfz57_1 := blk_frozen BK195.out 1; have hfz57_2 := blk_frozen BK195.out 2; have hfz57_3 := blk_frozen BK195.out 3; have hfz57_4 := blk_frozen BK195.out 4; have hcz58_0 : w56.cell? ⟨gb196, 0, none⟩ = some (.string a1_0) := (blk_cell BK196.out 0).trans rfl; have hcz58_1 : w56.cell? ⟨gb196, 1, none⟩ = some (.slice A1_1 l1_1.length c1_1) := (blk_cell BK196.out 1).trans rfl; have hfz58_0 := blk_frozen BK196.out 0; have hfz58_1 := blk_frozen BK196.out 1) | ((with_reducible refine gate_callee (f := 38) rfl ?_); refine goesL_ (some 67) rfl rfl Tryz.func38 (by kernel_rfl) rfl #[.agg #[.int .i64 a0_0, .string a0_1, .string a0_2, .slice A0_3 l0_3.length c0_3, .slice A0_4 l0_4.length c0_4], .agg #[.string a1_0, .slice A1_1 l1_1.length c1_1]] rfl (by (try simp only [List.map_toArray, List.map_cons, List.map_nil]); first | done | rfl | (simp only [List.length_drop, List.length_take]; rfl)) ?_; (with_reducible refine (eval_sub.calls a0_0 a0_1 a0_2 _ _ l0_3 _ _ l0_4 a1_0 _ _ l1_1 t216 _ ?side1 ?side2 ?side3 ?side4 ?side5 ?side6 ?side7 A53.out).mono ?_); (case side1 => repeat (first | exact (Kd.C_below HR0_3.out HB.out) | (with_reducible refine Kd.C_alloc ?_ _) | (with_reducible refine Kd.C_drewN ?_ _) | (with_reducible refine Kd.C_drew ?_))); (case side2 => exact HC0_3.out); (case side3 => repeat (first | exact (Kd.C_below HR0_4.out HB.out) | (with_reducible refine Kd.C_alloc ?_ _) | (with_reducible refine Kd.C_drewN ?_ _) | (with_reducible refine Kd.C_drew ?_))); (case side4 => exact HC0_4.out); (case side5 => repeat (first | exact (Kd.C_below HR1_1.out HB.out) | (with_reducible refine Kd.C_alloc ?_ _) | (with_reducible refine Kd.C_drewN ?_ _) | (with_reducible refine Kd.C_drew ?_))); (case side6 => exact HC1_1.out); (case side7 => first | exact HG.out | exact Gl.drewN HG.out _ | exact Gl.below HG.out (by repeat (first | (with_reducible first | exact HB.out | apply below_alloc | apply pw_below_drewN | apply below_drew1 | refine below_set ?_ GE195.out | refine below_set ?_ GE196.out) | exact HB.out))); rintro e w59 ⟨rfl, hb⟩; refine ⟨_, rfl, ?_⟩; have n0_ := Aside0.mk (Kd.R_below (by (with_reducible repeat (first | apply Kd.R_alloc | apply Kd.R_drewN | apply Kd.R_drew)); exact HO_5.out) hb); have n1_ := Aside0.mk (blk_below (g := gb195) (o := .cells #[.int .i64 a0_0, .string a0_1, .string a0_2, .slice A0_3 l0_3.length c0_3, .slice A0_4 l0_4.length c0_4] 25 (0, 0)) (by (with_reducible repeat (first | refine blk_drewN ?_ _ | refine blk_drew ?_ | refine blk_alloc ?_ _)); exact BK195.out) hb); have n2_ := Aside0.mk (blk_below (g := gb196) (o := .cells #[.string a1_0, .slice A1_1 l1_1.length c1_1] 28 (0, 0)) (by (with_reducible repeat (first | refine blk_drewN ?_ _ | refine blk_drew ?_ | refine blk_alloc ?_ _)); exact BK196.out) hb); have n3_ := Aside0.mk (below_step (by repeat (first | (with_reducible first | exact HB.out | apply below_alloc | apply pw_below_drewN | apply below_drew1 | refine below_set ?_ GE195.out | refine below_set ?_ GE196.out) | exact HB.out)) hb); clear HO_5; clear BK195; clear BK196; clear HB; have HO_5 := n0_; have BK195 := n1_; have BK196 := n2_; have HB := n3_; clear n0_ n1_ n2_ n3_; (try clear hb); (try clear hb2); (try clear hk); (try clear hi)))
          go_ret
          exact ⟨by first | rfl | (simp [errW_none, errW_some] <;> rfl) | (simp [*, errW_none, errW_some] <;> rfl), by repeat (first | (with_reducible first | exact HB.out | apply below_alloc | apply pw_below_drewN | apply below_drew1 | refine below_set ?_ GE195.out | refine below_set ?_ GE196.out) | exact HB.out)⟩
         ·rw [if_neg c52] at H
          have c52b0 : (a0_0 == 5) = false := beq_eq_false_iff_ne.mpr c52
          have c52b1 : (a0_0 != 5) = true := bne_iff_ne.mpr c52
          by_cases c60 : a0_0 = 4
          ·rw [if_pos c60] at H
           have c60b0 : (a0_0 == 4) = true := beq_iff_eq.mpr c60
           have c60b1 : (a0_0 != 4) = false := bne_eq_false_iff_eq.mpr c60
           clear c60
           replace H := Option.bind_eq_some_iff.mp H
           obtain ⟨⟨t217, t218⟩, A610, H⟩ := H
           replace H : (if t218 = true then ((entry_Has.f a1_0 l1_1 a0_1 a0_2).bind fun t219 => ((eval_truth.f t219).bind fun t220 => (some t220))) else (some 2)) = some r := H
           have A61 := Aside0.mk A610
           clear A610
           by_cases c62 : t218 = true
           ·subst c62
            have H1 : ((entry_Has.f a1_0 l1_1 a0_1 a0_2).bind fun t219 => ((eval_truth.f t219).bind fun t220 => (some t220))) = some r := by rw [if_pos rfl] at H; exact H
            clear H
            have H := H1
            clear H1
            replace H := Option.bind_eq_some_iff.mp H
            obtain ⟨t219, A630, H⟩ := H
            replace H : ((eval_truth.f t219).bind fun t220 => (some t220)) = some r := H
            have A63 := Aside0.mk A630
            clear A630
            replace H := Option.bind_eq_some_iff.mp H
            obtain ⟨t220, A640, H⟩ := H
            replace H : (some t220) = some r := H
            have A64 := Aside0.mk A640
            clear A640
            obtain rfl := Option.some.inj H
            have hnb65 := NB195_196.out
            have hnc65 := NB196_195.out
            have hcz66_0 : wr.cell? ⟨gb195, 0, none⟩ = some (.int .i64 a0_0) := (blk_cell BK195.out 0).trans rfl
            have hcz66_1 : wr.cell? ⟨gb195, 1, none⟩ = some (.string a0_1) := (blk_cell BK195.out 1).trans rfl
            have hcz66_2 : wr.cell? ⟨gb195, 2, none⟩ = some (.string a0_2) := (blk_cell BK195.out 2).trans rfl
            have hcz66_3 : wr.cell? ⟨gb195, 3, none⟩ = some (.slice A0_3 l0_3.length c0_3) := (blk_cell BK195.out 3).trans rfl
            have hcz66_4 : wr.cell? ⟨gb195, 4, none⟩ = some (.slice A0_4 l0_4.length c0_4) := (blk_cell BK195.out 4).trans rfl
            have hfz66_0 := blk_frozen BK195.out 0
            have hfz66_1 := blk_frozen BK195.out 1
            have hfz66_2 := blk_frozen BK195.out 2
            have hfz66_3 := blk_frozen BK195.out 3
            have hfz66_4 := blk_frozen BK195.out 4
            go_wp2_with (first | ((with_reducible refine gate_callee (f := 35) rfl ?_); refine goesL_ (some 47) rfl rfl Tryz.func35 (by kernel_rfl) rfl #[.string a0_1] rfl (by (try simp only [List.map_toArray, List.map_cons, List.map_nil]); first | done | rfl | (simp only [List.length_drop, List.length_take]; rfl)) ?_; (with_reducible refine (match_Canon.calls a0_1 t210 true _ A40.out).mono ?_); rintro e w67 ⟨rfl, hb⟩; refine ⟨_, rfl, ?_⟩; have n0_ := Aside0.mk (Kd.R_below (by (with_reducible repeat (first | apply Kd.R_alloc | apply Kd.R_drewN | apply Kd.R_drew)); exact HO_5.out) hb); have n1_ := Aside0.mk (blk_below (g := gb195) (o := .cells #[.int .i64 a0_0, .string a0_1, .string a0_2, .slice A0_3 l0_3.length c0_3, .slice A0_4 l0_4.length c0_4] 25 (0, 0)) (by (with_reducible repeat (first | refine blk_drewN ?_ _ | refine blk_drew ?_ | refine blk_alloc ?_ _)); exact BK195.out) hb); have n2_ := Aside0.mk (blk_below (g := gb196) (o := .cells #[.string a1_0, .slice A1_1 l1_1.length c1_1] 28 (0, 0)) (by (with_reducible repeat (first | refine blk_drewN ?_ _ | refine blk_drew ?_ | refine blk_alloc ?_ _)); exact BK196.out) hb); have n3_ := Aside0.mk (below_step (by repeat (first | (with_reducible first | exact HB.out | apply below_alloc | apply pw_below_drewN | apply below_drew1 | refine below_set ?_ GE195.out | refine below_set ?_ GE196.out) | exact HB.out)) hb); clear HO_5; clear BK195; clear BK196; clear HB; have HO_5 := n0_; have BK195 := n1_; have BK196 := n2_; have HB := n3_; clear n0_ n1_ n2_ n3_; (try clear hb); (try clear hb2); (try clear hk); (try clear hi); have hcz68_0 : w67.cell? ⟨gb195, 0, none⟩ = some (.int .i64 a0_0) := (blk_cell BK195.out 0).trans rfl; have hcz68_1 : w67.cell? ⟨gb195, 1, none⟩ = some (.string a0_1) := (blk_cell BK195.out 1).trans rfl; have hcz68_2 : w67.cell? ⟨gb195, 2, none⟩ = some (.string a0_2) := (blk_cell BK195.out 2).trans rfl; have hcz68_3 : w67.cell? ⟨gb195, 3, none⟩ = some (.slice A0_3 l0_3.length c0_3) := (blk_cell BK195.out 3).trans rfl; have hcz68_4 : w67.cell? ⟨gb195, 4, none⟩ = some (.slice A0_4 l0_4.length c0_4) := (blk_cell BK195.out 4).trans rfl; have hfz68_0 := blk_frozen BK195.out 0; have hfz68_1 := blk_frozen BK195.out 1; have hfz68_2 := blk_frozen BK195.out 2; have hfz68_3 := blk_frozen BK195.out 3; have hfz68_4 := blk_frozen BK195.out 4) | ((with_reducible refine gate_callee (f := 39) rfl ?_); refine goesL_ (some 75) rfl rfl Tryz.func39 (by kernel_rfl) rfl #[.string a0_1, .string a0_2] rfl (by (try simp only [List.map_toArray, List.map_cons, List.map_nil]); first | done | rfl | (simp only [List.length_drop, List.length_take]; rfl)) ?_; (with_reducible refine (match_Norm.calls k1 a0_1 a0_2 t217 true _ ?side1 A61.out).mono ?_); (case side1 => first | exact HG.out | exact Gl.drewN HG.out _ | exact Gl.below HG.out (by repeat (first | (with_reducible first | exact HB.out | apply below_alloc | apply pw_below_drewN | apply below_drew1 | refine below_set ?_ GE195.out | refine below_set ?_ GE196.out) | exact HB.out))); rintro e w69 ⟨rfl, hb⟩; refine ⟨_, rfl, ?_⟩; have n0_ := Aside0.mk (Kd.R_below (by (with_reducible repeat (first | apply Kd.R_alloc | apply Kd.R_drewN | apply Kd.R_drew)); exact HO_5.out) hb); have n1_ := Aside0.mk (blk_below (g := gb195) (o := .cells #[.int .i64 a0_0, .string a0_1, .string a0_2, .slice A0_3 l0_3.length c0_3, .slice A0_4 l0_4.length c0_4] 25 (0, 0)) (by (with_reducible repeat (first | refine blk_drewN ?_ _ | refine blk_drew ?_ | refine blk_alloc ?_ _)); exact BK195.out) hb); have n2_ := Aside0.mk (blk_below (g := gb196) (o := .cells #[.string a1_0, .slice A1_1 l1_1.length c1_1] 28 (0, 0)) (by (with_reducible repeat (first | refine blk_drewN ?_ _ | refine blk_drew ?_ | refine blk_alloc ?_ _)); exact BK196.out) hb); have n3_ := Aside0.mk (below_step (by repeat (first | (with_reducible first | exact HB.out | apply below_alloc | apply pw_below_drewN | apply below_drew1 | refine below_set ?_ GE195.out | refine below_set ?_ GE196.out) | exact HB.out)) hb); clear HO_5; clear BK195; clear BK196; clear HB; have HO_5 := n0_; have BK195 := n1_; have BK196 := n2_; have HB := n3_; clear n0_ n1_ n2_ n3_; (try clear hb); (try clear hb2); (try clear hk); (try clear hi); have hcz70_0 : w69.cell? ⟨gb196, 0, none⟩ = some (.string a1_0) := (blk_cell BK196.out 0).trans rfl; have hcz70_1 : w69.cell? ⟨gb196, 1, none⟩ = some (.slice A1_1 l1_1.length c1_1) := (blk_cell BK196.out 1).trans rfl; have hfz70_0 := blk_frozen BK196.out 0; have hfz70_1 := blk_frozen BK196.out 1; have hcz71_0 : w69.cell? ⟨gb195, 0, none⟩ = some (.int .i64 a0_0) := (blk_cell BK195.out 0).trans rfl; have hcz71_1 : w69.cell? ⟨gb195, 1, none⟩ = some (.string a0_1) := (blk_cell BK195.out 1).trans rfl; have hcz71_2 : w69.cell? ⟨gb195, 2, none⟩ = some (.string a0_2) := (blk_cell BK195.out 2).trans rfl; have hcz71_3 : w69.cell? ⟨gb195, 3, none⟩ = some (.slice A0_3 l0_3.length c0_3) := (blk_cell BK195.out 3).trans rfl; have hcz71_4 : w69.cell? ⟨gb195, 4, none⟩ = some (.slice A0_4 l0_4.length c0_4) := (blk_cell BK195.out 4).trans rfl; have hfz71_0 := blk_frozen BK195.out 0; have hfz71_1 := blk_frozen BK195.out 1; have hfz71_2 := blk_frozen BK195.out 2; have hfz71_3 := blk_frozen BK195.out 3; have hfz71_4 := blk_frozen BK195.out 4) | ((with_reducible refine gate_callee (f := 40) rfl ?_); refine goesL_ (some 85) rfl rfl Tryz.func40 (by kernel_rfl) rfl #[.agg #[.string a1_0, .slice A1_1 l1_1.length c1_1], .string a0_1, .string a0_2] rfl (by (try simp only [List.map_toArray, List.map_cons, List.map_nil]); first | done | rfl | (simp only [List.length_drop, List.length_take]; rfl)) ?_; (with_reducible refine (entry_Has.calls a1_0 _ _ l1_1 a0_1 a0_2 t219 _ ?side1 ?side2 ?side3 A63.out).mono ?_); (case side1 => repeat (first | exact (Kd.C_below HR1_1.out HB.out) | (with_reducible refine Kd.C_alloc ?_ _) | (with_reducible refine Kd.C_drewN ?_ _) | (with_reducible refine Kd.C_drew ?_))); (case side2 => exact HC1_1.out); (case side3 => first | exact HG.out | exact Gl.drewN HG.out _ | exact Gl.below HG.out (by repeat (first | (with_reducible first | exact HB.out | apply below_alloc | apply pw_below_drewN | apply below_drew1 | refine below_set ?_ GE195.out | refine below_set ?_ GE196.out) | exact HB.out))); rintro e w72 ⟨rfl, hb⟩; refine ⟨_, rfl, ?_⟩; have n0_ := Aside0.mk (Kd.R_below (by (with_reducible repeat (first | apply Kd.R_alloc | apply Kd.R_drewN | apply Kd.R_drew)); exact HO_5.out) hb); have n1_ := Aside0.mk (blk_below (g := gb195) (o := .cells #[.int .i64 a0_0, .string a0_1, .string a0_2, .slice A0_3 l0_3.length c0_3, .slice A0_4 l0_4.length c0_4] 25 (0, 0)) (by (with_reducible repeat (first | refine blk_drewN ?_ _ | refine blk_drew ?_ | refine blk_alloc ?_ _)); exact BK195.out) hb); have n2_ := Aside0.mk (blk_below (g := gb196) (o := .cells #[.string a1_0, .slice A1_1 l1_1.length c1_1] 28 (0, 0)) (by (with_reducible repeat (first | refine blk_drewN ?_ _ | refine blk_drew ?_ | refine blk_alloc ?_ _)); exact BK196.out) hb); have n3_ := Aside0.mk (below_step (by repeat (first | (with_reducible first | exact HB.out | apply below_alloc | apply pw_below_drewN | apply below_drew1 | refine below_set ?_ GE195.out | refine below_set ?_ GE196.out) | exact HB.out)) hb); clear HO_5; clear BK195; clear BK196; clear HB; have HO_5 := n0_; have BK195 := n1_; have BK196 := n2_; have HB := n3_; clear n0_ n1_ n2_ n3_; (try clear hb); (try clear hb2); (try clear hk); (try clear hi)) | ((with_reducible refine gate_callee (f := 36) rfl ?_); refine goesL_ (some 86) rfl rfl Tryz.func36 (by kernel_rfl) rfl #[.bool t219] rfl (by (try simp only [List.map_toArray, List.map_cons, List.map_nil]); first | done | rfl | (simp only [List.length_drop, List.length_take]; rfl)) ?_; (with_reducible refine (eval_truth.calls t219 t220 _ A64.out).mono ?_); rintro e w' ⟨rfl, ⟨nd, rfl⟩⟩; refine ⟨_, rfl, ?_⟩))
            go_ret
            exact ⟨by first | rfl | (simp [errW_none, errW_some] <;> rfl) | (simp [*, errW_none, errW_some] <;> rfl), by repeat (first | (with_reducible first | exact HB.out | apply below_alloc | apply pw_below_drewN | apply below_drew1 | refine below_set ?_ GE195.out | refine below_set ?_ GE196.out) | exact HB.out)⟩
           ·replace c62 := Bool.eq_false_iff.mpr c62
            subst c62
            have H1 : (some 2) = some r := by rw [if_neg (show ¬ (false = true) by decide)] at H; exact H
            clear H
            have H := H1
            clear H1
            obtain rfl := Option.some.inj H
            have hnb73 := NB195_196.out
            have hnc73 := NB196_195.out
            have hcz74_0 : wr.cell? ⟨gb195, 0, none⟩ = some (.int .i64 a0_0) := (blk_cell BK195.out 0).trans rfl
            have hcz74_1 : wr.cell? ⟨gb195, 1, none⟩ = some (.string a0_1) := (blk_cell BK195.out 1).trans rfl
            have hcz74_2 : wr.cell? ⟨gb195, 2, none⟩ = some (.string a0_2) := (blk_cell BK195.out 2).trans rfl
            have hcz74_3 : wr.cell? ⟨gb195, 3, none⟩ = some (.slice A0_3 l0_3.length c0_3) := (blk_cell BK195.out 3).trans rfl
            have hcz74_4 : wr.cell? ⟨gb195, 4, none⟩ = some (.slice A0_4 l0_4.length c0_4) := (blk_cell BK195.out 4).trans rfl
            have hfz74_0 := blk_frozen BK195.out 0
            have hfz74_1 := blk_frozen BK195.out 1
            have hfz74_2 := blk_frozen BK195.out 2
            have hfz74_3 := blk_frozen BK195.out 3
            have hfz74_4 := blk_frozen BK195.out 4
            go_wp2_with (first | ((with_reducible refine gate_callee (f := 35) rfl ?_); refine goesL_ (some 47) rfl rfl Tryz.func35 (by kernel_rfl) rfl #[.string a0_1] rfl (by (try simp only [List.map_toArray, List.map_cons, List.map_nil]); first | done | rfl | (simp only [List.length_drop, List.length_take]; rfl)) ?_; (with_reducible refine (match_Canon.calls a0_1 t210 true _ A40.out).mono ?_); rintro e w75 ⟨rfl, hb⟩; refine ⟨_, rfl, ?_⟩; have n0_ := Aside0.mk (Kd.R_below (by (with_reducible repeat (first | apply Kd.R_alloc | apply Kd.R_drewN | apply Kd.R_drew)); exact HO_5.out) hb); have n1_ := Aside0.mk (blk_below (g := gb195) (o := .cells #[.int .i64 a0_0, .string a0_1, .string a0_2, .slice A0_3 l0_3.length c0_3, .slice A0_4 l0_4.length c0_4] 25 (0, 0)) (by (with_reducible repeat (first | refine blk_drewN ?_ _ | refine blk_drew ?_ | refine blk_alloc ?_ _)); exact BK195.out) hb); have n2_ := Aside0.mk (blk_below (g := gb196) (o := .cells #[.string a1_0, .slice A1_1 l1_1.length c1_1] 28 (0, 0)) (by (with_reducible repeat (first | refine blk_drewN ?_ _ | refine blk_drew ?_ | refine blk_alloc ?_ _)); exact BK196.out) hb); have n3_ := Aside0.mk (below_step (by repeat (first | (with_reducible first | exact HB.out | apply below_alloc | apply pw_below_drewN | apply below_drew1 | refine below_set ?_ GE195.out | refine below_set ?_ GE196.out) | exact HB.out)) hb); clear HO_5; clear BK195; clear BK196; clear HB; have HO_5 := n0_; have BK195 := n1_; have BK196 := n2_; have HB := n3_; clear n0_ n1_ n2_ n3_; (try clear hb); (try clear hb2); (try clear hk); (try clear hi); have hcz76_0 : w75.cell? ⟨gb195, 0, none⟩ = some (.int .i64 a0_0) := (blk_cell BK195.out 0).trans rfl; have hcz76_1 : w75.cell? ⟨gb195, 1, none⟩ = some (.string a0_1) := (blk_cell BK195.out 1).trans rfl; have hcz76_2 : w75.cell? ⟨gb195, 2, none⟩ = some (.string a0_2) := (blk_cell BK195.out 2).trans rfl; have hcz76_3 : w75.cell? ⟨gb195, 3, none⟩ = some (.slice A0_3 l0_3.length c0_3) := (blk_cell BK195.out 3).trans rfl; have hcz76_4 : w75.cell? ⟨gb195, 4, none⟩ = some (.slice A0_4 l0_4.length c0_4) := (blk_cell BK195.out 4).trans rfl; have hfz76_0 := blk_frozen BK195.out 0; have hfz76_1 := blk_frozen BK195.out 1; have hfz76_2 := blk_frozen BK195.out 2; have hfz76_3 := blk_frozen BK195.out 3; have hfz76_4 := blk_frozen BK195.out 4) | ((with_reducible refine gate_callee (f := 39) rfl ?_); refine goesL_ (some 75) rfl rfl Tryz.func39 (by kernel_rfl) rfl #[.string a0_1, .string a0_2] rfl (by (try simp only [List.map_toArray, List.map_cons, List.map_nil]); first | done | rfl | (simp only [List.length_drop, List.length_take]; rfl)) ?_; (with_reducible refine (match_Norm.calls k1 a0_1 a0_2 t217 false _ ?side1 A61.out).mono ?_); (case side1 => first | exact HG.out | exact Gl.drewN HG.out _ | exact Gl.below HG.out (by repeat (first | (with_reducible first | exact HB.out | apply below_alloc | apply pw_below_drewN | apply below_drew1 | refine below_set ?_ GE195.out | refine below_set ?_ GE196.out) | exact HB.out))); rintro e w77 ⟨rfl, hb⟩; refine ⟨_, rfl, ?_⟩; have n0_ := Aside0.mk (Kd.R_below (by (with_reducible repeat (first | apply Kd.R_alloc | apply Kd.R_drewN | apply Kd.R_drew)); exact HO_5.out) hb); have n1_ := Aside0.mk (blk_below (g := gb195) (o := .cells #[.int .i64 a0_0, .string a0_1, .string a0_2, .slice A0_3 l0_3.length c0_3, .slice A0_4 l0_4.length c0_4] 25 (0, 0)) (by (with_reducible repeat (first | refine blk_drewN ?_ _ | refine blk_drew ?_ | refine blk_alloc ?_ _)); exact BK195.out) hb); have n2_ := Aside0.mk (blk_below (g := gb196) (o := .cells #[.string a1_0, .slice A1_1 l1_1.length c1_1] 28 (0, 0)) (by (with_reducible repeat (first | refine blk_drewN ?_ _ | refine blk_drew ?_ | refine blk_alloc ?_ _)); exact BK196.out) hb); have n3_ := Aside0.mk (below_step (by repeat (first | (with_reducible first | exact HB.out | apply below_alloc | apply pw_below_drewN | apply below_drew1 | refine below_set ?_ GE195.out | refine below_set ?_ GE196.out) | exact HB.out)) hb); clear HO_5; clear BK195; clear BK196; clear HB; have HO_5 := n0_; have BK195 := n1_; have BK196 := n2_; have HB := n3_; clear n0_ n1_ n2_ n3_; (try clear hb); (try clear hb2); (try clear hk); (try clear hi)))
            go_ret
            exact ⟨by first | rfl | (simp [errW_none, errW_some] <;> rfl) | (simp [*, errW_none, errW_some] <;> rfl), by repeat (first | (with_reducible first | exact HB.out | apply below_alloc | apply pw_below_drewN | apply below_drew1 | refine below_set ?_ GE195.out | refine below_set ?_ GE196.out) | exact HB.out)⟩
          ·rw [if_neg c60] at H
           have c60b0 : (a0_0 == 4) = false := beq_eq_false_iff_ne.mpr c60
           have c60b1 : (a0_0 != 4) = true := bne_iff_ne.mpr c60
           replace H := Option.bind_eq_some_iff.mp H
           obtain ⟨t221, A780, H⟩ := H
           replace H : (some t221) = some r := H
           have A78 := Aside0.mk A780
           clear A780
           obtain rfl := Option.some.inj H
           have hnb79 := NB195_196.out
           have hnc79 := NB196_195.out
           have hcz80_0 : wr.cell? ⟨gb195, 0, none⟩ = some (.int .i64 a0_0) := (blk_cell BK195.out 0).trans rfl
           have hcz80_1 : wr.cell? ⟨gb195, 1, none⟩ = some (.string a0_1) := (blk_cell BK195.out 1).trans rfl
           have hcz80_2 : wr.cell? ⟨gb195, 2, none⟩ = some (.string a0_2) := (blk_cell BK195.out 2).trans rfl
           have hcz80_3 : wr.cell? ⟨gb195, 3, none⟩ = some (.slice A0_3 l0_3.length c0_3) := (blk_cell BK195.out 3).trans rfl
           have hcz80_4 : wr.cell? ⟨gb195, 4, none⟩ = some (.slice A0_4 l0_4.length c0_4) := (blk_cell BK195.out 4).trans rfl
           have hfz80_0 := blk_frozen BK195.out 0
           have hfz80_1 := blk_frozen BK195.out 1
           have hfz80_2 := blk_frozen BK195.out 2
           have hfz80_3 := blk_frozen BK195.out 3
           have hfz80_4 := blk_frozen BK195.out 4
           go_wp2_with (first | ((with_reducible refine gate_callee (f := 35) rfl ?_); refine goesL_ (some 47) rfl rfl Tryz.func35 (by kernel_rfl) rfl #[.string a0_1] rfl (by (try simp only [List.map_toArray, List.map_cons, List.map_nil]); first | done | rfl | (simp only [List.length_drop, List.length_take]; rfl)) ?_; (with_reducible refine (match_Canon.calls a0_1 t210 true _ A40.out).mono ?_); rintro e w81 ⟨rfl, hb⟩; refine ⟨_, rfl, ?_⟩; have n0_ := Aside0.mk (Kd.R_below (by (with_reducible repeat (first | apply Kd.R_alloc | apply Kd.R_drewN | apply Kd.R_drew)); exact HO_5.out) hb); have n1_ := Aside0.mk (blk_below (g := gb195) (o := .cells #[.int .i64 a0_0, .string a0_1, .string a0_2, .slice A0_3 l0_3.length c0_3, .slice A0_4 l0_4.length c0_4] 25 (0, 0)) (by (with_reducible repeat (first | refine blk_drewN ?_ _ | refine blk_drew ?_ | refine blk_alloc ?_ _)); exact BK195.out) hb); have n2_ := Aside0.mk (blk_below (g := gb196) (o := .cells #[.string a1_0, .slice A1_1 l1_1.length c1_1] 28 (0, 0)) (by (with_reducible repeat (first | refine blk_drewN ?_ _ | refine blk_drew ?_ | refine blk_alloc ?_ _)); exact BK196.out) hb); have n3_ := Aside0.mk (below_step (by repeat (first | (with_reducible first | exact HB.out | apply below_alloc | apply pw_below_drewN | apply below_drew1 | refine below_set ?_ GE195.out | refine below_set ?_ GE196.out) | exact HB.out)) hb); clear HO_5; clear BK195; clear BK196; clear HB; have HO_5 := n0_; have BK195 := n1_; have BK196 := n2_; have HB := n3_; clear n0_ n1_ n2_ n3_; (try clear hb); (try clear hb2); (try clear hk); (try clear hi); have hcz82_0 : w81.cell? ⟨gb195, 0, none⟩ = some (.int .i64 a0_0) := (blk_cell BK195.out 0).trans rfl; have hcz82_1 : w81.cell? ⟨gb195, 1, none⟩ = some (.string a0_1) := (blk_cell BK195.out 1).trans rfl; have hcz82_2 : w81.cell? ⟨gb195, 2, none⟩ = some (.string a0_2) := (blk_cell BK195.out 2).trans rfl; have hcz82_3 : w81.cell? ⟨gb195, 3, none⟩ = some (.slice A0_3 l0_3.length c0_3) := (blk_cell BK195.out 3).trans rfl; have hcz82_4 : w81.cell? ⟨gb195, 4, none⟩ = some (.slice A0_4 l0_4.length c0_4) := (blk_cell BK195.out 4).trans rfl; have hfz82_0 := blk_frozen BK195.out 0; have hfz82_1 := blk_frozen BK195.out 1; have hfz82_2 := blk_frozen BK195.out 2; have hfz82_3 := blk_frozen BK195.out 3; have hfz82_4 := blk_frozen BK195.out 4; have hcz83_0 : w81.cell? ⟨gb196, 0, none⟩ = some (.string a1_0) := (blk_cell BK196.out 0).trans rfl; have hcz83_1 : w81.cell? ⟨gb196, 1, none⟩ = some (.slice A1_1 l1_1.length c1_1) := (blk_cell BK196.out 1).trans rfl; have hfz83_0 := blk_frozen BK196.out 0; have hfz83_1 := blk_frozen BK196.out 1) | ((with_reducible refine gate_callee (f := 41) rfl ?_); refine goesL_ (some 89) rfl rfl Tryz.func41 (by kernel_rfl) rfl #[.agg #[.int .i64 a0_0, .string a0_1, .string a0_2, .slice A0_3 l0_3.length c0_3, .slice A0_4 l0_4.length c0_4], .agg #[.string a1_0, .slice A1_1 l1_1.length c1_1]] rfl (by (try simp only [List.map_toArray, List.map_cons, List.map_nil]); first | done | rfl | (simp only [List.length_drop, List.length_take]; rfl)) ?_; (with_reducible refine (eval_order.calls a0_0 a0_1 a0_2 _ _ l0_3 _ _ l0_4 a1_0 _ _ l1_1 t221 _ ?side1 ?side2 ?side3 ?side4 ?side5 ?side6 ?side7 A78.out).mono ?_); (case side1 => repeat (first | exact (Kd.C_below HR0_3.out HB.out) | (with_reducible refine Kd.C_alloc ?_ _) | (with_reducible refine Kd.C_drewN ?_ _) | (with_reducible refine Kd.C_drew ?_))); (case side2 => exact HC0_3.out); (case side3 => repeat (first | exact (Kd.C_below HR0_4.out HB.out) | (with_reducible refine Kd.C_alloc ?_ _) | (with_reducible refine Kd.C_drewN ?_ _) | (with_reducible refine Kd.C_drew ?_))); (case side4 => exact HC0_4.out); (case side5 => repeat (first | exact (Kd.C_below HR1_1.out HB.out) | (with_reducible refine Kd.C_alloc ?_ _) | (with_reducible refine Kd.C_drewN ?_ _) | (with_reducible refine Kd.C_drew ?_))); (case side6 => exact HC1_1.out); (case side7 => first | exact HG.out | exact Gl.drewN HG.out _ | exact Gl.below HG.out (by repeat (first | (with_reducible first | exact HB.out | apply below_alloc | apply pw_below_drewN | apply below_drew1 | refine below_set ?_ GE195.out | refine below_set ?_ GE196.out) | exact HB.out))); rintro e w84 ⟨rfl, hb⟩; refine ⟨_, rfl, ?_⟩; have n0_ := Aside0.mk (Kd.R_below (by (with_reducible repeat (first | apply Kd.R_alloc | apply Kd.R_drewN | apply Kd.R_drew)); exact HO_5.out) hb); have n1_ := Aside0.mk (blk_below (g := gb195) (o := .cells #[.int .i64 a0_0, .string a0_1, .string a0_2, .slice A0_3 l0_3.length c0_3, .slice A0_4 l0_4.length c0_4] 25 (0, 0)) (by (with_reducible repeat (first | refine blk_drewN ?_ _ | refine blk_drew ?_ | refine blk_alloc ?_ _)); exact BK195.out) hb); have n2_ := Aside0.mk (blk_below (g := gb196) (o := .cells #[.string a1_0, .slice A1_1 l1_1.length c1_1] 28 (0, 0)) (by (with_reducible repeat (first | refine blk_drewN ?_ _ | refine blk_drew ?_ | refine blk_alloc ?_ _)); exact BK196.out) hb); have n3_ := Aside0.mk (below_step (by repeat (first | (with_reducible first | exact HB.out | apply below_alloc | apply pw_below_drewN | apply below_drew1 | refine below_set ?_ GE195.out | refine below_set ?_ GE196.out) | exact HB.out)) hb); clear HO_5; clear BK195; clear BK196; clear HB; have HO_5 := n0_; have BK195 := n1_; have BK196 := n2_; have HB := n3_; clear n0_ n1_ n2_ n3_; (try clear hb); (try clear hb2); (try clear hk); (try clear hi)))
           go_ret
           exact ⟨by first | rfl | (simp [errW_none, errW_some] <;> rfl) | (simp [*, errW_none, errW_some] <;> rfl), by repeat (first | (with_reducible first | exact HB.out | apply below_alloc | apply pw_below_drewN | apply below_drew1 | refine below_set ?_ GE195.out | refine below_set ?_ GE196.out) | exact HB.out)⟩
       ·replace c41 := Bool.eq_false_iff.mpr c41
        subst c41
        have H1 : (some 2) = some r := by rw [if_neg (show ¬ (false = true) by decide)] at H; exact H
        clear H
        have H := H1
        clear H1
        obtain rfl := Option.some.inj H
        have hnb85 := NB195_196.out
        have hnc85 := NB196_195.out
        have hcz86_0 : wr.cell? ⟨gb195, 0, none⟩ = some (.int .i64 a0_0) := (blk_cell BK195.out 0).trans rfl
        have hcz86_1 : wr.cell? ⟨gb195, 1, none⟩ = some (.string a0_1) := (blk_cell BK195.out 1).trans rfl
        have hcz86_2 : wr.cell? ⟨gb195, 2, none⟩ = some (.string a0_2) := (blk_cell BK195.out 2).trans rfl
        have hcz86_3 : wr.cell? ⟨gb195, 3, none⟩ = some (.slice A0_3 l0_3.length c0_3) := (blk_cell BK195.out 3).trans rfl
        have hcz86_4 : wr.cell? ⟨gb195, 4, none⟩ = some (.slice A0_4 l0_4.length c0_4) := (blk_cell BK195.out 4).trans rfl
        have hfz86_0 := blk_frozen BK195.out 0
        have hfz86_1 := blk_frozen BK195.out 1
        have hfz86_2 := blk_frozen BK195.out 2
        have hfz86_3 := blk_frozen BK195.out 3
        have hfz86_4 := blk_frozen BK195.out 4
        go_wp2_with (first | ((with_reducible refine gate_callee (f := 35) rfl ?_); refine goesL_ (some 47) rfl rfl Tryz.func35 (by kernel_rfl) rfl #[.string a0_1] rfl (by (try simp only [List.map_toArray, List.map_cons, List.map_nil]); first | done | rfl | (simp only [List.length_drop, List.length_take]; rfl)) ?_; (with_reducible refine (match_Canon.calls a0_1 t210 false _ A40.out).mono ?_); rintro e w87 ⟨rfl, hb⟩; refine ⟨_, rfl, ?_⟩; have n0_ := Aside0.mk (Kd.R_below (by (with_reducible repeat (first | apply Kd.R_alloc | apply Kd.R_drewN | apply Kd.R_drew)); exact HO_5.out) hb); have n1_ := Aside0.mk (blk_below (g := gb195) (o := .cells #[.int .i64 a0_0, .string a0_1, .string a0_2, .slice A0_3 l0_3.length c0_3, .slice A0_4 l0_4.length c0_4] 25 (0, 0)) (by (with_reducible repeat (first | refine blk_drewN ?_ _ | refine blk_drew ?_ | refine blk_alloc ?_ _)); exact BK195.out) hb); have n2_ := Aside0.mk (blk_below (g := gb196) (o := .cells #[.string a1_0, .slice A1_1 l1_1.length c1_1] 28 (0, 0)) (by (with_reducible repeat (first | refine blk_drewN ?_ _ | refine blk_drew ?_ | refine blk_alloc ?_ _)); exact BK196.out) hb); have n3_ := Aside0.mk (below_step (by repeat (first | (with_reducible first | exact HB.out | apply below_alloc | apply pw_below_drewN | apply below_drew1 | refine below_set ?_ GE195.out | refine below_set ?_ GE196.out) | exact HB.out)) hb); clear HO_5; clear BK195; clear BK196; clear HB; have HO_5 := n0_; have BK195 := n1_; have BK196 := n2_; have HB := n3_; clear n0_ n1_ n2_ n3_; (try clear hb); (try clear hb2); (try clear hk); (try clear hi)))
        go_ret
        exact ⟨by first | rfl | (simp [errW_none, errW_some] <;> rfl) | (simp [*, errW_none, errW_some] <;> rfl), by repeat (first | (with_reducible first | exact HB.out | apply below_alloc | apply pw_below_drewN | apply below_drew1 | refine below_set ?_ GE195.out | refine below_set ?_ GE196.out) | exact HB.out)⟩
end Go.Proofs.YthfpaoacjpjnfaaGreatDoor.P

namespace Go.Proofs.YthfpaoacjpjnfaaGreatDoor.P
open Go.RowKit Go.Proofs.YthfpaoacjpjnfaaGreatDoorW.PrintWords Go.Proofs.YthfpaoacjpjnfaaGreatDoorW.PrintLast Go.Proofs.YthfpaoacjpjnfaaGreatDoorW.PrintMore
attribute [local go_sem] max2_int min2_int max_two min_two max_three min_three max_four min_four
set_option linter.unusedVariables false
set_option linter.unusedSimpArgs false
mutual
def filter_mayParts.j0 : Nat → List ByteArray → Bool → Option (Bool)
 | 0, _, _ => none
 | k + 1, x0, x27 => if x27 = true then (some false) else (filter_mayParts.l0 k x0 x0 (x0.length : Int) 0)
def filter_mayParts.l0 : Nat → List ByteArray → List ByteArray → Int → Int → Option (Bool)
 | 0, _, _, _, _ => none
 | k + 1, x0, x28, x29, x30 => if x30 < x29 then (if 0 ≤ x30 then (if x30 < (x28.length : Int) then (if ((rdOf ByteArray.empty x28 x30).size : Int) > 100 then (some false) else (if (rdOf ByteArray.empty x28 x30).toList = ([] : List UInt8) then (if x30 > 0 then (if x30 < (wrap64 ((x0.length : Int) - 1)) then (some false) else (filter_mayParts.l0 k x0 x28 x29 (wrap64 (x30 + 1)))) else (filter_mayParts.l0 k x0 x28 x29 (wrap64 (x30 + 1)))) else (filter_mayParts.l0 k x0 x28 x29 (wrap64 (x30 + 1))))) else (none)) else (none)) else (some true)
end
def filter_mayParts.f (k : Nat) (l0 : List ByteArray) : Option (Bool) := if (l0.length : Int) < 2 then (filter_mayParts.j0 k l0 true) else (if (l0.length : Int) > 8 then (filter_mayParts.j0 k l0 true) else (if (l0.length : Int) = 2 then (if 0 < (l0.length : Int) then (if 1 < (l0.length : Int) then (if (rdOf ByteArray.empty l0 0).size + (rdOf ByteArray.empty l0 1).size ≤ 9223372036854775807 then (filter_mayParts.j0 k l0 (((rdOf ByteArray.empty l0 0) ++ (rdOf ByteArray.empty l0 1)).toList == ([] : List UInt8))) else (none)) else (none)) else (none)) else (filter_mayParts.j0 k l0 false)))
set_option maxHeartbeats 8000000 in
set_option maxRecDepth 100000 in
theorem filter_mayParts.calls (k : Nat) (A0 : Option Addr) (c0 : Nat) (l0 : List ByteArray) (r : Bool) (w : World) (hr0 : Kd.C Kd.string w A0 l0.length l0) (hc0 : l0.length ≤ c0) (h : filter_mayParts.f k l0 = some r) :
  Calls Tryz.prog 50 #[.slice A0 l0.length c0] w fun e w' => e = .returned (.bool r) ∧ Drawn0 w w' := by
 have HR0 := Aside0.mk hr0
 have HC0 := Aside0.mk hc0
 clear hr0 hc0
 have H : (if (l0.length : Int) < 2 then (filter_mayParts.j0 k l0 true) else (if (l0.length : Int) > 8 then (filter_mayParts.j0 k l0 true) else (if (l0.length : Int) = 2 then (if 0 < (l0.length : Int) then (if 1 < (l0.length : Int) then (if (rdOf ByteArray.empty l0 0).size + (rdOf ByteArray.empty l0 1).size ≤ 9223372036854775807 then (filter_mayParts.j0 k l0 (((rdOf ByteArray.empty l0 0) ++ (rdOf ByteArray.empty l0 1)).toList == ([] : List UInt8))) else (none)) else (none)) else (none)) else (filter_mayParts.j0 k l0 false)))) = some r := h
 clear h
 have HC2 := Aside0.mk H
 clear H
 go_enter Tryz.func50, Tryz.ntmps50
 go_upto_region 1 with (fail)
 repeat (go_quiet (fail); go_upto_region 1 with (fail))
 go_cut [27] (fun v27 wc => ∃ (kq : Nat) (x27_1 : Bool), v27 = .bool x27_1 ∧ Aside0 (filter_mayParts.j0 kq l0 x27_1 = some r) ∧ Aside0 (kq ≤ k) ∧ Drawn0 w wc)
 case first =>
  have H := HC2.out
  clear HC2
  by_cases c3 : (l0.length : Int) < 2
  ·rw [if_pos c3] at H
   have c3b0 : decide ((l0.length : Int) < 2) = true := decide_eq_true c3
   have c3b1 : decide (l0.length < 2) = true := decide_eq_true (by omega)
   clear c3
   (first | rw [c3b0] | (simp only [i64_w, i32_w]; rw [c3b0]) | skip)
   have H' := Aside0.mk H
   clear H
   go_wp2
   repeat (go_quiet (fail); try go_wp2)
   go_meet
   case rel => exact ⟨_, (true), (by first | rfl | (simp; done) | (simp [*]; done) | (simp [*, i64_w, i32_w, u8_w]; done) | (simp only [bneNil, beqNil]; done) | (simp only [bneNil, beqNil]; simp; done) | (simp only [bneNil, beqNil]; simp [*]; done)), H', ⟨by first | omega | exact Nat.le_refl _⟩, by repeat (first | exact Drawn0.refl _ | apply Drawn0.step)⟩
  ·rw [if_neg c3] at H
   have c3b0 : decide ((l0.length : Int) < 2) = false := decide_eq_false c3
   have c3b1 : decide (l0.length < 2) = false := decide_eq_false (by omega)
   clear c3
   (first | rw [c3b0] | (simp only [i64_w, i32_w]; rw [c3b0]) | skip)
   by_cases c4 : (l0.length : Int) > 8
   ·rw [if_pos c4] at H
    have c4b0 : decide (8 < (l0.length : Int)) = true := decide_eq_true c4
    have c4b1 : decide (8 < l0.length) = true := decide_eq_true (by omega)
    clear c4
    have H' := Aside0.mk H
    clear H
    go_wp2
    repeat (go_quiet (fail); try go_wp2)
    go_meet
    case rel => exact ⟨_, (true), (by first | rfl | (simp; done) | (simp [*]; done) | (simp [*, i64_w, i32_w, u8_w]; done) | (simp only [bneNil, beqNil]; done) | (simp only [bneNil, beqNil]; simp; done) | (simp only [bneNil, beqNil]; simp [*]; done)), H', ⟨by first | omega | exact Nat.le_refl _⟩, by repeat (first | exact Drawn0.refl _ | apply Drawn0.step)⟩
   ·rw [if_neg c4] at H
    have c4b0 : decide (8 < (l0.length : Int)) = false := decide_eq_false c4
    have c4b1 : decide (8 < l0.length) = false := decide_eq_false (by omega)
    clear c4
    by_cases c5 : (l0.length : Int) = 2
    ·rw [if_pos c5] at H
     have c5b0 : ((l0.length : Int) == 2) = true := beq_iff_eq.mpr c5
     have c5b1 : ((l0.length : Int) != 2) = false := bne_eq_false_iff_eq.mpr c5
     clear c5
     by_cases c6 : 0 < (l0.length : Int)
     ·rw [if_pos c6] at H
      have c6b0 : decide (0 < (l0.length : Int)) = true := decide_eq_true c6
      have c6b1 : decide (0 < l0.length) = true := decide_eq_true (by omega)
      clear c6
      by_cases c7 : 1 < (l0.length : Int)
      ·rw [if_pos c7] at H
       have c7b0 : decide (1 < (l0.length : Int)) = true := decide_eq_true c7
       have c7b1 : decide (1 < l0.length) = true := decide_eq_true (by omega)
       clear c7
       by_cases c8 : (rdOf ByteArray.empty l0 0).size + (rdOf ByteArray.empty l0 1).size ≤ 9223372036854775807
       ·rw [if_pos c8] at H
        have c8b0 := eq_true c8
        have c8b1 : decide ((rdOf ByteArray.empty l0 0).size + (rdOf ByteArray.empty l0 1).size ≤ 9223372036854775807) = true := decide_eq_true c8
        try have c8b2 : (9223372036854775807 < (rdOf ByteArray.empty l0 0).size + (rdOf ByteArray.empty l0 1).size) = False := eq_false (Nat.not_lt.2 c8)
        have H' := Aside0.mk H
        clear H
        have p113 : 0 ≤ (0 : Int) := (by omega)
        have q113 : 0 < (l0.length : Int) := of_decide_eq_true (by first | (with_reducible assumption) | assumption)
        obtain ⟨ad113, e113, hx113_0⟩ := Kd.at_string HR0.out 0 p113 q113
        cases e113
        have qi113 : (0 < l0.length) = True := eq_true (by omega)
        (try rw [show ((0 : Int)).toNat = 0 from rfl] at hx113_0)
        (try rw [Addr.add_zero'] at hx113_0)
        replace p113 := eq_true p113
        replace q113 := eq_true q113
        have p114 : 0 ≤ (1 : Int) := (by omega)
        have q114 : 1 < (l0.length : Int) := of_decide_eq_true (by first | (with_reducible assumption) | assumption)
        obtain ⟨ad114, e114, hx114_0⟩ := Kd.at_string HR0.out 1 p114 q114
        obtain rfl : ad113 = ad114 := (by injection e114)
        (try simp only [show (1 : Int).toNat = 1 from rfl, Nat.reduceMul, Nat.reduceEqDiff, Go.Addr.add, ↓reduceIte] at hx114_0)
        have qi114 : (1 < l0.length) = True := eq_true (by omega)
        (try rw [show ((1 : Int)).toNat = 1 from rfl] at hx114_0)
        replace p114 := eq_true p114
        replace q114 := eq_true q114
        go_wp2
        repeat (go_quiet (fail); try go_wp2)
        go_meet
        case rel => exact ⟨_, ((((rdOf ByteArray.empty l0 0) ++ (rdOf ByteArray.empty l0 1)).toList == ([] : List UInt8))), (by first | rfl | (simp; done) | (simp [*]; done) | (simp [*, i64_w, i32_w, u8_w]; done) | (simp only [bneNil, beqNil]; done) | (simp only [bneNil, beqNil]; simp; done) | (simp only [bneNil, beqNil]; simp [*]; done)), H', ⟨by first | omega | exact Nat.le_refl _⟩, by repeat (first | exact Drawn0.refl _ | apply Drawn0.step)⟩
       ·rw [if_neg c8] at H
        exact absurd H (by simp)
      ·rw [if_neg c7] at H
       exact absurd H (by simp)
     ·rw [if_neg c6] at H
      exact absurd H (by simp)
    ·rw [if_neg c5] at H
     have c5b0 : ((l0.length : Int) == 2) = false := beq_eq_false_iff_ne.mpr c5
     have c5b1 : ((l0.length : Int) != 2) = true := bne_iff_ne.mpr c5
     have H' := Aside0.mk H
     clear H
     go_wp2
     repeat (go_quiet (fail); try go_wp2)
     go_meet
     case rel => exact ⟨_, (false), (by first | rfl | (simp; done) | (simp [*]; done) | (simp [*, i64_w, i32_w, u8_w]; done) | (simp only [bneNil, beqNil]; done) | (simp only [bneNil, beqNil]; simp; done) | (simp only [bneNil, beqNil]; simp [*]; done)), H', ⟨by first | omega | exact Nat.le_refl _⟩, by repeat (first | exact Drawn0.refl _ | apply Drawn0.step)⟩
 case rest =>
  clear HC2
  try clear p1
  try clear q1
  try clear hx1
  try clear qi1
  try clear p2
  try clear c3
  try clear c3b0
  try clear c3b1
  try clear c4
  try clear c4b0
  try clear c4b1
  try clear c5
  try clear c5b0
  try clear c5b1
  try clear c6
  try clear c6b0
  try clear c6b1
  try clear c7
  try clear c7b0
  try clear c7b1
  try clear c8
  try clear c8b0
  try clear c8b1
  try clear c8b2
  try clear hx113_0
  try clear hx114_0
  try clear p113
  try clear p114
  try clear q113
  try clear q114
  obtain ⟨kq, x27_1, rfl, HA, HJ1, ⟨mc1, rfl⟩⟩ := hcut
  cases kq with
  | zero => exact absurd HA.out (by simp [filter_mayParts.j0])
  | succ kj1 =>
   have H := HA.out
   clear HA
   simp only [filter_mayParts.j0] at H
   by_cases c9 : x27_1 = true
   ·subst c9
    have H1 : (some false) = some r := by rw [if_pos rfl] at H; exact H
    clear H
    have H := H1
    clear H1
    obtain rfl := Option.some.inj H
    go_wp2
    repeat (go_quiet (fail); try go_wp2)
    go_ret
    exact ⟨by first | rfl | (simp; done) | (simp [*]; done) | (simp [*, i64_w, i32_w, u8_w]; done) | (simp only [bneNil, beqNil]; done) | (simp only [bneNil, beqNil]; simp; done) | (simp only [bneNil, beqNil]; simp [*]; done), by repeat (first | exact Drawn0.refl _ | apply Drawn0.step)⟩
   ·replace c9 := Bool.eq_false_iff.mpr c9
    subst c9
    have H1 : (filter_mayParts.l0 kj1 l0 l0 (l0.length : Int) 0) = some r := by rw [if_neg (show ¬ (false = true) by decide)] at H; exact H
    clear H
    have H := H1
    clear H1
    have H' := Aside0.mk H
    clear H
    go_wp2
    repeat (go_quiet (fail); try go_wp2)
    go_loopg [30] kj1 (fun kq v30 w' => ∃ (x30_2 : Int), v30 = .int .i64 x30_2 ∧ Aside0 (filter_mayParts.l0 kq l0 l0 (l0.length : Int) x30_2 = some r) ∧ Aside0 (kq ≤ kj1) ∧ Drawn0 w w')
    case atStart => exact ⟨(0), (by first | rfl | (simp; done) | (simp [*]; done) | (simp [*, i64_w, i32_w, u8_w]; done) | (simp only [bneNil, beqNil]; done) | (simp only [bneNil, beqNil]; simp; done) | (simp only [bneNil, beqNil]; simp [*]; done)), H', ⟨Nat.le_refl _⟩, by repeat (first | exact Drawn0.refl _ | apply Drawn0.step)⟩
    case round =>
     clear H'
     try clear c1
     try clear p1
     try clear q1
     try clear hx1
     try clear qi1
     try clear p2
     try clear c3
     try clear c3b0
     try clear c3b1
     try clear c4
     try clear c4b0
     try clear c4b1
     try clear c5
     try clear c5b0
     try clear c5b1
     try clear c6
     try clear c6b0
     try clear c6b1
     try clear c7
     try clear c7b0
     try clear c7b1
     try clear c8
     try clear c8b0
     try clear c8b1
     try clear c8b2
     try clear c9
     try clear hx113_0
     try clear hx114_0
     try clear p1
     try clear p113
     try clear p114
     try clear p2
     try clear q1
     try clear q113
     try clear q114
     obtain ⟨x30_2, rfl, HA, HK2, ⟨m2, rfl⟩⟩ := hrel
     cases gk with
     | zero => exact absurd HA.out (by simp [filter_mayParts.l0])
     | succ k2 =>
      have H := HA.out
      clear HA
      simp only [filter_mayParts.l0] at H
      by_cases c10 : x30_2 < (l0.length : Int)
      ·rw [if_pos c10] at H
       have c10b0 : decide (x30_2 < (l0.length : Int)) = true := decide_eq_true c10
       clear c10
       by_cases c11 : 0 ≤ x30_2
       ·rw [if_pos c11] at H
        have c11b0 : decide (0 ≤ x30_2) = true := decide_eq_true c11
        clear c11
        by_cases c12 : x30_2 < (l0.length : Int)
        ·rw [if_pos c12] at H
         have c12b0 : decide (x30_2 < (l0.length : Int)) = true := decide_eq_true c12
         clear c12
         by_cases c13 : ((rdOf ByteArray.empty l0 x30_2).size : Int) > 100
         ·rw [if_pos c13] at H
          have c13b0 : decide (100 < ((rdOf ByteArray.empty l0 x30_2).size : Int)) = true := decide_eq_true c13
          have c13b1 : decide (100 < (rdOf ByteArray.empty l0 x30_2).size) = true := decide_eq_true (by omega)
          clear c13
          obtain rfl := Option.some.inj H
          have p115 : 0 ≤ (x30_2 : Int) := of_decide_eq_true (by first | (with_reducible assumption) | assumption)
          have q115 : x30_2 < (l0.length : Int) := of_decide_eq_true (by first | (with_reducible assumption) | assumption)
          obtain ⟨ad115, e115, hx115_0⟩ := Kd.at_string HR0.out x30_2 p115 q115
          cases e115
          replace p115 := eq_true p115
          replace q115 := eq_true q115
          go_wp2
          repeat (go_quiet (fail); try go_wp2)
          go_ret
          exact ⟨by first | rfl | (simp; done) | (simp [*]; done) | (simp [*, i64_w, i32_w, u8_w]; done) | (simp only [bneNil, beqNil]; done) | (simp only [bneNil, beqNil]; simp; done) | (simp only [bneNil, beqNil]; simp [*]; done), by repeat (first | exact Drawn0.refl _ | apply Drawn0.step)⟩
         ·rw [if_neg c13] at H
          have c13b0 : decide (100 < ((rdOf ByteArray.empty l0 x30_2).size : Int)) = false := decide_eq_false c13
          have c13b1 : decide (100 < (rdOf ByteArray.empty l0 x30_2).size) = false := decide_eq_false (by omega)
          clear c13
          by_cases c14 : (rdOf ByteArray.empty l0 x30_2).toList = ([] : List UInt8)
          ·rw [if_pos c14] at H
           have c14b0 : ((rdOf ByteArray.empty l0 x30_2).toList == ([] : List UInt8)) = true := beq_iff_eq.mpr c14
           have c14b1 : ((rdOf ByteArray.empty l0 x30_2).toList != ([] : List UInt8)) = false := bne_eq_false_iff_eq.mpr c14
           clear c14
           by_cases c15 : x30_2 > 0
           ·rw [if_pos c15] at H
            have c15b0 : decide (0 < x30_2) = true := decide_eq_true c15
            clear c15
            by_cases c16 : x30_2 < (wrap64 ((l0.length : Int) - 1))
            ·rw [if_pos c16] at H
             have c16b0 : decide (x30_2 < (wrap64 ((l0.length : Int) - 1))) = true := decide_eq_true c16
             clear c16
             obtain rfl := Option.some.inj H
             have p115 : 0 ≤ (x30_2 : Int) := of_decide_eq_true (by first | (with_reducible assumption) | assumption)
             have q115 : x30_2 < (l0.length : Int) := of_decide_eq_true (by first | (with_reducible assumption) | assumption)
             obtain ⟨ad115, e115, hx115_0⟩ := Kd.at_string HR0.out x30_2 p115 q115
             cases e115
             replace p115 := eq_true p115
             replace q115 := eq_true q115
             go_wp2
             repeat (go_quiet (fail); try go_wp2)
             go_ret
             exact ⟨by first | rfl | (simp; done) | (simp [*]; done) | (simp [*, i64_w, i32_w, u8_w]; done) | (simp only [bneNil, beqNil]; done) | (simp only [bneNil, beqNil]; simp; done) | (simp only [bneNil, beqNil]; simp [*]; done), by repeat (first | exact Drawn0.refl _ | apply Drawn0.step)⟩
            ·rw [if_neg c16] at H
             have c16b0 : decide (x30_2 < (wrap64 ((l0.length : Int) - 1))) = false := decide_eq_false c16
             clear c16
             have H' := Aside0.mk H
             clear H
             have p115 : 0 ≤ (x30_2 : Int) := of_decide_eq_true (by first | (with_reducible assumption) | assumption)
             have q115 : x30_2 < (l0.length : Int) := of_decide_eq_true (by first | (with_reducible assumption) | assumption)
             obtain ⟨ad115, e115, hx115_0⟩ := Kd.at_string HR0.out x30_2 p115 q115
             cases e115
             replace p115 := eq_true p115
             replace q115 := eq_true q115
             go_wp2
             repeat (go_quiet (fail); try go_wp2)
             go_roundg k2
             case measure => have := HJ1.out; have := HK2.out; omega
             case rel => exact ⟨(wrap64 (x30_2 + 1)), (by first | rfl | (simp; done) | (simp [*]; done) | (simp [*, i64_w, i32_w, u8_w]; done) | (simp only [bneNil, beqNil]; done) | (simp only [bneNil, beqNil]; simp; done) | (simp only [bneNil, beqNil]; simp [*]; done)), H', ⟨by have := HJ1.out; have := HK2.out; omega⟩, by repeat (first | exact Drawn0.refl _ | apply Drawn0.step)⟩
           ·rw [if_neg c15] at H
            have c15b0 : decide (0 < x30_2) = false := decide_eq_false c15
            clear c15
            have H' := Aside0.mk H
            clear H
            have p115 : 0 ≤ (x30_2 : Int) := of_decide_eq_true (by first | (with_reducible assumption) | assumption)
            have q115 : x30_2 < (l0.length : Int) := of_decide_eq_true (by first | (with_reducible assumption) | assumption)
            obtain ⟨ad115, e115, hx115_0⟩ := Kd.at_string HR0.out x30_2 p115 q115
            cases e115
            replace p115 := eq_true p115
            replace q115 := eq_true q115
            go_wp2
            repeat (go_quiet (fail); try go_wp2)
            go_roundg k2
            case measure => have := HJ1.out; have := HK2.out; omega
            case rel => exact ⟨(wrap64 (x30_2 + 1)), (by first | rfl | (simp; done) | (simp [*]; done) | (simp [*, i64_w, i32_w, u8_w]; done) | (simp only [bneNil, beqNil]; done) | (simp only [bneNil, beqNil]; simp; done) | (simp only [bneNil, beqNil]; simp [*]; done)), H', ⟨by have := HJ1.out; have := HK2.out; omega⟩, by repeat (first | exact Drawn0.refl _ | apply Drawn0.step)⟩
          ·rw [if_neg c14] at H
           have c14b0 : ((rdOf ByteArray.empty l0 x30_2).toList == ([] : List UInt8)) = false := beq_eq_false_iff_ne.mpr c14
           have c14b1 : ((rdOf ByteArray.empty l0 x30_2).toList != ([] : List UInt8)) = true := bne_iff_ne.mpr c14
           have H' := Aside0.mk H
           clear H
           have p115 : 0 ≤ (x30_2 : Int) := of_decide_eq_true (by first | (with_reducible assumption) | assumption)
           have q115 : x30_2 < (l0.length : Int) := of_decide_eq_true (by first | (with_reducible assumption) | assumption)
           obtain ⟨ad115, e115, hx115_0⟩ := Kd.at_string HR0.out x30_2 p115 q115
           cases e115
           replace p115 := eq_true p115
           replace q115 := eq_true q115
           go_wp2
           repeat (go_quiet (fail); try go_wp2)
           go_roundg k2
           case measure => have := HJ1.out; have := HK2.out; omega
           case rel => exact ⟨(wrap64 (x30_2 + 1)), (by first | rfl | (simp; done) | (simp [*]; done) | (simp [*, i64_w, i32_w, u8_w]; done) | (simp only [bneNil, beqNil]; done) | (simp only [bneNil, beqNil]; simp; done) | (simp only [bneNil, beqNil]; simp [*]; done)), H', ⟨by have := HJ1.out; have := HK2.out; omega⟩, by repeat (first | exact Drawn0.refl _ | apply Drawn0.step)⟩
        ·rw [if_neg c12] at H
         exact absurd H (by simp)
       ·rw [if_neg c11] at H
        exact absurd H (by simp)
      ·rw [if_neg c10] at H
       have c10b0 : decide (x30_2 < (l0.length : Int)) = false := decide_eq_false c10
       clear c10
       obtain rfl := Option.some.inj H
       go_wp2
       repeat (go_quiet (fail); try go_wp2)
       go_ret
       exact ⟨by first | rfl | (simp; done) | (simp [*]; done) | (simp [*, i64_w, i32_w, u8_w]; done) | (simp only [bneNil, beqNil]; done) | (simp only [bneNil, beqNil]; simp; done) | (simp only [bneNil, beqNil]; simp [*]; done), by repeat (first | exact Drawn0.refl _ | apply Drawn0.step)⟩
end Go.Proofs.YthfpaoacjpjnfaaGreatDoor.P


namespace Go.Proofs.YthfpaoacjpjnfaaGreatDoor.P
open Go.RowKit Go.Proofs.YthfpaoacjpjnfaaGreatDoorW.PrintWords Go.Proofs.YthfpaoacjpjnfaaGreatDoorW.PrintLast Go.Proofs.YthfpaoacjpjnfaaGreatDoorW.PrintMore
set_option linter.unusedVariables false
set_option linter.unusedSimpArgs false
def midOk (l : List ByteArray) (i : Nat) : Bool := decide ((rdOf ByteArray.empty l (i : Int)).size ≤ 100) && !(decide ((rdOf ByteArray.empty l (i : Int)).toList = []) && decide (0 < i) && decide (i + 1 < l.length))
def midsFrom (l : List ByteArray) (i : Nat) : Nat → Bool
  | 0 => true
  | n + 1 => midOk l i && midsFrom l (i + 1) n
def partsB (l : List ByteArray) : Bool := decide (2 ≤ l.length) && decide (l.length ≤ 8) && !(decide (l.length = 2) && (decide ((rdOf ByteArray.empty l 0).toList = []) && decide ((rdOf ByteArray.empty l 1).toList = []))) && midsFrom l 0 l.length
theorem parts_loop (l : List ByteArray) (hl : l.length ≤ 8) : ∀ (n i : Nat), l.length - i = n → i ≤ l.length → Ev (fun k => filter_mayParts.l0 k l l (l.length : Int) (i : Int)) (midsFrom l i n) := by
  intro n
  induction n with
  | zero =>
    intro i hn hi
    have h1 : ¬ ((i : Int) < (l.length : Int)) := by omega
    exact Ev.step (fun k => by rw [filter_mayParts.l0]) (Ev.ifn (c := (i : Int) < (l.length : Int)) h1 (Ev.now true))
  | succ n ih =>
    intro i hn hi
    have h1 : (i : Int) < (l.length : Int) := by omega
    have hw : wrap64 ((i : Int) + 1) = ((i + 1 : Nat) : Int) := by unfold wrap64; omega
    have hw2 : wrap64 ((l.length : Int) - 1) = (l.length : Int) - 1 := by unfold wrap64; omega
    have hih := ih (i + 1) (by omega) (by omega)
    rw [← hw] at hih
    unfold midsFrom midOk
    refine Ev.step (fun k => by rw [filter_mayParts.l0]) (Ev.ifp h1 (Ev.ifp (by omega) (Ev.ifp h1 ?_)))
    by_cases c1 : (rdOf ByteArray.empty l (i : Int)).size ≤ 100
    · rw [decide_eq_true c1]
      refine Ev.ifn (by omega) ?_
      by_cases c2 : (rdOf ByteArray.empty l (i : Int)).toList = []
      · rw [decide_eq_true c2]
        refine Ev.ifp c2 ?_
        by_cases c3 : 0 < i
        · rw [decide_eq_true c3]
          refine Ev.ifp (by omega) ?_
          by_cases c4 : i + 1 < l.length
          · rw [decide_eq_true c4]
            exact Ev.ifp (by rw [hw2]; omega) (Ev.now _)
          · rw [decide_eq_false c4]
            exact Ev.ifn (by rw [hw2]; omega) hih
        · rw [decide_eq_false c3]
          exact Ev.ifn (by omega) hih
      · rw [decide_eq_false c2]
        exact Ev.ifn c2 hih
    · rw [decide_eq_false c1]
      exact Ev.ifp (by omega) (Ev.now _)
theorem app_nil_iff (a b : ByteArray) : (a ++ b).toList = [] ↔ a.toList = [] ∧ b.toList = [] := by
  rw [toList_data, toList_data, toList_data, append_data, List.append_eq_nil_iff]
theorem mayParts_ev (l : List ByteArray) (hb : ∀ i : Nat, i < l.length → (rdOf ByteArray.empty l (i : Int)).size ≤ 4611686018427387903) : Ev (fun k => filter_mayParts.f k l) (partsB l) := by
  have jt : Ev (fun k => filter_mayParts.j0 k l true) false := Ev.step (fun k => by rw [filter_mayParts.j0]) (Ev.ifp rfl (Ev.now _))
  unfold filter_mayParts.f partsB
  by_cases c1 : 2 ≤ l.length
  · rw [decide_eq_true c1]
    refine Ev.ifn (by omega) ?_
    by_cases c2 : l.length ≤ 8
    · rw [decide_eq_true c2]
      refine Ev.ifn (by omega) ?_
      have jl : Ev (fun k => filter_mayParts.l0 k l l (l.length : Int) 0) (midsFrom l 0 l.length) := parts_loop l c2 l.length 0 (by omega) (by omega)
      have jf : Ev (fun k => filter_mayParts.j0 k l false) (midsFrom l 0 l.length) := Ev.step (fun k => by rw [filter_mayParts.j0]) (Ev.ifn (c := false = true) Bool.false_ne_true jl)
      by_cases c3 : l.length = 2
      · rw [decide_eq_true c3]
        have b0 := hb 0 (by omega)
        have b1 := hb 1 (by omega)
        refine Ev.ifp (by omega) (Ev.ifp (by omega) (Ev.ifp (by omega) (Ev.ifp (by
          have e0 : (rdOf ByteArray.empty l ((0 : Nat) : Int)) = rdOf ByteArray.empty l 0 := rfl
          have e1 : (rdOf ByteArray.empty l ((1 : Nat) : Int)) = rdOf ByteArray.empty l 1 := rfl
          rw [e0] at b0
          rw [e1] at b1
          omega) ?_)))
        by_cases c4 : (rdOf ByteArray.empty l 0).toList = [] ∧ (rdOf ByteArray.empty l 1).toList = []
        · rw [decide_eq_true c4.1, decide_eq_true c4.2]
          have e : ((rdOf ByteArray.empty l 0 ++ rdOf ByteArray.empty l 1).toList == ([] : List UInt8)) = true := beq_iff_eq.2 ((app_nil_iff _ _).2 c4)
          rw [e]
          exact jt
        · have e : ((rdOf ByteArray.empty l 0 ++ rdOf ByteArray.empty l 1).toList == ([] : List UInt8)) = false := beq_eq_false_iff_ne.2 (fun h => c4 ((app_nil_iff _ _).1 h))
          rw [e]
          have e2 : (decide ((rdOf ByteArray.empty l 0).toList = []) && decide ((rdOf ByteArray.empty l 1).toList = [])) = false := by
            cases h : (decide ((rdOf ByteArray.empty l 0).toList = []) && decide ((rdOf ByteArray.empty l 1).toList = [])) with
            | false => rfl
            | true => rw [Bool.and_eq_true, decide_eq_true_eq, decide_eq_true_eq] at h; exact absurd h c4
          rw [e2]
          exact jf
      · rw [decide_eq_false c3]
        exact Ev.ifn (by omega) jf
    · rw [decide_eq_false c2]
      exact Ev.ifp (by omega) jt
  · rw [decide_eq_false c1]
    exact Ev.ifp (by omega) jt
def bareB (a1 a2 : ByteArray) (l3 : List ByteArray) : Bool := decide (a1.toList = []) && decide (a2.toList = []) && decide (l3.length = 0)
def leafB (a1 : ByteArray) (l4 : List S25) : Bool := typedL a1.data.toList && decide (l4.length = 0)
def mayG (a0 : Int) (a1 a2 : ByteArray) (l3 : List ByteArray) (l4 : List S25) (deepOk kidsOk : Bool) : Bool :=
  if a0 = 1 ∨ a0 = 2 then bareB a1 a2 l3 && decide (l4.length ≤ 40) && (deepOk && kidsOk)
  else if a0 = 3 then bareB a1 a2 l3 && decide (l4.length = 1) && (deepOk && kidsOk)
  else if a0 = 4 ∨ a0 = 6 ∨ a0 = 7 then leafB a1 l4 && decide (l3.length = 0) && decide (a2.size ≤ 100)
  else if a0 = 5 then leafB a1 l4 && decide (a2.toList = []) && partsB l3
  else if a0 = 8 then leafB a1 l4 && decide (a2.toList = []) && decide (l3.length = 0)
  else false
def mayD : Nat → S25 → Bool
  | 0, f => mayG f.f0 f.f1 f.f2 f.f3 f.f4 (decide (f.f4.length = 0)) true
  | n + 1, f => mayG f.f0 f.f1 f.f2 f.f3 f.f4 true (f.f4.all (mayD n))
def szF : Nat → S25 → Prop
  | 0, f => ∀ i : Nat, i < f.f3.length → (rdOf ByteArray.empty f.f3 (i : Int)).size ≤ 4611686018427387903
  | n + 1, f => (∀ i : Nat, i < f.f3.length → (rdOf ByteArray.empty f.f3 (i : Int)).size ≤ 4611686018427387903) ∧ ∀ x ∈ f.f4, szF n x
theorem szF_parts {n : Nat} {f : S25} (h : szF n f) : ∀ i : Nat, i < f.f3.length → (rdOf ByteArray.empty f.f3 (i : Int)).size ≤ 4611686018427387903 := by
  cases n with
  | zero => exact h
  | succ n => exact h.1
theorem rd_mem {l : List S25} {i : Nat} (h : i < l.length) : rd_T25 l (i : Int) ∈ l := by
  unfold rd_T25
  rw [Int.toNat_natCast, List.getD_eq_getElem?_getD, List.getElem?_eq_getElem h]
  exact List.getElem_mem h
theorem some_not_all (l : List S25) (q : S25 → Bool) : someI (fun i => !q (rd_T25 l (i : Int))) l.length = !l.all q := by
  unfold someI
  induction l with
  | nil => rfl
  | cons a r ih =>
    rw [List.length_cons, List.range_succ_eq_map, List.any_cons, List.any_map, List.all_cons]
    have : ((fun i : Nat => !q (rd_T25 (a :: r) (i : Int))) ∘ Nat.succ) = fun i : Nat => !q (rd_T25 r (i : Int)) := by
      funext j
      show (!q (rd_T25 (a :: r) ((j + 1 : Nat) : Int))) = _
      unfold rd_T25
      rw [Int.toNat_natCast, Int.toNat_natCast]
      rfl
    rw [this, ih]
    have h0 : rd_T25 (a :: r) ((0 : Nat) : Int) = a := rfl
    rw [h0]
    cases q a <;> simp
end Go.Proofs.YthfpaoacjpjnfaaGreatDoor.P


namespace Go.Proofs.YthfpaoacjpjnfaaGreatDoor.P
open Go.RowKit Go.Proofs.YthfpaoacjpjnfaaGreatDoorW.PrintWords Go.Proofs.YthfpaoacjpjnfaaGreatDoorW.PrintLast Go.Proofs.YthfpaoacjpjnfaaGreatDoorW.PrintMore
set_option linter.unusedVariables false
set_option linter.unusedSimpArgs false
set_option maxHeartbeats 2000000 in
theorem idx_byte (B n0 cap : Nat) (f : Nat → Int) (g : Nat) (lb : Array Value) (p : Nat → Bool) (w : World) (eg : ∀ args w, (callFunc g args).run Tryz.prog w = .ok (.enter g args) w)
    (hr : BRow w B n0 f) (hB : B < w.heap.size) (hl : n0 ≤ 4611686018427387904)
    (hp : ∀ i : Nat, i < n0 → ∀ (W : World), Below w.heap.size w W → Calls Tryz.prog g (#[.int .u8 (f i)] ++ lb) W fun e w' => e = .returned (.bool (p i)) ∧ Below w.heap.size w w') :
    Calls Tryz.prog 96 #[.slice (some ⟨B, 0, none⟩) n0 cap, .func (.func g) #[] lb] w fun e w' => e = .returned (.int .i64 (firstI p n0)) ∧ Below w.heap.size w w' := by
  obtain ⟨n, hn⟩ : ∃ n, n0 = n := ⟨_, rfl⟩
  go_enter Tryz.func96, Tryz.ntmps96
  go_wp2
  rw [hn]
  go_loopg [5, 8] n (fun gg _ s8 wr => ∃ kk : Nat, kk ≤ n ∧ n - kk ≤ gg ∧ s8 = .int .i64 kk ∧ Aside0 (Below w.heap.size w wr) ∧ Aside0 (∀ j, j < kk → p j = false))
  case atStart => exact ⟨0, Nat.zero_le _, by omega, rfl, ⟨Below.refl _ w⟩, ⟨fun j hj => absurd hj (Nat.not_lt_zero _)⟩⟩
  case round =>
    obtain ⟨kk, hkk, hg, rfl, BW, AW⟩ := hrel
    by_cases hlt : kk < n
    · have hltz : (kk : Int) < (n : Int) := by omega
      have x0 := (brow_below hr hB BW.out).cell kk (by omega)
      have hcall := hp kk (by omega) wr BW.out
      clear hr
      clear hp
      cases hq : p kk with
      | true =>
        rw [hq] at hcall
        have HQ := Lib.hid hq
        clear hq
        go_wp2_with (go_at_fn g; refine hcall.mono ?_; rintro e w' ⟨rfl, hb'⟩)
        go_ret
        refine ⟨?_, hb'⟩
        first | rw [show firstI p (n0) = (kk : Int) from by rw [hn]; exact firstI_hit p n kk hlt HQ.out AW.out] | rw [firstI_hit p n kk hlt HQ.out AW.out]
        first | rfl | simp
      | false =>
        rw [hq] at hcall
        have HQ := Lib.hid hq
        clear hq
        go_wp2_with (go_at_fn g; refine hcall.mono ?_; rintro e w' ⟨rfl, hb'⟩)
        go_roundg (n - (kk + 1))
        case measure => omega
        case rel =>
          refine ⟨kk + 1, by omega, by omega, by go_num, ⟨hb'⟩, ⟨fun j hj => ?_⟩⟩
          by_cases e : j = kk
          · subst e; exact HQ.out
          · exact AW.out j (by omega)
    · have hltz : ¬ (kk : Int) < (n : Int) := by omega
      have : kk = n := by omega
      subst this
      clear hp
      go_wp2
      go_ret
      refine ⟨?_, BW.out⟩
      first | rw [show firstI p kk = -1 from firstI_miss p kk AW.out] | rw [show firstI p (n0) = -1 from by rw [hn]; exact firstI_miss p kk AW.out]
      first | rfl | simp
end Go.Proofs.YthfpaoacjpjnfaaGreatDoor.P

namespace Go.Proofs.YthfpaoacjpjnfaaGreatDoor.P
open Go.RowKit Go.Proofs.YthfpaoacjpjnfaaGreatDoorW.PrintWords Go.Proofs.YthfpaoacjpjnfaaGreatDoorW.PrintLast Go.Proofs.YthfpaoacjpjnfaaGreatDoorW.PrintMore
set_option linter.unusedVariables false
set_option linter.unusedSimpArgs false
theorem contains_byte (B n0 cap : Nat) (f : Nat → Int) (g : Nat) (lb : Array Value) (p : Nat → Bool) (w : World) (eg : ∀ args w, (callFunc g args).run Tryz.prog w = .ok (.enter g args) w)
    (hr : BRow w B n0 f) (hB : B < w.heap.size) (hl : n0 ≤ 4611686018427387904)
    (hp : ∀ i : Nat, i < n0 → ∀ (W : World), Below w.heap.size w W → Calls Tryz.prog g (#[.int .u8 (f i)] ++ lb) W fun e w' => e = .returned (.bool (p i)) ∧ Below w.heap.size w w') :
    Calls Tryz.prog 76 #[.slice (some ⟨B, 0, none⟩) n0 cap, .func (.func g) #[] lb] w fun e w' => e = .returned (.bool (someI p (n0))) ∧ Below w.heap.size w w' := by
  rw [← someI_first]
  have hI := idx_byte B n0 cap f g lb p w eg hr hB hl hp
  clear hp
  go_enter Tryz.func76, Tryz.ntmps76
  go_wp2_with (go_at_call 96; refine hI.mono ?_; rintro e w' ⟨rfl, hb'⟩)
  go_ret
  exact ⟨rfl, hb'⟩
end Go.Proofs.YthfpaoacjpjnfaaGreatDoor.P

namespace Go.Proofs.YthfpaoacjpjnfaaGreatDoor.P
open Go.RowKit Go.Proofs.YthfpaoacjpjnfaaGreatDoorW.PrintWords Go.Proofs.YthfpaoacjpjnfaaGreatDoorW.PrintLast Go.Proofs.YthfpaoacjpjnfaaGreatDoorW.PrintMore
attribute [local go_sem] max2_int min2_int max_two min_two max_three min_three max_four min_four
set_option linter.unusedVariables false
set_option linter.unusedSimpArgs false
def filter_letter.f (a0 : Int) : Option (Bool) := if 97 ≤ a0 then (if a0 ≤ 122 then (some true) else (if 65 ≤ a0 then (some (decide (a0 ≤ 90))) else (some false))) else (if 65 ≤ a0 then (some (decide (a0 ≤ 90))) else (some false))
set_option maxHeartbeats 8000000 in
set_option maxRecDepth 100000 in
theorem filter_letter.calls (a0 : Int) (r : Bool) (w : World) (h : filter_letter.f a0 = some r) :
  Calls Tryz.prog 75 #[.int .u8 a0] w fun e w' => e = .returned (.bool r) ∧ Drawn0 w w' := by
 have H : (if 97 ≤ a0 then (if a0 ≤ 122 then (some true) else (if 65 ≤ a0 then (some (decide (a0 ≤ 90))) else (some false))) else (if 65 ≤ a0 then (some (decide (a0 ≤ 90))) else (some false))) = some r := h
 clear h
 by_cases c2 : 97 ≤ a0
 ·rw [if_pos c2] at H
  have c2b0 : decide (97 ≤ a0) = true := decide_eq_true c2
  clear c2
  by_cases c3 : a0 ≤ 122
  ·rw [if_pos c3] at H
   have c3b0 : decide (a0 ≤ 122) = true := decide_eq_true c3
   clear c3
   obtain rfl := Option.some.inj H
   go_enter Tryz.func75, Tryz.ntmps75
   go_wp2
   go_ret
   exact ⟨by first | rfl | (simp; done) | (simp [*]; done) | (simp [*, i64_w, i32_w, u8_w]; done) | (simp only [bneNil, beqNil]; done) | (simp only [bneNil, beqNil]; simp; done) | (simp only [bneNil, beqNil]; simp [*]; done), by repeat (first | exact Drawn0.refl _ | apply Drawn0.step)⟩
  ·rw [if_neg c3] at H
   have c3b0 : decide (a0 ≤ 122) = false := decide_eq_false c3
   clear c3
   by_cases c4 : 65 ≤ a0
   ·rw [if_pos c4] at H
    have c4b0 : decide (65 ≤ a0) = true := decide_eq_true c4
    clear c4
    obtain rfl := Option.some.inj H
    go_enter Tryz.func75, Tryz.ntmps75
    go_wp2
    go_ret
    exact ⟨by first | rfl | (simp; done) | (simp [*]; done) | (simp [*, i64_w, i32_w, u8_w]; done) | (simp only [bneNil, beqNil]; done) | (simp only [bneNil, beqNil]; simp; done) | (simp only [bneNil, beqNil]; simp [*]; done), by repeat (first | exact Drawn0.refl _ | apply Drawn0.step)⟩
   ·rw [if_neg c4] at H
    have c4b0 : decide (65 ≤ a0) = false := decide_eq_false c4
    clear c4
    obtain rfl := Option.some.inj H
    go_enter Tryz.func75, Tryz.ntmps75
    go_wp2
    go_ret
    exact ⟨by first | rfl | (simp; done) | (simp [*]; done) | (simp [*, i64_w, i32_w, u8_w]; done) | (simp only [bneNil, beqNil]; done) | (simp only [bneNil, beqNil]; simp; done) | (simp only [bneNil, beqNil]; simp [*]; done), by repeat (first | exact Drawn0.refl _ | apply Drawn0.step)⟩
 ·rw [if_neg c2] at H
  have c2b0 : decide (97 ≤ a0) = false := decide_eq_false c2
  clear c2
  by_cases c5 : 65 ≤ a0
  ·rw [if_pos c5] at H
   have c5b0 : decide (65 ≤ a0) = true := decide_eq_true c5
   clear c5
   obtain rfl := Option.some.inj H
   go_enter Tryz.func75, Tryz.ntmps75
   go_wp2
   go_ret
   exact ⟨by first | rfl | (simp; done) | (simp [*]; done) | (simp [*, i64_w, i32_w, u8_w]; done) | (simp only [bneNil, beqNil]; done) | (simp only [bneNil, beqNil]; simp; done) | (simp only [bneNil, beqNil]; simp [*]; done), by repeat (first | exact Drawn0.refl _ | apply Drawn0.step)⟩
  ·rw [if_neg c5] at H
   have c5b0 : decide (65 ≤ a0) = false := decide_eq_false c5
   clear c5
   obtain rfl := Option.some.inj H
   go_enter Tryz.func75, Tryz.ntmps75
   go_wp2
   go_ret
   exact ⟨by first | rfl | (simp; done) | (simp [*]; done) | (simp [*, i64_w, i32_w, u8_w]; done) | (simp only [bneNil, beqNil]; done) | (simp only [bneNil, beqNil]; simp; done) | (simp only [bneNil, beqNil]; simp [*]; done), by repeat (first | exact Drawn0.refl _ | apply Drawn0.step)⟩
end Go.Proofs.YthfpaoacjpjnfaaGreatDoor.P

namespace Go.Proofs.YthfpaoacjpjnfaaGreatDoor.P
open Go.RowKit Go.Proofs.YthfpaoacjpjnfaaGreatDoorW.PrintWords Go.Proofs.YthfpaoacjpjnfaaGreatDoorW.PrintLast Go.Proofs.YthfpaoacjpjnfaaGreatDoorW.PrintMore
attribute [local go_sem] max2_int min2_int max_two min_two max_three min_three max_four min_four
set_option linter.unusedVariables false
set_option linter.unusedSimpArgs false
def filter_name.f (a0 : Int) : Option (Bool) := (filter_letter.f a0).bind fun t116 => (if t116 = true then (some true) else (if 48 ≤ a0 then (if a0 ≤ 57 then (some true) else (some (a0 == 45))) else (some (a0 == 45))))
set_option maxHeartbeats 8000000 in
set_option maxRecDepth 100000 in
theorem filter_name.calls (a0 : Int) (r : Bool) (w : World) (h : filter_name.f a0 = some r) :
  Calls Tryz.prog 78 #[.int .u8 a0] w fun e w' => e = .returned (.bool r) ∧ Drawn0 w w' := by
 have H : ((filter_letter.f a0).bind fun t116 => (if t116 = true then (some true) else (if 48 ≤ a0 then (if a0 ≤ 57 then (some true) else (some (a0 == 45))) else (some (a0 == 45))))) = some r := h
 clear h
 replace H := Option.bind_eq_some_iff.mp H
 obtain ⟨t116, A20, H⟩ := H
 replace H : (if t116 = true then (some true) else (if 48 ≤ a0 then (if a0 ≤ 57 then (some true) else (some (a0 == 45))) else (some (a0 == 45)))) = some r := H
 have A2 := Aside0.mk A20
 clear A20
 by_cases c3 : t116 = true
 ·subst c3
  have H1 : (some true) = some r := by rw [if_pos rfl] at H; exact H
  clear H
  have H := H1
  clear H1
  obtain rfl := Option.some.inj H
  go_enter Tryz.func78, Tryz.ntmps78
  go_wp2_with (first | ((with_reducible refine gate_callee (f := 75) rfl ?_); refine goesL_ (some 4) rfl rfl Tryz.func75 (by kernel_rfl) rfl #[.int .u8 a0] rfl (by (try simp only [List.map_toArray, List.map_cons, List.map_nil]); first | done | rfl | (simp only [List.length_drop, List.length_take]; rfl)) ?_; (with_reducible refine (filter_letter.calls a0 true _ A2.out).mono ?_); rintro e w' ⟨rfl, ⟨nd, rfl⟩⟩; refine ⟨_, rfl, ?_⟩))
  go_ret
  exact ⟨by first | rfl | (simp; done) | (simp [*]; done) | (simp [*, i64_w, i32_w, u8_w]; done) | (simp only [bneNil, beqNil]; done) | (simp only [bneNil, beqNil]; simp; done) | (simp only [bneNil, beqNil]; simp [*]; done), by repeat (first | exact Drawn0.refl _ | apply Drawn0.step)⟩
 ·replace c3 := Bool.eq_false_iff.mpr c3
  subst c3
  have H1 : (if 48 ≤ a0 then (if a0 ≤ 57 then (some true) else (some (a0 == 45))) else (some (a0 == 45))) = some r := by rw [if_neg (show ¬ (false = true) by decide)] at H; exact H
  clear H
  have H := H1
  clear H1
  by_cases c4 : 48 ≤ a0
  ·rw [if_pos c4] at H
   have c4b0 : decide (48 ≤ a0) = true := decide_eq_true c4
   clear c4
   by_cases c5 : a0 ≤ 57
   ·rw [if_pos c5] at H
    have c5b0 : decide (a0 ≤ 57) = true := decide_eq_true c5
    clear c5
    obtain rfl := Option.some.inj H
    go_enter Tryz.func78, Tryz.ntmps78
    go_wp2_with (first | ((with_reducible refine gate_callee (f := 75) rfl ?_); refine goesL_ (some 4) rfl rfl Tryz.func75 (by kernel_rfl) rfl #[.int .u8 a0] rfl (by (try simp only [List.map_toArray, List.map_cons, List.map_nil]); first | done | rfl | (simp only [List.length_drop, List.length_take]; rfl)) ?_; (with_reducible refine (filter_letter.calls a0 false _ A2.out).mono ?_); rintro e w' ⟨rfl, ⟨nd, rfl⟩⟩; refine ⟨_, rfl, ?_⟩))
    go_ret
    exact ⟨by first | rfl | (simp; done) | (simp [*]; done) | (simp [*, i64_w, i32_w, u8_w]; done) | (simp only [bneNil, beqNil]; done) | (simp only [bneNil, beqNil]; simp; done) | (simp only [bneNil, beqNil]; simp [*]; done), by repeat (first | exact Drawn0.refl _ | apply Drawn0.step)⟩
   ·rw [if_neg c5] at H
    have c5b0 : decide (a0 ≤ 57) = false := decide_eq_false c5
    clear c5
    obtain rfl := Option.some.inj H
    go_enter Tryz.func78, Tryz.ntmps78
    go_wp2_with (first | ((with_reducible refine gate_callee (f := 75) rfl ?_); refine goesL_ (some 4) rfl rfl Tryz.func75 (by kernel_rfl) rfl #[.int .u8 a0] rfl (by (try simp only [List.map_toArray, List.map_cons, List.map_nil]); first | done | rfl | (simp only [List.length_drop, List.length_take]; rfl)) ?_; (with_reducible refine (filter_letter.calls a0 false _ A2.out).mono ?_); rintro e w' ⟨rfl, ⟨nd, rfl⟩⟩; refine ⟨_, rfl, ?_⟩))
    go_ret
    exact ⟨by first | rfl | (simp; done) | (simp [*]; done) | (simp [*, i64_w, i32_w, u8_w]; done) | (simp only [bneNil, beqNil]; done) | (simp only [bneNil, beqNil]; simp; done) | (simp only [bneNil, beqNil]; simp [*]; done), by repeat (first | exact Drawn0.refl _ | apply Drawn0.step)⟩
  ·rw [if_neg c4] at H
   have c4b0 : decide (48 ≤ a0) = false := decide_eq_false c4
   clear c4
   obtain rfl := Option.some.inj H
   go_enter Tryz.func78, Tryz.ntmps78
   go_wp2_with (first | ((with_reducible refine gate_callee (f := 75) rfl ?_); refine goesL_ (some 4) rfl rfl Tryz.func75 (by kernel_rfl) rfl #[.int .u8 a0] rfl (by (try simp only [List.map_toArray, List.map_cons, List.map_nil]); first | done | rfl | (simp only [List.length_drop, List.length_take]; rfl)) ?_; (with_reducible refine (filter_letter.calls a0 false _ A2.out).mono ?_); rintro e w' ⟨rfl, ⟨nd, rfl⟩⟩; refine ⟨_, rfl, ?_⟩))
   go_ret
   exact ⟨by first | rfl | (simp; done) | (simp [*]; done) | (simp [*, i64_w, i32_w, u8_w]; done) | (simp only [bneNil, beqNil]; done) | (simp only [bneNil, beqNil]; simp; done) | (simp only [bneNil, beqNil]; simp [*]; done), by repeat (first | exact Drawn0.refl _ | apply Drawn0.step)⟩
end Go.Proofs.YthfpaoacjpjnfaaGreatDoor.P


namespace Go.Proofs.YthfpaoacjpjnfaaGreatDoor.P
open Go.RowKit Go.Proofs.YthfpaoacjpjnfaaGreatDoorW.PrintWords Go.Proofs.YthfpaoacjpjnfaaGreatDoorW.PrintLast Go.Proofs.YthfpaoacjpjnfaaGreatDoorW.PrintMore
set_option linter.unusedVariables false
set_option linter.unusedSimpArgs false
theorem fletter_eq (c : UInt8) : filter_letter.f (c.toNat : Int) = some (isLtr c) := byteAll (p := fun c => filter_letter.f (c.toNat : Int) = some (isLtr c)) (by decide +kernel) c
theorem fname_eq (c : UInt8) : filter_name.f (c.toNat : Int) = some (inName c) := byteAll (p := fun c => filter_name.f (c.toNat : Int) = some (inName c)) (by decide +kernel) c
theorem ftyped_pred (c : UInt8) (w : World) :
    Calls Tryz.prog 77 (#[.int .u8 (c.toNat : Int)] ++ #[]) w fun e w' => e = .returned (.bool (!inName c)) ∧ Below w.heap.size w w' := by
  have HN := Aside0.mk (fname_eq c)
  show Calls Tryz.prog 77 #[.int .u8 (c.toNat : Int)] w _
  go_enter Tryz.func77, Tryz.ntmps77
  go_wp2_with (go_at_call 78; refine (filter_name.calls _ _ _ HN.out).mono ?_; rintro e w' ⟨rfl, ⟨nq, rfl⟩⟩)
  go_ret
  exact ⟨rfl, pw_below_drewN (Below.refl _ _) _⟩
theorem range_any_all (l : List UInt8) : (List.range l.length).any (fun j => !inName (l.getD j 0)) = !l.all inName := by
  have : ∀ (m : List UInt8) (k : Nat), ((List.range m.length).any fun j => !inName (m.getD j 0)) = !m.all inName := by
    intro m k
    induction m with
    | nil => rfl
    | cons a r ih =>
      rw [List.length_cons, List.range_succ_eq_map, List.any_cons, List.any_map, List.all_cons]
      have : ((fun j => !inName ((a :: r).getD j 0)) ∘ Nat.succ) = fun j => !inName (r.getD j 0) := by funext j; rfl
      rw [this, ih]
      cases h : inName a <;> simp [h]
  exact this l 0
set_option maxHeartbeats 8000000 in
theorem ftyped_calls (a0 : ByteArray) (w : World) :
    Calls Tryz.prog 49 #[.string a0] w fun e w' => e = .returned (.bool (typedL a0.data.toList)) ∧ Below w.heap.size w w' := by
  have hcv := fun W => Lib.run_convert_string_bytes (P := Tryz.prog) W 9 34 5 a0 (u := .string) Tryz.underlying9 Tryz.underlying34 Tryz.underlying5
  by_cases h0 : a0.toList = []
  · have hr : typedL a0.data.toList = false := by rw [← toList_data, h0]; rfl
    have b0 : (a0.toList == ([] : List UInt8)) = true := beq_iff_eq.2 h0
    rw [hr]
    clear hr h0
    go_enter Tryz.func49, Tryz.ntmps49
    go_wp2
    go_ret
    exact ⟨rfl, Below.refl _ _⟩
  · have b0 : (a0.toList == ([] : List UInt8)) = false := beq_eq_false_iff_ne.2 h0
    have hp : 0 < a0.size := Nat.pos_of_ne_zero fun h => h0 ((toList_nil_iff a0).2 h)
    have he : a0.data.toList.isEmpty = false := by rw [← toList_data]; cases hh : a0.toList with | nil => exact absurd hh h0 | cons _ _ => rfl
    by_cases h3 : a0.size ≤ 30
    · have d3 : decide (30 < a0.size) = false := decide_eq_false (by omega)
      have d3' : decide ((30 : Int) < (a0.size : Int)) = false := decide_eq_false (by omega)
      have hx0 : ∀ h : 0 < a0.size, ((a0[0]'h).toNat : Int) = bt a0 0 := bt_at a0 0
      have qi0 : ((0 : Int) < (a0.size : Int)) = True := eq_true (by omega)
      have q0 : (0 < a0.size) = True := eq_true hp
      clear hp
      have hL0 := fletter_eq (a0.data.toList.getD 0 0)
      rw [← bt_nat a0 0] at hL0
      have HL0 := Lib.hid hL0
      clear hL0
      by_cases hl : isLtr (a0.data.toList.getD 0 0) = true
      · rw [hl] at HL0
        have hr : typedL a0.data.toList = !(!a0.data.toList.all inName) := by
          unfold typedL
          rw [he, hl, decide_eq_true (by rw [← size_len]; exact h3)]
          cases a0.data.toList.all inName <;> rfl
        rw [hr, ← range_any_all]
        clear hr
        have eg : ∀ args w, (callFunc 77 args).run Tryz.prog w = .ok (.enter 77 args) w := enters_of Tryz.func77 (by kernel_rfl) rfl
        have ct : ∀ (W : World) (nq cap : Nat), W = Lib.bytesWorld (w.drewN nq) 5 a0 → Calls Tryz.prog 76 #[.slice (some ⟨w.heap.size, 0, none⟩) a0.size cap, .func (.func 77) #[] #[]] W fun e w' => e = .returned (.bool ((List.range a0.data.toList.length).any fun j => !inName (a0.data.toList.getD j 0))) ∧ Below w.heap.size w w' := by
          intro W nq cap hW
          subst hW
          have hlt : w.heap.size < (Lib.bytesWorld (w.drewN nq) 5 a0).heap.size := by
            have h := (brow_convN w nq a0).cell 0 (of_eq_true q0)
            exact World.block_lt_of_cell? (Lib.bytesWorld (w.drewN nq) 5 a0) _ h
          have h := contains_byte w.heap.size a0.size cap (fun j => ((a0.data.toList.getD j 0).toNat : Int)) 77 #[] (fun j => !inName (a0.data.toList.getD j 0)) (Lib.bytesWorld (w.drewN nq) 5 a0) eg (brow_convN w nq a0) hlt (by omega) (fun i hi W' hb' => by
            refine (ftyped_pred (a0.data.toList.getD i 0) W').mono ?_
            rintro e w' ⟨rfl, hb2⟩
            exact ⟨rfl, below_step hb' hb2⟩)
          refine h.mono ?_
          rintro e w' ⟨rfl, hb⟩
          refine ⟨?_, below_then (below_convN w nq a0) (Nat.le_of_lt hlt) hb⟩
          unfold someI
          rw [size_len]
        have CT := Aside0.mk ct
        clear ct eg h3
        obtain ⟨R, hR⟩ : ∃ R, ((List.range a0.data.toList.length).any fun j => !inName (a0.data.toList.getD j 0)) = R := ⟨_, rfl⟩
        rw [hR] at CT ⊢
        clear hR
        go_enter Tryz.func49, Tryz.ntmps49
        go_wp2_with (first | (go_at_call 75; refine (filter_letter.calls _ _ _ HL0.out).mono ?_; rintro e w' ⟨rfl, ⟨nq, rfl⟩⟩) | (go_at_call 76; refine (CT.out _ nq _ (by rfl)).mono ?_; rintro e w2 ⟨rfl, hb⟩))
        go_ret
        exact ⟨rfl, hb⟩
      · replace hl := Bool.eq_false_iff.2 hl
        rw [hl] at HL0
        have hr : typedL a0.data.toList = false := by
          unfold typedL
          rw [he, hl]
          simp
        rw [hr]
        clear hr h3
        go_enter Tryz.func49, Tryz.ntmps49
        go_wp2_with (go_at_call 75; refine (filter_letter.calls _ _ _ HL0.out).mono ?_; rintro e w' ⟨rfl, ⟨nq, rfl⟩⟩)
        go_ret
        exact ⟨rfl, pw_below_drewN (Below.refl _ _) _⟩
    · have d3 : decide (30 < a0.size) = true := decide_eq_true (by omega)
      have d3' : decide ((30 : Int) < (a0.size : Int)) = true := decide_eq_true (by omega)
      have hr : typedL a0.data.toList = false := by
        unfold typedL
        rw [decide_eq_false (by rw [← size_len]; exact h3)]
        simp
      rw [hr]
      clear hr h3 hp
      go_enter Tryz.func49, Tryz.ntmps49
      go_wp2
      go_ret
      exact ⟨rfl, Below.refl _ _⟩
end Go.Proofs.YthfpaoacjpjnfaaGreatDoor.P


namespace Go.Proofs.YthfpaoacjpjnfaaGreatDoor.P
open Go.RowKit Go.Proofs.YthfpaoacjpjnfaaGreatDoorW.PrintWords Go.Proofs.YthfpaoacjpjnfaaGreatDoorW.PrintLast Go.Proofs.YthfpaoacjpjnfaaGreatDoorW.PrintMore
set_option linter.unusedVariables false
set_option linter.unusedSimpArgs false
set_option maxHeartbeats 2000000 in
theorem idx_Filter (A0 : Option Addr) (c0 : Nat) (l0 : List S25) (g : Nat) (lb : Array Value) (p : Nat → Bool) (w : World) (eg : ∀ args w, (callFunc g args).run Tryz.prog w = .ok (.enter g args) w)
    (hr : Kd.C k25 w A0 l0.length l0) (hp : ∀ i : Nat, i < l0.length → ∀ (W : World) (A3 : Option Addr) (c3 : Nat) (A4 : Option Addr) (c4 : Nat), Below w.heap.size w W → (rd_T25 l0 (i : Int)).f3.length ≤ c3 → Kd.string.C W A3 (rd_T25 l0 (i : Int)).f3.length (rd_T25 l0 (i : Int)).f3 → (rd_T25 l0 (i : Int)).f4.length ≤ c4 → Kd.C k25 W A4 (rd_T25 l0 (i : Int)).f4.length (rd_T25 l0 (i : Int)).f4 → Calls Tryz.prog g (#[.agg #[.int .i64 (rd_T25 l0 (i : Int)).f0, .string (rd_T25 l0 (i : Int)).f1, .string (rd_T25 l0 (i : Int)).f2, .slice A3 (rd_T25 l0 (i : Int)).f3.length c3, .slice A4 (rd_T25 l0 (i : Int)).f4.length c4]] ++ lb) W fun e w' => e = .returned (.bool (p i)) ∧ Below w.heap.size w w') :
    Calls Tryz.prog 79 #[.slice A0 l0.length c0, .func (.func g) #[] lb] w fun e w' => e = .returned (.int .i64 (firstI p l0.length)) ∧ Below w.heap.size w w' := by
  have hl := hr.2.1
  obtain ⟨n, hn⟩ : ∃ n, l0.length = n := ⟨_, rfl⟩
  go_enter Tryz.func79, Tryz.ntmps79
  go_wp2
  rw [hn]
  go_loopg [5, 8] n (fun gg _ s8 wr => ∃ kk : Nat, kk ≤ n ∧ n - kk ≤ gg ∧ s8 = .int .i64 kk ∧ Aside0 (Below w.heap.size w wr) ∧ Aside0 (∀ j, j < kk → p j = false))
  case atStart => exact ⟨0, Nat.zero_le _, by omega, rfl, ⟨Below.refl _ w⟩, ⟨fun j hj => absurd hj (Nat.not_lt_zero _)⟩⟩
  case round =>
    obtain ⟨kk, hkk, hg, rfl, BW, AW⟩ := hrel
    by_cases hlt : kk < n
    · have hltz : (kk : Int) < (n : Int) := by omega
      obtain ⟨ad, A3, c3, A4, c4, rfl, x0, x1, x2, x3, x4, lc3, g3, lc4, g4⟩ := at_T25 (Kd.C_below hr BW.out) (kk : Int) (by omega) (by omega)
      rw [Int.toNat_natCast] at x0 x1 x2 x3 x4
      have hcall := hp kk (by omega) wr A3 c3 A4 c4 BW.out lc3 g3 lc4 g4
      clear g3 g4 hr
      clear hp
      cases hq : p kk with
      | true =>
        rw [hq] at hcall
        have HQ := Lib.hid hq
        clear hq
        go_wp2_with (go_at_fn g; refine hcall.mono ?_; rintro e w' ⟨rfl, hb'⟩)
        go_ret
        refine ⟨?_, hb'⟩
        first | rw [show firstI p (l0.length) = (kk : Int) from by rw [hn]; exact firstI_hit p n kk hlt HQ.out AW.out] | rw [firstI_hit p n kk hlt HQ.out AW.out]
        first | rfl | simp
      | false =>
        rw [hq] at hcall
        have HQ := Lib.hid hq
        clear hq
        go_wp2_with (go_at_fn g; refine hcall.mono ?_; rintro e w' ⟨rfl, hb'⟩)
        go_roundg (n - (kk + 1))
        case measure => omega
        case rel =>
          refine ⟨kk + 1, by omega, by omega, by go_num, ⟨hb'⟩, ⟨fun j hj => ?_⟩⟩
          by_cases e : j = kk
          · subst e; exact HQ.out
          · exact AW.out j (by omega)
    · have hltz : ¬ (kk : Int) < (n : Int) := by omega
      have : kk = n := by omega
      subst this
      clear hp
      go_wp2
      go_ret
      refine ⟨?_, BW.out⟩
      first | rw [show firstI p kk = -1 from firstI_miss p kk AW.out] | rw [show firstI p (l0.length) = -1 from by rw [hn]; exact firstI_miss p kk AW.out]
      first | rfl | simp
end Go.Proofs.YthfpaoacjpjnfaaGreatDoor.P

namespace Go.Proofs.YthfpaoacjpjnfaaGreatDoor.P
open Go.RowKit Go.Proofs.YthfpaoacjpjnfaaGreatDoorW.PrintWords Go.Proofs.YthfpaoacjpjnfaaGreatDoorW.PrintLast Go.Proofs.YthfpaoacjpjnfaaGreatDoorW.PrintMore
set_option linter.unusedVariables false
set_option linter.unusedSimpArgs false
theorem contains_Filter (A0 : Option Addr) (c0 : Nat) (l0 : List S25) (g : Nat) (lb : Array Value) (p : Nat → Bool) (w : World) (eg : ∀ args w, (callFunc g args).run Tryz.prog w = .ok (.enter g args) w)
    (hr : Kd.C k25 w A0 l0.length l0) (hp : ∀ i : Nat, i < l0.length → ∀ (W : World) (A3 : Option Addr) (c3 : Nat) (A4 : Option Addr) (c4 : Nat), Below w.heap.size w W → (rd_T25 l0 (i : Int)).f3.length ≤ c3 → Kd.string.C W A3 (rd_T25 l0 (i : Int)).f3.length (rd_T25 l0 (i : Int)).f3 → (rd_T25 l0 (i : Int)).f4.length ≤ c4 → Kd.C k25 W A4 (rd_T25 l0 (i : Int)).f4.length (rd_T25 l0 (i : Int)).f4 → Calls Tryz.prog g (#[.agg #[.int .i64 (rd_T25 l0 (i : Int)).f0, .string (rd_T25 l0 (i : Int)).f1, .string (rd_T25 l0 (i : Int)).f2, .slice A3 (rd_T25 l0 (i : Int)).f3.length c3, .slice A4 (rd_T25 l0 (i : Int)).f4.length c4]] ++ lb) W fun e w' => e = .returned (.bool (p i)) ∧ Below w.heap.size w w') :
    Calls Tryz.prog 51 #[.slice A0 l0.length c0, .func (.func g) #[] lb] w fun e w' => e = .returned (.bool (someI p (l0.length))) ∧ Below w.heap.size w w' := by
  rw [← someI_first]
  have hI := idx_Filter A0 c0 l0 g lb p w eg hr  hp
  clear hp
  go_enter Tryz.func51, Tryz.ntmps51
  go_wp2_with (go_at_call 79; refine hI.mono ?_; rintro e w' ⟨rfl, hb'⟩)
  go_ret
  exact ⟨rfl, hb'⟩
end Go.Proofs.YthfpaoacjpjnfaaGreatDoor.P


namespace Go.Proofs.YthfpaoacjpjnfaaGreatDoor.P
open Go.RowKit Go.Proofs.YthfpaoacjpjnfaaGreatDoorW.PrintWords Go.Proofs.YthfpaoacjpjnfaaGreatDoorW.PrintLast Go.Proofs.YthfpaoacjpjnfaaGreatDoorW.PrintMore
set_option linter.unusedVariables false
set_option linter.unusedSimpArgs false
theorem emp_b (a : ByteArray) : (a.toList == ([] : List UInt8)) = decide (a.toList = []) := by
  by_cases h : a.toList = []
  · rw [decide_eq_true h]; exact beq_iff_eq.2 h
  · rw [decide_eq_false h]; exact beq_eq_false_iff_ne.2 h
theorem int_b (n m : Nat) : ((n : Int) == (m : Int)) = decide (n = m) := by
  by_cases h : n = m
  · rw [decide_eq_true h]; exact beq_iff_eq.2 (by omega)
  · rw [decide_eq_false h]; exact beq_eq_false_iff_ne.2 (by omega)
set_option maxHeartbeats 4000000 in
set_option maxRecDepth 100000 in
theorem may_step (n : Nat) (deepOk kidsOk : Bool) (a0 : Int) (a1 a2 : ByteArray) (A3 : Option Addr) (c3 : Nat) (l3 : List ByteArray) (A4 : Option Addr) (c4 : Nat) (l4 : List S25) (w : World)
    (hr3 : Kd.C Kd.string w A3 l3.length l3) (hc3 : l3.length ≤ c3) (hd : deepOk = !(decide (0 < l4.length) && decide (n < 1)))
    (hsz : ∀ i : Nat, i < l3.length → (rdOf ByteArray.empty l3 (i : Int)).size ≤ 4611686018427387903)
    (hk : deepOk = true → ∀ W : World, Below w.heap.size w W → W.cell? ⟨w.heap.size + 1, 0, none⟩ = some (.int .i64 (n : Int)) →
        Calls Tryz.prog 51 #[.slice A4 l4.length c4, .func (.func 52) #[] #[.pointer (some ⟨w.heap.size + 1, 0, none⟩)]] W fun e w' => e = .returned (.bool (!kidsOk)) ∧ Below W.heap.size W w') :
    Calls Tryz.prog 33 #[.agg #[.int .i64 a0, .string a1, .string a2, .slice A3 l3.length c3, .slice A4 l4.length c4], .int .i64 (n : Int)] w fun e w' => e = .returned (.bool (mayG a0 a1 a2 l3 l4 deepOk kidsOk)) ∧ Below w.heap.size w w' := by
  have hu := Tryz.underlying25
  have HR := Aside0.mk hr3
  have HC := Aside0.mk hc3
  have HK := Aside0.mk hk
  have HD := Aside0.mk hd
  have HS := Aside0.mk hsz
  clear hr3 hc3 hk hd hsz
  go_enter Tryz.func33, Tryz.ntmps33
  go_upto_region 1 with (fail)
  obtain ⟨w0, hw0⟩ : ∃ w0, (w.alloc (.cells #[.int .i64 a0, .string a1, .string a2, .slice A3 l3.length c3, .slice A4 l4.length c4] 25)).alloc (.cells #[.int .i64 (n : Int)] 3) = w0 := ⟨_, rfl⟩
  have k0 : w0.cell? ⟨w.heap.size, 0, none⟩ = some (.int .i64 a0) := by rw [← hw0]; simp [go_sem]
  have k1 : w0.cell? ⟨w.heap.size, 1, none⟩ = some (.string a1) := by rw [← hw0]; simp [go_sem]
  have k2 : w0.cell? ⟨w.heap.size, 2, none⟩ = some (.string a2) := by rw [← hw0]; simp [go_sem]
  have k3 : w0.cell? ⟨w.heap.size, 3, none⟩ = some (.slice A3 l3.length c3) := by rw [← hw0]; simp [go_sem]
  have k4 : w0.cell? ⟨w.heap.size, 4, none⟩ = some (.slice A4 l4.length c4) := by rw [← hw0]; simp [go_sem]
  have kd : w0.cell? ⟨w.heap.size + 1, 0, none⟩ = some (.int .i64 (n : Int)) := by rw [← hw0]; simp [go_sem]
  have kB : Below w.heap.size w w0 := by rw [← hw0]; exact below_alloc (below_alloc (Below.refl _ _) _) _
  rw [hw0]
  clear hw0
  have KB := Aside0.mk kB
  clear kB
  have QB := Aside0.mk (show bareB a1 a2 l3 = ((a1.toList == ([] : List UInt8)) && (a2.toList == ([] : List UInt8)) && ((l3.length : Int) == 0)) by
    unfold bareB; rw [emp_b, emp_b, ← int_b]; rfl)
  go_cut [5] from 7 to 20 (fun s wx => s = .bool (bareB a1 a2 l3) ∧ wx = w0)
  case first =>
    obtain ⟨x1, b1⟩ : ∃ x, (a1.toList == ([] : List UInt8)) = x := ⟨_, rfl⟩
    obtain ⟨x2, b2⟩ : ∃ x, (a2.toList == ([] : List UInt8)) = x := ⟨_, rfl⟩
    obtain ⟨x3, b3⟩ : ∃ x, ((l3.length : Int) == 0) = x := ⟨_, rfl⟩
    cases x1 <;> cases x2 <;> cases x3 <;> (go_wp2; go_meet; exact ⟨congrArg Value.bool (by rw [QB.out, b1, b2, b3]; rfl), rfl⟩)
  case rest =>
    obtain ⟨rfl, rfl⟩ := hcut
    clear QB
    have QL := Aside0.mk (show leafB a1 l4 = (typedL a1.data.toList && ((l4.length : Int) == 0)) by unfold leafB; rw [← int_b]; rfl)
    go_upto_region 2 with (fail)
    go_cut [6] from 21 to 29 (fun s wx => s = .bool (leafB a1 l4) ∧ Below w.heap.size w wx ∧ (wx.cell? ⟨w.heap.size, 0, none⟩ = some (.int .i64 a0) ∧ wx.cell? ⟨w.heap.size, 2, none⟩ = some (.string a2) ∧ wx.cell? ⟨w.heap.size, 3, none⟩ = some (.slice A3 l3.length c3) ∧ wx.cell? ⟨w.heap.size, 4, none⟩ = some (.slice A4 l4.length c4) ∧ wx.cell? ⟨w.heap.size + 1, 0, none⟩ = some (.int .i64 (n : Int))))
    case first =>
      obtain ⟨x1, b1⟩ : ∃ x, typedL a1.data.toList = x := ⟨_, rfl⟩
      cases x1
      · have q := Aside0.mk (show false = leafB a1 l4 by rw [QL.out, b1]; rfl)
        have B1 := Aside0.mk b1
        clear b1
        go_wp2_with (go_at_call 49; refine (ftyped_calls a1 _).mono ?_; rintro e w1 ⟨rfl, hb⟩; rw [B1.out]; have KB1 := Aside0.mk (below_step KB.out hb); have HB1 := Aside0.mk hb; clear hb)
        go_meet
        exact ⟨congrArg Value.bool q.out, KB1.out, below_keep1 (W0 := wc) k0 HB1.out, below_keep1 (W0 := wc) k2 HB1.out, below_keep1 (W0 := wc) k3 HB1.out, below_keep1 (W0 := wc) k4 HB1.out, below_keep1 (W0 := wc) kd HB1.out⟩
      · have B1 := Aside0.mk b1
        clear b1
        obtain ⟨x2, b2⟩ : ∃ x, ((l4.length : Int) == 0) = x := ⟨_, rfl⟩
        have q := Aside0.mk (show x2 = leafB a1 l4 by rw [QL.out, B1.out, b2]; rfl)
        cases x2 <;> (go_wp2_with (go_at_call 49; refine (ftyped_calls a1 _).mono ?_; rintro e w1 ⟨rfl, hb⟩; rw [B1.out]; have KB1 := Aside0.mk (below_step KB.out hb); have j0 := below_keep1 (W0 := wc) k0 hb; have j2 := below_keep1 (W0 := wc) k2 hb; have j3 := below_keep1 (W0 := wc) k3 hb; have j4 := below_keep1 (W0 := wc) k4 hb; have jd := below_keep1 (W0 := wc) kd hb; clear hb k0 k1 k2 k3 k4 kd); go_meet; exact ⟨congrArg Value.bool q.out, KB1.out, j0, j2, j3, j4, jd⟩)
    case rest =>
      obtain ⟨rfl, kB2, j0, j2, j3, j4, jd⟩ := hcut
      have KB2 := Aside0.mk kB2
      clear KB kB2 k0 k1 k2 k3 k4 kd QL
      have HDC := Aside0.mk (show (deepOk = false ∧ 0 < l4.length ∧ n < 1) ∨ (deepOk = true ∧ ¬ 0 < l4.length) ∨ (deepOk = true ∧ 0 < l4.length ∧ ¬ n < 1) by
        rw [HD.out]
        by_cases c1 : 0 < l4.length
        · by_cases c2 : n < 1
          · exact .inl ⟨by rw [decide_eq_true c1, decide_eq_true c2]; rfl, c1, c2⟩
          · exact .inr (.inr ⟨by rw [decide_eq_false c2, Bool.and_false]; rfl, c1, c2⟩)
        · exact .inr (.inl ⟨by rw [decide_eq_false c1]; rfl, c1⟩))
      clear HD
      have hkind : a0 = 1 ∨ a0 = 2 ∨ a0 = 3 ∨ a0 = 4 ∨ a0 = 5 ∨ a0 = 6 ∨ a0 = 7 ∨ a0 = 8 ∨ ¬ (a0 = 1 ∨ a0 = 2 ∨ a0 = 3 ∨ a0 = 4 ∨ a0 = 5 ∨ a0 = 6 ∨ a0 = 7 ∨ a0 = 8) := by omega
      rcases hkind with ek | ek | ek | ek | ek | ek | ek | ek | ek
      · subst ek
        obtain ⟨x, hx⟩ : ∃ x, bareB a1 a2 l3 = x := ⟨_, rfl⟩
        rw [hx]
        have XB := Aside0.mk hx
        clear hx
        cases x
        · have HM := Aside0.mk (show mayG 1 a1 a2 l3 l4 deepOk kidsOk = false by unfold mayG; simp [XB.out])
          go_wp2
          go_ret
          exact ⟨congrArg (fun b => Ending.returned (.bool b)) HM.out.symm, KB2.out⟩
        · by_cases hc : l4.length ≤ 40
          · have HC2 := Aside0.mk hc
            have p1 : decide ((40 : Int) < (l4.length : Int)) = false := decide_eq_false (by omega)
            have p2 : ((40 : Int) < (l4.length : Int)) = False := eq_false (by omega)
            clear hc
            rcases HDC.out with ⟨d1, d2, d3⟩ | ⟨d1, d2⟩ | ⟨d1, d2, d3⟩
            · have HM := Aside0.mk (show mayG 1 a1 a2 l3 l4 deepOk kidsOk = false by unfold mayG; simp [d1])
              have q1 : decide ((0 : Int) < (l4.length : Int)) = true := decide_eq_true (by omega)
              have q2 : decide ((n : Int) < 1) = true := decide_eq_true (by omega)
              have q3 : (0 < l4.length) = True := eq_true (by omega)
              have q4 : ((n : Int) < 1) = True := eq_true (by omega)
              clear d1 d2 d3
              go_wp2
              go_ret
              exact ⟨congrArg (fun b => Ending.returned (.bool b)) HM.out.symm, KB2.out⟩
            · have HM := Aside0.mk (show mayG 1 a1 a2 l3 l4 deepOk kidsOk = kidsOk by unfold mayG; simp [d1, XB.out, HC2.out])
              have q1 : decide ((0 : Int) < (l4.length : Int)) = false := decide_eq_false (by omega)
              have q3 : (0 < l4.length) = False := eq_false (by omega)
              have HK2 := Aside0.mk (HK.out d1)
              clear d1 d2
              go_wp2_with (go_at_call 51; refine (HK2.out _ KB2.out jd).mono ?_; rintro e w3 ⟨rfl, hb⟩; have KB3 := Aside0.mk (below_step KB2.out hb); clear hb)
              go_ret
              exact ⟨congrArg (fun b => Ending.returned (.bool b)) HM.out.symm, KB3.out⟩
            · have HM := Aside0.mk (show mayG 1 a1 a2 l3 l4 deepOk kidsOk = kidsOk by unfold mayG; simp [d1, XB.out, HC2.out])
              have q1 : decide ((0 : Int) < (l4.length : Int)) = true := decide_eq_true (by omega)
              have q2 : decide ((n : Int) < 1) = false := decide_eq_false (by omega)
              have q3 : (0 < l4.length) = True := eq_true (by omega)
              have q4 : ((n : Int) < 1) = False := eq_false (by omega)
              have HK2 := Aside0.mk (HK.out d1)
              clear d1 d2 d3
              go_wp2_with (go_at_call 51; refine (HK2.out _ KB2.out jd).mono ?_; rintro e w3 ⟨rfl, hb⟩; have KB3 := Aside0.mk (below_step KB2.out hb); clear hb)
              go_ret
              exact ⟨congrArg (fun b => Ending.returned (.bool b)) HM.out.symm, KB3.out⟩
          · have HM := Aside0.mk (show mayG 1 a1 a2 l3 l4 deepOk kidsOk = false by unfold mayG; simp [XB.out, hc])
            have p1 : decide ((40 : Int) < (l4.length : Int)) = true := decide_eq_true (by omega)
            have p2 : ((40 : Int) < (l4.length : Int)) = True := eq_true (by omega)
            clear hc
            go_wp2
            go_ret
            exact ⟨congrArg (fun b => Ending.returned (.bool b)) HM.out.symm, KB2.out⟩
      · subst ek
        obtain ⟨x, hx⟩ : ∃ x, bareB a1 a2 l3 = x := ⟨_, rfl⟩
        rw [hx]
        have XB := Aside0.mk hx
        clear hx
        cases x
        · have HM := Aside0.mk (show mayG 2 a1 a2 l3 l4 deepOk kidsOk = false by unfold mayG; simp [XB.out])
          go_wp2
          go_ret
          exact ⟨congrArg (fun b => Ending.returned (.bool b)) HM.out.symm, KB2.out⟩
        · by_cases hc : l4.length ≤ 40
          · have HC2 := Aside0.mk hc
            have p1 : decide ((40 : Int) < (l4.length : Int)) = false := decide_eq_false (by omega)
            have p2 : ((40 : Int) < (l4.length : Int)) = False := eq_false (by omega)
            clear hc
            rcases HDC.out with ⟨d1, d2, d3⟩ | ⟨d1, d2⟩ | ⟨d1, d2, d3⟩
            · have HM := Aside0.mk (show mayG 2 a1 a2 l3 l4 deepOk kidsOk = false by unfold mayG; simp [d1])
              have q1 : decide ((0 : Int) < (l4.length : Int)) = true := decide_eq_true (by omega)
              have q2 : decide ((n : Int) < 1) = true := decide_eq_true (by omega)
              have q3 : (0 < l4.length) = True := eq_true (by omega)
              have q4 : ((n : Int) < 1) = True := eq_true (by omega)
              clear d1 d2 d3
              go_wp2
              go_ret
              exact ⟨congrArg (fun b => Ending.returned (.bool b)) HM.out.symm, KB2.out⟩
            · have HM := Aside0.mk (show mayG 2 a1 a2 l3 l4 deepOk kidsOk = kidsOk by unfold mayG; simp [d1, XB.out, HC2.out])
              have q1 : decide ((0 : Int) < (l4.length : Int)) = false := decide_eq_false (by omega)
              have q3 : (0 < l4.length) = False := eq_false (by omega)
              have HK2 := Aside0.mk (HK.out d1)
              clear d1 d2
              go_wp2_with (go_at_call 51; refine (HK2.out _ KB2.out jd).mono ?_; rintro e w3 ⟨rfl, hb⟩; have KB3 := Aside0.mk (below_step KB2.out hb); clear hb)
              go_ret
              exact ⟨congrArg (fun b => Ending.returned (.bool b)) HM.out.symm, KB3.out⟩
            · have HM := Aside0.mk (show mayG 2 a1 a2 l3 l4 deepOk kidsOk = kidsOk by unfold mayG; simp [d1, XB.out, HC2.out])
              have q1 : decide ((0 : Int) < (l4.length : Int)) = true := decide_eq_true (by omega)
              have q2 : decide ((n : Int) < 1) = false := decide_eq_false (by omega)
              have q3 : (0 < l4.length) = True := eq_true (by omega)
              have q4 : ((n : Int) < 1) = False := eq_false (by omega)
              have HK2 := Aside0.mk (HK.out d1)
              clear d1 d2 d3
              go_wp2_with (go_at_call 51; refine (HK2.out _ KB2.out jd).mono ?_; rintro e w3 ⟨rfl, hb⟩; have KB3 := Aside0.mk (below_step KB2.out hb); clear hb)
              go_ret
              exact ⟨congrArg (fun b => Ending.returned (.bool b)) HM.out.symm, KB3.out⟩
          · have HM := Aside0.mk (show mayG 2 a1 a2 l3 l4 deepOk kidsOk = false by unfold mayG; simp [XB.out, hc])
            have p1 : decide ((40 : Int) < (l4.length : Int)) = true := decide_eq_true (by omega)
            have p2 : ((40 : Int) < (l4.length : Int)) = True := eq_true (by omega)
            clear hc
            go_wp2
            go_ret
            exact ⟨congrArg (fun b => Ending.returned (.bool b)) HM.out.symm, KB2.out⟩
      · subst ek
        obtain ⟨x, hx⟩ : ∃ x, bareB a1 a2 l3 = x := ⟨_, rfl⟩
        rw [hx]
        have XB := Aside0.mk hx
        clear hx
        cases x
        · have HM := Aside0.mk (show mayG 3 a1 a2 l3 l4 deepOk kidsOk = false by unfold mayG; simp [XB.out])
          go_wp2
          go_ret
          exact ⟨congrArg (fun b => Ending.returned (.bool b)) HM.out.symm, KB2.out⟩
        · by_cases hc : l4.length = 1
          · have HC2 := Aside0.mk hc
            have p1 : ((l4.length : Int) == 1) = true := beq_iff_eq.2 (by omega)
            have p2 : ((l4.length : Int) != 1) = false := by rw [bne, p1]; rfl
            clear hc
            rcases HDC.out with ⟨d1, d2, d3⟩ | ⟨d1, d2⟩ | ⟨d1, d2, d3⟩
            · have HM := Aside0.mk (show mayG 3 a1 a2 l3 l4 deepOk kidsOk = false by unfold mayG; simp [d1])
              have q1 : decide ((0 : Int) < (l4.length : Int)) = true := decide_eq_true (by omega)
              have q2 : decide ((n : Int) < 1) = true := decide_eq_true (by omega)
              have q3 : (0 < l4.length) = True := eq_true (by omega)
              have q4 : ((n : Int) < 1) = True := eq_true (by omega)
              clear d1 d2 d3
              go_wp2
              go_ret
              exact ⟨congrArg (fun b => Ending.returned (.bool b)) HM.out.symm, KB2.out⟩
            · have HM := Aside0.mk (show mayG 3 a1 a2 l3 l4 deepOk kidsOk = kidsOk by unfold mayG; simp [d1, XB.out, HC2.out])
              have q1 : decide ((0 : Int) < (l4.length : Int)) = false := decide_eq_false (by omega)
              have q3 : (0 < l4.length) = False := eq_false (by omega)
              have HK2 := Aside0.mk (HK.out d1)
              clear d1 d2
              go_wp2_with (go_at_call 51; refine (HK2.out _ KB2.out jd).mono ?_; rintro e w3 ⟨rfl, hb⟩; have KB3 := Aside0.mk (below_step KB2.out hb); clear hb)
              go_ret
              exact ⟨congrArg (fun b => Ending.returned (.bool b)) HM.out.symm, KB3.out⟩
            · have HM := Aside0.mk (show mayG 3 a1 a2 l3 l4 deepOk kidsOk = kidsOk by unfold mayG; simp [d1, XB.out, HC2.out])
              have q1 : decide ((0 : Int) < (l4.length : Int)) = true := decide_eq_true (by omega)
              have q2 : decide ((n : Int) < 1) = false := decide_eq_false (by omega)
              have q3 : (0 < l4.length) = True := eq_true (by omega)
              have q4 : ((n : Int) < 1) = False := eq_false (by omega)
              have HK2 := Aside0.mk (HK.out d1)
              clear d1 d2 d3
              go_wp2_with (go_at_call 51; refine (HK2.out _ KB2.out jd).mono ?_; rintro e w3 ⟨rfl, hb⟩; have KB3 := Aside0.mk (below_step KB2.out hb); clear hb)
              go_ret
              exact ⟨congrArg (fun b => Ending.returned (.bool b)) HM.out.symm, KB3.out⟩
          · have HM := Aside0.mk (show mayG 3 a1 a2 l3 l4 deepOk kidsOk = false by unfold mayG; simp [XB.out, hc])
            have p1 : ((l4.length : Int) == 1) = false := beq_eq_false_iff_ne.2 (by omega)
            have p2 : ((l4.length : Int) != 1) = true := by rw [bne, p1]; rfl
            clear hc
            go_wp2
            go_ret
            exact ⟨congrArg (fun b => Ending.returned (.bool b)) HM.out.symm, KB2.out⟩
      · subst ek
        obtain ⟨x, hx⟩ : ∃ x, leafB a1 l4 = x := ⟨_, rfl⟩
        rw [hx]
        have XB := Aside0.mk hx
        clear hx
        cases x
        · have HM := Aside0.mk (show mayG 4 a1 a2 l3 l4 deepOk kidsOk = false by unfold mayG; simp [XB.out])
          go_wp2
          go_ret
          exact ⟨congrArg (fun b => Ending.returned (.bool b)) HM.out.symm, KB2.out⟩
        · by_cases h0 : l3.length = 0
          case neg =>
            have HM := Aside0.mk (show mayG 4 a1 a2 l3 l4 deepOk kidsOk = false by unfold mayG; simp [XB.out, h0])
            have r1 : ((l3.length : Int) == 0) = false := beq_eq_false_iff_ne.2 (by omega)
            clear h0
            go_wp2
            go_ret
            exact ⟨congrArg (fun b => Ending.returned (.bool b)) HM.out.symm, KB2.out⟩
          have r1 : ((l3.length : Int) == 0) = true := beq_iff_eq.2 (by omega)
          have H0 := Aside0.mk h0
          clear h0
          · by_cases h1 : a2.size ≤ 100
            case neg =>
              have HM := Aside0.mk (show mayG 4 a1 a2 l3 l4 deepOk kidsOk = false by unfold mayG; simp [XB.out, H0.out, h1])
              have s1 : decide ((a2.size : Int) ≤ 100) = false := decide_eq_false (by omega)
              have s2 : ((a2.size : Int) ≤ 100) = False := eq_false (by omega)
              clear h1
              go_wp2
              go_ret
              exact ⟨congrArg (fun b => Ending.returned (.bool b)) HM.out.symm, KB2.out⟩
            have s1 : decide ((a2.size : Int) ≤ 100) = true := decide_eq_true (by omega)
            have s2 : ((a2.size : Int) ≤ 100) = True := eq_true (by omega)
            have H1 := Aside0.mk h1
            clear h1
            have HM := Aside0.mk (show mayG 4 a1 a2 l3 l4 deepOk kidsOk = true by unfold mayG; simp [XB.out, H0.out, H1.out])
            go_wp2
            go_ret
            exact ⟨congrArg (fun b => Ending.returned (.bool b)) HM.out.symm, KB2.out⟩
      · subst ek
        obtain ⟨x, hx⟩ : ∃ x, leafB a1 l4 = x := ⟨_, rfl⟩
        rw [hx]
        have XB := Aside0.mk hx
        clear hx
        cases x
        · have HM := Aside0.mk (show mayG 5 a1 a2 l3 l4 deepOk kidsOk = false by unfold mayG; simp [XB.out])
          go_wp2
          go_ret
          exact ⟨congrArg (fun b => Ending.returned (.bool b)) HM.out.symm, KB2.out⟩
        · by_cases h0 : a2.toList = []
          case neg =>
            have HM := Aside0.mk (show mayG 5 a1 a2 l3 l4 deepOk kidsOk = false by unfold mayG; simp [XB.out, h0])
            have s1 : (a2.toList == ([] : List UInt8)) = false := beq_eq_false_iff_ne.2 (by assumption)
            clear h0
            go_wp2
            go_ret
            exact ⟨congrArg (fun b => Ending.returned (.bool b)) HM.out.symm, KB2.out⟩
          have s1 : (a2.toList == ([] : List UInt8)) = true := beq_iff_eq.2 (by assumption)
          have H0 := Aside0.mk h0
          clear h0
          have HM := Aside0.mk (show mayG 5 a1 a2 l3 l4 deepOk kidsOk = partsB l3 by unfold mayG; simp [XB.out, H0.out])
          obtain ⟨m, hm⟩ := mayParts_ev l3 HS.out
          have HP := Aside0.mk (hm m (Nat.le_refl m))
          clear hm
          go_wp2_with (go_at_call 50; refine (filter_mayParts.calls m A3 c3 l3 (partsB l3) _ (Kd.C_below HR.out KB2.out) HC.out HP.out).mono ?_; rintro e w3 ⟨rfl, ⟨nq, rfl⟩⟩; have KB3 := Aside0.mk (pw_below_drewN KB2.out nq))
          go_ret
          exact ⟨congrArg (fun b => Ending.returned (.bool b)) HM.out.symm, KB3.out⟩
      · subst ek
        obtain ⟨x, hx⟩ : ∃ x, leafB a1 l4 = x := ⟨_, rfl⟩
        rw [hx]
        have XB := Aside0.mk hx
        clear hx
        cases x
        · have HM := Aside0.mk (show mayG 6 a1 a2 l3 l4 deepOk kidsOk = false by unfold mayG; simp [XB.out])
          go_wp2
          go_ret
          exact ⟨congrArg (fun b => Ending.returned (.bool b)) HM.out.symm, KB2.out⟩
        · by_cases h0 : l3.length = 0
          case neg =>
            have HM := Aside0.mk (show mayG 6 a1 a2 l3 l4 deepOk kidsOk = false by unfold mayG; simp [XB.out, h0])
            have r1 : ((l3.length : Int) == 0) = false := beq_eq_false_iff_ne.2 (by omega)
            clear h0
            go_wp2
            go_ret
            exact ⟨congrArg (fun b => Ending.returned (.bool b)) HM.out.symm, KB2.out⟩
          have r1 : ((l3.length : Int) == 0) = true := beq_iff_eq.2 (by omega)
          have H0 := Aside0.mk h0
          clear h0
          · by_cases h1 : a2.size ≤ 100
            case neg =>
              have HM := Aside0.mk (show mayG 6 a1 a2 l3 l4 deepOk kidsOk = false by unfold mayG; simp [XB.out, H0.out, h1])
              have s1 : decide ((a2.size : Int) ≤ 100) = false := decide_eq_false (by omega)
              have s2 : ((a2.size : Int) ≤ 100) = False := eq_false (by omega)
              clear h1
              go_wp2
              go_ret
              exact ⟨congrArg (fun b => Ending.returned (.bool b)) HM.out.symm, KB2.out⟩
            have s1 : decide ((a2.size : Int) ≤ 100) = true := decide_eq_true (by omega)
            have s2 : ((a2.size : Int) ≤ 100) = True := eq_true (by omega)
            have H1 := Aside0.mk h1
            clear h1
            have HM := Aside0.mk (show mayG 6 a1 a2 l3 l4 deepOk kidsOk = true by unfold mayG; simp [XB.out, H0.out, H1.out])
            go_wp2
            go_ret
            exact ⟨congrArg (fun b => Ending.returned (.bool b)) HM.out.symm, KB2.out⟩
      · subst ek
        obtain ⟨x, hx⟩ : ∃ x, leafB a1 l4 = x := ⟨_, rfl⟩
        rw [hx]
        have XB := Aside0.mk hx
        clear hx
        cases x
        · have HM := Aside0.mk (show mayG 7 a1 a2 l3 l4 deepOk kidsOk = false by unfold mayG; simp [XB.out])
          go_wp2
          go_ret
          exact ⟨congrArg (fun b => Ending.returned (.bool b)) HM.out.symm, KB2.out⟩
        · by_cases h0 : l3.length = 0
          case neg =>
            have HM := Aside0.mk (show mayG 7 a1 a2 l3 l4 deepOk kidsOk = false by unfold mayG; simp [XB.out, h0])
            have r1 : ((l3.length : Int) == 0) = false := beq_eq_false_iff_ne.2 (by omega)
            clear h0
            go_wp2
            go_ret
            exact ⟨congrArg (fun b => Ending.returned (.bool b)) HM.out.symm, KB2.out⟩
          have r1 : ((l3.length : Int) == 0) = true := beq_iff_eq.2 (by omega)
          have H0 := Aside0.mk h0
          clear h0
          · by_cases h1 : a2.size ≤ 100
            case neg =>
              have HM := Aside0.mk (show mayG 7 a1 a2 l3 l4 deepOk kidsOk = false by unfold mayG; simp [XB.out, H0.out, h1])
              have s1 : decide ((a2.size : Int) ≤ 100) = false := decide_eq_false (by omega)
              have s2 : ((a2.size : Int) ≤ 100) = False := eq_false (by omega)
              clear h1
              go_wp2
              go_ret
              exact ⟨congrArg (fun b => Ending.returned (.bool b)) HM.out.symm, KB2.out⟩
            have s1 : decide ((a2.size : Int) ≤ 100) = true := decide_eq_true (by omega)
            have s2 : ((a2.size : Int) ≤ 100) = True := eq_true (by omega)
            have H1 := Aside0.mk h1
            clear h1
            have HM := Aside0.mk (show mayG 7 a1 a2 l3 l4 deepOk kidsOk = true by unfold mayG; simp [XB.out, H0.out, H1.out])
            go_wp2
            go_ret
            exact ⟨congrArg (fun b => Ending.returned (.bool b)) HM.out.symm, KB2.out⟩
      · subst ek
        obtain ⟨x, hx⟩ : ∃ x, leafB a1 l4 = x := ⟨_, rfl⟩
        rw [hx]
        have XB := Aside0.mk hx
        clear hx
        cases x
        · have HM := Aside0.mk (show mayG 8 a1 a2 l3 l4 deepOk kidsOk = false by unfold mayG; simp [XB.out])
          go_wp2
          go_ret
          exact ⟨congrArg (fun b => Ending.returned (.bool b)) HM.out.symm, KB2.out⟩
        · by_cases h0 : a2.toList = []
          case neg =>
            have HM := Aside0.mk (show mayG 8 a1 a2 l3 l4 deepOk kidsOk = false by unfold mayG; simp [XB.out, h0])
            have s1 : (a2.toList == ([] : List UInt8)) = false := beq_eq_false_iff_ne.2 (by assumption)
            clear h0
            go_wp2
            go_ret
            exact ⟨congrArg (fun b => Ending.returned (.bool b)) HM.out.symm, KB2.out⟩
          have s1 : (a2.toList == ([] : List UInt8)) = true := beq_iff_eq.2 (by assumption)
          have H0 := Aside0.mk h0
          clear h0
          · by_cases h1 : l3.length = 0
            case neg =>
              have HM := Aside0.mk (show mayG 8 a1 a2 l3 l4 deepOk kidsOk = false by unfold mayG; simp [XB.out, H0.out, h1])
              have r1 : ((l3.length : Int) == 0) = false := beq_eq_false_iff_ne.2 (by omega)
              clear h1
              go_wp2
              go_ret
              exact ⟨congrArg (fun b => Ending.returned (.bool b)) HM.out.symm, KB2.out⟩
            have r1 : ((l3.length : Int) == 0) = true := beq_iff_eq.2 (by omega)
            have H1 := Aside0.mk h1
            clear h1
            have HM := Aside0.mk (show mayG 8 a1 a2 l3 l4 deepOk kidsOk = true by unfold mayG; simp [XB.out, H0.out, H1.out])
            go_wp2
            go_ret
            exact ⟨congrArg (fun b => Ending.returned (.bool b)) HM.out.symm, KB2.out⟩
      · have HM := Aside0.mk (show mayG a0 a1 a2 l3 l4 deepOk kidsOk = false by
          unfold mayG
          rw [if_neg (by omega), if_neg (by omega), if_neg (by omega), if_neg (by omega), if_neg (by omega)])
        have e1 : (a0 == 1) = false := beq_eq_false_iff_ne.2 (by omega)
        have e2 : (a0 == 2) = false := beq_eq_false_iff_ne.2 (by omega)
        have e3 : (a0 == 3) = false := beq_eq_false_iff_ne.2 (by omega)
        have e4 : (a0 == 4) = false := beq_eq_false_iff_ne.2 (by omega)
        have e5 : (a0 == 5) = false := beq_eq_false_iff_ne.2 (by omega)
        have e6 : (a0 == 6) = false := beq_eq_false_iff_ne.2 (by omega)
        have e7 : (a0 == 7) = false := beq_eq_false_iff_ne.2 (by omega)
        have e8 : (a0 == 8) = false := beq_eq_false_iff_ne.2 (by omega)
        clear ek
        go_wp2
        go_ret
        exact ⟨congrArg (fun b => Ending.returned (.bool b)) HM.out.symm, KB2.out⟩
theorem may_pred (n B : Nat) (x : S25) (A3 : Option Addr) (c3 : Nat) (A4 : Option Addr) (c4 : Nat) (W : World) (ok : Bool) (hc : W.cell? ⟨B, 0, none⟩ = some (.int .i64 ((n + 1 : Nat) : Int))) (hn : n ≤ 1000)
    (hm : ∀ W' : World, Below W.heap.size W W' → Calls Tryz.prog 33 #[.agg #[.int .i64 x.f0, .string x.f1, .string x.f2, .slice A3 x.f3.length c3, .slice A4 x.f4.length c4], .int .i64 (n : Int)] W' fun e w' => e = .returned (.bool ok) ∧ Below W'.heap.size W' w') :
    Calls Tryz.prog 52 (#[.agg #[.int .i64 x.f0, .string x.f1, .string x.f2, .slice A3 x.f3.length c3, .slice A4 x.f4.length c4]] ++ #[.pointer (some ⟨B, 0, none⟩)]) W fun e w' => e = .returned (.bool (!ok)) ∧ Below W.heap.size W w' := by
  have hu := Tryz.underlying25
  have HM := Aside0.mk hm
  clear hm
  show Calls Tryz.prog 52 #[.agg #[.int .i64 x.f0, .string x.f1, .string x.f2, .slice A3 x.f3.length c3, .slice A4 x.f4.length c4], .pointer (some ⟨B, 0, none⟩)] W _
  have hw : wrap64 (((n + 1 : Nat) : Int) - 1) = (n : Int) := by unfold wrap64; omega
  go_enter Tryz.func52, Tryz.ntmps52
  go_upto_region 1 with (fail)
  obtain ⟨w0, hw0⟩ : ∃ w0, W.alloc (.cells #[.int .i64 x.f0, .string x.f1, .string x.f2, .slice A3 x.f3.length c3, .slice A4 x.f4.length c4] 25) = w0 := ⟨_, rfl⟩
  have kd : w0.cell? ⟨B, 0, none⟩ = some (.int .i64 ((n + 1 : Nat) : Int)) := by rw [← hw0]; exact below_keep1 (W0 := W) hc (below_alloc (Below.refl _ _) _)
  have k0 : w0.cell? ⟨W.heap.size, 0, none⟩ = some (.int .i64 x.f0) := by rw [← hw0]; simp [go_sem]
  have k1 : w0.cell? ⟨W.heap.size, 1, none⟩ = some (.string x.f1) := by rw [← hw0]; simp [go_sem]
  have k2 : w0.cell? ⟨W.heap.size, 2, none⟩ = some (.string x.f2) := by rw [← hw0]; simp [go_sem]
  have k3 : w0.cell? ⟨W.heap.size, 3, none⟩ = some (.slice A3 x.f3.length c3) := by rw [← hw0]; simp [go_sem]
  have k4 : w0.cell? ⟨W.heap.size, 4, none⟩ = some (.slice A4 x.f4.length c4) := by rw [← hw0]; simp [go_sem]
  have kB : Below W.heap.size W w0 := by rw [← hw0]; exact below_alloc (Below.refl _ _) _
  rw [hw0]
  clear hw0 hc
  have KB := Aside0.mk kB
  clear kB
  have HW := Aside0.mk hw
  clear hw
  go_wp2_with (go_at_call 33; (try rw [show IntKind.i64.wrap (((n + 1 : Nat) : Int) - 1) = (n : Int) from HW.out]); refine (HM.out _ KB.out).mono ?_; rintro e w1 ⟨rfl, hb⟩; have KB1 := Aside0.mk (below_step KB.out hb); clear hb)
  go_ret
  exact ⟨rfl, KB1.out⟩
set_option maxHeartbeats 2000000 in
set_option maxRecDepth 100000 in
theorem may_calls : ∀ (n : Nat), n ≤ 1000 → ∀ (x : S25) (A3 : Option Addr) (c3 : Nat) (A4 : Option Addr) (c4 : Nat) (w : World)
    (hr3 : Kd.C Kd.string w A3 x.f3.length x.f3) (hc3 : x.f3.length ≤ c3) (hr4 : Kd.C k25 w A4 x.f4.length x.f4) (hs : szF n x),
    Calls Tryz.prog 33 #[.agg #[.int .i64 x.f0, .string x.f1, .string x.f2, .slice A3 x.f3.length c3, .slice A4 x.f4.length c4], .int .i64 (n : Int)] w fun e w' => e = .returned (.bool (mayD n x)) ∧ Below w.heap.size w w' := by
  have eg : ∀ args w, (callFunc 52 args).run Tryz.prog w = .ok (.enter 52 args) w := enters_of Tryz.func52 (by kernel_rfl) rfl
  intro n
  induction n with
  | zero =>
    intro hn x A3 c3 A4 c4 w hr3 hc3 hr4 hs
    refine may_step 0 (decide (x.f4.length = 0)) true x.f0 x.f1 x.f2 A3 c3 x.f3 A4 c4 x.f4 w hr3 hc3 ?_ (szF_parts hs) ?_
    · by_cases h : x.f4.length = 0
      · rw [decide_eq_true h, decide_eq_false (show ¬ 0 < x.f4.length by omega)]; rfl
      · rw [decide_eq_false h, decide_eq_true (show 0 < x.f4.length by omega)]; rfl
    · intro hd W hb hc
      have h0 : x.f4.length = 0 := of_decide_eq_true hd
      have h1 : x.f4 = [] := List.length_eq_zero_iff.1 h0
      refine (contains_Filter A4 c4 x.f4 52 _ (fun _ => false) W eg (Kd.C_below hr4 hb) (fun i hi => absurd hi (by omega))).mono ?_
      rintro e w' ⟨rfl, hb2⟩
      exact ⟨by rw [h1]; rfl, hb2⟩
  | succ n ih =>
    intro hn x A3 c3 A4 c4 w hr3 hc3 hr4 hs
    refine may_step (n + 1) true (x.f4.all (mayD n)) x.f0 x.f1 x.f2 A3 c3 x.f3 A4 c4 x.f4 w hr3 hc3 ?_ (szF_parts hs) ?_
    · rw [decide_eq_false (show ¬ n + 1 < 1 by omega), Bool.and_false]; rfl
    · intro _ W hb hc
      rw [← some_not_all]
      refine contains_Filter A4 c4 x.f4 52 _ (fun i => !mayD n (rd_T25 x.f4 (i : Int))) W eg (Kd.C_below hr4 hb) (fun i hi W' B3 d3 B4 d4 hb' g3 r3 g4 r4 => ?_)
      refine (may_pred n (w.heap.size + 1) (rd_T25 x.f4 (i : Int)) B3 d3 B4 d4 W' (mayD n (rd_T25 x.f4 (i : Int))) (below_keep1 (W0 := W) hc hb') (by omega) (fun W2 hb2 => ih (by omega) (rd_T25 x.f4 (i : Int)) B3 d3 B4 d4 W2 (Kd.C_below r3 hb2) g3 (Kd.C_below r4 hb2) (hs.2 _ (rd_mem hi)))).mono ?_
      rintro e w' ⟨rfl, hb2⟩
      exact ⟨rfl, below_step hb' hb2⟩
def szF.dec : (n : Nat) → (f : S25) → Decidable (szF n f)
  | 0, f => by unfold szF; infer_instance
  | n + 1, f => by
    unfold szF
    have := fun x => szF.dec n x
    infer_instance
instance (n : Nat) (f : S25) : Decidable (szF n f) := szF.dec n f
def filter_May.f (a0_0 : Int) (a0_1 a0_2 : ByteArray) (l0_3 : List ByteArray) (l0_4 : List S25) : Option Bool :=
  if szF 12 ⟨a0_0, a0_1, a0_2, l0_3, l0_4⟩ then some (mayD 12 ⟨a0_0, a0_1, a0_2, l0_3, l0_4⟩) else none
theorem filter_May.calls (a0_0 : Int) (a0_1 : ByteArray) (a0_2 : ByteArray) (A0_3 : Option Addr) (c0_3 : Nat) (l0_3 : List ByteArray) (A0_4 : Option Addr) (c0_4 : Nat) (l0_4 : List S25) (r : Bool) (w : World) (hr0_3 : Kd.C Kd.string w A0_3 l0_3.length l0_3) (hc0_3 : l0_3.length ≤ c0_3) (hr0_4 : Kd.C k25 w A0_4 l0_4.length l0_4) (hc0_4 : l0_4.length ≤ c0_4) (h : filter_May.f a0_0 a0_1 a0_2 l0_3 l0_4 = some r) :
    Calls Tryz.prog 26 #[.agg #[.int .i64 a0_0, .string a0_1, .string a0_2, .slice A0_3 l0_3.length c0_3, .slice A0_4 l0_4.length c0_4]] w fun e w' => e = .returned (.bool r) ∧ Below w.heap.size w w' := by
  unfold filter_May.f at h
  by_cases hs : szF 12 ⟨a0_0, a0_1, a0_2, l0_3, l0_4⟩
  · rw [if_pos hs] at h
    obtain rfl := Option.some.inj h
    have hu := Tryz.underlying25
    have M := Aside0.mk (fun W' (hb : Below w.heap.size w W') => may_calls 12 (by omega) ⟨a0_0, a0_1, a0_2, l0_3, l0_4⟩ A0_3 c0_3 A0_4 c0_4 W' (Kd.C_below hr0_3 hb) hc0_3 (Kd.C_below hr0_4 hb) hs)
    obtain ⟨b, hb⟩ : ∃ b, mayD 12 ⟨a0_0, a0_1, a0_2, l0_3, l0_4⟩ = b := ⟨_, rfl⟩
    rw [hb] at M ⊢
    clear hb h hs hr0_3 hr0_4
    go_enter Tryz.func26, Tryz.ntmps26
    go_upto_region 1 with (fail)
    obtain ⟨w0, hw0⟩ : ∃ w0, w.alloc (.cells #[.int .i64 a0_0, .string a0_1, .string a0_2, .slice A0_3 l0_3.length c0_3, .slice A0_4 l0_4.length c0_4] 25) = w0 := ⟨_, rfl⟩
    have k0 : w0.cell? ⟨w.heap.size, 0, none⟩ = some (.int .i64 a0_0) := by rw [← hw0]; simp [go_sem]
    have k1 : w0.cell? ⟨w.heap.size, 1, none⟩ = some (.string a0_1) := by rw [← hw0]; simp [go_sem]
    have k2 : w0.cell? ⟨w.heap.size, 2, none⟩ = some (.string a0_2) := by rw [← hw0]; simp [go_sem]
    have k3 : w0.cell? ⟨w.heap.size, 3, none⟩ = some (.slice A0_3 l0_3.length c0_3) := by rw [← hw0]; simp [go_sem]
    have k4 : w0.cell? ⟨w.heap.size, 4, none⟩ = some (.slice A0_4 l0_4.length c0_4) := by rw [← hw0]; simp [go_sem]
    have kB : Below w.heap.size w w0 := by rw [← hw0]; exact below_alloc (Below.refl _ _) _
    rw [hw0]
    clear hw0
    have KB := Aside0.mk kB
    clear kB
    go_wp2_with (go_at_call 33; refine (M.out _ KB.out).mono ?_; rintro e w1 ⟨rfl, hb⟩; have KB1 := Aside0.mk (below_step KB.out hb); clear hb)
    go_ret
    exact ⟨rfl, KB1.out⟩
  · rw [if_neg hs] at h
    cases h
end Go.Proofs.YthfpaoacjpjnfaaGreatDoor.P

namespace Go.Proofs.YthfpaoacjpjnfaaGreatDoor.P
open Go.RowKit Go.Proofs.YthfpaoacjpjnfaaGreatDoorW.PrintWords Go.Proofs.YthfpaoacjpjnfaaGreatDoorW.PrintLast Go.Proofs.YthfpaoacjpjnfaaGreatDoorW.PrintMore
attribute [local go_sem] max2_int min2_int max_two min_two max_three min_three max_four min_four
set_option linter.unusedVariables false
set_option linter.unusedSimpArgs false
def eval_Eval.f (k : Nat) (a0_0 : Int) (a0_1 : ByteArray) (a0_2 : ByteArray) (l0_3 : List ByteArray) (l0_4 : List (S25)) (a1_0 : ByteArray) (l1_1 : List (S45)) : Option (Int) := (filter_May.f a0_0 a0_1 a0_2 l0_3 l0_4).bind fun t224 => (if t224 = true then ((eval_eval.f k a0_0 a0_1 a0_2 l0_3 l0_4 a1_0 l1_1).bind fun t225 => (some t225)) else (some 2))
set_option maxHeartbeats 8000000 in
set_option maxRecDepth 100000 in
theorem eval_Eval.calls (k : Nat) (a0_0 : Int) (a0_1 : ByteArray) (a0_2 : ByteArray) (A0_3 : Option Addr) (c0_3 : Nat) (l0_3 : List ByteArray) (A0_4 : Option Addr) (c0_4 : Nat) (l0_4 : List (S25)) (a1_0 : ByteArray) (A1_1 : Option Addr) (c1_1 : Nat) (l1_1 : List (S45)) (r : Int) (w : World) (hr0_3 : Kd.C Kd.string w A0_3 l0_3.length l0_3) (hc0_3 : l0_3.length ≤ c0_3) (hr0_4 : Kd.C k25 w A0_4 l0_4.length l0_4) (hc0_4 : l0_4.length ≤ c0_4) (hr1_1 : Kd.C k45 w A1_1 l1_1.length l1_1) (hc1_1 : l1_1.length ≤ c1_1) (hG : Gl w) (h : eval_Eval.f k a0_0 a0_1 a0_2 l0_3 l0_4 a1_0 l1_1 = some r) :
  Calls Tryz.prog 13 #[.agg #[.int .i64 a0_0, .string a0_1, .string a0_2, .slice A0_3 l0_3.length c0_3, .slice A0_4 l0_4.length c0_4], .agg #[.string a1_0, .slice A1_1 l1_1.length c1_1]] w fun e w' => e = .returned (.int .i64 r) ∧ Below w.heap.size w w' := by
 have hu25 := Tryz.underlying25
 have hu28 := Tryz.underlying28
 have HR0_3 := Aside0.mk hr0_3
 have HC0_3 := Aside0.mk hc0_3
 clear hr0_3 hc0_3
 have HR0_4 := Aside0.mk hr0_4
 have HC0_4 := Aside0.mk hc0_4
 clear hr0_4 hc0_4
 have HR1_1 := Aside0.mk hr1_1
 have HC1_1 := Aside0.mk hc1_1
 clear hr1_1 hc1_1
 have HB := Aside0.mk (Below.refl w.heap.size w)
 have HG := Aside0.mk hG
 clear hG
 have H : ((filter_May.f a0_0 a0_1 a0_2 l0_3 l0_4).bind fun t224 => (if t224 = true then ((eval_eval.f k a0_0 a0_1 a0_2 l0_3 l0_4 a1_0 l1_1).bind fun t225 => (some t225)) else (some 2))) = some r := h
 clear h
 replace H := Option.bind_eq_some_iff.mp H
 obtain ⟨t224, A30, H⟩ := H
 replace H : (if t224 = true then ((eval_eval.f k a0_0 a0_1 a0_2 l0_3 l0_4 a1_0 l1_1).bind fun t225 => (some t225)) else (some 2)) = some r := H
 have A3 := Aside0.mk A30
 clear A30
 by_cases c4 : t224 = true
 ·subst c4
  have H1 : ((eval_eval.f k a0_0 a0_1 a0_2 l0_3 l0_4 a1_0 l1_1).bind fun t225 => (some t225)) = some r := by rw [if_pos rfl] at H; exact H
  clear H
  have H := H1
  clear H1
  replace H := Option.bind_eq_some_iff.mp H
  obtain ⟨t225, A50, H⟩ := H
  replace H : (some t225) = some r := H
  have A5 := Aside0.mk A50
  clear A50
  obtain rfl := Option.some.inj H
  go_enter Tryz.func13, Tryz.ntmps13
  go_wp2_with (first | ((with_reducible refine gate_dst (N := 2) rfl ?_); refine box_event ?hg (N := 2) ?hd (cs := #[.int .i64 a0_0, .string a0_1, .string a0_2, .slice A0_3 l0_3.length c0_3, .slice A0_4 l0_4.length c0_4]) (t := 25) ?hr ?_; (case hd => rfl); (case hg => rfl); (case hr => first | (go_simp; done) | (go_simp; rfl)); intro gb222 hg w6 hbox hb; have n0_ := Aside0.mk (below_step (by repeat (first | (with_reducible first | exact HB.out | apply below_alloc | apply pw_below_drewN | apply below_drew1) | exact HB.out)) hb); have n1_ := Aside0.mk (hbox); have n2_ := Aside0.mk ((by rw [hg]; exact (below_size (by repeat (first | (with_reducible first | exact HB.out | apply below_alloc | apply pw_below_drewN | apply below_drew1) | exact HB.out))) : w.heap.size ≤ gb222)); have n3_ := Aside0.mk ((by rw [hg]; exact (below_size (by repeat (first | (with_reducible first | exact HB.out | apply below_alloc | apply pw_below_drewN | apply below_drew1) | exact HB.out))) : w.heap.size ≤ gb222)); clear HB; have HB := n0_; have BK222 := n1_; have GW222 := n2_; have GE222 := n3_; clear n0_ n1_ n2_ n3_; clear hb hbox hg) | ((with_reducible refine gate_dst (N := 3) rfl ?_); refine box_event ?hg (N := 3) ?hd (cs := #[.string a1_0, .slice A1_1 l1_1.length c1_1]) (t := 28) ?hr ?_; (case hd => rfl); (case hg => rfl); (case hr => first | (go_simp; done) | (go_simp; rfl)); intro gb223 hg w7 hbox hb; have n0_ := Aside0.mk (blk_below (g := gb222) (o := .cells #[.int .i64 a0_0, .string a0_1, .string a0_2, .slice A0_3 l0_3.length c0_3, .slice A0_4 l0_4.length c0_4] 25 (0, 0)) (by (with_reducible repeat (first | refine blk_drewN ?_ _ | refine blk_drew ?_ | refine blk_alloc ?_ _)); exact BK222.out) hb); have n1_ := Aside0.mk (below_step (by repeat (first | (with_reducible first | exact HB.out | apply below_alloc | apply pw_below_drewN | apply below_drew1 | refine below_set ?_ GE222.out) | exact HB.out)) hb); have n2_ := Aside0.mk (hbox); have n3_ := Aside0.mk ((by rw [hg]; exact (below_size (by repeat (first | (with_reducible first | exact HB.out | apply below_alloc | apply pw_below_drewN | apply below_drew1 | refine below_set ?_ GE222.out) | exact HB.out))) : w.heap.size ≤ gb223)); have n4_ := Aside0.mk ((by rw [hg]; exact (below_size (by repeat (first | (with_reducible first | exact HB.out | apply below_alloc | apply pw_below_drewN | apply below_drew1 | refine below_set ?_ GE222.out) | exact HB.out))) : w.heap.size ≤ gb223)); have n5_ := Aside0.mk ((by rw [hg]; exact Nat.ne_of_lt (blk_lt (g := gb222) (o := .cells #[.int .i64 a0_0, .string a0_1, .string a0_2, .slice A0_3 l0_3.length c0_3, .slice A0_4 l0_4.length c0_4] 25 (0, 0)) (by (with_reducible repeat (first | refine blk_drewN ?_ _ | refine blk_drew ?_ | refine blk_alloc ?_ _)); exact BK222.out)) : gb222 ≠ gb223)); have n6_ := Aside0.mk ((by rw [hg]; exact Nat.ne_of_gt (blk_lt (g := gb222) (o := .cells #[.int .i64 a0_0, .string a0_1, .string a0_2, .slice A0_3 l0_3.length c0_3, .slice A0_4 l0_4.length c0_4] 25 (0, 0)) (by (with_reducible repeat (first | refine blk_drewN ?_ _ | refine blk_drew ?_ | refine blk_alloc ?_ _)); exact BK222.out)) : gb223 ≠ gb222)); clear BK222; clear HB; have BK222 := n0_; have HB := n1_; have BK223 := n2_; have GW223 := n3_; have GE223 := n4_; have NB222_223 := n5_; have NB223_222 := n6_; clear n0_ n1_ n2_ n3_ n4_ n5_ n6_; clear hb hbox hg; have hnb8 := NB222_223.out; have hnc8 := NB223_222.out; have hcz9_0 : w7.cell? ⟨gb222, 0, none⟩ = some (.int .i64 a0_0) := (blk_cell BK222.out 0).trans rfl; have hcz9_1 : w7.cell? ⟨gb222, 1, none⟩ = some (.string a0_1) := (blk_cell BK222.out 1).trans rfl; have hcz9_2 : w7.cell? ⟨gb222, 2, none⟩ = some (.string a0_2) := (blk_cell BK222.out 2).trans rfl; have hcz9_3 : w7.cell? ⟨gb222, 3, none⟩ = some (.slice A0_3 l0_3.length c0_3) := (blk_cell BK222.out 3).trans rfl; have hcz9_4 : w7.cell? ⟨gb222, 4, none⟩ = some (.slice A0_4 l0_4.length c0_4) := (blk_cell BK222.out 4).trans rfl; have hfz9_0 := blk_frozen BK222.out 0; have hfz9_1 := blk_frozen BK222.out 1; have hfz9_2 := blk_frozen BK222.out 2; have hfz9_3 := blk_frozen BK222.out 3; have hfz9_4 := blk_frozen BK222.out 4) | ((with_reducible refine gate_callee (f := 26) rfl ?_); refine goesL_ (some 7) rfl rfl Tryz.func26 (by kernel_rfl) rfl #[.agg #[.int .i64 a0_0, .string a0_1, .string a0_2, .slice A0_3 l0_3.length c0_3, .slice A0_4 l0_4.length c0_4]] rfl (by (try simp only [List.map_toArray, List.map_cons, List.map_nil]); first | done | rfl | (simp only [List.length_drop, List.length_take]; rfl)) ?_; (with_reducible refine (filter_May.calls a0_0 a0_1 a0_2 _ _ l0_3 _ _ l0_4 true _ ?side1 ?side2 ?side3 ?side4 A3.out).mono ?_); (case side1 => repeat (first | exact (Kd.C_below HR0_3.out HB.out) | (with_reducible refine Kd.C_alloc ?_ _) | (with_reducible refine Kd.C_drewN ?_ _) | (with_reducible refine Kd.C_drew ?_))); (case side2 => exact HC0_3.out); (case side3 => repeat (first | exact (Kd.C_below HR0_4.out HB.out) | (with_reducible refine Kd.C_alloc ?_ _) | (with_reducible refine Kd.C_drewN ?_ _) | (with_reducible refine Kd.C_drew ?_))); (case side4 => exact HC0_4.out); rintro e w10 ⟨rfl, hb⟩; refine ⟨_, rfl, ?_⟩; have n0_ := Aside0.mk (blk_below (g := gb222) (o := .cells #[.int .i64 a0_0, .string a0_1, .string a0_2, .slice A0_3 l0_3.length c0_3, .slice A0_4 l0_4.length c0_4] 25 (0, 0)) (by (with_reducible repeat (first | refine blk_drewN ?_ _ | refine blk_drew ?_ | refine blk_alloc ?_ _)); exact BK222.out) hb); have n1_ := Aside0.mk (blk_below (g := gb223) (o := .cells #[.string a1_0, .slice A1_1 l1_1.length c1_1] 28 (0, 0)) (by (with_reducible repeat (first | refine blk_drewN ?_ _ | refine blk_drew ?_ | refine blk_alloc ?_ _)); exact BK223.out) hb); have n2_ := Aside0.mk (below_step (by repeat (first | (with_reducible first | exact HB.out | apply below_alloc | apply pw_below_drewN | apply below_drew1 | refine below_set ?_ GE222.out | refine below_set ?_ GE223.out) | exact HB.out)) hb); clear BK222; clear BK223; clear HB; have BK222 := n0_; have BK223 := n1_; have HB := n2_; clear n0_ n1_ n2_; (try clear hb); (try clear hb2); (try clear hk); (try clear hi); have hcz11_0 : w10.cell? ⟨gb222, 0, none⟩ = some (.int .i64 a0_0) := (blk_cell BK222.out 0).trans rfl; have hcz11_1 : w10.cell? ⟨gb222, 1, none⟩ = some (.string a0_1) := (blk_cell BK222.out 1).trans rfl; have hcz11_2 : w10.cell? ⟨gb222, 2, none⟩ = some (.string a0_2) := (blk_cell BK222.out 2).trans rfl; have hcz11_3 : w10.cell? ⟨gb222, 3, none⟩ = some (.slice A0_3 l0_3.length c0_3) := (blk_cell BK222.out 3).trans rfl; have hcz11_4 : w10.cell? ⟨gb222, 4, none⟩ = some (.slice A0_4 l0_4.length c0_4) := (blk_cell BK222.out 4).trans rfl; have hfz11_0 := blk_frozen BK222.out 0; have hfz11_1 := blk_frozen BK222.out 1; have hfz11_2 := blk_frozen BK222.out 2; have hfz11_3 := blk_frozen BK222.out 3; have hfz11_4 := blk_frozen BK222.out 4; have hcz12_0 : w10.cell? ⟨gb223, 0, none⟩ = some (.string a1_0) := (blk_cell BK223.out 0).trans rfl; have hcz12_1 : w10.cell? ⟨gb223, 1, none⟩ = some (.slice A1_1 l1_1.length c1_1) := (blk_cell BK223.out 1).trans rfl; have hfz12_0 := blk_frozen BK223.out 0; have hfz12_1 := blk_frozen BK223.out 1) | ((with_reducible refine gate_callee (f := 27) rfl ?_); refine goesL_ (some 10) rfl rfl Tryz.func27 (by kernel_rfl) rfl #[.agg #[.int .i64 a0_0, .string a0_1, .string a0_2, .slice A0_3 l0_3.length c0_3, .slice A0_4 l0_4.length c0_4], .agg #[.string a1_0, .slice A1_1 l1_1.length c1_1]] rfl (by (try simp only [List.map_toArray, List.map_cons, List.map_nil]); first | done | rfl | (simp only [List.length_drop, List.length_take]; rfl)) ?_; (with_reducible refine (eval_eval.calls k a0_0 a0_1 a0_2 _ _ l0_3 _ _ l0_4 a1_0 _ _ l1_1 t225 _ ?side1 ?side2 ?side3 ?side4 ?side5 ?side6 ?side7 A5.out).mono ?_); (case side1 => repeat (first | exact (Kd.C_below HR0_3.out HB.out) | (with_reducible refine Kd.C_alloc ?_ _) | (with_reducible refine Kd.C_drewN ?_ _) | (with_reducible refine Kd.C_drew ?_))); (case side2 => exact HC0_3.out); (case side3 => repeat (first | exact (Kd.C_below HR0_4.out HB.out) | (with_reducible refine Kd.C_alloc ?_ _) | (with_reducible refine Kd.C_drewN ?_ _) | (with_reducible refine Kd.C_drew ?_))); (case side4 => exact HC0_4.out); (case side5 => repeat (first | exact (Kd.C_below HR1_1.out HB.out) | (with_reducible refine Kd.C_alloc ?_ _) | (with_reducible refine Kd.C_drewN ?_ _) | (with_reducible refine Kd.C_drew ?_))); (case side6 => exact HC1_1.out); (case side7 => first | exact HG.out | exact Gl.drewN HG.out _ | exact Gl.below HG.out (by repeat (first | (with_reducible first | exact HB.out | apply below_alloc | apply pw_below_drewN | apply below_drew1 | refine below_set ?_ GE222.out | refine below_set ?_ GE223.out) | exact HB.out))); rintro e w13 ⟨rfl, hb⟩; refine ⟨_, rfl, ?_⟩; have n0_ := Aside0.mk (blk_below (g := gb222) (o := .cells #[.int .i64 a0_0, .string a0_1, .string a0_2, .slice A0_3 l0_3.length c0_3, .slice A0_4 l0_4.length c0_4] 25 (0, 0)) (by (with_reducible repeat (first | refine blk_drewN ?_ _ | refine blk_drew ?_ | refine blk_alloc ?_ _)); exact BK222.out) hb); have n1_ := Aside0.mk (blk_below (g := gb223) (o := .cells #[.string a1_0, .slice A1_1 l1_1.length c1_1] 28 (0, 0)) (by (with_reducible repeat (first | refine blk_drewN ?_ _ | refine blk_drew ?_ | refine blk_alloc ?_ _)); exact BK223.out) hb); have n2_ := Aside0.mk (below_step (by repeat (first | (with_reducible first | exact HB.out | apply below_alloc | apply pw_below_drewN | apply below_drew1 | refine below_set ?_ GE222.out | refine below_set ?_ GE223.out) | exact HB.out)) hb); clear BK222; clear BK223; clear HB; have BK222 := n0_; have BK223 := n1_; have HB := n2_; clear n0_ n1_ n2_; (try clear hb); (try clear hb2); (try clear hk); (try clear hi)))
  go_ret
  exact ⟨by first | rfl | (simp [errW_none, errW_some] <;> rfl) | (simp [*, errW_none, errW_some] <;> rfl), by repeat (first | (with_reducible first | exact HB.out | apply below_alloc | apply pw_below_drewN | apply below_drew1 | refine below_set ?_ GE222.out | refine below_set ?_ GE223.out) | exact HB.out)⟩
 ·replace c4 := Bool.eq_false_iff.mpr c4
  subst c4
  have H1 : (some 2) = some r := by rw [if_neg (show ¬ (false = true) by decide)] at H; exact H
  clear H
  have H := H1
  clear H1
  obtain rfl := Option.some.inj H
  go_enter Tryz.func13, Tryz.ntmps13
  go_wp2_with (first | ((with_reducible refine gate_dst (N := 2) rfl ?_); refine box_event ?hg (N := 2) ?hd (cs := #[.int .i64 a0_0, .string a0_1, .string a0_2, .slice A0_3 l0_3.length c0_3, .slice A0_4 l0_4.length c0_4]) (t := 25) ?hr ?_; (case hd => rfl); (case hg => rfl); (case hr => first | (go_simp; done) | (go_simp; rfl)); intro gb222 hg w14 hbox hb; have n0_ := Aside0.mk (below_step (by repeat (first | (with_reducible first | exact HB.out | apply below_alloc | apply pw_below_drewN | apply below_drew1) | exact HB.out)) hb); have n1_ := Aside0.mk (hbox); have n2_ := Aside0.mk ((by rw [hg]; exact (below_size (by repeat (first | (with_reducible first | exact HB.out | apply below_alloc | apply pw_below_drewN | apply below_drew1) | exact HB.out))) : w.heap.size ≤ gb222)); have n3_ := Aside0.mk ((by rw [hg]; exact (below_size (by repeat (first | (with_reducible first | exact HB.out | apply below_alloc | apply pw_below_drewN | apply below_drew1) | exact HB.out))) : w.heap.size ≤ gb222)); clear HB; have HB := n0_; have BK222 := n1_; have GW222 := n2_; have GE222 := n3_; clear n0_ n1_ n2_ n3_; clear hb hbox hg) | ((with_reducible refine gate_dst (N := 3) rfl ?_); refine box_event ?hg (N := 3) ?hd (cs := #[.string a1_0, .slice A1_1 l1_1.length c1_1]) (t := 28) ?hr ?_; (case hd => rfl); (case hg => rfl); (case hr => first | (go_simp; done) | (go_simp; rfl)); intro gb223 hg w15 hbox hb; have n0_ := Aside0.mk (blk_below (g := gb222) (o := .cells #[.int .i64 a0_0, .string a0_1, .string a0_2, .slice A0_3 l0_3.length c0_3, .slice A0_4 l0_4.length c0_4] 25 (0, 0)) (by (with_reducible repeat (first | refine blk_drewN ?_ _ | refine blk_drew ?_ | refine blk_alloc ?_ _)); exact BK222.out) hb); have n1_ := Aside0.mk (below_step (by repeat (first | (with_reducible first | exact HB.out | apply below_alloc | apply pw_below_drewN | apply below_drew1 | refine below_set ?_ GE222.out) | exact HB.out)) hb); have n2_ := Aside0.mk (hbox); have n3_ := Aside0.mk ((by rw [hg]; exact (below_size (by repeat (first | (with_reducible first | exact HB.out | apply below_alloc | apply pw_below_drewN | apply below_drew1 | refine below_set ?_ GE222.out) | exact HB.out))) : w.heap.size ≤ gb223)); have n4_ := Aside0.mk ((by rw [hg]; exact (below_size (by repeat (first | (with_reducible first | exact HB.out | apply below_alloc | apply pw_below_drewN | apply below_drew1 | refine below_set ?_ GE222.out) | exact HB.out))) : w.heap.size ≤ gb223)); have n5_ := Aside0.mk ((by rw [hg]; exact Nat.ne_of_lt (blk_lt (g := gb222) (o := .cells #[.int .i64 a0_0, .string a0_1, .string a0_2, .slice A0_3 l0_3.length c0_3, .slice A0_4 l0_4.length c0_4] 25 (0, 0)) (by (with_reducible repeat (first | refine blk_drewN ?_ _ | refine blk_drew ?_ | refine blk_alloc ?_ _)); exact BK222.out)) : gb222 ≠ gb223)); have n6_ := Aside0.mk ((by rw [hg]; exact Nat.ne_of_gt (blk_lt (g := gb222) (o := .cells #[.int .i64 a0_0, .string a0_1, .string a0_2, .slice A0_3 l0_3.length c0_3, .slice A0_4 l0_4.length c0_4] 25 (0, 0)) (by (with_reducible repeat (first | refine blk_drewN ?_ _ | refine blk_drew ?_ | refine blk_alloc ?_ _)); exact BK222.out)) : gb223 ≠ gb222)); clear BK222; clear HB; have BK222 := n0_; have HB := n1_; have BK223 := n2_; have GW223 := n3_; have GE223 := n4_; have NB222_223 := n5_; have NB223_222 := n6_; clear n0_ n1_ n2_ n3_ n4_ n5_ n6_; clear hb hbox hg; have hnb16 := NB222_223.out; have hnc16 := NB223_222.out; have hcz17_0 : w15.cell? ⟨gb222, 0, none⟩ = some (.int .i64 a0_0) := (blk_cell BK222.out 0).trans rfl; have hcz17_1 : w15.cell? ⟨gb222, 1, none⟩ = some (.string a0_1) := (blk_cell BK222.out 1).trans rfl; have hcz17_2 : w15.cell? ⟨gb222, 2, none⟩ = some (.string a0_2) := (blk_cell BK222.out 2).trans rfl; have hcz17_3 : w15.cell? ⟨gb222, 3, none⟩ = some (.slice A0_3 l0_3.length c0_3) := (blk_cell BK222.out 3).trans rfl; have hcz17_4 : w15.cell? ⟨gb222, 4, none⟩ = some (.slice A0_4 l0_4.length c0_4) := (blk_cell BK222.out 4).trans rfl; have hfz17_0 := blk_frozen BK222.out 0; have hfz17_1 := blk_frozen BK222.out 1; have hfz17_2 := blk_frozen BK222.out 2; have hfz17_3 := blk_frozen BK222.out 3; have hfz17_4 := blk_frozen BK222.out 4) | ((with_reducible refine gate_callee (f := 26) rfl ?_); refine goesL_ (some 7) rfl rfl Tryz.func26 (by kernel_rfl) rfl #[.agg #[.int .i64 a0_0, .string a0_1, .string a0_2, .slice A0_3 l0_3.length c0_3, .slice A0_4 l0_4.length c0_4]] rfl (by (try simp only [List.map_toArray, List.map_cons, List.map_nil]); first | done | rfl | (simp only [List.length_drop, List.length_take]; rfl)) ?_; (with_reducible refine (filter_May.calls a0_0 a0_1 a0_2 _ _ l0_3 _ _ l0_4 false _ ?side1 ?side2 ?side3 ?side4 A3.out).mono ?_); (case side1 => repeat (first | exact (Kd.C_below HR0_3.out HB.out) | (with_reducible refine Kd.C_alloc ?_ _) | (with_reducible refine Kd.C_drewN ?_ _) | (with_reducible refine Kd.C_drew ?_))); (case side2 => exact HC0_3.out); (case side3 => repeat (first | exact (Kd.C_below HR0_4.out HB.out) | (with_reducible refine Kd.C_alloc ?_ _) | (with_reducible refine Kd.C_drewN ?_ _) | (with_reducible refine Kd.C_drew ?_))); (case side4 => exact HC0_4.out); rintro e w18 ⟨rfl, hb⟩; refine ⟨_, rfl, ?_⟩; have n0_ := Aside0.mk (blk_below (g := gb222) (o := .cells #[.int .i64 a0_0, .string a0_1, .string a0_2, .slice A0_3 l0_3.length c0_3, .slice A0_4 l0_4.length c0_4] 25 (0, 0)) (by (with_reducible repeat (first | refine blk_drewN ?_ _ | refine blk_drew ?_ | refine blk_alloc ?_ _)); exact BK222.out) hb); have n1_ := Aside0.mk (blk_below (g := gb223) (o := .cells #[.string a1_0, .slice A1_1 l1_1.length c1_1] 28 (0, 0)) (by (with_reducible repeat (first | refine blk_drewN ?_ _ | refine blk_drew ?_ | refine blk_alloc ?_ _)); exact BK223.out) hb); have n2_ := Aside0.mk (below_step (by repeat (first | (with_reducible first | exact HB.out | apply below_alloc | apply pw_below_drewN | apply below_drew1 | refine below_set ?_ GE222.out | refine below_set ?_ GE223.out) | exact HB.out)) hb); clear BK222; clear BK223; clear HB; have BK222 := n0_; have BK223 := n1_; have HB := n2_; clear n0_ n1_ n2_; (try clear hb); (try clear hb2); (try clear hk); (try clear hi)))
  go_ret
  exact ⟨by first | rfl | (simp [errW_none, errW_some] <;> rfl) | (simp [*, errW_none, errW_some] <;> rfl), by repeat (first | (with_reducible first | exact HB.out | apply below_alloc | apply pw_below_drewN | apply below_drew1 | refine below_set ?_ GE222.out | refine below_set ?_ GE223.out) | exact HB.out)⟩
end Go.Proofs.YthfpaoacjpjnfaaGreatDoor.P


namespace Go.Proofs.YthfpaoacjpjnfaaGreatDoor.P
open Go.RowKit Go.Proofs.YthfpaoacjpjnfaaGreatDoorW.PrintWords Go.Proofs.YthfpaoacjpjnfaaGreatDoorW.PrintLast Go.Proofs.YthfpaoacjpjnfaaGreatDoorW.PrintMore
set_option linter.unusedVariables false
set_option linter.unusedSimpArgs false
def leafT (kind : Int) (typ val : ByteArray) (vs : List ByteArray) : Int :=
  if kind = 4 then (if (normL typ.data.toList val.data.toList).isSome = true then (if someI (hasAt vs typ val) vs.length = true then 1 else 0) else 2)
  else (if (lessT typ val val).2 = false then 2 else (if someI (ordAt kind vs typ val) vs.length = true then 1 else 0))
theorem enc_snd (o : Option (List UInt8)) : (encO o).2 = o.isSome := by cases o <;> rfl
theorem may_leaf (kind : Int) (typ val : ByteArray) (hk : kind = 4 ∨ kind = 6 ∨ kind = 7) (ht : typedL typ.data.toList = true) (hv : val.size ≤ 100) :
    filter_May.f kind typ val [] [] = some true := by
  unfold filter_May.f
  rw [if_pos (show szF 12 ⟨kind, typ, val, [], []⟩ from ⟨fun i hi => absurd hi (Nat.not_lt_zero _), fun x hx => by cases hx⟩)]
  congr 1
  unfold mayD mayG leafB
  dsimp only
  rw [if_neg (by omega), if_neg (by omega), if_pos hk, ht, decide_eq_true hv]
  rfl
theorem eval_leaf (kind : Int) (typ val a0 : ByteArray) (l1 : List S45) (vs : List ByteArray) (hk : kind = 4 ∨ kind = 6 ∨ kind = 7) (ht : typedL typ.data.toList = true) (hts : typ.size ≤ 9223372036854775807) (hv : val.size ≤ 100)
    (hR : ruleL typ.data.toList ≠ 0) (hvs : entry_Vals.f a0 l1 typ = some vs) (hl : vs.length ≤ 1000000000) :
    Ev (fun k => eval_Eval.f k kind typ val [] [] a0 l1) (leafT kind typ val vs) := by
  unfold eval_Eval.f
  rw [may_leaf kind typ val hk ht hv]
  refine Ev.bs (Ev.congr (fun k => if_pos rfl) ?_)
  suffices h : Ev (fun k => eval_eval.f k kind typ val [] [] a0 l1) (leafT kind typ val vs) from h.bind (Ev.now _)
  refine Ev.step (fun k => by rw [eval_eval.f]) ?_
  have hc : match_Canon.f typ = some (lowS typ, true) := by rw [canon_eq typ hts, if_neg hR]
  refine Ev.step (fun k => by rw [eval_eval.l0]) ?_
  refine Ev.ifn (c := (0 : Int) < (([] : List S25).length : Int)) (by decide) ?_
  refine Ev.ifn (c := kind = 1) (by omega) (Ev.ifn (c := kind = 2) (by omega) (Ev.ifn (c := kind = 3) (by omega) ?_))
  rw [hc]
  refine Ev.bs (Ev.congr (fun k => if_pos rfl) ?_)
  refine Ev.ifn (c := kind = 8) (by omega) (Ev.ifn (c := kind = 5) (by omega) ?_)
  unfold leafT
  by_cases h4 : kind = 4
  · rw [if_pos h4]
    refine Ev.ifp h4 ((norm_all typ val hts).bind ?_)
    rw [enc_snd]
    cases hn : (normL typ.data.toList val.data.toList).isSome with
    | false => exact Ev.congr (fun k => if_neg (by decide)) (Ev.now _)
    | true =>
      have hh : entry_Has.f a0 l1 typ val = some (someI (hasAt vs typ val) vs.length) := by
        unfold entry_Has.f
        rw [hvs]
        exact if_pos ⟨hl, hts⟩
      refine Ev.congr (fun k => if_pos rfl) ?_
      rw [hh]
      refine Ev.bs ?_
      rw [truth_eq]
      exact Ev.bs (Ev.now _)
  · rw [if_neg h4]
    refine Ev.ifn h4 ?_
    have ho : eval_order.f kind typ val [] [] a0 l1 = some (if (lessT typ val val).2 = false then 2 else (if someI (ordAt kind vs typ val) vs.length = true then 1 else 0)) := by
      unfold eval_order.f
      rw [if_pos hts]
      cases hL : (lessT typ val val).2 with
      | false => rw [if_pos rfl, if_pos rfl]
      | true =>
        rw [if_neg (by decide), if_neg (by decide), hvs]
        exact if_pos hl
    rw [ho]
    exact Ev.bs (Ev.now _)
end Go.Proofs.YthfpaoacjpjnfaaGreatDoor.P

namespace Go.Proofs.YthfpaoacjpjnfaaGreatDoor.P
open Go.RowKit Go.Proofs.YthfpaoacjpjnfaaGreatDoorW.PrintWords Go.Proofs.YthfpaoacjpjnfaaGreatDoorW.PrintLast Go.Proofs.YthfpaoacjpjnfaaGreatDoorW.PrintMore
attribute [local go_sem] max2_int min2_int max_two min_two max_three min_three max_four min_four
set_option linter.unusedVariables false
set_option linter.unusedSimpArgs false
def brooklaw4_Person.f (a0 : ByteArray) : Option (ByteArray × (List (S45))) := if 3 + a0.size ≤ 9223372036854775807 then (if ((⟨#[99, 110, 61]⟩ : ByteArray) ++ a0).size + 4 ≤ 9223372036854775807 then (some (((⟨#[99, 110, 61]⟩ : ByteArray) ++ a0) ++ (⟨#[44, 111, 61, 120]⟩ : ByteArray), (([(⟨(⟨#[99, 110]⟩ : ByteArray), (([a0] : List ByteArray))⟩ : S45), (⟨(⟨#[111, 98, 106, 101, 99, 116, 99, 108, 97, 115, 115]⟩ : ByteArray), (([(⟨#[112, 101, 114, 115, 111, 110]⟩ : ByteArray)] : List ByteArray))⟩ : S45), (⟨(⟨#[115, 110]⟩ : ByteArray), (([(⟨#[115]⟩ : ByteArray)] : List ByteArray))⟩ : S45)] : List (S45))))) else (none)) else (none)
set_option maxHeartbeats 8000000 in
set_option maxRecDepth 100000 in
theorem brooklaw4_Person.calls (a0 : ByteArray) (r1 : ByteArray) (r2 : List (S45)) (w : World) (h : brooklaw4_Person.f a0 = some (r1, r2)) :
  Calls Tryz.prog 29 #[.string a0] w fun e w' => ∃ v1_ : Value, e = .returned (.agg #[.string r1, v1_]) ∧ Kd.N k45 45 w' w.heap.size (fun k_ => (w.heap.size ≤ k_)) v1_ r2 ∧ Below w.heap.size w w' := by
 have hu28 := Tryz.underlying28
 have hu45 := Tryz.underlying45
 have HB := Aside0.mk (Below.refl w.heap.size w)
 have H : (if 3 + a0.size ≤ 9223372036854775807 then (if ((⟨#[99, 110, 61]⟩ : ByteArray) ++ a0).size + 4 ≤ 9223372036854775807 then (some (((⟨#[99, 110, 61]⟩ : ByteArray) ++ a0) ++ (⟨#[44, 111, 61, 120]⟩ : ByteArray), (([(⟨(⟨#[99, 110]⟩ : ByteArray), (([a0] : List ByteArray))⟩ : S45), (⟨(⟨#[111, 98, 106, 101, 99, 116, 99, 108, 97, 115, 115]⟩ : ByteArray), (([(⟨#[112, 101, 114, 115, 111, 110]⟩ : ByteArray)] : List ByteArray))⟩ : S45), (⟨(⟨#[115, 110]⟩ : ByteArray), (([(⟨#[115]⟩ : ByteArray)] : List ByteArray))⟩ : S45)] : List (S45))))) else (none)) else (none)) = some (r1, r2) := h
 clear h
 by_cases c2 : 3 + a0.size ≤ 9223372036854775807
 ·rw [if_pos c2] at H
  have c2b0 := eq_true c2
  have c2b1 : decide (3 + a0.size ≤ 9223372036854775807) = true := decide_eq_true c2
  try have c2b2 : (9223372036854775807 < 3 + a0.size) = False := eq_false (Nat.not_lt.2 c2)
  by_cases c3 : ((⟨#[99, 110, 61]⟩ : ByteArray) ++ a0).size + 4 ≤ 9223372036854775807
  ·rw [if_pos c3] at H
   have c3b0 := eq_true c3
   have c3b1 : decide (((⟨#[99, 110, 61]⟩ : ByteArray) ++ a0).size + 4 ≤ 9223372036854775807) = true := decide_eq_true c3
   try have c3b2 : (9223372036854775807 < ((⟨#[99, 110, 61]⟩ : ByteArray) ++ a0).size + 4) = False := eq_false (Nat.not_lt.2 c3)
   try (have c3b3 := c3b2; simp only [ByteArray.size_append, show ∀ a : UInt8, (⟨#[a]⟩ : ByteArray).size = 1 from fun _ => rfl, show ∀ a b : UInt8, (⟨#[a, b]⟩ : ByteArray).size = 2 from fun _ _ => rfl, show ∀ a b c : UInt8, (⟨#[a, b, c]⟩ : ByteArray).size = 3 from fun _ _ _ => rfl] at c3b3)
   obtain ⟨y395, hy395⟩ : ∃ y_ : List ByteArray, y_ = (([a0] : List ByteArray)) := ⟨_, rfl⟩
   replace H : (some (((⟨#[99, 110, 61]⟩ : ByteArray) ++ a0) ++ (⟨#[44, 111, 61, 120]⟩ : ByteArray), (([(⟨(⟨#[99, 110]⟩ : ByteArray), y395⟩ : S45), (⟨(⟨#[111, 98, 106, 101, 99, 116, 99, 108, 97, 115, 115]⟩ : ByteArray), (([(⟨#[112, 101, 114, 115, 111, 110]⟩ : ByteArray)] : List ByteArray))⟩ : S45), (⟨(⟨#[115, 110]⟩ : ByteArray), (([(⟨#[115]⟩ : ByteArray)] : List ByteArray))⟩ : S45)] : List (S45))))) = some (r1, r2) := by first | (rw [hy395]; with_reducible exact H) | (have H2_ := (Option.bind_some _ _).symm.trans H; rw [hy395]; with_reducible exact H2_) | (have H2_ := (Option.bind_some _ _).symm.trans H; with_reducible exact H2_) | with_reducible exact H | (rw [hy395]; exact H) | exact H
   have Ny395 := Aside0.mk hy395
   clear hy395
   obtain ⟨y398, hy398⟩ : ∃ y_ : List ByteArray, y_ = (([(⟨#[112, 101, 114, 115, 111, 110]⟩ : ByteArray)] : List ByteArray)) := ⟨_, rfl⟩
   replace H : (some (((⟨#[99, 110, 61]⟩ : ByteArray) ++ a0) ++ (⟨#[44, 111, 61, 120]⟩ : ByteArray), (([(⟨(⟨#[99, 110]⟩ : ByteArray), y395⟩ : S45), (⟨(⟨#[111, 98, 106, 101, 99, 116, 99, 108, 97, 115, 115]⟩ : ByteArray), y398⟩ : S45), (⟨(⟨#[115, 110]⟩ : ByteArray), (([(⟨#[115]⟩ : ByteArray)] : List ByteArray))⟩ : S45)] : List (S45))))) = some (r1, r2) := by first | (rw [hy398]; with_reducible exact H) | (have H2_ := (Option.bind_some _ _).symm.trans H; rw [hy398]; with_reducible exact H2_) | (have H2_ := (Option.bind_some _ _).symm.trans H; with_reducible exact H2_) | with_reducible exact H | (rw [hy398]; exact H) | exact H
   have Ny398 := Aside0.mk hy398
   clear hy398
   obtain ⟨y401, hy401⟩ : ∃ y_ : List ByteArray, y_ = (([(⟨#[115]⟩ : ByteArray)] : List ByteArray)) := ⟨_, rfl⟩
   replace H : (some (((⟨#[99, 110, 61]⟩ : ByteArray) ++ a0) ++ (⟨#[44, 111, 61, 120]⟩ : ByteArray), (([(⟨(⟨#[99, 110]⟩ : ByteArray), y395⟩ : S45), (⟨(⟨#[111, 98, 106, 101, 99, 116, 99, 108, 97, 115, 115]⟩ : ByteArray), y398⟩ : S45), (⟨(⟨#[115, 110]⟩ : ByteArray), y401⟩ : S45)] : List (S45))))) = some (r1, r2) := by first | (rw [hy401]; with_reducible exact H) | (have H2_ := (Option.bind_some _ _).symm.trans H; rw [hy401]; with_reducible exact H2_) | (have H2_ := (Option.bind_some _ _).symm.trans H; with_reducible exact H2_) | with_reducible exact H | (rw [hy401]; exact H) | exact H
   have Ny401 := Aside0.mk hy401
   clear hy401
   obtain ⟨y404, hy404⟩ : ∃ y_ : List (S45), y_ = (([(⟨(⟨#[99, 110]⟩ : ByteArray), y395⟩ : S45), (⟨(⟨#[111, 98, 106, 101, 99, 116, 99, 108, 97, 115, 115]⟩ : ByteArray), y398⟩ : S45), (⟨(⟨#[115, 110]⟩ : ByteArray), y401⟩ : S45)] : List (S45))) := ⟨_, rfl⟩
   replace H : (some (((⟨#[99, 110, 61]⟩ : ByteArray) ++ a0) ++ (⟨#[44, 111, 61, 120]⟩ : ByteArray), y404)) = some (r1, r2) := by first | (rw [hy404]; with_reducible exact H) | (have H2_ := (Option.bind_some _ _).symm.trans H; rw [hy404]; with_reducible exact H2_) | (have H2_ := (Option.bind_some _ _).symm.trans H; with_reducible exact H2_) | with_reducible exact H | (rw [hy404]; exact H) | exact H
   have Ny404 := Aside0.mk hy404
   clear hy404
   simp only [Option.some.injEq, Prod.mk.injEq] at H
   obtain ⟨rfl, rfl⟩ := H
   go_enter Tryz.func29, Tryz.ntmps29
   go_wp2_with (first | ((with_reducible refine gate_dst (N := 2) rfl ?_); refine box_event ?hg (N := 2) ?hd (cs := #[.string (⟨#[]⟩ : ByteArray), .slice none 0 0]) (t := 28) ?hr ?_; (case hd => rfl); (case hg => rfl); (case hr => first | (go_simp; done) | (go_simp; rfl)); intro gb394 hg w4 hbox hb; have n0_ := Aside0.mk (below_step (by repeat (first | (with_reducible first | exact HB.out | apply below_alloc | apply pw_below_drewN | apply below_drew1) | exact HB.out)) hb); have n1_ := Aside0.mk (hbox); have n2_ := Aside0.mk ((by rw [hg]; exact (below_size (by repeat (first | (with_reducible first | exact HB.out | apply below_alloc | apply pw_below_drewN | apply below_drew1) | exact HB.out))) : w.heap.size ≤ gb394)); have n3_ := Aside0.mk ((by rw [hg]; exact (below_size (by repeat (first | (with_reducible first | exact HB.out | apply below_alloc | apply pw_below_drewN | apply below_drew1) | exact HB.out))) : w.heap.size ≤ gb394)); clear HB; have HB := n0_; have BK394 := n1_; have GW394 := n2_; have GE394 := n3_; clear n0_ n1_ n2_ n3_; clear hb hbox hg) | ((with_reducible refine gate_dst (N := 7) rfl ?_); refine Kd.R_lit Kd.string _ 9 ?hg (N := 7) ?hd (xs := ([a0] : List ByteArray)) (inner := [.string a0]) (ok := fun _ => True) (okp := fun _ => True) ?hr ?hp (fun _ hk => hk) trivial (Below.refl _ _) (Nat.le_refl _) (by simp) ?_; (case hd => rfl); (case hg => rfl); (case hr => first | (go_simp; done) | (go_simp; rfl)); (case hp => exact (Reps.one (show Kd.M Kd.string _ _ _ a0 [.string a0] from rfl) (Reps.none _ _))); intro v396 w5 ho6 hb hg_ hnew_; clear hg_ hnew_; (first | rw [← Ny395.out] at ho6 | (simp only [Int.reduceToNat] at ho6; rw [← Ny395.out] at ho6)); have n0_ := Aside0.mk (Kd.R_lower (Kd.R_newM (M := fun k_ => (w.heap.size ≤ k_)) ho6 (below_size (by repeat (first | (with_reducible first | exact HB.out | apply below_alloc | apply pw_below_drewN | apply below_drew1 | refine below_set ?_ GE394.out) | exact HB.out))) (fun k_ h_ => h_)) (below_size (by repeat (first | (with_reducible first | exact HB.out | apply below_alloc | apply pw_below_drewN | apply below_drew1 | refine below_set ?_ GE394.out) | exact HB.out)))); have n1_ := Aside0.mk (blk_below (g := gb394) (o := .cells #[.string (⟨#[]⟩ : ByteArray), .slice none 0 0] 28 (0, 0)) (by (with_reducible repeat (first | refine blk_drewN ?_ _ | refine blk_drew ?_ | refine blk_alloc ?_ _)); exact BK394.out) hb); have n2_ := Aside0.mk (below_step (by repeat (first | (with_reducible first | exact HB.out | apply below_alloc | apply pw_below_drewN | apply below_drew1 | refine below_set ?_ GE394.out) | exact HB.out)) hb); clear BK394; clear HB; have HO397 := n0_; have BK394 := n1_; have HB := n2_; clear n0_ n1_ n2_; clear hb ho6; obtain ⟨Ao7, co7, eo7⟩ := Kd.R_slice HO397.out; subst eo7) | ((with_reducible refine gate_dst (N := 9) rfl ?_); refine Kd.R_lit Kd.string _ 9 ?hg (N := 9) ?hd (xs := ([(⟨#[112, 101, 114, 115, 111, 110]⟩ : ByteArray)] : List ByteArray)) (inner := [.string (⟨#[112, 101, 114, 115, 111, 110]⟩ : ByteArray)]) (ok := fun _ => True) (okp := fun _ => True) ?hr ?hp (fun _ hk => hk) trivial (Below.refl _ _) (Nat.le_refl _) (by simp) ?_; (case hd => rfl); (case hg => rfl); (case hr => first | (go_simp; done) | (go_simp; rfl)); (case hp => exact (Reps.one (show Kd.M Kd.string _ _ _ (⟨#[112, 101, 114, 115, 111, 110]⟩ : ByteArray) [.string (⟨#[112, 101, 114, 115, 111, 110]⟩ : ByteArray)] from rfl) (Reps.none _ _))); intro v399 w8 ho9 hb hg_ hnew_; clear hg_ hnew_; (first | rw [← Ny398.out] at ho9 | (simp only [Int.reduceToNat] at ho9; rw [← Ny398.out] at ho9)); have n0_ := Aside0.mk (Kd.R_elder' (by (with_reducible repeat (first | apply Kd.R_alloc | apply Kd.R_drewN | apply Kd.R_drew)); exact HO397.out) (Kd.R_base ho9) hb); have n1_ := Aside0.mk (Kd.R_lower (Kd.R_new' (Kd.R_newM (M := fun k_ => (w.heap.size ≤ k_)) ho9 (below_size (by repeat (first | (with_reducible first | exact HB.out | apply below_alloc | apply pw_below_drewN | apply below_drew1 | refine below_set ?_ GE394.out) | exact HB.out))) (fun k_ h_ => h_)) (Kd.R_lt (by (with_reducible repeat (first | apply Kd.R_alloc | apply Kd.R_drewN | apply Kd.R_drew)); exact HO397.out))) (below_size (by repeat (first | (with_reducible first | exact HB.out | apply below_alloc | apply pw_below_drewN | apply below_drew1 | refine below_set ?_ GE394.out) | exact HB.out)))); have n2_ := Aside0.mk (blk_below (g := gb394) (o := .cells #[.string (⟨#[]⟩ : ByteArray), .slice none 0 0] 28 (0, 0)) (by (with_reducible repeat (first | refine blk_drewN ?_ _ | refine blk_drew ?_ | refine blk_alloc ?_ _)); exact BK394.out) hb); have n3_ := Aside0.mk (below_step (by repeat (first | (with_reducible first | exact HB.out | apply below_alloc | apply pw_below_drewN | apply below_drew1 | refine below_set ?_ GE394.out) | exact HB.out)) hb); clear HO397; clear BK394; clear HB; have HO397 := n0_; have HO400 := n1_; have BK394 := n2_; have HB := n3_; clear n0_ n1_ n2_ n3_; clear hb ho9; obtain ⟨Ao10, co10, eo10⟩ := Kd.R_slice HO400.out; subst eo10) | ((with_reducible refine gate_dst (N := 11) rfl ?_); refine Kd.R_lit Kd.string _ 9 ?hg (N := 11) ?hd (xs := ([(⟨#[115]⟩ : ByteArray)] : List ByteArray)) (inner := [.string (⟨#[115]⟩ : ByteArray)]) (ok := fun _ => True) (okp := fun _ => True) ?hr ?hp (fun _ hk => hk) trivial (Below.refl _ _) (Nat.le_refl _) (by simp) ?_; (case hd => rfl); (case hg => rfl); (case hr => first | (go_simp; done) | (go_simp; rfl)); (case hp => exact (Reps.one (show Kd.M Kd.string _ _ _ (⟨#[115]⟩ : ByteArray) [.string (⟨#[115]⟩ : ByteArray)] from rfl) (Reps.none _ _))); intro v402 w11 ho12 hb hg_ hnew_; clear hg_ hnew_; (first | rw [← Ny401.out] at ho12 | (simp only [Int.reduceToNat] at ho12; rw [← Ny401.out] at ho12)); have n0_ := Aside0.mk (Kd.R_elder' (by (with_reducible repeat (first | apply Kd.R_alloc | apply Kd.R_drewN | apply Kd.R_drew)); exact HO397.out) (Kd.R_base ho12) hb); have n1_ := Aside0.mk (Kd.R_elder' (by (with_reducible repeat (first | apply Kd.R_alloc | apply Kd.R_drewN | apply Kd.R_drew)); exact HO400.out) (Kd.R_base ho12) hb); have n2_ := Aside0.mk (Kd.R_lower (Kd.R_new' (Kd.R_new' (Kd.R_newM (M := fun k_ => (w.heap.size ≤ k_)) ho12 (below_size (by repeat (first | (with_reducible first | exact HB.out | apply below_alloc | apply pw_below_drewN | apply below_drew1 | refine below_set ?_ GE394.out) | exact HB.out))) (fun k_ h_ => h_)) (Kd.R_lt (by (with_reducible repeat (first | apply Kd.R_alloc | apply Kd.R_drewN | apply Kd.R_drew)); exact HO397.out))) (Kd.R_lt (by (with_reducible repeat (first | apply Kd.R_alloc | apply Kd.R_drewN | apply Kd.R_drew)); exact HO400.out))) (below_size (by repeat (first | (with_reducible first | exact HB.out | apply below_alloc | apply pw_below_drewN | apply below_drew1 | refine below_set ?_ GE394.out) | exact HB.out)))); have n3_ := Aside0.mk (blk_below (g := gb394) (o := .cells #[.string (⟨#[]⟩ : ByteArray), .slice none 0 0] 28 (0, 0)) (by (with_reducible repeat (first | refine blk_drewN ?_ _ | refine blk_drew ?_ | refine blk_alloc ?_ _)); exact BK394.out) hb); have n4_ := Aside0.mk (below_step (by repeat (first | (with_reducible first | exact HB.out | apply below_alloc | apply pw_below_drewN | apply below_drew1 | refine below_set ?_ GE394.out) | exact HB.out)) hb); clear HO397; clear HO400; clear BK394; clear HB; have HO397 := n0_; have HO400 := n1_; have HO403 := n2_; have BK394 := n3_; have HB := n4_; clear n0_ n1_ n2_ n3_ n4_; clear hb ho12; obtain ⟨Ao13, co13, eo13⟩ := Kd.R_slice HO403.out; subst eo13) | ((with_reducible refine gate_dst (N := 13) rfl ?_); refine Kd.N_lit k45 _ 45 ?hg (N' := 13) ?hd (xs := ([(⟨(⟨#[99, 110]⟩ : ByteArray), y395⟩ : S45), (⟨(⟨#[111, 98, 106, 101, 99, 116, 99, 108, 97, 115, 115]⟩ : ByteArray), y398⟩ : S45), (⟨(⟨#[115, 110]⟩ : ByteArray), y401⟩ : S45)] : List (S45))) (inner := [.string (⟨#[99, 110]⟩ : ByteArray), .slice Ao7 y395.length co7, .string (⟨#[111, 98, 106, 101, 99, 116, 99, 108, 97, 115, 115]⟩ : ByteArray), .slice Ao10 y398.length co10, .string (⟨#[115, 110]⟩ : ByteArray), .slice Ao13 y401.length co13]) (ok := (fun k_ => (w.heap.size ≤ k_) ∧ k_ ≠ gb394)) (okp := (fun k_ => (w.heap.size ≤ k_) ∧ k_ ≠ gb394)) ?hr ?hp (fun _ hk => hk) ((show ∀ k_, w11.heap.size ≤ k_ → (fun k_ => (w.heap.size ≤ k_) ∧ k_ ≠ gb394) k_ from fun k_ hk => ⟨(Nat.le_trans (below_size (by repeat (first | (with_reducible first | exact HB.out | apply below_alloc | apply pw_below_drewN | apply below_drew1 | refine below_set ?_ GE394.out) | exact HB.out))) hk), Kd.freshB (g := gb394) (o := .cells #[.string (⟨#[]⟩ : ByteArray), .slice none 0 0] 28 (0, 0)) (by (with_reducible repeat (first | refine blk_drewN ?_ _ | refine blk_drew ?_ | refine blk_alloc ?_ _)); exact BK394.out) k_ hk⟩) _ (Nat.le_refl _)) (Below.refl _ _) (Nat.le_refl _) (by simp) ?_; (case hd => rfl); (case hg => rfl); (case hr => first | (go_simp; done) | (go_simp; rfl)); (case hp => exact (Reps.c2 (show Kd.FK k45 _ _ (⟨(⟨#[99, 110]⟩ : ByteArray), y395⟩ : S45) [.string (⟨#[99, 110]⟩ : ByteArray), .slice Ao7 y395.length co7] from (k45_mkF _ _ (⟨(⟨#[99, 110]⟩ : ByteArray), y395⟩ : S45) (Kd.R_reads' (Kd.R_mono (ok' := (fun k_ => (w.heap.size ≤ k_) ∧ k_ ≠ gb394)) (Kd.R_types (HO397.out) BK394.out (by decide)) (fun k_ hk => ⟨hk.1.1.1.1, hk.2⟩))).2.1 (Kd.R_F (Kd.R_mono (ok' := (fun k_ => (w.heap.size ≤ k_) ∧ k_ ≠ gb394)) (Kd.R_types (HO397.out) BK394.out (by decide)) (fun k_ hk => ⟨hk.1.1.1.1, hk.2⟩))))) (Reps.c2 (show Kd.FK k45 _ _ (⟨(⟨#[111, 98, 106, 101, 99, 116, 99, 108, 97, 115, 115]⟩ : ByteArray), y398⟩ : S45) [.string (⟨#[111, 98, 106, 101, 99, 116, 99, 108, 97, 115, 115]⟩ : ByteArray), .slice Ao10 y398.length co10] from (k45_mkF _ _ (⟨(⟨#[111, 98, 106, 101, 99, 116, 99, 108, 97, 115, 115]⟩ : ByteArray), y398⟩ : S45) (Kd.R_reads' (Kd.R_mono (ok' := (fun k_ => (w.heap.size ≤ k_) ∧ k_ ≠ gb394)) (Kd.R_types (HO400.out) BK394.out (by decide)) (fun k_ hk => ⟨hk.1.1.1.1, hk.2⟩))).2.1 (Kd.R_F (Kd.R_mono (ok' := (fun k_ => (w.heap.size ≤ k_) ∧ k_ ≠ gb394)) (Kd.R_types (HO400.out) BK394.out (by decide)) (fun k_ hk => ⟨hk.1.1.1.1, hk.2⟩))))) (Reps.c2 (show Kd.FK k45 _ _ (⟨(⟨#[115, 110]⟩ : ByteArray), y401⟩ : S45) [.string (⟨#[115, 110]⟩ : ByteArray), .slice Ao13 y401.length co13] from (k45_mkF _ _ (⟨(⟨#[115, 110]⟩ : ByteArray), y401⟩ : S45) (Kd.R_reads' (Kd.R_mono (ok' := (fun k_ => (w.heap.size ≤ k_) ∧ k_ ≠ gb394)) (Kd.R_types (HO403.out) BK394.out (by decide)) (fun k_ hk => ⟨hk.1.1.1.1, hk.2⟩))).2.1 (Kd.R_F (Kd.R_mono (ok' := (fun k_ => (w.heap.size ≤ k_) ∧ k_ ≠ gb394)) (Kd.R_types (HO403.out) BK394.out (by decide)) (fun k_ hk => ⟨hk.1.1.1.1, hk.2⟩))))) (Reps.none _ _))))); intro v405 w14 ho15 hb hg_ hnew_; clear hg_ hnew_; (first | rw [← Ny404.out] at ho15 | (simp only [Int.reduceToNat] at ho15; rw [← Ny404.out] at ho15)); have n0_ := Aside0.mk (Kd.N_lower ho15 (below_size (by repeat (first | (with_reducible first | exact HB.out | apply below_alloc | apply pw_below_drewN | apply below_drew1 | refine below_set ?_ GE394.out) | exact HB.out)))); have n1_ := Aside0.mk (blk_below (g := gb394) (o := .cells #[.string (⟨#[]⟩ : ByteArray), .slice none 0 0] 28 (0, 0)) (by (with_reducible repeat (first | refine blk_drewN ?_ _ | refine blk_drew ?_ | refine blk_alloc ?_ _)); exact BK394.out) hb); have n2_ := Aside0.mk (below_step (by repeat (first | (with_reducible first | exact HB.out | apply below_alloc | apply pw_below_drewN | apply below_drew1 | refine below_set ?_ GE394.out) | exact HB.out)) hb); clear BK394; clear HB; clear HO397; clear HO400; clear HO403; have HO406 := n0_; have BK394 := n1_; have HB := n2_; clear n0_ n1_ n2_; clear hb ho15; obtain ⟨Ao16, co16, eo16⟩ := Kd.N_slice HO406.out; subst eo16; have hcz17_0 : w14.cell? ⟨gb394, 0, none⟩ = some (.string (⟨#[]⟩ : ByteArray)) := (blk_cell BK394.out 0).trans rfl; have hcz17_1 : w14.cell? ⟨gb394, 1, none⟩ = some (.slice none 0 0) := (blk_cell BK394.out 1).trans rfl; have hfz17_0 := blk_frozen BK394.out 0; have hfz17_1 := blk_frozen BK394.out 1))
   refine bodyPost_ret (results_cell_row rfl _ _ gb394 28 #[.string (((⟨#[99, 110, 61]⟩ : ByteArray) ++ a0) ++ (⟨#[44, 111, 61, 120]⟩ : ByteArray)), .slice Ao16 y404.length co16] (0, 0) _ rfl (by (with_reducible repeat (first | refine blk_drewN ?_ _ | refine blk_drew ?_ | refine blk_alloc ?_ _)); refine blk_put (cs := #[.string (((⟨#[99, 110, 61]⟩ : ByteArray) ++ a0) ++ (⟨#[44, 111, 61, 120]⟩ : ByteArray)), .slice none 0 0]) ?_ 1 _ (by first | rfl | (simp only [bneNil, beqNil]; rfl) | simp [bneNil, beqNil]); (with_reducible repeat (first | refine blk_drewN ?_ _ | refine blk_drew ?_ | refine blk_alloc ?_ _)); refine blk_put (cs := #[.string (⟨#[]⟩ : ByteArray), .slice none 0 0]) ?_ 0 _ (by first | rfl | (simp only [bneNil, beqNil]; rfl) | simp [bneNil, beqNil]); (with_reducible repeat (first | refine blk_drewN ?_ _ | refine blk_drew ?_ | refine blk_alloc ?_ _)); exact BK394.out) Tryz.underlying28 rfl (by kernel_rfl)) rfl ?_
   exact ⟨_, by first | rfl | (simp [errW_none, errW_some] <;> rfl) | (simp [*, errW_none, errW_some] <;> rfl), by (with_reducible repeat (first | apply Kd.N_alloc | apply Kd.N_drewN | apply Kd.N_drew)); exact Kd.N_mono (Kd.N_far (p := ⟨gb394, 1, none⟩) (Kd.N_far (p := ⟨gb394, 0, none⟩) (Kd.N_mono HO406.out (fun k_ hk => (⟨hk, hk.2⟩ : _ ∧ k_ ≠ gb394))) (fun _ hk => hk.2) (.string (((⟨#[99, 110, 61]⟩ : ByteArray) ++ a0) ++ (⟨#[44, 111, 61, 120]⟩ : ByteArray)))) (fun _ hk => hk.2) (.slice Ao16 y404.length co16)) (fun _ hk => hk.1.1), by repeat (first | (with_reducible first | exact HB.out | apply below_alloc | apply pw_below_drewN | apply below_drew1 | refine below_set ?_ GE394.out) | exact HB.out)⟩
  ·rw [if_neg c3] at H
   exact absurd H (by simp)
 ·rw [if_neg c2] at H
  exact absurd H (by simp)
end Go.Proofs.YthfpaoacjpjnfaaGreatDoor.P

namespace Go.Proofs.YthfpaoacjpjnfaaGreatDoor.P
open Go.RowKit Go.Proofs.YthfpaoacjpjnfaaGreatDoorW.PrintWords Go.Proofs.YthfpaoacjpjnfaaGreatDoorW.PrintLast Go.Proofs.YthfpaoacjpjnfaaGreatDoorW.PrintMore
attribute [local go_sem] max2_int min2_int max_two min_two max_three min_three max_four min_four
set_option linter.unusedVariables false
set_option linter.unusedSimpArgs false
def brooklaw7_awake.f (k : Nat)  : Option (Bool) := (eval_Eval.f k 1 (⟨#[]⟩ : ByteArray) (⟨#[]⟩ : ByteArray) ([] : List ByteArray) ([] : List (S25)) (⟨#[]⟩ : ByteArray) ([] : List (S45))).bind fun t407 => (if t407 = 1 then ((brooklaw4_Person.f (⟨#[97, 110, 110]⟩ : ByteArray)).bind fun bt408 => ((eval_Eval.f k 4 (⟨#[99, 110]⟩ : ByteArray) (⟨#[65, 78, 78]⟩ : ByteArray) ([] : List ByteArray) ([] : List (S25)) bt408.1 bt408.2).bind fun t412 => (some (t412 == 1)))) else (some false))
set_option maxHeartbeats 8000000 in
set_option maxRecDepth 100000 in
theorem brooklaw7_awake.calls (k : Nat)  (r : Bool) (w : World) (hG : Gl w) (h : brooklaw7_awake.f k  = some r) :
  Calls Tryz.prog 15 #[] w fun e w' => e = .returned (.bool r) ∧ Below w.heap.size w w' := by
 have hu25 := Tryz.underlying25
 have hu28 := Tryz.underlying28
 have HB := Aside0.mk (Below.refl w.heap.size w)
 have HG := Aside0.mk hG
 clear hG
 have H : ((eval_Eval.f k 1 (⟨#[]⟩ : ByteArray) (⟨#[]⟩ : ByteArray) ([] : List ByteArray) ([] : List (S25)) (⟨#[]⟩ : ByteArray) ([] : List (S45))).bind fun t407 => (if t407 = 1 then ((brooklaw4_Person.f (⟨#[97, 110, 110]⟩ : ByteArray)).bind fun bt408 => ((eval_Eval.f k 4 (⟨#[99, 110]⟩ : ByteArray) (⟨#[65, 78, 78]⟩ : ByteArray) ([] : List ByteArray) ([] : List (S25)) bt408.1 bt408.2).bind fun t412 => (some (t412 == 1)))) else (some false))) = some r := h
 clear h
 replace H := Option.bind_eq_some_iff.mp H
 obtain ⟨t407, A10, H⟩ := H
 replace H : (if t407 = 1 then ((brooklaw4_Person.f (⟨#[97, 110, 110]⟩ : ByteArray)).bind fun bt408 => ((eval_Eval.f k 4 (⟨#[99, 110]⟩ : ByteArray) (⟨#[65, 78, 78]⟩ : ByteArray) ([] : List ByteArray) ([] : List (S25)) bt408.1 bt408.2).bind fun t412 => (some (t412 == 1)))) else (some false)) = some r := H
 have A1 := Aside0.mk A10
 clear A10
 by_cases c2 : t407 = 1
 ·rw [if_pos c2] at H
  have c2b0 : (t407 == 1) = true := beq_iff_eq.mpr c2
  have c2b1 : (t407 != 1) = false := bne_eq_false_iff_eq.mpr c2
  clear c2
  replace H := Option.bind_eq_some_iff.mp H
  obtain ⟨⟨t408, t409⟩, A30, H⟩ := H
  replace H : ((eval_Eval.f k 4 (⟨#[99, 110]⟩ : ByteArray) (⟨#[65, 78, 78]⟩ : ByteArray) ([] : List ByteArray) ([] : List (S25)) t408 t409).bind fun t412 => (some (t412 == 1))) = some r := H
  have A3 := Aside0.mk A30
  clear A30
  replace H := Option.bind_eq_some_iff.mp H
  obtain ⟨t412, A40, H⟩ := H
  replace H : (some (t412 == 1)) = some r := H
  have A4 := Aside0.mk A40
  clear A40
  obtain rfl := Option.some.inj H
  go_enter Tryz.func15, Tryz.ntmps15
  go_wp2_with (first | ((with_reducible refine gate_callee (f := 13) rfl ?_); refine goesL_ (some 3) rfl rfl Tryz.func13 (by kernel_rfl) rfl #[.agg #[.int .i64 1, .string (⟨#[]⟩ : ByteArray), .string (⟨#[]⟩ : ByteArray), .slice none 0 0, .slice none 0 0], .agg #[.string (⟨#[]⟩ : ByteArray), .slice none 0 0]] rfl (by (try simp only [List.map_toArray, List.map_cons, List.map_nil]); first | done | rfl | (simp only [List.length_drop, List.length_take]; rfl)) ?_; (refine (eval_Eval.calls k 1 (⟨#[]⟩ : ByteArray) (⟨#[]⟩ : ByteArray) _ _ ([] : List ByteArray) _ _ ([] : List (S25)) (⟨#[]⟩ : ByteArray) _ _ ([] : List (S45)) t407 _ ?side1 ?side2 ?side3 ?side4 ?side5 ?side6 ?side7 A1.out).mono ?_); (case side1 => exact Kd.C_nil _ _); (case side2 => exact Nat.le_refl _); (case side3 => exact Kd.C_nil _ _); (case side4 => exact Nat.le_refl _); (case side5 => exact Kd.C_nil _ _); (case side6 => exact Nat.le_refl _); (case side7 => first | exact HG.out | exact Gl.drewN HG.out _ | exact Gl.below HG.out (by repeat (first | (with_reducible first | exact HB.out | apply below_alloc | apply pw_below_drewN | apply below_drew1) | exact HB.out))); rintro e w5 ⟨rfl, hb⟩; refine ⟨_, rfl, ?_⟩; have n0_ := Aside0.mk (below_step (by repeat (first | (with_reducible first | exact HB.out | apply below_alloc | apply pw_below_drewN | apply below_drew1) | exact HB.out)) hb); clear HB; have HB := n0_; clear n0_; (try clear hb); (try clear hb2); (try clear hk); (try clear hi)) | (go_at_call 29; (with_reducible refine (brooklaw4_Person.calls (⟨#[97, 110, 110]⟩ : ByteArray) t408 t409 _ A3.out).mono ?_); rintro e w6 ⟨v410, rfl, ho0, hb⟩; have n0_ := Aside0.mk (Kd.N_lower (Kd.N_mono (ok' := fun k_ => True) ho0 (fun k_ hk_ => trivial)) (below_size (by repeat (first | (with_reducible first | exact HB.out | apply below_alloc | apply pw_below_drewN | apply below_drew1) | exact HB.out)))); have n1_ := Aside0.mk (below_step (by repeat (first | (with_reducible first | exact HB.out | apply below_alloc | apply pw_below_drewN | apply below_drew1) | exact HB.out)) hb); clear HB; have HO411 := n0_; have HB := n1_; clear n0_ n1_; (try clear hb); (try clear hb2); (try clear hk); (try clear hi); (try clear ho0); obtain ⟨Ao7, co7, eo7⟩ := Kd.N_slice HO411.out; subst eo7) | (go_at_call 13; (refine (eval_Eval.calls k 4 (⟨#[99, 110]⟩ : ByteArray) (⟨#[65, 78, 78]⟩ : ByteArray) _ _ ([] : List ByteArray) _ _ ([] : List (S25)) t408 _ _ t409 t412 _ ?side1 ?side2 ?side3 ?side4 ?side5 ?side6 ?side7 A4.out).mono ?_); (case side1 => exact Kd.C_nil _ _); (case side2 => exact Nat.le_refl _); (case side3 => exact Kd.C_nil _ _); (case side4 => exact Nat.le_refl _); (case side5 => repeat (first | exact (Kd.N_reads' HO411.out).2.2 | (with_reducible refine Kd.C_alloc ?_ _) | (with_reducible refine Kd.C_drewN ?_ _) | (with_reducible refine Kd.C_drew ?_))); (case side6 => exact (Kd.N_reads' HO411.out).2.1); (case side7 => first | exact HG.out | exact Gl.drewN HG.out _ | exact Gl.below HG.out (by repeat (first | (with_reducible first | exact HB.out | apply below_alloc | apply pw_below_drewN | apply below_drew1) | exact HB.out))); rintro e w8 ⟨rfl, hb⟩; have n0_ := Aside0.mk (Kd.N_below (by (with_reducible repeat (first | apply Kd.N_alloc | apply Kd.N_drewN | apply Kd.N_drew)); exact HO411.out) hb); have n1_ := Aside0.mk (below_step (by repeat (first | (with_reducible first | exact HB.out | apply below_alloc | apply pw_below_drewN | apply below_drew1) | exact HB.out)) hb); clear HO411; clear HB; have HO411 := n0_; have HB := n1_; clear n0_ n1_; (try clear hb); (try clear hb2); (try clear hk); (try clear hi)))
  go_ret
  exact ⟨by first | rfl | (simp [errW_none, errW_some] <;> rfl) | (simp [*, errW_none, errW_some] <;> rfl), by repeat (first | (with_reducible first | exact HB.out | apply below_alloc | apply pw_below_drewN | apply below_drew1) | exact HB.out)⟩
 ·rw [if_neg c2] at H
  have c2b0 : (t407 == 1) = false := beq_eq_false_iff_ne.mpr c2
  have c2b1 : (t407 != 1) = true := bne_iff_ne.mpr c2
  obtain rfl := Option.some.inj H
  go_enter Tryz.func15, Tryz.ntmps15
  go_wp2_with (first | ((with_reducible refine gate_callee (f := 13) rfl ?_); refine goesL_ (some 3) rfl rfl Tryz.func13 (by kernel_rfl) rfl #[.agg #[.int .i64 1, .string (⟨#[]⟩ : ByteArray), .string (⟨#[]⟩ : ByteArray), .slice none 0 0, .slice none 0 0], .agg #[.string (⟨#[]⟩ : ByteArray), .slice none 0 0]] rfl (by (try simp only [List.map_toArray, List.map_cons, List.map_nil]); first | done | rfl | (simp only [List.length_drop, List.length_take]; rfl)) ?_; (refine (eval_Eval.calls k 1 (⟨#[]⟩ : ByteArray) (⟨#[]⟩ : ByteArray) _ _ ([] : List ByteArray) _ _ ([] : List (S25)) (⟨#[]⟩ : ByteArray) _ _ ([] : List (S45)) t407 _ ?side1 ?side2 ?side3 ?side4 ?side5 ?side6 ?side7 A1.out).mono ?_); (case side1 => exact Kd.C_nil _ _); (case side2 => exact Nat.le_refl _); (case side3 => exact Kd.C_nil _ _); (case side4 => exact Nat.le_refl _); (case side5 => exact Kd.C_nil _ _); (case side6 => exact Nat.le_refl _); (case side7 => first | exact HG.out | exact Gl.drewN HG.out _ | exact Gl.below HG.out (by repeat (first | (with_reducible first | exact HB.out | apply below_alloc | apply pw_below_drewN | apply below_drew1) | exact HB.out))); rintro e w9 ⟨rfl, hb⟩; refine ⟨_, rfl, ?_⟩; have n0_ := Aside0.mk (below_step (by repeat (first | (with_reducible first | exact HB.out | apply below_alloc | apply pw_below_drewN | apply below_drew1) | exact HB.out)) hb); clear HB; have HB := n0_; clear n0_; (try clear hb); (try clear hb2); (try clear hk); (try clear hi)))
  go_ret
  exact ⟨by first | rfl | (simp [errW_none, errW_some] <;> rfl) | (simp [*, errW_none, errW_some] <;> rfl), by repeat (first | (with_reducible first | exact HB.out | apply below_alloc | apply pw_below_drewN | apply below_drew1) | exact HB.out)⟩
end Go.Proofs.YthfpaoacjpjnfaaGreatDoor.P

namespace Go.Proofs.YthfpaoacjpjnfaaGreatDoor.P
open Go.RowKit Go.Proofs.YthfpaoacjpjnfaaGreatDoorW.PrintWords Go.Proofs.YthfpaoacjpjnfaaGreatDoorW.PrintLast Go.Proofs.YthfpaoacjpjnfaaGreatDoorW.PrintMore
attribute [local go_sem] max2_int min2_int max_two min_two max_three min_three max_four min_four
set_option linter.unusedVariables false
set_option linter.unusedSimpArgs false
theorem bytes_gtr : ∀ a b : List UInt8, (!(Op.bytesLess a b || a == b)) = Op.bytesLess b a
 | [], [] => rfl
 | [], y :: ys => rfl
 | x :: xs, [] => rfl
 | x :: xs, y :: ys => by
  have ih := bytes_gtr xs ys
  have hxy : (x :: xs == y :: ys) = (x == y && xs == ys) := rfl
  rw [hxy]
  unfold Op.bytesLess
  by_cases h1 : x < y
  ·have h2 : ¬ y < x := by rw [UInt8.lt_iff_toNat_lt] at *; omega
   have h3 : (x == y) = false := beq_eq_false_iff_ne.2 (fun e => by rw [e, UInt8.lt_iff_toNat_lt] at h1; omega)
   have h4 : (y == x) = false := beq_eq_false_iff_ne.2 (fun e => by rw [e, UInt8.lt_iff_toNat_lt] at h1; omega)
   simp [h1, h2, h3, h4]
  ·by_cases h2 : y < x
   ·have h3 : (x == y) = false := beq_eq_false_iff_ne.2 (fun e => by rw [e, UInt8.lt_iff_toNat_lt] at h2; omega)
    have h4 : (y == x) = false := beq_eq_false_iff_ne.2 (fun e => by rw [e, UInt8.lt_iff_toNat_lt] at h2; omega)
    simp [h1, h2, h3, h4]
   ·have e : x = y := UInt8.toNat_inj.1 (by rw [UInt8.lt_iff_toNat_lt] at h1 h2; omega)
    subst e
    simpa [h1] using ih
theorem binOp_gtr_less (t : TypeId) (a b : ByteArray) : binOp .gtr t (.string a) (.string b) = pure (.bool (Op.bytesLess b.toList a.toList)) := by rw [← bytes_gtr]; simp [binOp, Op.stringOp]
attribute [local go_sem] binOp_gtr_less
end Go.Proofs.YthfpaoacjpjnfaaGreatDoor.P


namespace Go.Proofs.YthfpaoacjpjnfaaGreatDoor.P
open Go.RowKit Go.Proofs.YthfpaoacjpjnfaaGreatDoorW.PrintWords Go.Proofs.YthfpaoacjpjnfaaGreatDoorW.PrintLast Go.Proofs.YthfpaoacjpjnfaaGreatDoorW.PrintMore
set_option linter.unusedVariables false
set_option linter.unusedSimpArgs false
theorem contains_nil (a : Int) : Ev (fun k => slices_Contains_int_int.f k [] a) false := by
  unfold slices_Contains_int_int.f slices_Index_int_int.f
  refine Ev.bind (a := -1) (Ev.step (fun k => by rw [slices_Index_int_int.l0]) (Ev.ifn (c := (0 : Int) < (([] : List Int).length : Int)) (by decide) (Ev.now _))) (Ev.now _)
theorem eval_all_nil (a0 : ByteArray) (l1 : List S45) : Ev (fun k => eval_Eval.f k 1 (⟨#[]⟩ : ByteArray) (⟨#[]⟩ : ByteArray) [] [] a0 l1) 1 := by
  unfold eval_Eval.f
  have hm : filter_May.f 1 (⟨#[]⟩ : ByteArray) (⟨#[]⟩ : ByteArray) [] [] = some true := by
    unfold filter_May.f
    rw [if_pos (show szF 12 ⟨1, ⟨#[]⟩, ⟨#[]⟩, [], []⟩ from ⟨fun i hi => absurd hi (Nat.not_lt_zero _), fun x hx => by cases hx⟩)]
    congr 1
    unfold mayD mayG bareB
    dsimp only
    rw [if_pos (.inl rfl)]
    decide +kernel
  rw [hm]
  refine Ev.bs (Ev.congr (fun k => if_pos rfl) ?_)
  suffices h : Ev (fun k => eval_eval.f k 1 (⟨#[]⟩ : ByteArray) (⟨#[]⟩ : ByteArray) [] [] a0 l1) 1 from h.bind (Ev.now _)
  refine Ev.step (fun k => by rw [eval_eval.f]) (Ev.step (fun k => by rw [eval_eval.l0]) ?_)
  refine Ev.ifn (c := (0 : Int) < (([] : List S25).length : Int)) (by decide) (Ev.ifp (c := (1 : Int) = 1) rfl ?_)
  unfold eval_first.f
  refine Ev.bind (a := 1) ((contains_nil 0).bind (Ev.congr (fun k => if_neg (by decide)) ((contains_nil 2).bind (Ev.congr (fun k => if_neg (by decide)) (Ev.now _))))) (Ev.now _)
theorem awake7_ev : Ev (fun k => brooklaw7_awake.f k) true := by
  unfold brooklaw7_awake.f
  refine (eval_all_nil (⟨#[]⟩ : ByteArray) []).bind (Ev.congr (fun k => if_pos rfl) ?_)
  have hp : brooklaw4_Person.f (⟨#[97, 110, 110]⟩ : ByteArray) = some ((((⟨#[99, 110, 61]⟩ : ByteArray) ++ ⟨#[97, 110, 110]⟩) ++ (⟨#[44, 111, 61, 120]⟩ : ByteArray)), ([(⟨(⟨#[99, 110]⟩ : ByteArray), (([(⟨#[97, 110, 110]⟩ : ByteArray)] : List ByteArray))⟩ : S45), (⟨(⟨#[111, 98, 106, 101, 99, 116, 99, 108, 97, 115, 115]⟩ : ByteArray), (([(⟨#[112, 101, 114, 115, 111, 110]⟩ : ByteArray)] : List ByteArray))⟩ : S45), (⟨(⟨#[115, 110]⟩ : ByteArray), (([(⟨#[115]⟩ : ByteArray)] : List ByteArray))⟩ : S45)])) := by
    unfold brooklaw4_Person.f
    rw [if_pos (by decide), if_pos (by decide)]
  rw [hp]
  refine Ev.bs ?_
  have h := eval_leaf 4 (⟨#[99, 110]⟩ : ByteArray) (⟨#[65, 78, 78]⟩ : ByteArray) (((⟨#[99, 110, 61]⟩ : ByteArray) ++ ⟨#[97, 110, 110]⟩) ++ (⟨#[44, 111, 61, 120]⟩ : ByteArray)) ([(⟨(⟨#[99, 110]⟩ : ByteArray), (([(⟨#[97, 110, 110]⟩ : ByteArray)] : List ByteArray))⟩ : S45), (⟨(⟨#[111, 98, 106, 101, 99, 116, 99, 108, 97, 115, 115]⟩ : ByteArray), (([(⟨#[112, 101, 114, 115, 111, 110]⟩ : ByteArray)] : List ByteArray))⟩ : S45), (⟨(⟨#[115, 110]⟩ : ByteArray), (([(⟨#[115]⟩ : ByteArray)] : List ByteArray))⟩ : S45)]) [(⟨#[97, 110, 110]⟩ : ByteArray)] (.inl rfl) (by decide +kernel) (by decide) (by decide) (by decide +kernel) (by decide +kernel) (by decide)
  rw [show leafT 4 (⟨#[99, 110]⟩ : ByteArray) (⟨#[65, 78, 78]⟩ : ByteArray) [(⟨#[97, 110, 110]⟩ : ByteArray)] = 1 by decide +kernel] at h
  exact h.bind (Ev.now _)
theorem one_app (c : UInt8) (l : List UInt8) : (⟨#[c]⟩ : ByteArray) ++ mk l = mk (c :: l) := by apply ba_ext; rw [append_data, mk_data, mk_data]; rfl
end Go.Proofs.YthfpaoacjpjnfaaGreatDoor.P

namespace Go.Proofs.YthfpaoacjpjnfaaGreatDoor.P
open Go.RowKit Go.Proofs.YthfpaoacjpjnfaaGreatDoorW.PrintWords Go.Proofs.YthfpaoacjpjnfaaGreatDoorW.PrintLast Go.Proofs.YthfpaoacjpjnfaaGreatDoorW.PrintMore
attribute [local go_sem] max2_int min2_int max_two min_two max_three min_three max_four min_four
set_option linter.unusedVariables false
set_option linter.unusedSimpArgs false
def brooklaw7_sub.f (k : Nat) (a0_0 : ByteArray) (l0_1 : List (S45)) (l1 : List ByteArray) : Option (Int) := (eval_Eval.f k 5 (⟨#[67, 78]⟩ : ByteArray) (⟨#[]⟩ : ByteArray) l1 ([] : List (S25)) a0_0 l0_1).bind fun t541 => (some t541)
set_option maxHeartbeats 8000000 in
set_option maxRecDepth 100000 in
theorem brooklaw7_sub.calls (k : Nat) (a0_0 : ByteArray) (A0_1 : Option Addr) (c0_1 : Nat) (l0_1 : List (S45)) (A1 : Option Addr) (c1 : Nat) (l1 : List ByteArray) (r : Int) (w : World) (hr0_1 : Kd.C k45 w A0_1 l0_1.length l0_1) (hc0_1 : l0_1.length ≤ c0_1) (hr1 : Kd.C Kd.string w A1 l1.length l1) (hc1 : l1.length ≤ c1) (hG : Gl w) (h : brooklaw7_sub.f k a0_0 l0_1 l1 = some r) :
  Calls Tryz.prog 22 #[.agg #[.string a0_0, .slice A0_1 l0_1.length c0_1], .slice A1 l1.length c1] w fun e w' => e = .returned (.int .i64 r) ∧ Below w.heap.size w w' := by
 have hu28 := Tryz.underlying28
 have hu25 := Tryz.underlying25
 have HR0_1 := Aside0.mk hr0_1
 have HC0_1 := Aside0.mk hc0_1
 clear hr0_1 hc0_1
 have HR1 := Aside0.mk hr1
 have HC1 := Aside0.mk hc1
 clear hr1 hc1
 have HB := Aside0.mk (Below.refl w.heap.size w)
 have HG := Aside0.mk hG
 clear hG
 have H : ((eval_Eval.f k 5 (⟨#[67, 78]⟩ : ByteArray) (⟨#[]⟩ : ByteArray) l1 ([] : List (S25)) a0_0 l0_1).bind fun t541 => (some t541)) = some r := h
 clear h
 replace H := Option.bind_eq_some_iff.mp H
 obtain ⟨t541, A30, H⟩ := H
 replace H : (some t541) = some r := H
 have A3 := Aside0.mk A30
 clear A30
 obtain rfl := Option.some.inj H
 go_enter Tryz.func22, Tryz.ntmps22
 go_wp2_with (first | ((with_reducible refine gate_dst (N := 2) rfl ?_); refine box_event ?hg (N := 2) ?hd (cs := #[.string a0_0, .slice A0_1 l0_1.length c0_1]) (t := 28) ?hr ?_; (case hd => rfl); (case hg => rfl); (case hr => first | (go_simp; done) | (go_simp; rfl)); intro gb540 hg w4 hbox hb; have n0_ := Aside0.mk (below_step (by repeat (first | (with_reducible first | exact HB.out | apply below_alloc | apply pw_below_drewN | apply below_drew1) | exact HB.out)) hb); have n1_ := Aside0.mk (hbox); have n2_ := Aside0.mk ((by rw [hg]; exact (below_size (by repeat (first | (with_reducible first | exact HB.out | apply below_alloc | apply pw_below_drewN | apply below_drew1) | exact HB.out))) : w.heap.size ≤ gb540)); have n3_ := Aside0.mk ((by rw [hg]; exact (below_size (by repeat (first | (with_reducible first | exact HB.out | apply below_alloc | apply pw_below_drewN | apply below_drew1) | exact HB.out))) : w.heap.size ≤ gb540)); clear HB; have HB := n0_; have BK540 := n1_; have GW540 := n2_; have GE540 := n3_; clear n0_ n1_ n2_ n3_; clear hb hbox hg; have hcz5_0 : w4.cell? ⟨gb540, 0, none⟩ = some (.string a0_0) := (blk_cell BK540.out 0).trans rfl; have hcz5_1 : w4.cell? ⟨gb540, 1, none⟩ = some (.slice A0_1 l0_1.length c0_1) := (blk_cell BK540.out 1).trans rfl; have hfz5_0 := blk_frozen BK540.out 0; have hfz5_1 := blk_frozen BK540.out 1) | ((with_reducible refine gate_callee (f := 13) rfl ?_); refine goesL_ (some 8) rfl rfl Tryz.func13 (by kernel_rfl) rfl #[.agg #[.int .i64 5, .string (⟨#[67, 78]⟩ : ByteArray), .string (⟨#[]⟩ : ByteArray), .slice A1 l1.length c1, .slice none 0 0], .agg #[.string a0_0, .slice A0_1 l0_1.length c0_1]] rfl (by (try simp only [List.map_toArray, List.map_cons, List.map_nil]); first | done | rfl | (simp only [List.length_drop, List.length_take]; rfl)) ?_; (refine (eval_Eval.calls k 5 (⟨#[67, 78]⟩ : ByteArray) (⟨#[]⟩ : ByteArray) _ _ l1 _ _ ([] : List (S25)) a0_0 _ _ l0_1 t541 _ ?side1 ?side2 ?side3 ?side4 ?side5 ?side6 ?side7 A3.out).mono ?_); (case side1 => repeat (first | exact (Kd.C_below HR1.out HB.out) | (with_reducible refine Kd.C_alloc ?_ _) | (with_reducible refine Kd.C_drewN ?_ _) | (with_reducible refine Kd.C_drew ?_))); (case side2 => exact HC1.out); (case side3 => exact Kd.C_nil _ _); (case side4 => exact Nat.le_refl _); (case side5 => repeat (first | exact (Kd.C_below HR0_1.out HB.out) | (with_reducible refine Kd.C_alloc ?_ _) | (with_reducible refine Kd.C_drewN ?_ _) | (with_reducible refine Kd.C_drew ?_))); (case side6 => exact HC0_1.out); (case side7 => first | exact HG.out | exact Gl.drewN HG.out _ | exact Gl.below HG.out (by repeat (first | (with_reducible first | exact HB.out | apply below_alloc | apply pw_below_drewN | apply below_drew1 | refine below_set ?_ GE540.out) | exact HB.out))); rintro e w6 ⟨rfl, hb⟩; refine ⟨_, rfl, ?_⟩; have n0_ := Aside0.mk (blk_below (g := gb540) (o := .cells #[.string a0_0, .slice A0_1 l0_1.length c0_1] 28 (0, 0)) (by (with_reducible repeat (first | refine blk_drewN ?_ _ | refine blk_drew ?_ | refine blk_alloc ?_ _)); exact BK540.out) hb); have n1_ := Aside0.mk (below_step (by repeat (first | (with_reducible first | exact HB.out | apply below_alloc | apply pw_below_drewN | apply below_drew1 | refine below_set ?_ GE540.out) | exact HB.out)) hb); clear BK540; clear HB; have BK540 := n0_; have HB := n1_; clear n0_ n1_; (try clear hb); (try clear hb2); (try clear hk); (try clear hi)))
 go_ret
 exact ⟨by first | rfl | (simp [errW_none, errW_some] <;> rfl) | (simp [*, errW_none, errW_some] <;> rfl), by repeat (first | (with_reducible first | exact HB.out | apply below_alloc | apply pw_below_drewN | apply below_drew1 | refine below_set ?_ GE540.out) | exact HB.out)⟩
end Go.Proofs.YthfpaoacjpjnfaaGreatDoor.P
