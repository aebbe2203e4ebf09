/- Part 5 of 6 of the proof. See the last part. -/
import Derived.Test.YtjicpomcfelobaaDoorMNumbers4
import Derived.Shelf.Strings.Builder1
import Derived.Lib.OthersKept
import Derived.StillTailTactics
namespace Go.Proofs.YtjicpomcfelobaaDoor.P
open Go.RowKit Go.Proofs.YtjicpomcfelobaaDoorW.PrintWords Go.Proofs.YtjicpomcfelobaaDoorW.PrintLast Go.Proofs.YtjicpomcfelobaaDoorW.PrintMore
attribute [local go_sem] max2_int min2_int max_two min_two max_three min_three max_four min_four
set_option linter.unusedVariables false
set_option linter.unusedSimpArgs false

/-! ### dn_Parse: function 24 -/
mutual
def dn_Parse.l0 : Nat → ByteArray → List (S51) → Bool → Option ((List (S51)) × Bool)
  | 0, _, _, _ => none
  | k + 1, x0, x4, x5 => if x5 = true then ((strings_Cut.f x0 (⟨#[61]⟩ : ByteArray)).bind fun bt130 => (if bt130.2.2 = true then ((dn_typed.f bt130.1).bind fun t133 => (if t133 = true then (dn_Parse.j1 k x4 bt130.1 bt130.2.1 ((x4.length : Int) == 8)) else (dn_Parse.j1 k x4 bt130.1 bt130.2.1 true))) else (dn_Parse.j1 k x4 bt130.1 bt130.2.1 true))) else ((dn_May.f k x4).bind fun t129 => (if t129 = true then (some (x4, true)) else (some (([] : List (S51)), false))))
def dn_Parse.j1 : Nat → List (S51) → ByteArray → ByteArray → Bool → Option ((List (S51)) × Bool)
  | 0, _, _, _, _ => none
  | k + 1, x4, x6, x7, x30 => if x30 = true then (some (([] : List (S51)), false)) else ((dn_value.f k x7).bind fun bt135 => (if bt135.2.2 = true then (if x4.length < 4398046511104 then ((some (x4 ++ [(⟨x6, bt135.1⟩ : S51)] : List (S51))).bind fun y138 => (if bt135.2.1.toList = ([] : List UInt8) then (dn_Parse.l0 k bt135.2.1 y138 (bt135.2.1.toList != ([] : List UInt8))) else (if 1 ≤ (bt135.2.1.size : Int) then (dn_Parse.l0 k (bt135.2.1.extract 1 bt135.2.1.size) y138 (bt135.2.1.toList != ([] : List UInt8))) else (none)))) else (none)) else (some (([] : List (S51)), false))))
end
def dn_Parse.f (k : Nat) (a0 : ByteArray) : Option ((List (S51)) × Bool) := dn_Parse.l0 k a0 ([] : List (S51)) (a0.toList != ([] : List UInt8))
theorem dn_Parse.mono_l : ∀ k, (∀ y0 y1 y2, LeO (dn_Parse.l0 k y0 y1 y2) (dn_Parse.l0 (k + 1) y0 y1 y2)) ∧ (∀ y0 y1 y2 y3, LeO (dn_Parse.j1 k y0 y1 y2 y3) (dn_Parse.j1 (k + 1) y0 y1 y2 y3))
  | 0 => ⟨fun _ _ _ r h => by simp [dn_Parse.l0] at h, fun _ _ _ _ r h => by simp [dn_Parse.j1] at h⟩
  | k + 1 => by
    obtain ⟨ih0, ih1⟩ := dn_Parse.mono_l k
    refine ⟨?_, ?_⟩
    · intro y0 y1 y2
      unfold dn_Parse.l0
      repeat' first
      | (with_reducible exact ih0 _ _ _)
      | (with_reducible exact ih1 _ _ _ _)
      | (with_reducible exact dn_May.mono _ _)
      | (with_reducible exact dn_value.mono _ _)
      | (with_reducible exact LeO.refl _)
      | (with_reducible exact LeO.none _)
      | (with_reducible refine LeO.ite ?_ ?_)
      | (with_reducible refine LeO.bind ?_ (fun _ => ?_))
      | exact ih0 _ _ _
      | exact ih1 _ _ _ _
      | exact dn_May.mono _ _
      | exact dn_value.mono _ _
      | exact LeO.none _
      | refine LeO.ite ?_ ?_
      | refine LeO.bind ?_ (fun _ => ?_)
    · intro y0 y1 y2 y3
      unfold dn_Parse.j1
      repeat' first
      | (with_reducible exact ih0 _ _ _)
      | (with_reducible exact ih1 _ _ _ _)
      | (with_reducible exact dn_May.mono _ _)
      | (with_reducible exact dn_value.mono _ _)
      | (with_reducible exact LeO.refl _)
      | (with_reducible exact LeO.none _)
      | (with_reducible refine LeO.ite ?_ ?_)
      | (with_reducible refine LeO.bind ?_ (fun _ => ?_))
      | exact ih0 _ _ _
      | exact ih1 _ _ _ _
      | exact dn_May.mono _ _
      | exact dn_value.mono _ _
      | exact LeO.none _
      | refine LeO.ite ?_ ?_
      | refine LeO.bind ?_ (fun _ => ?_)
theorem dn_Parse.mono : ∀ a0 k, LeO (dn_Parse.f k a0) (dn_Parse.f (k + 1) a0) := by
  intro a0 k
  obtain ⟨ih0, ih1⟩ := dn_Parse.mono_l k
  unfold dn_Parse.f
  repeat' first
      | (with_reducible exact ih0 _ _ _)
      | (with_reducible exact ih1 _ _ _ _)
      | (with_reducible exact dn_May.mono _ _)
      | (with_reducible exact dn_value.mono _ _)
      | (with_reducible exact LeO.refl _)
      | (with_reducible exact LeO.none _)
      | (with_reducible refine LeO.ite ?_ ?_)
      | (with_reducible refine LeO.bind ?_ (fun _ => ?_))
      | exact ih0 _ _ _
      | exact ih1 _ _ _ _
      | exact dn_May.mono _ _
      | exact dn_value.mono _ _
      | exact LeO.none _
      | refine LeO.ite ?_ ?_
      | refine LeO.bind ?_ (fun _ => ?_)
set_option maxHeartbeats 8000000 in
set_option maxRecDepth 100000 in
theorem dn_Parse.calls (k : Nat) (a0 : ByteArray) (r1 : List (S51)) (r2 : Bool) (w : World) (hG : Gl w) (h : dn_Parse.f k a0 = some (r1, r2)) :
    Calls Tryd.prog 24 #[.string a0] w fun e w' => ∃ v0_ : Value, e = .returned (.tuple #[v0_, .bool r2]) ∧ Kd.R k51 51 w' w.heap.size (fun _ => True) v0_ r1 ∧ Below w.heap.size w w' := by
  have hu51 := Tryd.underlying51
  have HB := Aside0.mk (Below.refl w.heap.size w)
  have HG := Aside0.mk hG
  clear hG
  have H : (dn_Parse.l0 k a0 ([] : List (S51)) (a0.toList != ([] : List UInt8))) = some (r1, r2) := h
  clear h
  have H' := Aside0.mk H
  clear H
  go_enter Tryd.func24, Tryd.ntmps24
  go_wp2
  go_loopg [0, 4, 5] k (fun kq v0 v4 v5 w' => ∃ (x0_1 : ByteArray) (x4_1 : List (S51)) (x5_1 : Bool), v0 = .string x0_1 ∧ v5 = .bool x5_1 ∧ Aside0 (dn_Parse.l0 kq x0_1 x4_1 x5_1 = some (r1, r2)) ∧ Aside0 (kq ≤ k) ∧ Aside0 (Kd.R k51 51 w' w.heap.size (fun _ => True) v4 x4_1) ∧ Aside0 (Below w.heap.size w w'))
  case atStart => exact ⟨(a0), (([] : List (S51))), ((a0.toList != ([] : List UInt8))), (by first | rfl | (simp; done) | (simp [*]; done) | (simp [*, i64_w, i32_w, u8_w]; done) | (simp only [bneNil, beqNil]; done) | (simp only [bneNil, beqNil]; simp; done) | (simp only [bneNil, beqNil]; simp [*]; done)), (by first | rfl | (simp; done) | (simp [*]; done) | (simp [*, i64_w, i32_w, u8_w]; done) | (simp only [bneNil, beqNil]; done) | (simp only [bneNil, beqNil]; simp; done) | (simp only [bneNil, beqNil]; simp [*]; done)), H', ⟨Nat.le_refl _⟩, ⟨by first | exact Kd.R_nil _ _ _ _ _ | exact Kd.N_nil _ _ _ _ _ | exact Kd.V_nil _ _ _ _ _ | exact Kd.Q_nil _ _ _ _ _ | exact Kd.S_nil _ _ _ _ _⟩, ⟨by repeat (first | (with_reducible first | exact HB.out | apply below_alloc | apply pw_below_drewN | apply below_drew1) | exact HB.out)⟩⟩
  case round =>
    clear H'
    obtain ⟨x0_1, x4_1, x5_1, rfl, rfl, HA, HK1, HO_4, HB⟩ := hrel
    cases gk with
    | zero => exact absurd HA.out (by simp [dn_Parse.l0])
    | succ k1 =>
      have H := HA.out
      clear HA
      simp only [dn_Parse.l0] at H
      by_cases c2 : x5_1 = true
      · subst c2
        have H1 : ((strings_Cut.f x0_1 (⟨#[61]⟩ : ByteArray)).bind fun bt130 => (if bt130.2.2 = true then ((dn_typed.f bt130.1).bind fun t133 => (if t133 = true then (dn_Parse.j1 k1 x4_1 bt130.1 bt130.2.1 ((x4_1.length : Int) == 8)) else (dn_Parse.j1 k1 x4_1 bt130.1 bt130.2.1 true))) else (dn_Parse.j1 k1 x4_1 bt130.1 bt130.2.1 true))) = some (r1, r2) := by rw [if_pos rfl] at H; exact H
        clear H
        have H := H1
        clear H1
        replace H := Option.bind_eq_some_iff.mp H
        obtain ⟨⟨t130, t131, t132⟩, A30, H⟩ := H
        replace H : (if t132 = true then ((dn_typed.f t130).bind fun t133 => (if t133 = true then (dn_Parse.j1 k1 x4_1 t130 t131 ((x4_1.length : Int) == 8)) else (dn_Parse.j1 k1 x4_1 t130 t131 true))) else (dn_Parse.j1 k1 x4_1 t130 t131 true)) = some (r1, r2) := H
        have A3 := Aside0.mk A30
        clear A30
        have HC4 := Aside0.mk H
        clear H
        go_upto_region 5 with (first | ((with_reducible refine gate_callee (f := 38) rfl ?_); refine goesL_ (some 15) rfl rfl Tryd.func38 (by kernel_rfl) rfl #[.string x0_1, .string (⟨#[61]⟩ : ByteArray)] rfl (by (try simp only [List.map_toArray, List.map_cons, List.map_nil]); first | done | rfl | (simp only [List.length_drop, List.length_take]; rfl)) ?_; (with_reducible refine (strings_Cut.calls x0_1 (⟨#[61]⟩ : ByteArray) t130 t131 t132 _ ?side1 A3.out).mono ?_); (case side1 => first | exact HG.out | exact Gl.drewN HG.out _ | exact Gl.below HG.out (by repeat (first | (with_reducible first | exact HB.out | apply below_alloc | apply pw_below_drewN | apply below_drew1) | exact HB.out))); rintro e w' ⟨rfl, ⟨nd, rfl⟩⟩; refine ⟨_, rfl, ?_⟩))
        (try simp only [Act.put, List.setIfInBounds_toArray, List.set_cons_zero, List.set_cons_succ])
        go_cut [30] (fun v30 wc => ∃ (kq : Nat) (x30_3 : Bool), v30 = .bool x30_3 ∧ Aside0 (dn_Parse.j1 kq x4_1 t130 t131 x30_3 = some (r1, r2)) ∧ Aside0 (kq ≤ k1) ∧ Aside0 (Kd.R k51 51 wc w.heap.size (fun _ => True) u4 x4_1) ∧ Aside0 (Below w.heap.size w wc))
        case first =>
          have H := HC4.out
          clear HC4
          by_cases c5 : t132 = true
          · subst c5
            have H1 : ((dn_typed.f t130).bind fun t133 => (if t133 = true then (dn_Parse.j1 k1 x4_1 t130 t131 ((x4_1.length : Int) == 8)) else (dn_Parse.j1 k1 x4_1 t130 t131 true))) = some (r1, r2) := by rw [if_pos rfl] at H; exact H
            clear H
            have H := H1
            clear H1
            replace H := Option.bind_eq_some_iff.mp H
            obtain ⟨t133, A60, H⟩ := H
            replace H : (if t133 = true then (dn_Parse.j1 k1 x4_1 t130 t131 ((x4_1.length : Int) == 8)) else (dn_Parse.j1 k1 x4_1 t130 t131 true)) = some (r1, r2) := H
            have A6 := Aside0.mk A60
            clear A60
            by_cases c7 : t133 = true
            · subst c7
              have H1 : (dn_Parse.j1 k1 x4_1 t130 t131 ((x4_1.length : Int) == 8)) = some (r1, r2) := by rw [if_pos rfl] at H; exact H
              clear H
              have H := H1
              clear H1
              have H' := Aside0.mk H
              clear H
              go_wp2_with (first | (go_at_call 39; (with_reducible refine (dn_typed.calls t130 true _ A6.out).mono ?_); rintro e w8 ⟨rfl, hb⟩; have n0_ := Aside0.mk (Kd.R_below (by (with_reducible repeat (first | apply Kd.R_alloc | apply Kd.R_drewN | apply Kd.R_drew)); exact HO_4.out) hb); have n1_ := Aside0.mk (below_step (by repeat (first | (with_reducible first | exact HB.out | apply below_alloc | apply pw_below_drewN | apply below_drew1) | exact HB.out)) hb); clear HO_4; clear HB; have HO_4 := n0_; have HB := n1_; clear n0_ n1_; (try clear hb); (try clear hb2); (try clear hk); (try clear hi); obtain ⟨Ao9, co9, eo9⟩ := Kd.R_slice HO_4.out; subst eo9))
              go_meet
              case rel => exact ⟨_, (((x4_1.length : Int) == 8)), (by first | rfl | (simp; done) | (simp [*]; done) | (simp [*, i64_w, i32_w, u8_w]; done) | (simp only [bneNil, beqNil]; done) | (simp only [bneNil, beqNil]; simp; done) | (simp only [bneNil, beqNil]; simp [*]; done)), H', ⟨by have := HK1.out; first | omega | exact Nat.le_refl _⟩, ⟨by (with_reducible repeat (first | apply Kd.R_alloc | apply Kd.R_drewN | apply Kd.R_drew)); exact HO_4.out⟩, ⟨by repeat (first | (with_reducible first | exact HB.out | apply below_alloc | apply pw_below_drewN | apply below_drew1) | exact HB.out)⟩⟩
            · replace c7 := Bool.eq_false_iff.mpr c7
              subst c7
              have H1 : (dn_Parse.j1 k1 x4_1 t130 t131 true) = some (r1, r2) := by rw [if_neg (show ¬ (false = true) by decide)] at H; exact H
              clear H
              have H := H1
              clear H1
              have H' := Aside0.mk H
              clear H
              go_wp2_with (first | (go_at_call 39; (with_reducible refine (dn_typed.calls t130 false _ A6.out).mono ?_); rintro e w10 ⟨rfl, hb⟩; have n0_ := Aside0.mk (Kd.R_below (by (with_reducible repeat (first | apply Kd.R_alloc | apply Kd.R_drewN | apply Kd.R_drew)); exact HO_4.out) hb); have n1_ := Aside0.mk (below_step (by repeat (first | (with_reducible first | exact HB.out | apply below_alloc | apply pw_below_drewN | apply below_drew1) | exact HB.out)) hb); clear HO_4; clear HB; have HO_4 := n0_; have HB := n1_; clear n0_ n1_; (try clear hb); (try clear hb2); (try clear hk); (try clear hi)))
              go_meet
              case rel => exact ⟨_, (true), (by first | rfl | (simp; done) | (simp [*]; done) | (simp [*, i64_w, i32_w, u8_w]; done) | (simp only [bneNil, beqNil]; done) | (simp only [bneNil, beqNil]; simp; done) | (simp only [bneNil, beqNil]; simp [*]; done)), H', ⟨by have := HK1.out; first | omega | exact Nat.le_refl _⟩, ⟨by (with_reducible repeat (first | apply Kd.R_alloc | apply Kd.R_drewN | apply Kd.R_drew)); exact HO_4.out⟩, ⟨by repeat (first | (with_reducible first | exact HB.out | apply below_alloc | apply pw_below_drewN | apply below_drew1) | exact HB.out)⟩⟩
          · replace c5 := Bool.eq_false_iff.mpr c5
            subst c5
            have H1 : (dn_Parse.j1 k1 x4_1 t130 t131 true) = some (r1, r2) := by rw [if_neg (show ¬ (false = true) by decide)] at H; exact H
            clear H
            have H := H1
            clear H1
            have H' := Aside0.mk H
            clear H
            go_wp2
            go_meet
            case rel => exact ⟨_, (true), (by first | rfl | (simp; done) | (simp [*]; done) | (simp [*, i64_w, i32_w, u8_w]; done) | (simp only [bneNil, beqNil]; done) | (simp only [bneNil, beqNil]; simp; done) | (simp only [bneNil, beqNil]; simp [*]; done)), H', ⟨by have := HK1.out; first | omega | exact Nat.le_refl _⟩, ⟨by (with_reducible repeat (first | apply Kd.R_alloc | apply Kd.R_drewN | apply Kd.R_drew)); exact HO_4.out⟩, ⟨by repeat (first | (with_reducible first | exact HB.out | apply below_alloc | apply pw_below_drewN | apply below_drew1) | exact HB.out)⟩⟩
        case rest =>
          clear HC4
          try clear c2
          try clear p2
          try clear c3
          try clear c5
          try clear c7
          obtain ⟨kq, x30_3, rfl, HA, HJ3, HO_4, HB⟩ := hcut
          cases kq with
          | zero => exact absurd HA.out (by simp [dn_Parse.j1])
          | succ kj3 =>
            have H := HA.out
            clear HA
            simp only [dn_Parse.j1] at H
            by_cases c11 : x30_3 = true
            · subst c11
              have H1 : (some (([] : List (S51)), false)) = some (r1, r2) := by rw [if_pos rfl] at H; exact H
              clear H
              have H := H1
              clear H1
              simp only [Option.some.injEq, Prod.mk.injEq] at H
              obtain ⟨rfl, rfl⟩ := H
              go_wp2
              go_ret2
              exact ⟨_, by first | rfl | (simp [errW_none, errW_some] <;> rfl) | (simp [*, errW_none, errW_some] <;> rfl), by first | exact Kd.R_nil _ _ _ _ _ | exact Kd.N_nil _ _ _ _ _ | exact Kd.V_nil _ _ _ _ _ | exact Kd.Q_nil _ _ _ _ _ | exact Kd.S_nil _ _ _ _ _, by repeat (first | (with_reducible first | exact HB.out | apply below_alloc | apply pw_below_drewN | apply below_drew1) | exact HB.out)⟩
            · replace c11 := Bool.eq_false_iff.mpr c11
              subst c11
              have H1 : ((dn_value.f kj3 t131).bind fun bt135 => (if bt135.2.2 = true then (if x4_1.length < 4398046511104 then ((some (x4_1 ++ [(⟨t130, bt135.1⟩ : S51)] : List (S51))).bind fun y138 => (if bt135.2.1.toList = ([] : List UInt8) then (dn_Parse.l0 kj3 bt135.2.1 y138 (bt135.2.1.toList != ([] : List UInt8))) else (if 1 ≤ (bt135.2.1.size : Int) then (dn_Parse.l0 kj3 (bt135.2.1.extract 1 bt135.2.1.size) y138 (bt135.2.1.toList != ([] : List UInt8))) else (none)))) else (none)) else (some (([] : List (S51)), false)))) = some (r1, r2) := by rw [if_neg (show ¬ (false = true) by decide)] at H; exact H
              clear H
              have H := H1
              clear H1
              replace H := Option.bind_eq_some_iff.mp H
              obtain ⟨⟨t135, t136, t137⟩, A120, H⟩ := H
              replace H : (if t137 = true then (if x4_1.length < 4398046511104 then ((some (x4_1 ++ [(⟨t130, t135⟩ : S51)] : List (S51))).bind fun y138 => (if t136.toList = ([] : List UInt8) then (dn_Parse.l0 kj3 t136 y138 (t136.toList != ([] : List UInt8))) else (if 1 ≤ (t136.size : Int) then (dn_Parse.l0 kj3 (t136.extract 1 t136.size) y138 (t136.toList != ([] : List UInt8))) else (none)))) else (none)) else (some (([] : List (S51)), false))) = some (r1, r2) := H
              have A12 := Aside0.mk A120
              clear A120
              by_cases c13 : t137 = true
              · subst c13
                have H1 : (if x4_1.length < 4398046511104 then ((some (x4_1 ++ [(⟨t130, t135⟩ : S51)] : List (S51))).bind fun y138 => (if t136.toList = ([] : List UInt8) then (dn_Parse.l0 kj3 t136 y138 (t136.toList != ([] : List UInt8))) else (if 1 ≤ (t136.size : Int) then (dn_Parse.l0 kj3 (t136.extract 1 t136.size) y138 (t136.toList != ([] : List UInt8))) else (none)))) else (none)) = some (r1, r2) := by rw [if_pos rfl] at H; exact H
                clear H
                have H := H1
                clear H1
                by_cases c14 : x4_1.length < 4398046511104
                · rw [if_pos c14] at H
                  have LMc14 := Aside0.mk c14
                  clear c14
                  obtain ⟨y138, hy138⟩ : ∃ y_ : List (S51), y_ = (x4_1 ++ [(⟨t130, t135⟩ : S51)]) := ⟨_, rfl⟩
                  replace H : (if t136.toList = ([] : List UInt8) then (dn_Parse.l0 kj3 t136 y138 (t136.toList != ([] : List UInt8))) else (if 1 ≤ (t136.size : Int) then (dn_Parse.l0 kj3 (t136.extract 1 t136.size) y138 (t136.toList != ([] : List UInt8))) else (none))) = some (r1, r2) := by first | (rw [hy138]; with_reducible exact H) | (have H2_ := (Option.bind_some _ _).symm.trans H; rw [hy138]; with_reducible exact H2_) | (have H2_ := (Option.bind_some _ _).symm.trans H; with_reducible exact H2_) | with_reducible exact H | (rw [hy138]; exact H) | exact H
                  have Ny138 := Aside0.mk hy138
                  clear hy138
                  by_cases c15 : t136.toList = ([] : List UInt8)
                  · rw [if_pos c15] at H
                    have c15b0 : (t136.toList == ([] : List UInt8)) = true := beq_iff_eq.mpr c15
                    have c15b1 : (t136.toList != ([] : List UInt8)) = false := bne_eq_false_iff_eq.mpr c15
                    clear c15
                    have H' := Aside0.mk H
                    clear H
                    go_wp2_with (first | ((with_reducible refine gate_dst (N := 9) rfl ?_); (try (refine gate_guard (by rfl) ?_; dsimp only)); refine box_event ?hg (N := 9) ?hd (cs := #[.string (⟨#[]⟩ : ByteArray), .string (⟨#[]⟩ : ByteArray)]) (t := 51) ?hr ?_; (case hd => rfl); (case hg => rfl); (case hr => first | (go_simp; done) | (go_simp; rfl)); intro gb134 hg w16 hbox hb; have n0_ := Aside0.mk (Kd.R_below (Kd.R_elderB (by (with_reducible repeat (first | apply Kd.R_alloc | apply Kd.R_drewN | apply Kd.R_drew)); exact HO_4.out) gb134 (Nat.le_of_eq hg.symm)) hb); have n1_ := Aside0.mk (below_step (by repeat (first | (with_reducible first | exact HB.out | apply below_alloc | apply pw_below_drewN | apply below_drew1) | exact HB.out)) hb); have n2_ := Aside0.mk (hbox); have n3_ := Aside0.mk ((by rw [hg]; exact (below_size (by repeat (first | (with_reducible first | exact HB.out | apply below_alloc | apply pw_below_drewN | apply below_drew1) | exact HB.out))) : w.heap.size ≤ gb134)); have n4_ := Aside0.mk ((by rw [hg]; exact (below_size (by repeat (first | (with_reducible first | exact HB.out | apply below_alloc | apply pw_below_drewN | apply below_drew1) | exact HB.out))) : w.heap.size ≤ gb134)); clear HO_4; clear HB; have HO_4 := n0_; have HB := n1_; have BK134 := n2_; have GW134 := n3_; have GE134 := n4_; clear n0_ n1_ n2_ n3_ n4_; clear hb hbox hg; have hcz17_0 : w16.cell? ⟨gb134, 0, none⟩ = some (.string (⟨#[]⟩ : ByteArray)) := (blk_cell BK134.out 0).trans rfl; have hcz17_1 : w16.cell? ⟨gb134, 1, none⟩ = some (.string (⟨#[]⟩ : ByteArray)) := (blk_cell BK134.out 1).trans rfl; have hfz17_0 := blk_frozen BK134.out 0; have hfz17_1 := blk_frozen BK134.out 1) | ((with_reducible refine gate_callee (f := 40) rfl ?_); refine goesL_ (some 35) rfl rfl Tryd.func40 (by kernel_rfl) rfl #[.string t131] rfl (by (try simp only [List.map_toArray, List.map_cons, List.map_nil]); first | done | rfl | (simp only [List.length_drop, List.length_take]; rfl)) ?_; (with_reducible refine (dn_value.calls kj3 t131 t135 t136 true _ A12.out).mono ?_); rintro e w18 ⟨rfl, hb⟩; refine ⟨_, rfl, ?_⟩; have n0_ := Aside0.mk (Kd.R_below (by (with_reducible repeat (first | apply Kd.R_alloc | apply Kd.R_drewN | apply Kd.R_drew)); exact (Kd.R_mono (Kd.R_far (p := ⟨gb134, 1, none⟩) (Kd.R_far (p := ⟨gb134, 0, none⟩) (Kd.R_mono HO_4.out (fun k_ hk => (⟨hk, hk.2⟩ : _ ∧ k_ ≠ gb134))) (fun _ hk => hk.2) (.string t130)) (fun _ hk => hk.2) (.string (⟨#[]⟩ : ByteArray))) (fun _ h_ => h_.1))) hb); have n1_ := Aside0.mk (blk_below (g := gb134) (o := .cells #[.string t130, .string (⟨#[]⟩ : ByteArray)] 51 (0, 0)) (by (with_reducible repeat (first | refine blk_drewN ?_ _ | refine blk_drew ?_ | refine blk_alloc ?_ _)); refine blk_put (cs := #[.string t130, .string (⟨#[]⟩ : ByteArray)]) ?_ 1 _ rfl; (with_reducible repeat (first | refine blk_drewN ?_ _ | refine blk_drew ?_ | refine blk_alloc ?_ _)); refine blk_put (cs := #[.string (⟨#[]⟩ : ByteArray), .string (⟨#[]⟩ : ByteArray)]) ?_ 0 _ rfl; (with_reducible repeat (first | refine blk_drewN ?_ _ | refine blk_drew ?_ | refine blk_alloc ?_ _)); exact BK134.out) hb); have n2_ := Aside0.mk (below_step (by repeat (first | (with_reducible first | exact HB.out | apply below_alloc | apply pw_below_drewN | apply below_drew1 | refine below_set ?_ GE134.out) | exact HB.out)) hb); clear HO_4; clear BK134; clear HB; have HO_4 := n0_; have BK134 := n1_; have HB := n2_; clear n0_ n1_ n2_; (try clear hb); (try clear hb2); (try clear hk); (try clear hi); have hcz19_0 : w18.cell? ⟨gb134, 0, none⟩ = some (.string t130) := (blk_cell BK134.out 0).trans rfl; have hcz19_1 : w18.cell? ⟨gb134, 1, none⟩ = some (.string (⟨#[]⟩ : ByteArray)) := (blk_cell BK134.out 1).trans rfl; have hfz19_0 := blk_frozen BK134.out 0; have hfz19_1 := blk_frozen BK134.out 1) | ((with_reducible refine gate_builtin (b := .append) (xs := #[.tmp 42, .tmp 44]) rfl ?_); (try (refine gate_guard (by rfl) ?_; dsimp only)); at_builtin; refine Kd.R_append k51 (w0 := w) w.heap.size rfl (.tmp 42) (.tmp 44) 47 51 (.agg #[(.string ⟨#[]⟩), (.string ⟨#[]⟩)]) 32 rfl Tryd.underlying47 info51 rfl (by decide) (by omega) u4 x4_1 (⟨t130, t135⟩ : S51) [.string t130, .string t135] (fun k_ => k_ ≠ gb134) (fun _ => False) rfl (by first | (go_simp; done) | (go_simp; rfl)) ?aP (fun _ hk => hk.elim) ?aF ?aO ?aB ?aS ?aL ?_; (case aP => exact k51_mkM _ _ _ (⟨t130, t135⟩ : S51)); (case aB => exact (by repeat (first | (with_reducible first | exact HB.out | apply below_alloc | apply pw_below_drewN | apply below_drew1 | refine below_set ?_ GE134.out) | exact HB.out))); (case aF => exact (fun k_ hk => Kd.freshB (g := gb134) (o := .cells #[.string t130, .string t135] 51 (0, 0)) (by (with_reducible repeat (first | refine blk_drewN ?_ _ | refine blk_drew ?_ | refine blk_alloc ?_ _)); refine blk_put (cs := #[.string t130, .string (⟨#[]⟩ : ByteArray)]) ?_ 1 _ rfl; (with_reducible repeat (first | refine blk_drewN ?_ _ | refine blk_drew ?_ | refine blk_alloc ?_ _)); exact BK134.out) k_ hk)); (case aO => exact (by (with_reducible repeat (first | apply Kd.R_alloc | apply Kd.R_drewN | apply Kd.R_drew)); exact Kd.R_mono (Kd.R_far (p := ⟨gb134, 1, none⟩) (Kd.R_mono HO_4.out (fun k_ hk => (⟨hk, hk.2⟩ : _ ∧ k_ ≠ gb134))) (fun _ hk => hk.2) (.string t135)) (fun _ hk => hk.1.2))); (case aS => exact (below_size (by repeat (first | (with_reducible first | exact HB.out | apply below_alloc | apply pw_below_drewN | apply below_drew1 | refine below_set ?_ GE134.out) | exact HB.out)))); (case aL => have := LMc14.out; omega); intro v139 w20 ho hb hg hat; rw [← Ny138.out] at ho; have n0_ := Aside0.mk (blk_grown (g := gb134) (o := .cells #[.string t130, .string t135] 51 (0, 0)) (by (with_reducible repeat (first | refine blk_drewN ?_ _ | refine blk_drew ?_ | refine blk_alloc ?_ _)); refine blk_put (cs := #[.string t130, .string (⟨#[]⟩ : ByteArray)]) ?_ 1 _ rfl; (with_reducible repeat (first | refine blk_drewN ?_ _ | refine blk_drew ?_ | refine blk_alloc ?_ _)); exact BK134.out) hg (Kd.R_away HO_4.out (fun _ hk => hk.2))); have n1_ := Aside0.mk (hb); have n2_ := Aside0.mk (ho); clear BK134; clear HB; clear HO_4; have BK134 := n0_; have HB := n1_; have HO140 := n2_; clear n0_ n1_ n2_; clear ho hb hg hat))
                    go_roundg kj3
                    case measure => have := HK1.out; have := HJ3.out; omega
                    case rel => exact ⟨(t136), (y138), ((t136.toList != ([] : List UInt8))), (by first | rfl | (simp; done) | (simp [*]; done) | (simp [*, i64_w, i32_w, u8_w]; done) | (simp only [bneNil, beqNil]; done) | (simp only [bneNil, beqNil]; simp; done) | (simp only [bneNil, beqNil]; simp [*]; done)), (by first | rfl | (simp; done) | (simp [*]; done) | (simp [*, i64_w, i32_w, u8_w]; done) | (simp only [bneNil, beqNil]; done) | (simp only [bneNil, beqNil]; simp; done) | (simp only [bneNil, beqNil]; simp [*]; done)), H', ⟨by have := HK1.out; have := HJ3.out; omega⟩, ⟨by (with_reducible repeat (first | apply Kd.R_alloc | apply Kd.R_drewN | apply Kd.R_drew)); exact Kd.R_mono HO140.out (fun _ hk => trivial)⟩, ⟨by repeat (first | (with_reducible first | exact HB.out | apply below_alloc | apply pw_below_drewN | apply below_drew1 | refine below_set ?_ GE134.out) | exact HB.out)⟩⟩
                  · rw [if_neg c15] at H
                    have c15b0 : (t136.toList == ([] : List UInt8)) = false := beq_eq_false_iff_ne.mpr c15
                    have c15b1 : (t136.toList != ([] : List UInt8)) = true := bne_iff_ne.mpr c15
                    by_cases c21 : 1 ≤ (t136.size : Int)
                    · rw [if_pos c21] at H
                      have c21b0 := eq_true c21
                      have c21b1 : decide (1 ≤ (t136.size : Int)) = true := decide_eq_true c21
                      clear c21
                      have H' := Aside0.mk H
                      clear H
                      go_wp2_with (first | ((with_reducible refine gate_dst (N := 9) rfl ?_); (try (refine gate_guard (by rfl) ?_; dsimp only)); refine box_event ?hg (N := 9) ?hd (cs := #[.string (⟨#[]⟩ : ByteArray), .string (⟨#[]⟩ : ByteArray)]) (t := 51) ?hr ?_; (case hd => rfl); (case hg => rfl); (case hr => first | (go_simp; done) | (go_simp; rfl)); intro gb134 hg w22 hbox hb; have n0_ := Aside0.mk (Kd.R_below (Kd.R_elderB (by (with_reducible repeat (first | apply Kd.R_alloc | apply Kd.R_drewN | apply Kd.R_drew)); exact HO_4.out) gb134 (Nat.le_of_eq hg.symm)) hb); have n1_ := Aside0.mk (below_step (by repeat (first | (with_reducible first | exact HB.out | apply below_alloc | apply pw_below_drewN | apply below_drew1) | exact HB.out)) hb); have n2_ := Aside0.mk (hbox); have n3_ := Aside0.mk ((by rw [hg]; exact (below_size (by repeat (first | (with_reducible first | exact HB.out | apply below_alloc | apply pw_below_drewN | apply below_drew1) | exact HB.out))) : w.heap.size ≤ gb134)); have n4_ := Aside0.mk ((by rw [hg]; exact (below_size (by repeat (first | (with_reducible first | exact HB.out | apply below_alloc | apply pw_below_drewN | apply below_drew1) | exact HB.out))) : w.heap.size ≤ gb134)); clear HO_4; clear HB; have HO_4 := n0_; have HB := n1_; have BK134 := n2_; have GW134 := n3_; have GE134 := n4_; clear n0_ n1_ n2_ n3_ n4_; clear hb hbox hg; have hcz23_0 : w22.cell? ⟨gb134, 0, none⟩ = some (.string (⟨#[]⟩ : ByteArray)) := (blk_cell BK134.out 0).trans rfl; have hcz23_1 : w22.cell? ⟨gb134, 1, none⟩ = some (.string (⟨#[]⟩ : ByteArray)) := (blk_cell BK134.out 1).trans rfl; have hfz23_0 := blk_frozen BK134.out 0; have hfz23_1 := blk_frozen BK134.out 1) | ((with_reducible refine gate_callee (f := 40) rfl ?_); refine goesL_ (some 35) rfl rfl Tryd.func40 (by kernel_rfl) rfl #[.string t131] rfl (by (try simp only [List.map_toArray, List.map_cons, List.map_nil]); first | done | rfl | (simp only [List.length_drop, List.length_take]; rfl)) ?_; (with_reducible refine (dn_value.calls kj3 t131 t135 t136 true _ A12.out).mono ?_); rintro e w24 ⟨rfl, hb⟩; refine ⟨_, rfl, ?_⟩; have n0_ := Aside0.mk (Kd.R_below (by (with_reducible repeat (first | apply Kd.R_alloc | apply Kd.R_drewN | apply Kd.R_drew)); exact (Kd.R_mono (Kd.R_far (p := ⟨gb134, 1, none⟩) (Kd.R_far (p := ⟨gb134, 0, none⟩) (Kd.R_mono HO_4.out (fun k_ hk => (⟨hk, hk.2⟩ : _ ∧ k_ ≠ gb134))) (fun _ hk => hk.2) (.string t130)) (fun _ hk => hk.2) (.string (⟨#[]⟩ : ByteArray))) (fun _ h_ => h_.1))) hb); have n1_ := Aside0.mk (blk_below (g := gb134) (o := .cells #[.string t130, .string (⟨#[]⟩ : ByteArray)] 51 (0, 0)) (by (with_reducible repeat (first | refine blk_drewN ?_ _ | refine blk_drew ?_ | refine blk_alloc ?_ _)); refine blk_put (cs := #[.string t130, .string (⟨#[]⟩ : ByteArray)]) ?_ 1 _ rfl; (with_reducible repeat (first | refine blk_drewN ?_ _ | refine blk_drew ?_ | refine blk_alloc ?_ _)); refine blk_put (cs := #[.string (⟨#[]⟩ : ByteArray), .string (⟨#[]⟩ : ByteArray)]) ?_ 0 _ rfl; (with_reducible repeat (first | refine blk_drewN ?_ _ | refine blk_drew ?_ | refine blk_alloc ?_ _)); exact BK134.out) hb); have n2_ := Aside0.mk (below_step (by repeat (first | (with_reducible first | exact HB.out | apply below_alloc | apply pw_below_drewN | apply below_drew1 | refine below_set ?_ GE134.out) | exact HB.out)) hb); clear HO_4; clear BK134; clear HB; have HO_4 := n0_; have BK134 := n1_; have HB := n2_; clear n0_ n1_ n2_; (try clear hb); (try clear hb2); (try clear hk); (try clear hi); have hcz25_0 : w24.cell? ⟨gb134, 0, none⟩ = some (.string t130) := (blk_cell BK134.out 0).trans rfl; have hcz25_1 : w24.cell? ⟨gb134, 1, none⟩ = some (.string (⟨#[]⟩ : ByteArray)) := (blk_cell BK134.out 1).trans rfl; have hfz25_0 := blk_frozen BK134.out 0; have hfz25_1 := blk_frozen BK134.out 1) | ((with_reducible refine gate_builtin (b := .append) (xs := #[.tmp 42, .tmp 44]) rfl ?_); (try (refine gate_guard (by rfl) ?_; dsimp only)); at_builtin; refine Kd.R_append k51 (w0 := w) w.heap.size rfl (.tmp 42) (.tmp 44) 47 51 (.agg #[(.string ⟨#[]⟩), (.string ⟨#[]⟩)]) 32 rfl Tryd.underlying47 info51 rfl (by decide) (by omega) u4 x4_1 (⟨t130, t135⟩ : S51) [.string t130, .string t135] (fun k_ => k_ ≠ gb134) (fun _ => False) rfl (by first | (go_simp; done) | (go_simp; rfl)) ?aP (fun _ hk => hk.elim) ?aF ?aO ?aB ?aS ?aL ?_; (case aP => exact k51_mkM _ _ _ (⟨t130, t135⟩ : S51)); (case aB => exact (by repeat (first | (with_reducible first | exact HB.out | apply below_alloc | apply pw_below_drewN | apply below_drew1 | refine below_set ?_ GE134.out) | exact HB.out))); (case aF => exact (fun k_ hk => Kd.freshB (g := gb134) (o := .cells #[.string t130, .string t135] 51 (0, 0)) (by (with_reducible repeat (first | refine blk_drewN ?_ _ | refine blk_drew ?_ | refine blk_alloc ?_ _)); refine blk_put (cs := #[.string t130, .string (⟨#[]⟩ : ByteArray)]) ?_ 1 _ rfl; (with_reducible repeat (first | refine blk_drewN ?_ _ | refine blk_drew ?_ | refine blk_alloc ?_ _)); exact BK134.out) k_ hk)); (case aO => exact (by (with_reducible repeat (first | apply Kd.R_alloc | apply Kd.R_drewN | apply Kd.R_drew)); exact Kd.R_mono (Kd.R_far (p := ⟨gb134, 1, none⟩) (Kd.R_mono HO_4.out (fun k_ hk => (⟨hk, hk.2⟩ : _ ∧ k_ ≠ gb134))) (fun _ hk => hk.2) (.string t135)) (fun _ hk => hk.1.2))); (case aS => exact (below_size (by repeat (first | (with_reducible first | exact HB.out | apply below_alloc | apply pw_below_drewN | apply below_drew1 | refine below_set ?_ GE134.out) | exact HB.out)))); (case aL => have := LMc14.out; omega); intro v139 w26 ho hb hg hat; rw [← Ny138.out] at ho; have n0_ := Aside0.mk (blk_grown (g := gb134) (o := .cells #[.string t130, .string t135] 51 (0, 0)) (by (with_reducible repeat (first | refine blk_drewN ?_ _ | refine blk_drew ?_ | refine blk_alloc ?_ _)); refine blk_put (cs := #[.string t130, .string (⟨#[]⟩ : ByteArray)]) ?_ 1 _ rfl; (with_reducible repeat (first | refine blk_drewN ?_ _ | refine blk_drew ?_ | refine blk_alloc ?_ _)); exact BK134.out) hg (Kd.R_away HO_4.out (fun _ hk => hk.2))); have n1_ := Aside0.mk (hb); have n2_ := Aside0.mk (ho); clear BK134; clear HB; clear HO_4; have BK134 := n0_; have HB := n1_; have HO140 := n2_; clear n0_ n1_ n2_; clear ho hb hg hat))
                      go_roundg kj3
                      case measure => have := HK1.out; have := HJ3.out; omega
                      case rel => exact ⟨(t136.extract 1 t136.size), (y138), ((t136.toList != ([] : List UInt8))), (by first | rfl | (simp; done) | (simp [*]; done) | (simp [*, i64_w, i32_w, u8_w]; done) | (simp only [bneNil, beqNil]; done) | (simp only [bneNil, beqNil]; simp; done) | (simp only [bneNil, beqNil]; simp [*]; done)), (by first | rfl | (simp; done) | (simp [*]; done) | (simp [*, i64_w, i32_w, u8_w]; done) | (simp only [bneNil, beqNil]; done) | (simp only [bneNil, beqNil]; simp; done) | (simp only [bneNil, beqNil]; simp [*]; done)), H', ⟨by have := HK1.out; have := HJ3.out; omega⟩, ⟨by (with_reducible repeat (first | apply Kd.R_alloc | apply Kd.R_drewN | apply Kd.R_drew)); exact Kd.R_mono HO140.out (fun _ hk => trivial)⟩, ⟨by repeat (first | (with_reducible first | exact HB.out | apply below_alloc | apply pw_below_drewN | apply below_drew1 | refine below_set ?_ GE134.out) | exact HB.out)⟩⟩
                    · rw [if_neg c21] at H
                      exact absurd H (by simp)
                · rw [if_neg c14] at H
                  exact absurd H (by simp)
              · replace c13 := Bool.eq_false_iff.mpr c13
                subst c13
                have H1 : (some (([] : List (S51)), false)) = some (r1, r2) := by rw [if_neg (show ¬ (false = true) by decide)] at H; exact H
                clear H
                have H := H1
                clear H1
                simp only [Option.some.injEq, Prod.mk.injEq] at H
                obtain ⟨rfl, rfl⟩ := H
                go_wp2_with (first | ((with_reducible refine gate_dst (N := 9) rfl ?_); (try (refine gate_guard (by rfl) ?_; dsimp only)); refine box_event ?hg (N := 9) ?hd (cs := #[.string (⟨#[]⟩ : ByteArray), .string (⟨#[]⟩ : ByteArray)]) (t := 51) ?hr ?_; (case hd => rfl); (case hg => rfl); (case hr => first | (go_simp; done) | (go_simp; rfl)); intro gb134 hg w27 hbox hb; have n0_ := Aside0.mk (Kd.R_below (Kd.R_elderB (by (with_reducible repeat (first | apply Kd.R_alloc | apply Kd.R_drewN | apply Kd.R_drew)); exact HO_4.out) gb134 (Nat.le_of_eq hg.symm)) hb); have n1_ := Aside0.mk (below_step (by repeat (first | (with_reducible first | exact HB.out | apply below_alloc | apply pw_below_drewN | apply below_drew1) | exact HB.out)) hb); have n2_ := Aside0.mk (hbox); have n3_ := Aside0.mk ((by rw [hg]; exact (below_size (by repeat (first | (with_reducible first | exact HB.out | apply below_alloc | apply pw_below_drewN | apply below_drew1) | exact HB.out))) : w.heap.size ≤ gb134)); have n4_ := Aside0.mk ((by rw [hg]; exact (below_size (by repeat (first | (with_reducible first | exact HB.out | apply below_alloc | apply pw_below_drewN | apply below_drew1) | exact HB.out))) : w.heap.size ≤ gb134)); clear HO_4; clear HB; have HO_4 := n0_; have HB := n1_; have BK134 := n2_; have GW134 := n3_; have GE134 := n4_; clear n0_ n1_ n2_ n3_ n4_; clear hb hbox hg; have hcz28_0 : w27.cell? ⟨gb134, 0, none⟩ = some (.string (⟨#[]⟩ : ByteArray)) := (blk_cell BK134.out 0).trans rfl; have hcz28_1 : w27.cell? ⟨gb134, 1, none⟩ = some (.string (⟨#[]⟩ : ByteArray)) := (blk_cell BK134.out 1).trans rfl; have hfz28_0 := blk_frozen BK134.out 0; have hfz28_1 := blk_frozen BK134.out 1) | ((with_reducible refine gate_callee (f := 40) rfl ?_); refine goesL_ (some 35) rfl rfl Tryd.func40 (by kernel_rfl) rfl #[.string t131] rfl (by (try simp only [List.map_toArray, List.map_cons, List.map_nil]); first | done | rfl | (simp only [List.length_drop, List.length_take]; rfl)) ?_; (with_reducible refine (dn_value.calls kj3 t131 t135 t136 false _ A12.out).mono ?_); rintro e w29 ⟨rfl, hb⟩; refine ⟨_, rfl, ?_⟩; have n0_ := Aside0.mk (Kd.R_below (by (with_reducible repeat (first | apply Kd.R_alloc | apply Kd.R_drewN | apply Kd.R_drew)); exact (Kd.R_mono (Kd.R_far (p := ⟨gb134, 1, none⟩) (Kd.R_far (p := ⟨gb134, 0, none⟩) (Kd.R_mono HO_4.out (fun k_ hk => (⟨hk, hk.2⟩ : _ ∧ k_ ≠ gb134))) (fun _ hk => hk.2) (.string t130)) (fun _ hk => hk.2) (.string (⟨#[]⟩ : ByteArray))) (fun _ h_ => h_.1))) hb); have n1_ := Aside0.mk (blk_below (g := gb134) (o := .cells #[.string t130, .string (⟨#[]⟩ : ByteArray)] 51 (0, 0)) (by (with_reducible repeat (first | refine blk_drewN ?_ _ | refine blk_drew ?_ | refine blk_alloc ?_ _)); refine blk_put (cs := #[.string t130, .string (⟨#[]⟩ : ByteArray)]) ?_ 1 _ rfl; (with_reducible repeat (first | refine blk_drewN ?_ _ | refine blk_drew ?_ | refine blk_alloc ?_ _)); refine blk_put (cs := #[.string (⟨#[]⟩ : ByteArray), .string (⟨#[]⟩ : ByteArray)]) ?_ 0 _ rfl; (with_reducible repeat (first | refine blk_drewN ?_ _ | refine blk_drew ?_ | refine blk_alloc ?_ _)); exact BK134.out) hb); have n2_ := Aside0.mk (below_step (by repeat (first | (with_reducible first | exact HB.out | apply below_alloc | apply pw_below_drewN | apply below_drew1 | refine below_set ?_ GE134.out) | exact HB.out)) hb); clear HO_4; clear BK134; clear HB; have HO_4 := n0_; have BK134 := n1_; have HB := n2_; clear n0_ n1_ n2_; (try clear hb); (try clear hb2); (try clear hk); (try clear hi); have hcz30_0 : w29.cell? ⟨gb134, 0, none⟩ = some (.string t130) := (blk_cell BK134.out 0).trans rfl; have hcz30_1 : w29.cell? ⟨gb134, 1, none⟩ = some (.string (⟨#[]⟩ : ByteArray)) := (blk_cell BK134.out 1).trans rfl; have hfz30_0 := blk_frozen BK134.out 0; have hfz30_1 := blk_frozen BK134.out 1))
                go_ret2
                exact ⟨_, by first | rfl | (simp [errW_none, errW_some] <;> rfl) | (simp [*, errW_none, errW_some] <;> rfl), by first | exact Kd.R_nil _ _ _ _ _ | exact Kd.N_nil _ _ _ _ _ | exact Kd.V_nil _ _ _ _ _ | exact Kd.Q_nil _ _ _ _ _ | exact Kd.S_nil _ _ _ _ _, by repeat (first | (with_reducible first | exact HB.out | apply below_alloc | apply pw_below_drewN | apply below_drew1 | refine below_set ?_ GE134.out) | exact HB.out)⟩
      · replace c2 := Bool.eq_false_iff.mpr c2
        subst c2
        have H1 : ((dn_May.f k1 x4_1).bind fun t129 => (if t129 = true then (some (x4_1, true)) else (some (([] : List (S51)), false)))) = some (r1, r2) := by rw [if_neg (show ¬ (false = true) by decide)] at H; exact H
        clear H
        have H := H1
        clear H1
        replace H := Option.bind_eq_some_iff.mp H
        obtain ⟨t129, A310, H⟩ := H
        replace H : (if t129 = true then (some (x4_1, true)) else (some (([] : List (S51)), false))) = some (r1, r2) := H
        have A31 := Aside0.mk A310
        clear A310
        by_cases c32 : t129 = true
        · subst c32
          have H1 : (some (x4_1, true)) = some (r1, r2) := by rw [if_pos rfl] at H; exact H
          clear H
          have H := H1
          clear H1
          simp only [Option.some.injEq, Prod.mk.injEq] at H
          obtain ⟨rfl, rfl⟩ := H
          obtain ⟨Ao33, co33, eo33⟩ := Kd.R_slice HO_4.out
          subst eo33
          go_wp2_with (first | ((with_reducible refine gate_callee (f := 41) rfl ?_); refine goesL_ (some 52) rfl rfl Tryd.func41 (by kernel_rfl) rfl #[.slice Ao33 x4_1.length co33] rfl (by (try simp only [List.map_toArray, List.map_cons, List.map_nil]); first | done | rfl | (simp only [List.length_drop, List.length_take]; rfl)) ?_; (with_reducible refine (dn_May.calls k1 _ _ x4_1 true _ ?side1 ?side2 A31.out).mono ?_); (case side1 => repeat (first | exact (Kd.R_reads' HO_4.out).2.2 | (with_reducible refine Kd.C_alloc ?_ _) | (with_reducible refine Kd.C_drewN ?_ _) | (with_reducible refine Kd.C_drew ?_))); (case side2 => exact (Kd.R_reads' HO_4.out).2.1); rintro e w34 ⟨rfl, hb⟩; refine ⟨_, rfl, ?_⟩; have n0_ := Aside0.mk (Kd.R_below (by (with_reducible repeat (first | apply Kd.R_alloc | apply Kd.R_drewN | apply Kd.R_drew)); exact HO_4.out) hb); have n1_ := Aside0.mk (below_step (by repeat (first | (with_reducible first | exact HB.out | apply below_alloc | apply pw_below_drewN | apply below_drew1) | exact HB.out)) hb); clear HO_4; clear HB; have HO_4 := n0_; have HB := n1_; clear n0_ n1_; (try clear hb); (try clear hb2); (try clear hk); (try clear hi)))
          go_ret2
          exact ⟨_, by first | rfl | (simp [errW_none, errW_some] <;> rfl) | (simp [*, errW_none, errW_some] <;> rfl), by (with_reducible repeat (first | apply Kd.R_alloc | apply Kd.R_drewN | apply Kd.R_drew)); exact HO_4.out, by repeat (first | (with_reducible first | exact HB.out | apply below_alloc | apply pw_below_drewN | apply below_drew1) | exact HB.out)⟩
        · replace c32 := Bool.eq_false_iff.mpr c32
          subst c32
          have H1 : (some (([] : List (S51)), false)) = some (r1, r2) := by rw [if_neg (show ¬ (false = true) by decide)] at H; exact H
          clear H
          have H := H1
          clear H1
          simp only [Option.some.injEq, Prod.mk.injEq] at H
          obtain ⟨rfl, rfl⟩ := H
          obtain ⟨Ao35, co35, eo35⟩ := Kd.R_slice HO_4.out
          subst eo35
          go_wp2_with (first | ((with_reducible refine gate_callee (f := 41) rfl ?_); refine goesL_ (some 52) rfl rfl Tryd.func41 (by kernel_rfl) rfl #[.slice Ao35 x4_1.length co35] rfl (by (try simp only [List.map_toArray, List.map_cons, List.map_nil]); first | done | rfl | (simp only [List.length_drop, List.length_take]; rfl)) ?_; (with_reducible refine (dn_May.calls k1 _ _ x4_1 false _ ?side1 ?side2 A31.out).mono ?_); (case side1 => repeat (first | exact (Kd.R_reads' HO_4.out).2.2 | (with_reducible refine Kd.C_alloc ?_ _) | (with_reducible refine Kd.C_drewN ?_ _) | (with_reducible refine Kd.C_drew ?_))); (case side2 => exact (Kd.R_reads' HO_4.out).2.1); rintro e w36 ⟨rfl, hb⟩; refine ⟨_, rfl, ?_⟩; have n0_ := Aside0.mk (Kd.R_below (by (with_reducible repeat (first | apply Kd.R_alloc | apply Kd.R_drewN | apply Kd.R_drew)); exact HO_4.out) hb); have n1_ := Aside0.mk (below_step (by repeat (first | (with_reducible first | exact HB.out | apply below_alloc | apply pw_below_drewN | apply below_drew1) | exact HB.out)) hb); clear HO_4; clear HB; have HO_4 := n0_; have HB := n1_; clear n0_ n1_; (try clear hb); (try clear hb2); (try clear hk); (try clear hi)))
          go_ret2
          exact ⟨_, by first | rfl | (simp [errW_none, errW_some] <;> rfl) | (simp [*, errW_none, errW_some] <;> rfl), by first | exact Kd.R_nil _ _ _ _ _ | exact Kd.N_nil _ _ _ _ _ | exact Kd.V_nil _ _ _ _ _ | exact Kd.Q_nil _ _ _ _ _ | exact Kd.S_nil _ _ _ _ _, by repeat (first | (with_reducible first | exact HB.out | apply below_alloc | apply pw_below_drewN | apply below_drew1) | exact HB.out)⟩

end Go.Proofs.YtjicpomcfelobaaDoor.P

namespace Go.Proofs.YtjicpomcfelobaaDoor.P
open Go.RowKit Go.Proofs.YtjicpomcfelobaaDoorW.PrintWords Go.Proofs.YtjicpomcfelobaaDoorW.PrintLast Go.Proofs.YtjicpomcfelobaaDoorW.PrintMore
set_option linter.unusedVariables false
set_option linter.unusedSimpArgs false

theorem dn_lower_eq {c : Int} (h : 0 ≤ c ∧ c ≤ 255) : dn_lower.f c = some (lowI c) := by
  unfold dn_lower.f lowI
  by_cases h1 : 65 ≤ c <;> by_cases h2 : c ≤ 90 <;> simp [h1, h2]
  omega

def dn_lowered.f (a0 : ByteArray) : Option ByteArray := if a0.size ≤ 9223372036854775807 then some (lowS a0) else none
theorem dn_lowered.any (a0 : ByteArray) (w : World) (hs : a0.size ≤ 9223372036854775807) :
    Calls Tryd.prog 20 #[.string a0] w fun e w' => e = .returned (.string (lowS a0)) ∧ Below w.heap.size w w' := by
  have hcv := fun W => Lib.run_convert_string_bytes (P := Tryd.prog) W 9 33 5 a0 (u := .string) Tryd.underlying9 Tryd.underlying33 Tryd.underlying5
  go_enter Tryd.func20, Tryd.ntmps20
  go_wp2
  go_loopw [10] (fun i wr => ∃ k : Nat, k ≤ a0.size ∧ i = .int .i64 k ∧ Aside0 (Below w.heap.size w wr) ∧ Aside0 (BRow wr w.heap.size a0.size (lowTo a0 k))) (fun i _ => a0.size - (intOf i).toNat)
  case atStart => exact ⟨0, Nat.zero_le _, rfl, ⟨Lib.bytesWorld_below _ _ _⟩, ⟨by rw [lowTo_zero]; exact brow_conv w a0⟩⟩
  case round =>
    obtain ⟨k, hk, rfl, HB, HR⟩ := hrel
    by_cases hlt : k < a0.size
    · have hc := HR.out.cell k hlt
      have hz := HR.out.free k hlt
      rw [lowTo_here] at hc
      obtain ⟨c, hcc⟩ : ∃ c : Int, ((a0.data.toList.getD k 0).toNat : Int) = c := ⟨_, rfl⟩
      rw [hcc] at hc
      have hcr : 0 ≤ c ∧ c ≤ 255 := by have := (a0.data.toList.getD k 0).toNat_lt; omega
      have HC := Lib.hid hcc
      clear hcc
      have HL := Lib.hid (dn_lower_eq hcr)
      go_wp2_with (go_at_call 28; refine (dn_lower.calls _ _ _ HL.out).mono ?_; rintro e w' ⟨rfl, ⟨nq, rfl⟩⟩)
      refine ⟨⟨k + 1, by omega, by go_num, ⟨?_⟩, ⟨?_⟩⟩, by simp [intOf]; omega⟩
      · exact (pw_below_drewN HB.out nq).setCell (Nat.le_refl _) _
      · exact lowTo_set (brow_drewN HR.out nq) hlt HC.out
    · have hge : ¬ (k : Int) < (a0.size : Int) := by omega
      have hst := fun cap => brow_string (P := Tryd.prog) HR.out cap 33 5 9 Tryd.underlying33 Tryd.underlying5 Tryd.underlying9
      rw [lowTo_all a0 k hlt] at hst
      go_wp2
      go_ret
      exact ⟨rfl, HB.out⟩
theorem dn_lowered.calls (a0 : ByteArray) (r : ByteArray) (w : World) (h : dn_lowered.f a0 = some r) :
    Calls Tryd.prog 20 #[.string a0] w fun e w' => e = .returned (.string r) ∧ Below w.heap.size w w' := by
  unfold dn_lowered.f at h
  by_cases hs : a0.size ≤ 9223372036854775807
  · rw [if_pos hs] at h
    obtain rfl := Option.some.inj h
    exact dn_lowered.any a0 w hs
  · rw [if_neg hs] at h
    cases h

end Go.Proofs.YtjicpomcfelobaaDoor.P

namespace Go.Proofs.YtjicpomcfelobaaDoor.P
open Go.RowKit Go.Proofs.YtjicpomcfelobaaDoorW.PrintWords Go.Proofs.YtjicpomcfelobaaDoorW.PrintLast Go.Proofs.YtjicpomcfelobaaDoorW.PrintMore
set_option linter.unusedVariables false
set_option linter.unusedSimpArgs false

/-- dn.Fold, plainly. -/
def foldL (l : List UInt8) : List UInt8 := sq ((Lib.trimB l 32).map lowB)
def dn_Fold.f (a0 : ByteArray) : Option ByteArray := if a0.size ≤ 140737488351232 then some (mk (foldL a0.data.toList)) else none

theorem trimB_len (l : List UInt8) : (Lib.trimB l 32).length ≤ l.length := by
  unfold Lib.trimB Lib.trimLeftB Lib.trimRightB
  refine Nat.le_trans (List.dropWhile_suffix _).length_le ?_
  rw [List.length_reverse]
  refine Nat.le_trans (List.dropWhile_suffix _).length_le ?_
  rw [List.length_reverse]
  exact Nat.le_refl _
theorem trimB_head (l : List UInt8) (h : 0 < (Lib.trimB l 32).length) : (Lib.trimB l 32).getD 0 0 ≠ 32 := by
  unfold Lib.trimB Lib.trimLeftB at *
  have := List.head?_dropWhile_not (p := fun x : UInt8 => x == 32) (l := Lib.trimRightB l 32)
  rw [List.getD_eq_getElem?_getD, ← List.head?_eq_getElem?]
  cases hh : (List.dropWhile (fun x : UInt8 => x == 32) (Lib.trimRightB l 32)).head? with
  | none => rw [List.head?_eq_none_iff] at hh; rw [hh] at h; exact absurd h (by simp)
  | some c =>
    rw [hh] at this
    simpa using this
theorem lowB_blank (c : UInt8) : lowB c = 32 ↔ c = 32 := byteAll (p := fun c => lowB c = 32 ↔ c = 32) (by decide +kernel) c


set_option maxHeartbeats 8000000 in
theorem dn_Fold.any (a0 : ByteArray) (w : World) (hs : a0.size ≤ 140737488351232) :
    Calls Tryd.prog 13 #[.string a0] w fun e w' => e = .returned (.string (mk (foldL a0.data.toList))) ∧ Below w.heap.size w w' := by
  have hcv := fun W s => Lib.run_convert_string_bytes (P := Tryd.prog) W 9 33 5 s (u := .string) Tryd.underlying9 Tryd.underlying33 Tryd.underlying5
  have hT : strings_Trim.f a0 ⟨#[32]⟩ = some (mk (Lib.trimB a0.data.toList 32)) := by
    unfold strings_Trim.f; rw [if_pos ⟨rfl, by omega⟩]
  have hlen := trimB_len a0.data.toList
  rw [← size_len, ← mk_size] at hlen
  have hL : dn_lowered.f (mk (Lib.trimB a0.data.toList 32)) = some (lowS (mk (Lib.trimB a0.data.toList 32))) := by
    unfold dn_lowered.f; rw [if_pos (by omega)]
  obtain ⟨T, hTe⟩ : ∃ T, mk (Lib.trimB a0.data.toList 32) = T := ⟨_, rfl⟩
  have hhead := trimB_head a0.data.toList
  have hTd : T.data.toList = Lib.trimB a0.data.toList 32 := by rw [← hTe]
  rw [← hTd] at hhead
  obtain ⟨S, hSe⟩ : ∃ S, lowS T = S := ⟨_, rfl⟩
  have hSd : S.data.toList = (Lib.trimB a0.data.toList 32).map lowB := by rw [← hSe, lowS_data, hTd]
  have hSs : S.size = T.size := by rw [← hSe, lowS_size]
  have hfold : foldL a0.data.toList = sq S.data.toList := by unfold foldL; rw [hSd]
  have hsh : 0 < S.data.toList.length → S.data.toList.getD 0 0 ≠ 32 := by
    rw [hSd, ← hTd, List.length_map]
    intro h
    have h2 := hhead h
    rw [List.getD_eq_getElem?_getD, List.getElem?_map, List.getElem?_eq_getElem h]
    rw [List.getD_eq_getElem?_getD, List.getElem?_eq_getElem h] at h2
    intro h3
    exact h2 ((lowB_blank _).1 h3)
  rw [hTe] at hT hL hlen
  rw [hSe] at hL
  rw [hfold]
  have hS : S.size ≤ 140737488351232 := by omega
  have HT := Lib.hid hT
  have HL := Lib.hid hL
  have HSH := Lib.hid hsh
  clear hT hL hlen hTe hhead hTd hSe hSd hSs hfold hsh hs
  go_enter Tryd.func13, Tryd.ntmps13
  go_wp2_with (first
    | (go_at_call 21; refine (strings_Trim.calls _ _ _ _ HT.out).mono ?_; rintro e w' ⟨rfl, ⟨n1, rfl⟩⟩)
    | (go_at_call 20; refine (dn_lowered.calls _ _ _ HL.out).mono ?_; rintro e w1 ⟨rfl, hb1⟩))
  have hb0 : Below w.heap.size w w1 := (pw_below_drewN (Below.refl _ _) n1).trans hb1
  have HB1 := Aside0.mk hb0
  have hsz := Aside0.mk hb0.size
  clear hb0 hb1
  go_loopw [3, 11] (fun b i wr => ∃ k : Nat, k ≤ S.size ∧ i = .int .i64 k ∧ Aside0 (Below w.heap.size w wr) ∧ Aside0 (w1.heap.size < wr.heap.size) ∧ Aside0 (BRow wr w1.heap.size S.size (fun j => ((S.data.toList.getD j 0).toNat : Int))) ∧ Aside0 (Kd.R (Kd.int .u8) 5 wr w.heap.size (fun q => q ≠ w1.heap.size) b (numsB (sq (S.data.toList.take k))))) (fun _ i _ => S.size - (intOf i).toNat)
  case atStart => exact ⟨0, Nat.zero_le _, rfl, ⟨HB1.out.trans ((Lib.bytesWorld_below _ _ _).mono hsz.out)⟩, ⟨by rw [Lib.bytesWorld_size]; omega⟩, ⟨brow_conv _ S⟩, ⟨Kd.R_nil _ _ _ _ _⟩⟩
  case round =>
    obtain ⟨k, hk, rfl, HB, HZ, HR, HO⟩ := hrel
    obtain ⟨B, hB⟩ : ∃ B, sq (S.data.toList.take k) = B := ⟨_, rfl⟩
    rw [hB] at HO
    have HBk := Lib.hid hB
    clear hB
    obtain ⟨A3, c3, rfl⟩ := Kd.R_slice HO.out
    by_cases hlt : k < S.size
    · have hc := HR.out.cell k hlt
      have hz := HR.out.free k hlt
      have hkl : k < S.data.toList.length := by rw [← size_len]; exact hlt
      have hst := sq_take S.data.toList k hkl
      have hne := sq_take_ne S.data.toList k
      have hln := sq_take_len S.data.toList k (by omega)
      have h032 := fun (h : k = 0) (h2 : S.data.toList.getD k 0 = 32) => HSH.out (by omega) (by rw [h] at h2; exact h2)
      obtain ⟨u, hu⟩ : ∃ u : UInt8, S.data.toList.getD k 0 = u := ⟨_, rfl⟩
      rw [hu] at hc hst h032
      rw [HBk.out] at hst hne hln
      have hclen : (numsB B).length = B.length := numsB_len B
      have hub : (numsB B).length ≤ 140737488351232 := by rw [hclen]; omega
      by_cases hu32 : u = 32
      · subst hu32
        have hk0 : 0 < k := Nat.pos_of_ne_zero fun h => h032 h rfl
        have hBne := hne hk0 (by omega)
        have hn1 : 1 ≤ (numsB B).length := by rw [hclen]; exact List.length_pos_iff.2 hBne
        obtain ⟨v, hv⟩ : ∃ v : UInt8, B.getLast hBne = v := ⟨_, rfl⟩
        have hrd := numsB_last B hBne
        rw [hv, ← hclen] at hrd
        have hlast : B.getLast? = some v := by rw [List.getLast?_eq_some_getLast hBne, hv]
        obtain ⟨ad, e1, hx⟩ := Kd.at_int (Kd.R_reads' HO.out).2.2 (((numsB B).length : Int) - 1) (by omega) (by omega)
        rw [hrd, show (((numsB B).length : Int) - 1).toNat = (numsB B).length - 1 from by omega] at hx
        subst e1
        have hLB := Lib.hid hclen
        clear hclen hrd hv hne h032 hBne
        by_cases hv32 : v = 32
        · subst hv32
          have hsn : sq (S.data.toList.take (k + 1)) = B := by rw [hst]; unfold sqStep; rw [if_pos ⟨rfl, hlast⟩]
          have HST := Lib.hid hsn
          clear hsn hst hlast
          go_wp2
          refine ⟨⟨k + 1, by omega, by go_num, HB, HZ, HR, ⟨?_⟩⟩, by simp [intOf]; omega⟩
          rw [HST.out]; exact HO.out
        · have hsn : numsB (sq (S.data.toList.take (k + 1))) = numsB B ++ [32] := by
            rw [hst]; unfold sqStep
            rw [if_neg (by rw [hlast]; intro h; exact hv32 (Option.some.inj h.2)), numsB_snoc]; rfl
          have HST := Lib.hid hsn
          have hv2 : ¬ (v.toNat : Int) = 32 := fun h => hv32 ((u8_32 v).1 h)
          obtain ⟨vi, hvi⟩ : ∃ vi : Int, (v.toNat : Int) = vi := ⟨_, rfl⟩
          rw [hvi] at hx hv2
          have bv : (vi == 32) = false := beq_eq_false_iff_ne.2 hv2
          clear hsn hst hlast hvi hv2 hv32
          go_wp2_with ((with_reducible refine gate_builtin (b := .append) (xs := #[.tmp 26, .tmp 28]) rfl ?_); at_builtin; refine Kd.R_append (Kd.int .u8) (w0 := w) w.heap.size rfl (.tmp 26) (.tmp 28) 33 5 (.int .u8 0) 1 rfl Tryd.underlying33 info5 rfl (by decide) (by omega) _ (numsB B) 32 [.int .u8 32] (fun q => q ≠ w1.heap.size) (fun _ => False) rfl rfl ?aP (fun _ hk => hk.elim) ?aF ?aO ?aB ?aS ?aL ?_; (case aP => exact rfl); (case aB => exact HB.out); (case aF => exact (fun q hq e => by have := HZ.out; omega)); (case aO => exact HO.out); (case aS => exact HB.out.size); (case aL => have := numsB_len B; omega); intro v' w' ho hb hg hat; have HO2 := Aside0.mk ho; have HB2 := Aside0.mk hb; have HG2 := Aside0.mk hg; clear ho hb hg hat)
          refine ⟨⟨k + 1, by omega, by go_num, HB2, ⟨Nat.lt_of_lt_of_le HZ.out HG2.out.size⟩, ⟨?_⟩, ⟨?_⟩⟩, by simp [intOf]; omega⟩
          · exact brow_block HR.out (HG2.out.block _ HZ.out (fun e => (HO.out.1 _ e.symm) rfl))
          · rw [HST.out]; exact HO2.out
      · have hsn : numsB (sq (S.data.toList.take (k + 1))) = numsB B ++ [(u.toNat : Int)] := by
          rw [hst]; unfold sqStep
          rw [if_neg (fun h => hu32 h.1), numsB_snoc]
        have hu2 : ¬ (u.toNat : Int) = 32 := fun h => hu32 ((u8_32 u).1 h)
        obtain ⟨ui, hui⟩ : ∃ ui : Int, (u.toNat : Int) = ui := ⟨_, rfl⟩
        rw [hui] at hc hu2 hsn
        have HST := Lib.hid hsn
        have bu : (ui == 32) = false := beq_eq_false_iff_ne.2 hu2
        clear hsn hst hne h032 hclen hui hu2 hu32
        go_wp2_with ((with_reducible refine gate_builtin (b := .append) (xs := #[.tmp 26, .tmp 28]) rfl ?_); at_builtin; refine Kd.R_append (Kd.int .u8) (w0 := w) w.heap.size rfl (.tmp 26) (.tmp 28) 33 5 (.int .u8 0) 1 rfl Tryd.underlying33 info5 rfl (by decide) (by omega) _ (numsB B) ui [.int .u8 ui] (fun q => q ≠ w1.heap.size) (fun _ => False) rfl rfl ?aP (fun _ hk => hk.elim) ?aF ?aO ?aB ?aS ?aL ?_; (case aP => exact rfl); (case aB => exact HB.out); (case aF => exact (fun q hq e => by have := HZ.out; omega)); (case aO => exact HO.out); (case aS => exact HB.out.size); (case aL => have := numsB_len B; omega); intro v' w' ho hb hg hat; have HO2 := Aside0.mk ho; have HB2 := Aside0.mk hb; have HG2 := Aside0.mk hg; clear ho hb hg hat)
        refine ⟨⟨k + 1, by omega, by go_num, HB2, ⟨Nat.lt_of_lt_of_le HZ.out HG2.out.size⟩, ⟨?_⟩, ⟨?_⟩⟩, by simp [intOf]; omega⟩
        · exact brow_block HR.out (HG2.out.block _ HZ.out (fun e => (HO.out.1 _ e.symm) rfl))
        · rw [HST.out]; exact HO2.out
    · have hge : ¬ (k : Int) < (S.size : Int) := by omega
      have hall := HO.out
      have hBk := HBk.out
      rw [List.take_of_length_le (by rw [← size_len]; omega)] at hBk
      have HBl := Lib.hid hBk
      clear hBk
      have hst := own_string (P := Tryd.prog) Tryd.underlying33 Tryd.underlying5 Tryd.underlying9 (Kd.own_of_R hall)
      rw [strOf_numsB] at hst
      clear hall
      go_wp2
      go_ret
      exact ⟨by rw [HBl.out]; rfl, HB.out⟩
theorem dn_Fold.calls (a0 : ByteArray) (r : ByteArray) (w : World) (h : dn_Fold.f a0 = some r) :
    Calls Tryd.prog 13 #[.string a0] w fun e w' => e = .returned (.string r) ∧ Below w.heap.size w w' := by
  unfold dn_Fold.f at h
  by_cases hs : a0.size ≤ 140737488351232
  · rw [if_pos hs] at h
    obtain rfl := Option.some.inj h
    exact dn_Fold.any a0 w hs
  · rw [if_neg hs] at h
    cases h
end Go.Proofs.YtjicpomcfelobaaDoor.P

namespace Go.Proofs.YtjicpomcfelobaaDoor.P
open Go.RowKit Go.Proofs.YtjicpomcfelobaaDoorW.PrintWords Go.Proofs.YtjicpomcfelobaaDoorW.PrintLast Go.Proofs.YtjicpomcfelobaaDoorW.PrintMore
set_option linter.unusedVariables false
set_option linter.unusedSimpArgs false

/-! ### strings.Builder, at this dump: copyCheck, WriteByte, WriteString, Write (turned out of the shelf's walks: the dump's copyCheck bears a refused statement, so that the shelf's own laying falls) -/
abbrev BT : TypeId := 67
theorem bt_size : (Tryd.prog.info? BT).map (fun i => i.size) = some 2 := by kernel_rfl
theorem bt_lies : liesAt Tryd.prog Tryd.prog.depth BT (2 / Tryd.prog.cellsOf BT) 0 BT 1 = true := by kernel_rfl

set_option maxHeartbeats 1000000 in
set_option maxRecDepth 100000 in
theorem bcheck_used (b : Nat) (w : World) (h0 : w.cell? ⟨b, 0, none⟩ = some (.pointer (some ⟨b, 0, none⟩))) :
    Calls Tryd.prog 61 #[.pointer (some ⟨b, 0, none⟩)] w fun e w' => e = .returned (.tuple #[]) ∧ w' = w := by
  obtain ⟨j, hj, _⟩ := Option.map_eq_some_iff.1 bt_size
  have hu := Tryd.underlying65
  go_enter Tryd.func61, Tryd.ntmps61
  go_wp2
  rw [Lib.run_neq_ptr_same w _ Tryd.underlying65 hj]
  go_wp2
  go_end0
  exact ⟨rfl, rfl⟩

set_option maxHeartbeats 1000000 in
set_option maxRecDepth 100000 in
theorem bcheck_fresh (b : Nat) (w : World) (h0 : w.cell? ⟨b, 0, none⟩ = some (.pointer none)) (hsh : w.shape? b = some (BT, 2)) (hfz : w.frozen? ⟨b, 0, none⟩ = false) :
    Calls Tryd.prog 61 #[.pointer (some ⟨b, 0, none⟩)] w fun e w' => e = .returned (.tuple #[]) ∧ w' = w.setCell ⟨b, 0, none⟩ (.pointer (some ⟨b, 0, none⟩)) := by
  obtain ⟨j, hj, hjs⟩ := Option.map_eq_some_iff.1 bt_size
  have hu := Tryd.underlying65
  go_enter Tryd.func61, Tryd.ntmps61
  go_wp2
  rw [Lib.run_to_unsafe w ⟨b, 0, none⟩ Tryd.underlying65 Tryd.underlying101 hj (by rw [hjs]; decide) hsh (Nat.zero_lt_succ 1)]
  simp only [Result.andThen]
  rw [Oper.upon_value]
  go_wp2
  rw [run_callFunc_extern Tryd.func75 (by kernel_rfl) (by kernel_rfl) (by kernel_rfl) (e := Extern.AbiNoEscape.same) (by kernel_rfl)]
  rw [Lib.run_noEscape]
  simp only [Result.andThen]
  rw [Oper.upon_value]
  go_wp2
  rw [Lib.run_from_unsafe w ⟨b, 0, none⟩ Tryd.underlying101 Tryd.underlying65 hj hsh bt_lies]
  simp only [Result.andThen]
  rw [Oper.upon_value]
  go_wp2
  go_end0
  exact ⟨rfl, rfl⟩

theorem own_u8 {w : World} {B n : Nat} {v : Value} {xs : List Value} (h : w.ownsRow B 5 1 v n xs) : ∀ g, v.ownBlock = some g → ∃ c fz, w.heap[g]? = some (.cells c 5 fz) := by
  intro g hg
  rcases h.2 with ⟨rfl, _⟩ | ⟨g', cap, cur, rfl, _, hh, _⟩
  · simp [Value.ownBlock] at hg
  · obtain rfl : g' = g := by simpa [Value.ownBlock] using hg
    exact ⟨_, _, hh⟩

theorem bcheck (B b : Nat) (bs : List Value) (w : World) (h : Lib.IsBuilder BT 5 B b bs w) :
    Calls Tryd.prog 61 #[.pointer (some ⟨b, 0, none⟩)] w fun e w' => e = .returned (.tuple #[]) ∧ (Lib.BuilderAt BT 5 B b (.pointer (some ⟨b, 0, none⟩)) bs w' ∧ Below B w w' ∧ Lib.OthersKept 5 (some b) w w') := by
  rcases h with h | h
  · refine (bcheck_fresh b w h.cell0 h.shape h.frozen0).mono ?_
    rintro e w' ⟨rfl, rfl⟩
    exact ⟨rfl, h.used _, (Below.refl B w).setCell (p := ⟨b, 0, none⟩) h.1 _, (Lib.OthersKept.refl _ _ w).setCell ⟨b, 0, none⟩ rfl _⟩
  · refine (bcheck_used b w h.cell0).mono ?_
    rintro e w' ⟨rfl, rfl⟩
    exact ⟨rfl, h, Below.refl B _, Lib.OthersKept.refl _ _ _⟩

set_option maxHeartbeats 2000000 in
set_option maxRecDepth 100000 in
theorem bwriteByte (B b : Nat) (bs : List Value) (c : Int) (w : World) (h : Lib.IsBuilder BT 5 B b bs w) (hlen : bs.length + 1 ≤ 140737488355328) (hBw : B ≤ w.heap.size) :
    Calls Tryd.prog 42 #[.pointer (some ⟨b, 0, none⟩), .int .u8 c] w fun e w' => e = .returned .nilIface ∧ (Lib.BuilderAt BT 5 B b (.pointer (some ⟨b, 0, none⟩)) (bs ++ [.int .u8 c]) w' ∧ Below B w w' ∧ Lib.OthersKept 5 (some b) w w') := by
  obtain ⟨i0, hi, hz0, hz1, hz2⟩ := info_parts info5
  go_enter Tryd.func42, Tryd.ntmps42
  go_wp2_with (go_at_call 61; refine (bcheck B b bs _ h).mono ?_)
  rintro e w1 ⟨rfl, h1, hb1, ho1⟩
  obtain ⟨hB, v, hbk, hown, hne⟩ := h1
  have c0 : w1.cell? ⟨b, 0, none⟩ = some (.pointer (some ⟨b, 0, none⟩)) := by rw [Lib.cell_of_heap hbk]; rfl
  have c1 : w1.cell? ⟨b, 1, none⟩ = some v := by rw [Lib.cell_of_heap hbk]; rfl
  go_wp2_with (at_builtin; refine wpList_append_own _ rfl _ _ 33 rfl B 5 i0 (.int .u8 0) 1 1 Tryd.underlying33 hi hz0 hz1 hz2 rfl (by decide) _ _ _ rfl (hown.alloc _) ⟨w1.heap.size, 0, none⟩ 1 1 [.int .u8 c] rfl rfl ?c1 ?c2 ?c3 ?c4 ?c5 ?_)
  case c1 =>
    intro j u hj
    match j, hj with
    | 0, hj => simp at hj; subst hj; simp [Addr.add]
  case c2 => intro u hu; simp at hu; subst hu; rfl
  case c3 => unfold maxLen; omega
  case c4 => omega
  case c5 => have := hb1.size; simp; omega
  intro v' w2 hown' hgrow _
  have hlt : b < w1.heap.size := by
    rcases Nat.lt_or_ge b w1.heap.size with h' | h'
    · exact h'
    · simp [Array.getElem?_eq_none h'] at hbk
  have hb2 : w2.heap[b]? = some (.cells #[.pointer (some ⟨b, 0, none⟩), v] BT (0, 0)) := by
    rw [hgrow.block b (by simp; omega) (fun e => hne e.symm), Lib.alloc_old w1 _ b hlt]
    exact hbk
  have d0 : w2.cell? ⟨b, 0, none⟩ = some (.pointer (some ⟨b, 0, none⟩)) := by rw [Lib.cell_of_heap hb2]; rfl
  have d1 : w2.cell? ⟨b, 1, none⟩ = some v := by rw [Lib.cell_of_heap hb2]; rfl
  have f1 : w2.frozen? ⟨b, 1, none⟩ = false := Lib.frozen_of_heap hb2 1
  obtain ⟨g, cap, rfl⟩ : ∃ g cap, v' = .slice (some ⟨g, 0, none⟩) (bs.length + 1) cap := by
    rcases hown'.2 with ⟨_, h0⟩ | ⟨g, cap, cur, hv, _⟩
    · omega
    · exact ⟨g, cap, hv⟩
  go_wp2
  go_ret
  refine ⟨rfl, ?_, ?_, ((ho1.alloc _).grown hgrow (own_u8 (hown.alloc _))).setCell ⟨b, 1, none⟩ rfl _⟩
  · exact Lib.BuilderAt.put (T := BT) (e := 5) hB hb2 (bs' := bs ++ [.int .u8 c]) (by simpa using hown') (by decide)
  · exact ((hb1.alloc (by have := hb1.size; omega) _).grown hgrow (by have := hb1.size; simp; omega) (fun k hk => (hown.lt k hk).1)).setCell (p := ⟨b, 1, none⟩) hB _

set_option maxHeartbeats 2000000 in
set_option maxRecDepth 100000 in
theorem bwriteString (B b : Nat) (bs : List Value) (s : ByteArray) (w : World) (h : Lib.IsBuilder BT 5 B b bs w) (hlen : bs.length + s.size ≤ 140737488355328) (hBw : B ≤ w.heap.size) :
    Calls Tryd.prog 43 #[.pointer (some ⟨b, 0, none⟩), .string s] w fun e w' => e = .returned (.tuple #[.int .i64 s.size, .nilIface]) ∧ (Lib.BuilderAt BT 5 B b (.pointer (some ⟨b, 0, none⟩)) (bs ++ Lib.strCells s) w' ∧ Below B w w' ∧ Lib.OthersKept 5 (some b) w w') := by
  obtain ⟨i0, hi, hz0, hz1, hz2⟩ := info_parts info5
  go_enter Tryd.func43, Tryd.ntmps43
  go_wp2_with (go_at_call 61; refine (bcheck B b bs _ h).mono ?_)
  rintro e w1 ⟨rfl, h1, hb1, ho1⟩
  obtain ⟨hB, v, hbk, hown, hne⟩ := h1
  have c0 : w1.cell? ⟨b, 0, none⟩ = some (.pointer (some ⟨b, 0, none⟩)) := by rw [Lib.cell_of_heap hbk]; rfl
  have c1 : w1.cell? ⟨b, 1, none⟩ = some v := by rw [Lib.cell_of_heap hbk]; rfl
  go_wp2_with (at_builtin; refine Lib.wpList_append_own_string _ rfl _ _ 33 9 rfl B 5 i0 Tryd.underlying33 Tryd.underlying9 hi hz0 hz1 hz2 _ _ _ rfl hown s rfl ?c3 ?c4 ?c5 ?_)
  case c3 => unfold maxLen; omega
  case c4 => omega
  case c5 => have := hb1.size; omega
  intro v' w2 hown' hgrow _
  have hlt : b < w1.heap.size := by
    rcases Nat.lt_or_ge b w1.heap.size with h' | h'
    · exact h'
    · simp [Array.getElem?_eq_none h'] at hbk
  have hb2 : w2.heap[b]? = some (.cells #[.pointer (some ⟨b, 0, none⟩), v] BT (0, 0)) := by
    rw [hgrow.block b hlt (fun e => hne e.symm)]
    exact hbk
  have d0 : w2.cell? ⟨b, 0, none⟩ = some (.pointer (some ⟨b, 0, none⟩)) := by rw [Lib.cell_of_heap hb2]; rfl
  have d1 : w2.cell? ⟨b, 1, none⟩ = some v := by rw [Lib.cell_of_heap hb2]; rfl
  have f1 : w2.frozen? ⟨b, 1, none⟩ = false := Lib.frozen_of_heap hb2 1
  obtain ⟨ao, n', cap, rfl⟩ : ∃ ao n' cap, v' = .slice ao n' cap := by
    rcases hown'.2 with ⟨hv, _⟩ | ⟨g, cap, cur, hv, _⟩
    · exact ⟨_, _, _, hv⟩
    · exact ⟨_, _, _, hv⟩
  go_wp2
  go_ret2
  refine ⟨rfl, ?_, ?_, (ho1.grown hgrow (own_u8 hown)).setCell ⟨b, 1, none⟩ rfl _⟩
  · exact Lib.BuilderAt.put (T := BT) (e := 5) hB hb2 (bs' := bs ++ Lib.strCells s) (by simpa [Lib.strCells_length] using hown') (by decide)
  · exact (hb1.grown hgrow (by have := hb1.size; omega) (fun k hk => (hown.lt k hk).1)).setCell (p := ⟨b, 1, none⟩) hB _

theorem bcheckQ (B b q : Nat) (bs : List Value) (w : World) (h : Lib.IsBuilder BT 5 B b bs w) (hqb : q ≠ b) :
    Calls Tryd.prog 61 #[.pointer (some ⟨b, 0, none⟩)] w fun e w' => e = .returned (.tuple #[]) ∧ (Lib.BuilderAt BT 5 B b (.pointer (some ⟨b, 0, none⟩)) bs w' ∧ Below B w w' ∧ Lib.OthersKept 5 (some b) w w' ∧ ∀ j, w'.cell? ⟨q, j, none⟩ = w.cell? ⟨q, j, none⟩) := by
  rcases h with h | h
  · refine (bcheck_fresh b w h.cell0 h.shape h.frozen0).mono ?_
    rintro e w' ⟨rfl, rfl⟩
    exact ⟨rfl, h.used _, (Below.refl B w).setCell (p := ⟨b, 0, none⟩) h.1 _, (Lib.OthersKept.refl _ _ w).setCell ⟨b, 0, none⟩ rfl _, fun j => World.cell?_setCell_other _ _ _ _ (by intro he; injection he with h1 _; exact hqb h1.symm)⟩
  · refine (bcheck_used b w h.cell0).mono ?_
    rintro e w' ⟨rfl, rfl⟩
    exact ⟨rfl, h, Below.refl B _, Lib.OthersKept.refl _ _ _, fun _ => rfl⟩

set_option maxHeartbeats 2000000 in
set_option maxRecDepth 100000 in
/-- Write of a row of cells. -/
theorem bwrite (B b q n c : Nat) (bs : List Value) (xs : List Int) (hn : xs.length = n) (w : World) (h : Lib.IsBuilder BT 5 B b bs w) (hlen : bs.length + n ≤ 140737488355328) (hBw : B ≤ w.heap.size)
    (hq : ∀ j, j < n → w.cell? ⟨q, j, none⟩ = some (.int .u8 (xs.getD j 0))) (hn0 : 0 < n) (hqb : q ≠ b) :
    Calls Tryd.prog 44 #[.pointer (some ⟨b, 0, none⟩), .slice (some ⟨q, 0, none⟩) n c] w fun e w' => e = .returned (.tuple #[.int .i64 n, .nilIface]) ∧ (Lib.BuilderAt BT 5 B b (.pointer (some ⟨b, 0, none⟩)) (bs ++ xs.map (Value.int .u8)) w' ∧ Below B w w' ∧ Lib.OthersKept 5 (some b) w w') := by
  obtain ⟨i0, hi, hz0, hz1, hz2⟩ := info_parts info5
  have HQ0 := Lib.hid hq
  clear hq
  go_enter Tryd.func44, Tryd.ntmps44
  go_wp2_with (go_at_call 61; refine (bcheckQ B b q bs _ h hqb).mono ?_)
  rintro e w1 ⟨rfl, h1, hb1, ho1, hq1⟩
  have HQ := Lib.hid (show ∀ j, j < n → w1.cell? ⟨q, j, none⟩ = some (.int .u8 (xs.getD j 0)) from fun j hj => (hq1 j).trans (HQ0.out j hj))
  clear hq1
  obtain ⟨hB, v, hbk, hown, hne⟩ := h1
  have c0 : w1.cell? ⟨b, 0, none⟩ = some (.pointer (some ⟨b, 0, none⟩)) := by rw [Lib.cell_of_heap hbk]; rfl
  have c1 : w1.cell? ⟨b, 1, none⟩ = some v := by rw [Lib.cell_of_heap hbk]; rfl
  go_wp2_with (at_builtin; refine wpList_append_own _ rfl _ _ 33 rfl B 5 i0 (.int .u8 0) 1 1 Tryd.underlying33 hi hz0 hz1 hz2 rfl (by decide) _ _ _ rfl hown ⟨q, 0, none⟩ n c (xs.map (Value.int .u8)) rfl (by simp [hn]) ?c1 ?c2 ?c3 ?c4 ?c5 ?_)
  case c1 =>
    intro j u hj
    have hjn : j < xs.length := by
      rcases Nat.lt_or_ge j xs.length with h' | h'
      · exact h'
      · rw [List.getElem?_eq_none (by simpa using h')] at hj; cases hj
    have e : (⟨q, 0, none⟩ : Addr).add j = ⟨q, j, none⟩ := by unfold Addr.add; split <;> simp_all
    rw [e, HQ.out j (by omega)]
    rw [List.getElem?_map, List.getElem?_eq_getElem hjn] at hj
    rw [List.getD_eq_getElem?_getD, List.getElem?_eq_getElem hjn]
    exact hj
  case c2 =>
    intro u hu
    obtain ⟨x, _, rfl⟩ := List.mem_map.1 hu
    rfl
  case c3 => unfold maxLen; omega
  case c4 => omega
  case c5 => have := hb1.size; omega
  intro v' w2 hown' hgrow _
  have hlt : b < w1.heap.size := by
    rcases Nat.lt_or_ge b w1.heap.size with h' | h'
    · exact h'
    · simp [Array.getElem?_eq_none h'] at hbk
  have hb2 : w2.heap[b]? = some (.cells #[.pointer (some ⟨b, 0, none⟩), v] BT (0, 0)) := by
    rw [hgrow.block b hlt (fun e => hne e.symm)]
    exact hbk
  have d0 : w2.cell? ⟨b, 0, none⟩ = some (.pointer (some ⟨b, 0, none⟩)) := by rw [Lib.cell_of_heap hb2]; rfl
  have d1 : w2.cell? ⟨b, 1, none⟩ = some v := by rw [Lib.cell_of_heap hb2]; rfl
  have f1 : w2.frozen? ⟨b, 1, none⟩ = false := Lib.frozen_of_heap hb2 1
  obtain ⟨ao, n', cap, rfl⟩ : ∃ ao n' cap, v' = .slice ao n' cap := by
    rcases hown'.2 with ⟨hv, _⟩ | ⟨g, cap, cur, hv, _⟩
    · exact ⟨_, _, _, hv⟩
    · exact ⟨_, _, _, hv⟩
  go_wp2
  go_ret2
  refine ⟨rfl, ?_, ?_, (ho1.grown hgrow (own_u8 hown)).setCell ⟨b, 1, none⟩ rfl _⟩
  · exact Lib.BuilderAt.put (T := BT) (e := 5) hB hb2 (bs' := bs ++ xs.map (Value.int .u8)) (by simpa [hn] using hown') (by decide)
  · exact (hb1.grown hgrow (by have := hb1.size; omega) (fun k hk => (hown.lt k hk).1)).setCell (p := ⟨b, 1, none⟩) hB _
end Go.Proofs.YtjicpomcfelobaaDoor.P

namespace Go.Proofs.YtjicpomcfelobaaDoor.P
open Go.RowKit Go.Proofs.YtjicpomcfelobaaDoorW.PrintWords Go.Proofs.YtjicpomcfelobaaDoorW.PrintLast Go.Proofs.YtjicpomcfelobaaDoorW.PrintMore
set_option linter.unusedVariables false
set_option linter.unusedSimpArgs false

abbrev SR := S51
def textTo (rs : List SR) (i : Nat) : List UInt8 := (List.range i).flatMap fun j => sepB j ++ rdnB (rs.getD j z51).f0.data.toList (rs.getD j z51).f1.data.toList
def textL (rs : List SR) : List UInt8 := textTo rs rs.length
theorem textTo_succ (rs : List SR) (i : Nat) : textTo rs (i + 1) = textTo rs i ++ (sepB i ++ rdnB (rs.getD i z51).f0.data.toList (rs.getD i z51).f1.data.toList) := by
  unfold textTo; rw [List.range_succ, List.flatMap_append]; simp
theorem textTo_le (rs : List SR) : ∀ (d k : Nat), (textTo rs k).length ≤ (textTo rs (k + d)).length
  | 0, k => Nat.le_refl _
  | d + 1, k => by
    have := textTo_le rs d k
    rw [show k + (d + 1) = (k + d) + 1 from rfl, textTo_succ, List.length_append]
    omega
theorem textTo_max (rs : List SR) (k : Nat) (h : k ≤ rs.length) : (textTo rs k).length ≤ (textL rs).length := by
  have := textTo_le rs (rs.length - k) k
  rwa [Nat.add_sub_cancel' h] at this

theorem dn_special_eq (c : UInt8) : dn_special.f (c.toNat : Int) = some (specialB c) := byteAll (p := fun c => dn_special.f (c.toNat : Int) = some (specialB c)) (by decide +kernel) c

def hexS : ByteArray := ⟨#[48, 49, 50, 51, 52, 53, 54, 55, 56, 57, 97, 98, 99, 100, 101, 102]⟩
theorem hex_hi (u : UInt8) : bt hexS ((u.toNat : Int) / 16) = ((hexD (u >>> 4)).toNat : Int) := byteAll (p := fun u => bt hexS ((u.toNat : Int) / 16) = ((hexD (u >>> 4)).toNat : Int)) (by decide +kernel) u
theorem hex_lo (u : UInt8) : bt hexS (Go.bits .and .u8 (u.toNat : Int) 15) = ((hexD (u &&& 15)).toNat : Int) := byteAll (p := fun u => bt hexS (Go.bits .and .u8 (u.toNat : Int) 15) = ((hexD (u &&& 15)).toNat : Int)) (by decide +kernel) u
theorem and15 (u : UInt8) : 0 ≤ Go.bits .and .u8 (u.toNat : Int) 15 ∧ Go.bits .and .u8 (u.toNat : Int) 15 < 16 := byteAll (p := fun u => 0 ≤ Go.bits .and .u8 (u.toNat : Int) 15 ∧ Go.bits .and .u8 (u.toNat : Int) 15 < 16) (by decide +kernel) u
theorem hex_run {P : Program} {t : TypeId} (h : P.underlying t = some .string) (i : Int) (h0 : 0 ≤ i) (h1 : i < 16) (W : World) :
    (Instr.index t (.string ⟨#[48, 49, 50, 51, 52, 53, 54, 55, 56, 57, 97, 98, 99, 100, 101, 102]⟩) (.int .u8 i)).run P W = .ok (.int .u8 (bt hexS i)) W := by
  rw [run_index_string W t _ .u8 i h, dif_pos ⟨h0, h1⟩]
  have hh : i.toNat < hexS.size := by show i.toNat < 16; omega
  rw [← bt_at hexS i hh]
  rfl

/-- In the midst: what lay below, the builder with its bytes, this round's r. -/
structure TW (w wr : World) (R : Nat) (f0 f1 : ByteArray) (bs : List UInt8) : Prop where
  below : Below w.heap.size w wr
  bld : Lib.IsBuilder BT 5 w.heap.size w.heap.size (Lib.byteCells bs) wr
  row : wr.heap[R]? = some (.cells #[.string f0, .string f1] 51 (0, 0))
theorem TW.c0 {w wr : World} {R : Nat} {f0 f1 : ByteArray} {bs : List UInt8} (h : TW w wr R f0 f1 bs) : wr.cell? ⟨R, 0, none⟩ = some (.string f0) := by rw [Lib.cell_of_heap h.row]; rfl
theorem TW.c1 {w wr : World} {R : Nat} {f0 f1 : ByteArray} {bs : List UInt8} (h : TW w wr R f0 f1 bs) : wr.cell? ⟨R, 1, none⟩ = some (.string f1) := by rw [Lib.cell_of_heap h.row]; rfl
theorem isb_alloc {w : World} {T e : TypeId} {B b : Nat} {bs : List Value} (h : Lib.IsBuilder T e B b bs w) (o : Obj) : Lib.IsBuilder T e B b bs (w.alloc o) := by
  have step : ∀ {p : Value}, Lib.BuilderAt T e B b p bs w → Lib.BuilderAt T e B b p bs (w.alloc o) := by
    intro p h
    obtain ⟨hB, v, hb, ho, hne⟩ := h
    have hlt := (Array.getElem?_eq_some_iff.1 hb).1
    exact ⟨hB, v, by rw [Lib.alloc_old w o b hlt]; exact hb, ho.alloc o, hne⟩
  rcases h with h | h
  · exact .inl (step h)
  · exact .inr (step h)

theorem TW.alloc {w wr : World} {R : Nat} {f0 f1 : ByteArray} {bs : List UInt8} (h : TW w wr R f0 f1 bs) (o : Obj) : TW w (wr.alloc o) R f0 f1 bs :=
  ⟨h.below.alloc h.below.size o, isb_alloc h.bld o, by rw [Lib.alloc_old wr o R (Array.getElem?_eq_some_iff.1 h.row).1]; exact h.row⟩
theorem TW.drewN {w wr : World} {R : Nat} {f0 f1 : ByteArray} {bs : List UInt8} (h : TW w wr R f0 f1 bs) (n : Nat) : TW w (wr.drewN n) R f0 f1 bs := by
  refine ⟨pw_below_drewN h.below n, ?_, h.row⟩
  exact h.bld
theorem TW.step {w wr w2 : World} {R : Nat} {f0 f1 : ByteArray} {bs bs' : List UInt8} (h : TW w wr R f0 f1 bs) (hb : Below w.heap.size wr w2) (hB : Lib.BuilderAt BT 5 w.heap.size w.heap.size (.pointer (some ⟨w.heap.size, 0, none⟩)) (Lib.byteCells bs') w2)
    (ho : Lib.OthersKept 5 (some w.heap.size) wr w2) (hR : R ≠ w.heap.size) : TW w w2 R f0 f1 bs' :=
  ⟨h.below.trans hb, .inr hB, ho R _ h.row (by intro e; exact hR (Option.some.inj e)) (by intro c fz e; injection e with _ e2; exact absurd e2 (by decide))⟩
theorem byteCells_append (a b : List UInt8) : Lib.byteCells (a ++ b) = Lib.byteCells a ++ Lib.byteCells b := by simp [Lib.byteCells]
theorem byteCells_len (a : List UInt8) : (Lib.byteCells a).length = a.length := by simp [Lib.byteCells]

def dn_Text.f (l0 : List SR) : Option ByteArray := if (textL l0).length ≤ 140737488351231 then some (mk (textL l0)) else none
set_option maxHeartbeats 8000000 in
set_option maxRecDepth 100000 in
theorem dn_Text.any (A0 : Option Addr) (c0 : Nat) (l0 : List SR) (w : World) (hr0 : Kd.C k51 w A0 l0.length l0) (hc0 : l0.length ≤ c0) (hs : (textL l0).length ≤ 140737488351232) (hn : l0.length ≤ 140737488351232) :
    Calls Tryd.prog 25 #[.slice A0 l0.length c0] w fun e w' => e = .returned (.string (mk (textL l0))) ∧ Below w.heap.size w w' := by
  have HR := Lib.hid hr0
  have HS := Lib.hid hs
  clear hr0 hs
  go_enter Tryd.func25, Tryd.ntmps25
  go_wp2
  go_loopw [10] (fun i wr => ∃ k : Nat, k ≤ l0.length ∧ i = .int .i64 k ∧ Aside0 (Below w.heap.size w wr) ∧ Aside0 (w.heap.size < wr.heap.size) ∧ Aside0 (Lib.IsBuilder BT 5 w.heap.size w.heap.size (Lib.byteCells (textTo l0 k)) wr)) (fun i _ => l0.length - (intOf i).toNat)
  case atStart =>
    refine ⟨0, Nat.zero_le _, rfl, ⟨(Below.refl _ _).alloc (Nat.le_refl _) _⟩, ⟨by simp⟩, ⟨?_⟩⟩
    refine .inl ⟨Nat.le_refl _, .slice none 0 0, by simp [World.alloc, -World.alloc_eq], ?_, by simp [Value.ownBlock]⟩
    exact ⟨rfl, .inl ⟨rfl, rfl⟩⟩
  case round =>
    obtain ⟨k, hk, rfl, HB, HZ, HI⟩ := hrel
    obtain ⟨wo, rfl⟩ : ∃ wo : World, wo = wr := ⟨_, rfl⟩
    by_cases hlt : k < l0.length
    · obtain ⟨ad, e1, hx0, hx1⟩ := at_T51 (Kd.C_below HR.out HB.out) (k : Int) (by omega) (by omega)
      rw [Int.toNat_natCast] at hx0 hx1
      subst e1
      have hf0 : (rd_T51 l0 (k : Int)) = l0.getD k z51 := by unfold rd_T51; rw [Int.toNat_natCast]
      obtain ⟨f0, hF0⟩ : ∃ f, (rd_T51 l0 (k : Int)).f0 = f := ⟨_, rfl⟩
      obtain ⟨f1, hF1⟩ : ∃ f, (rd_T51 l0 (k : Int)).f1 = f := ⟨_, rfl⟩
      rw [hF0] at hx0
      rw [hF1] at hx1
      rw [hf0] at hF0 hF1
      have HF0 := Lib.hid hF0
      have HF1 := Lib.hid hF1
      clear hf0 hF0 hF1
      have hmax := textTo_max l0 (k + 1) (by omega)
      rw [textTo_succ] at hmax
      unfold rdnB at hmax
      rw [HF0.out, HF1.out] at hmax
      have hM : (textTo l0 k).length + (sepB k).length + f0.size + 1 + (escV f1.data.toList).length ≤ 140737488351232 := by
        have := HS.out
        simp only [List.length_append, List.length_cons, List.length_nil] at hmax
        rw [size_len]
        omega
      have HM := Lib.hid hM
      have hsucc : textTo l0 (k + 1) = textTo l0 k ++ sepB k ++ f0.data.toList ++ [61] ++ escV f1.data.toList := by
        rw [textTo_succ]; unfold rdnB; rw [HF0.out, HF1.out]; simp only [List.append_assoc]
      have hRne : wo.heap.size ≠ w.heap.size := by have := HZ.out; omega
      have HRN := Lib.hid hRne
      have hrow : (wo.alloc (.cells #[.string f0, .string f1] 51)).heap[wo.heap.size]? = some (.cells #[.string f0, .string f1] 51 (0, 0)) := by simp [World.alloc, -World.alloc_eq]
      have hT0 : TW w (wo.alloc (.cells #[.string f0, .string f1] 51)) wo.heap.size f0 f1 (textTo l0 k) :=
        ⟨HB.out.alloc HB.out.size _, isb_alloc HI.out _, hrow⟩
      have HT0 := Aside0.mk hT0
      have hwle : w.heap.size ≤ (wo.alloc (.cells #[.string f0, .string f1] 51)).heap.size := hT0.below.size
      have HWL := Lib.hid hwle
      have hf1n : f1.size ≤ 140737488351232 := by
        have := escTo_ge f1.data.toList f1.data.toList.length
        have h2 := size_len f1
        unfold escV at hM
        omega
      have hf0b : (textTo l0 k ++ sepB k).length + f0.size + 1 ≤ 140737488351232 := by rw [List.length_append]; omega
      have HF0B := Lib.hid hf0b
      obtain ⟨Bs, hBs⟩ : ∃ Bs, textTo l0 k ++ sepB k ++ f0.data.toList ++ [61] = Bs := ⟨_, rfl⟩
      have hBl : Bs.length + (escV f1.data.toList).length ≤ 140737488351232 := by
        rw [← hBs]; simp only [List.length_append, List.length_cons, List.length_nil]; rw [← size_len f0]; omega
      rw [hBs] at hsucc
      have HSUC := Lib.hid hsucc
      have HBS := Lib.hid hBs
      have HBL := Lib.hid hBl
      clear hmax hM hsucc hRne hrow hT0 hwle hBs hBl hf0b
      by_cases hk0 : 0 < k
      · have d0 : decide (0 < k) = true := decide_eq_true hk0
        have hsep : sepB k = [44] := by unfold sepB; rw [if_neg (by omega)]
        have HSP := Lib.hid hsep
        clear hsep
        go_wp2_with fail
        refine (bwriteByte w.heap.size w.heap.size _ 44 _ HT0.out.bld (by rw [byteCells_len]; have := HF0B.out; rw [HSP.out] at this; simp at this; omega) HWL.out).mono ?_
        rintro e w2 ⟨rfl, hB2, hb2, ho2⟩
        have HT := Aside0.mk (HT0.out.step (bs' := textTo l0 k ++ sepB k) hb2 (by rw [HSP.out, byteCells_append]; exact hB2) ho2 HRN.out)
        clear hB2 hb2 ho2 HT0 HSP HWL
        have hc20 := HT.out.c0
        have HWS := Lib.hid HT.out.below.size
        go_wp2_with fail
        refine (bwriteString w.heap.size w.heap.size _ f0 _ HT.out.bld (by rw [byteCells_len]; have := HF0B.out; omega) HWS.out).mono ?_
        rintro e w3 ⟨rfl, hB3, hb3, ho3⟩
        have HT3 := Aside0.mk (HT.out.step (bs' := textTo l0 k ++ sepB k ++ f0.data.toList) hb3 (by rw [byteCells_append]; exact hB3) ho3 HRN.out)
        clear hB3 hb3 ho3 HT hc20 HWS
        have HWS := Lib.hid HT3.out.below.size
        go_wp2_with fail
        refine (bwriteByte w.heap.size w.heap.size _ 61 _ HT3.out.bld (by rw [byteCells_len, List.length_append, ← size_len]; have := HF0B.out; omega) HWS.out).mono ?_
        rintro e w4 ⟨rfl, hB4, hb4, ho4⟩
        have HT4 := Aside0.mk (HT3.out.step (bs' := Bs) hb4 (by rw [← HBS.out, byteCells_append]; exact hB4) ho4 HRN.out)
        clear hB4 hb4 ho4 HT3 HWS
        have hc41 := HT4.out.c1
        go_wp2_with fail
        go_loopw [25] (fun j wq => ∃ m : Nat, m ≤ f1.size ∧ j = .int .i64 m ∧ Aside0 (TW w wq wo.heap.size f0 f1 (Bs ++ escTo f1.data.toList m))) (fun j _ => f1.size - (intOf j).toNat)
        case atStart => exact ⟨0, Nat.zero_le _, rfl, ⟨by rw [show escTo f1.data.toList 0 = [] from rfl, List.append_nil]; exact HT4.out⟩⟩
        case round =>
          clear hc41 HT4
          obtain ⟨m, hm, rfl, HT⟩ := hrel
          have hcq := HT.out.c1
          have HWQ := Lib.hid HT.out.below.size
          by_cases hlm : m < f1.size
          · have hum := bt_nat f1 m
            have hes := escTo_succ f1.data.toList m
            have hmx := escTo_max f1.data.toList (m + 1) (by rw [← size_len]; omega)
            obtain ⟨u, hu⟩ : ∃ u : UInt8, f1.data.toList.getD m 0 = u := ⟨_, rfl⟩
            rw [hu] at hum hes
            rw [← size_len] at hes
            have hbx : ∀ h : m < f1.size, ((f1[m]'h).toNat : Int) = bt f1 (m : Int) := fun h => by
              have := bt_at f1 (m : Int) (by rw [Int.toNat_natCast]; exact h)
              simpa using this
            have hsp := dn_special_eq u
            rw [hum] at hbx
            obtain ⟨c, hcu⟩ : ∃ c : Int, (u.toNat : Int) = c := ⟨_, rfl⟩
            rw [hcu] at hbx hsp
            have hc0' : 0 ≤ c := by omega
            have hc1' : c ≤ 255 := by have := u.toNat_lt; omega
            have HSPE := Lib.hid hsp
            have HES := Lib.hid hes
            have HMX := Lib.hid hmx
            have HCU := Lib.hid hcu
            clear hum hu hsp hes hmx hcu
            have hesc : ∀ o b : Bool, oddB u = o → backB f1.size m u = b → escTo f1.data.toList (m + 1) = escTo f1.data.toList m ++ (if o = true then [92, hexD (u >>> 4), hexD (u &&& 15)] else if b = true then [92, u] else [u]) := by
              intro o b ho hb
              rw [HES.out]; unfold escB; rw [ho, hb]
            have HESC := Lib.hid hesc
            clear hesc
            by_cases h32 : c < 32 ∨ 126 < c
            · have hodd : oddB u = true := by
                unfold oddB
                have := HCU.out
                rcases h32 with h | h
                · rw [decide_eq_true (show u < 32 from by rw [UInt8.lt_iff_toNat_lt]; show u.toNat < 32; omega)]; rfl
                · rw [decide_eq_true (show 126 < u from by rw [UInt8.lt_iff_toNat_lt]; show 126 < u.toNat; omega), Bool.or_true]
              have hEB := HESC.out true _ hodd rfl
              rw [if_pos rfl] at hEB
              have HEB := Lib.hid hEB
              clear hEB hodd
              have hb32 : (∃ x, decide (c < 32) = x) := ⟨_, rfl⟩
              rcases Classical.em (c < 32) with h1 | h1
              · have d1 : decide (c < 32) = true := decide_eq_true h1
                clear h32
                have hx1 := hex_hi u
                have hx2 := hex_lo u
                have hr1 : 0 ≤ c / 16 ∧ c / 16 < 16 := by omega
                have hr2 := and15 u
                rw [HCU.out] at hx1 hx2 hr2
                obtain ⟨v1, hv1⟩ : ∃ v1 : Int, ((hexD (u >>> 4)).toNat : Int) = v1 := ⟨_, rfl⟩
                obtain ⟨v2, hv2⟩ : ∃ v2 : Int, ((hexD (u &&& 15)).toNat : Int) = v2 := ⟨_, rfl⟩
                rw [hv1] at hx1
                rw [hv2] at hx2
                have hi1 := hex_run (P := Tryd.prog) Tryd.underlying9 (c / 16) hr1.1 hr1.2
                have hi2 := hex_run (P := Tryd.prog) Tryd.underlying9 (Go.bits .and .u8 c 15) hr2.1 hr2.2
                rw [hx1] at hi1
                rw [hx2] at hi2
                have HV1 := Lib.hid hv1
                have HV2 := Lib.hid hv2
                clear hx1 hx2 hr1 hr2 hv1 hv2
                go_wp2_with fail
                go_still_tail 6, (by kernel_rfl)
                go_wp2_with fail
                have hTA : TW w (wr.alloc (.cells #[.int .u8 92, .int .u8 v1, .int .u8 v2] 5)).drew wo.heap.size f0 f1 (Bs ++ escTo f1.data.toList m) := (HT.out.alloc _).drewN 1
                have HTA := Aside0.mk hTA
                have hne : wr.heap.size ≠ w.heap.size := by
                  have : w.heap.size < wr.heap.size := by rcases HT.out.bld with h | h <;> exact h.lt
                  omega
                have HNE := Lib.hid hne
                have hcl : ∀ j, j < 3 → (wr.alloc (.cells #[.int .u8 92, .int .u8 v1, .int .u8 v2] 5)).drew.cell? ⟨wr.heap.size, j, none⟩ = some (.int .u8 (([92, v1, v2] : List Int).getD j 0)) := by
                  intro j hj
                  rcases j with _ | _ | _ | j
                  · simp
                  · simp
                  · simp
                  · omega
                have HCL := Lib.hid hcl
                have HWA := Lib.hid hTA.below.size
                clear hTA hne hcl
                refine (bwrite w.heap.size w.heap.size wr.heap.size 3 3 _ [92, v1, v2] rfl _ HTA.out.bld (by rw [byteCells_len, List.length_append]; have h1 := HMX.out; have h2 := HBL.out; rw [HEB.out, List.length_append] at h1; simp at h1; omega) HWA.out HCL.out (by omega) HNE.out).mono ?_
                rintro e w6 ⟨rfl, hB6, hb6, ho6⟩
                have HT6 := Aside0.mk (HTA.out.step (bs' := Bs ++ escTo f1.data.toList (m + 1)) hb6 (by rw [HEB.out, ← List.append_assoc, byteCells_append]; rw [← HV1.out, ← HV2.out] at hB6; exact hB6) ho6 HRN.out)
                clear hB6 hb6 ho6 HTA HCL
                go_wp2_with fail
                exact ⟨⟨m + 1, by omega, by go_num, HT6⟩, by simp [intOf]; omega⟩
              · have d1 : decide (c < 32) = false := decide_eq_false h1
                have d2 : decide (126 < c) = true := decide_eq_true (by omega)
                clear h32
                have hx1 := hex_hi u
                have hx2 := hex_lo u
                have hr1 : 0 ≤ c / 16 ∧ c / 16 < 16 := by omega
                have hr2 := and15 u
                rw [HCU.out] at hx1 hx2 hr2
                obtain ⟨v1, hv1⟩ : ∃ v1 : Int, ((hexD (u >>> 4)).toNat : Int) = v1 := ⟨_, rfl⟩
                obtain ⟨v2, hv2⟩ : ∃ v2 : Int, ((hexD (u &&& 15)).toNat : Int) = v2 := ⟨_, rfl⟩
                rw [hv1] at hx1
                rw [hv2] at hx2
                have hi1 := hex_run (P := Tryd.prog) Tryd.underlying9 (c / 16) hr1.1 hr1.2
                have hi2 := hex_run (P := Tryd.prog) Tryd.underlying9 (Go.bits .and .u8 c 15) hr2.1 hr2.2
                rw [hx1] at hi1
                rw [hx2] at hi2
                have HV1 := Lib.hid hv1
                have HV2 := Lib.hid hv2
                clear hx1 hx2 hr1 hr2 hv1 hv2
                go_wp2_with fail
                go_still_tail 6, (by kernel_rfl)
                go_wp2_with fail
                have hTA : TW w (wr.alloc (.cells #[.int .u8 92, .int .u8 v1, .int .u8 v2] 5)).drew wo.heap.size f0 f1 (Bs ++ escTo f1.data.toList m) := (HT.out.alloc _).drewN 1
                have HTA := Aside0.mk hTA
                have hne : wr.heap.size ≠ w.heap.size := by
                  have : w.heap.size < wr.heap.size := by rcases HT.out.bld with h | h <;> exact h.lt
                  omega
                have HNE := Lib.hid hne
                have hcl : ∀ j, j < 3 → (wr.alloc (.cells #[.int .u8 92, .int .u8 v1, .int .u8 v2] 5)).drew.cell? ⟨wr.heap.size, j, none⟩ = some (.int .u8 (([92, v1, v2] : List Int).getD j 0)) := by
                  intro j hj
                  rcases j with _ | _ | _ | j
                  · simp
                  · simp
                  · simp
                  · omega
                have HCL := Lib.hid hcl
                have HWA := Lib.hid hTA.below.size
                clear hTA hne hcl
                refine (bwrite w.heap.size w.heap.size wr.heap.size 3 3 _ [92, v1, v2] rfl _ HTA.out.bld (by rw [byteCells_len, List.length_append]; have h1 := HMX.out; have h2 := HBL.out; rw [HEB.out, List.length_append] at h1; simp at h1; omega) HWA.out HCL.out (by omega) HNE.out).mono ?_
                rintro e w6 ⟨rfl, hB6, hb6, ho6⟩
                have HT6 := Aside0.mk (HTA.out.step (bs' := Bs ++ escTo f1.data.toList (m + 1)) hb6 (by rw [HEB.out, ← List.append_assoc, byteCells_append]; rw [← HV1.out, ← HV2.out] at hB6; exact hB6) ho6 HRN.out)
                clear hB6 hb6 ho6 HTA HCL
                go_wp2_with fail
                exact ⟨⟨m + 1, by omega, by go_num, HT6⟩, by simp [intOf]; omega⟩
            · have h1 : ¬ c < 32 := fun h => h32 (.inl h)
              have h2 : ¬ 126 < c := fun h => h32 (.inr h)
              have hodd : oddB u = false := by
                unfold oddB
                have := HCU.out
                rw [decide_eq_false (show ¬ u < 32 from by rw [UInt8.lt_iff_toNat_lt]; show ¬ u.toNat < 32; omega), decide_eq_false (show ¬ 126 < u from by rw [UInt8.lt_iff_toNat_lt]; show ¬ 126 < u.toNat; omega)]; rfl
              have d1 : decide (c < 32) = false := decide_eq_false h1
              have d2 : decide (126 < c) = false := decide_eq_false h2
              have hEB2 := fun (h : backB f1.size m u = true) => HESC.out false true hodd h
              have hEB1 := fun (h : backB f1.size m u = false) => HESC.out false false hodd h
              rw [if_neg (by simp), if_pos rfl] at hEB2
              rw [if_neg (by simp), if_neg (by simp)] at hEB1
              have HB2 := Lib.hid hEB2
              have HB1 := Lib.hid hEB1
              clear hEB1 hEB2 hodd h32
              cases hsb : specialB u with
              | true =>
                rw [hsb] at HSPE
                have HEB := Lib.hid (HB2.out (by unfold backB; rw [hsb]; rfl))
                clear hsb
                go_wp2_with (go_at_call 45; refine (dn_special.calls c true _ HSPE.out).mono ?_; rintro e w' ⟨rfl, ⟨nq, rfl⟩⟩; have HTn := Aside0.mk (HT.out.drewN nq); clear HT; have HT := HTn; clear HTn)
                go_wp2_with fail
                refine (bwriteByte w.heap.size w.heap.size _ 92 _ HT.out.bld (by rw [byteCells_len, List.length_append]; have h1 := HMX.out; have h2 := HBL.out; rw [HEB.out, List.length_append] at h1; simp at h1; omega) HWQ.out).mono ?_
                rintro e w5 ⟨rfl, hB5, hb5, ho5⟩
                have HT5 := Aside0.mk (HT.out.step (bs' := Bs ++ escTo f1.data.toList m ++ [92]) hb5 (by rw [byteCells_append]; exact hB5) ho5 HRN.out)
                have HW5 := Lib.hid HT5.out.below.size
                clear hB5 hb5 ho5
                go_wp2_with fail
                refine (bwriteByte w.heap.size w.heap.size _ c _ HT5.out.bld (by rw [byteCells_len, List.length_append, List.length_append]; have h1 := HMX.out; have h2 := HBL.out; rw [HEB.out, List.length_append] at h1; simp at h1 ⊢; omega) HW5.out).mono ?_
                rintro e w6 ⟨rfl, hB6, hb6, ho6⟩
                have HT6 := Aside0.mk (HT5.out.step (bs' := Bs ++ escTo f1.data.toList (m + 1)) hb6 (by rw [HEB.out, show Bs ++ (escTo f1.data.toList m ++ [92, u]) = (Bs ++ escTo f1.data.toList m ++ [92]) ++ [u] by simp, byteCells_append]; rw [← HCU.out] at hB6; exact hB6) ho6 HRN.out)
                clear hB6 hb6 ho6
                go_wp2_with fail
                exact ⟨⟨m + 1, by omega, by go_num, HT6⟩, by simp [intOf]; omega⟩
              | false =>
                rw [hsb] at HSPE
                have hu35 : (u = 35) ↔ (c = 35) := by rw [← HCU.out]; exact (u8_35 u).symm
                have hu32 : (u = 32) ↔ (c = 32) := by rw [← HCU.out]; exact (u8_32 u).symm
                have hbk : backB f1.size m u = ((decide (m = 0) && (decide (c = 35) || decide (c = 32))) || (decide (m + 1 = f1.size) && decide (c = 32))) := by
                  unfold backB; rw [hsb, Bool.false_or, decide_eq_decide.2 hu35, decide_eq_decide.2 hu32]
                have HBK := Lib.hid hbk
                clear hbk hu35 hu32 hsb
                have bb1 : ((f1.size : Int) - 1 == (m : Int)) = decide (m + 1 = f1.size) := by
                  rw [Bool.eq_iff_iff, beq_iff_eq, decide_eq_true_iff]; omega
                have bb2 : ((m : Int) == (f1.size : Int) - 1) = decide (m + 1 = f1.size) := by
                  rw [Bool.eq_iff_iff, beq_iff_eq, decide_eq_true_iff]; omega
                by_cases q1 : m = 0
                · have e1 := decide_eq_true q1
                  have b1 : ((m : Int) == 0) = true := beq_iff_eq.2 (by omega)
                  by_cases q3 : c = 32
                  · have e3 := decide_eq_true q3
                    have b3 : (c == 32) = true := beq_iff_eq.2 q3
                    by_cases q2 : c = 35
                    · omega
                    · have e2 := decide_eq_false q2
                      have b2 : (c == 35) = false := beq_eq_false_iff_ne.2 q2
                      by_cases q4 : m + 1 = f1.size
                      · have e4 := decide_eq_true q4
                        rw [e4] at bb1 bb2
                        have HEB := Lib.hid (HB2.out (by rw [HBK.out, e1, e2, e3, e4]; rfl))
                        clear e1 e2 e3 e4 q1 q2 q3 q4
                        go_wp2_with (go_at_call 45; refine (dn_special.calls c false _ HSPE.out).mono ?_; rintro e w' ⟨rfl, ⟨nq, rfl⟩⟩; have HTn := Aside0.mk (HT.out.drewN nq); clear HT; have HT := HTn; clear HTn)
                        go_wp2_with fail
                        refine (bwriteByte w.heap.size w.heap.size _ 92 _ HT.out.bld (by rw [byteCells_len, List.length_append]; have h1 := HMX.out; have h2 := HBL.out; rw [HEB.out, List.length_append] at h1; simp at h1; omega) HWQ.out).mono ?_
                        rintro e w5 ⟨rfl, hB5, hb5, ho5⟩
                        have HT5 := Aside0.mk (HT.out.step (bs' := Bs ++ escTo f1.data.toList m ++ [92]) hb5 (by rw [byteCells_append]; exact hB5) ho5 HRN.out)
                        have HW5 := Lib.hid HT5.out.below.size
                        clear hB5 hb5 ho5
                        go_wp2_with fail
                        refine (bwriteByte w.heap.size w.heap.size _ c _ HT5.out.bld (by rw [byteCells_len, List.length_append, List.length_append]; have h1 := HMX.out; have h2 := HBL.out; rw [HEB.out, List.length_append] at h1; simp at h1 ⊢; omega) HW5.out).mono ?_
                        rintro e w6 ⟨rfl, hB6, hb6, ho6⟩
                        have HT6 := Aside0.mk (HT5.out.step (bs' := Bs ++ escTo f1.data.toList (m + 1)) hb6 (by rw [HEB.out, show Bs ++ (escTo f1.data.toList m ++ [92, u]) = (Bs ++ escTo f1.data.toList m ++ [92]) ++ [u] by simp, byteCells_append]; rw [← HCU.out] at hB6; exact hB6) ho6 HRN.out)
                        clear hB6 hb6 ho6
                        go_wp2_with fail
                        exact ⟨⟨m + 1, by omega, by go_num, HT6⟩, by simp [intOf]; omega⟩
                      · have e4 := decide_eq_false q4
                        rw [e4] at bb1 bb2
                        have HEB := Lib.hid (HB2.out (by rw [HBK.out, e1, e2, e3, e4]; rfl))
                        clear e1 e2 e3 e4 q1 q2 q3 q4
                        go_wp2_with (go_at_call 45; refine (dn_special.calls c false _ HSPE.out).mono ?_; rintro e w' ⟨rfl, ⟨nq, rfl⟩⟩; have HTn := Aside0.mk (HT.out.drewN nq); clear HT; have HT := HTn; clear HTn)
                        go_wp2_with fail
                        refine (bwriteByte w.heap.size w.heap.size _ 92 _ HT.out.bld (by rw [byteCells_len, List.length_append]; have h1 := HMX.out; have h2 := HBL.out; rw [HEB.out, List.length_append] at h1; simp at h1; omega) HWQ.out).mono ?_
                        rintro e w5 ⟨rfl, hB5, hb5, ho5⟩
                        have HT5 := Aside0.mk (HT.out.step (bs' := Bs ++ escTo f1.data.toList m ++ [92]) hb5 (by rw [byteCells_append]; exact hB5) ho5 HRN.out)
                        have HW5 := Lib.hid HT5.out.below.size
                        clear hB5 hb5 ho5
                        go_wp2_with fail
                        refine (bwriteByte w.heap.size w.heap.size _ c _ HT5.out.bld (by rw [byteCells_len, List.length_append, List.length_append]; have h1 := HMX.out; have h2 := HBL.out; rw [HEB.out, List.length_append] at h1; simp at h1 ⊢; omega) HW5.out).mono ?_
                        rintro e w6 ⟨rfl, hB6, hb6, ho6⟩
                        have HT6 := Aside0.mk (HT5.out.step (bs' := Bs ++ escTo f1.data.toList (m + 1)) hb6 (by rw [HEB.out, show Bs ++ (escTo f1.data.toList m ++ [92, u]) = (Bs ++ escTo f1.data.toList m ++ [92]) ++ [u] by simp, byteCells_append]; rw [← HCU.out] at hB6; exact hB6) ho6 HRN.out)
                        clear hB6 hb6 ho6
                        go_wp2_with fail
                        exact ⟨⟨m + 1, by omega, by go_num, HT6⟩, by simp [intOf]; omega⟩
                  · have e3 := decide_eq_false q3
                    have b3 : (c == 32) = false := beq_eq_false_iff_ne.2 q3
                    by_cases q2 : c = 35
                    · have e2 := decide_eq_true q2
                      have b2 : (c == 35) = true := beq_iff_eq.2 q2
                      by_cases q4 : m + 1 = f1.size
                      · have e4 := decide_eq_true q4
                        rw [e4] at bb1 bb2
                        have HEB := Lib.hid (HB2.out (by rw [HBK.out, e1, e2, e3, e4]; rfl))
                        clear e1 e2 e3 e4 q1 q2 q3 q4
                        go_wp2_with (go_at_call 45; refine (dn_special.calls c false _ HSPE.out).mono ?_; rintro e w' ⟨rfl, ⟨nq, rfl⟩⟩; have HTn := Aside0.mk (HT.out.drewN nq); clear HT; have HT := HTn; clear HTn)
                        go_wp2_with fail
                        refine (bwriteByte w.heap.size w.heap.size _ 92 _ HT.out.bld (by rw [byteCells_len, List.length_append]; have h1 := HMX.out; have h2 := HBL.out; rw [HEB.out, List.length_append] at h1; simp at h1; omega) HWQ.out).mono ?_
                        rintro e w5 ⟨rfl, hB5, hb5, ho5⟩
                        have HT5 := Aside0.mk (HT.out.step (bs' := Bs ++ escTo f1.data.toList m ++ [92]) hb5 (by rw [byteCells_append]; exact hB5) ho5 HRN.out)
                        have HW5 := Lib.hid HT5.out.below.size
                        clear hB5 hb5 ho5
                        go_wp2_with fail
                        refine (bwriteByte w.heap.size w.heap.size _ c _ HT5.out.bld (by rw [byteCells_len, List.length_append, List.length_append]; have h1 := HMX.out; have h2 := HBL.out; rw [HEB.out, List.length_append] at h1; simp at h1 ⊢; omega) HW5.out).mono ?_
                        rintro e w6 ⟨rfl, hB6, hb6, ho6⟩
                        have HT6 := Aside0.mk (HT5.out.step (bs' := Bs ++ escTo f1.data.toList (m + 1)) hb6 (by rw [HEB.out, show Bs ++ (escTo f1.data.toList m ++ [92, u]) = (Bs ++ escTo f1.data.toList m ++ [92]) ++ [u] by simp, byteCells_append]; rw [← HCU.out] at hB6; exact hB6) ho6 HRN.out)
                        clear hB6 hb6 ho6
                        go_wp2_with fail
                        exact ⟨⟨m + 1, by omega, by go_num, HT6⟩, by simp [intOf]; omega⟩
                      · have e4 := decide_eq_false q4
                        rw [e4] at bb1 bb2
                        have HEB := Lib.hid (HB2.out (by rw [HBK.out, e1, e2, e3, e4]; rfl))
                        clear e1 e2 e3 e4 q1 q2 q3 q4
                        go_wp2_with (go_at_call 45; refine (dn_special.calls c false _ HSPE.out).mono ?_; rintro e w' ⟨rfl, ⟨nq, rfl⟩⟩; have HTn := Aside0.mk (HT.out.drewN nq); clear HT; have HT := HTn; clear HTn)
                        go_wp2_with fail
                        refine (bwriteByte w.heap.size w.heap.size _ 92 _ HT.out.bld (by rw [byteCells_len, List.length_append]; have h1 := HMX.out; have h2 := HBL.out; rw [HEB.out, List.length_append] at h1; simp at h1; omega) HWQ.out).mono ?_
                        rintro e w5 ⟨rfl, hB5, hb5, ho5⟩
                        have HT5 := Aside0.mk (HT.out.step (bs' := Bs ++ escTo f1.data.toList m ++ [92]) hb5 (by rw [byteCells_append]; exact hB5) ho5 HRN.out)
                        have HW5 := Lib.hid HT5.out.below.size
                        clear hB5 hb5 ho5
                        go_wp2_with fail
                        refine (bwriteByte w.heap.size w.heap.size _ c _ HT5.out.bld (by rw [byteCells_len, List.length_append, List.length_append]; have h1 := HMX.out; have h2 := HBL.out; rw [HEB.out, List.length_append] at h1; simp at h1 ⊢; omega) HW5.out).mono ?_
                        rintro e w6 ⟨rfl, hB6, hb6, ho6⟩
                        have HT6 := Aside0.mk (HT5.out.step (bs' := Bs ++ escTo f1.data.toList (m + 1)) hb6 (by rw [HEB.out, show Bs ++ (escTo f1.data.toList m ++ [92, u]) = (Bs ++ escTo f1.data.toList m ++ [92]) ++ [u] by simp, byteCells_append]; rw [← HCU.out] at hB6; exact hB6) ho6 HRN.out)
                        clear hB6 hb6 ho6
                        go_wp2_with fail
                        exact ⟨⟨m + 1, by omega, by go_num, HT6⟩, by simp [intOf]; omega⟩
                    · have e2 := decide_eq_false q2
                      have b2 : (c == 35) = false := beq_eq_false_iff_ne.2 q2
                      by_cases q4 : m + 1 = f1.size
                      · have e4 := decide_eq_true q4
                        rw [e4] at bb1 bb2
                        have HEB := Lib.hid (HB1.out (by rw [HBK.out, e1, e2, e3, e4]; rfl))
                        clear e1 e2 e3 e4 q1 q2 q3 q4
                        go_wp2_with (go_at_call 45; refine (dn_special.calls c false _ HSPE.out).mono ?_; rintro e w' ⟨rfl, ⟨nq, rfl⟩⟩; have HTn := Aside0.mk (HT.out.drewN nq); clear HT; have HT := HTn; clear HTn)
                        go_wp2_with fail
                        refine (bwriteByte w.heap.size w.heap.size _ c _ HT.out.bld (by rw [byteCells_len, List.length_append]; have h1 := HMX.out; have h2 := HBL.out; rw [HEB.out, List.length_append] at h1; simp at h1; omega) HWQ.out).mono ?_
                        rintro e w6 ⟨rfl, hB6, hb6, ho6⟩
                        have HT6 := Aside0.mk (HT.out.step (bs' := Bs ++ escTo f1.data.toList (m + 1)) hb6 (by rw [HEB.out, ← List.append_assoc, byteCells_append]; rw [← HCU.out] at hB6; exact hB6) ho6 HRN.out)
                        clear hB6 hb6 ho6
                        go_wp2_with fail
                        exact ⟨⟨m + 1, by omega, by go_num, HT6⟩, by simp [intOf]; omega⟩
                      · have e4 := decide_eq_false q4
                        rw [e4] at bb1 bb2
                        have HEB := Lib.hid (HB1.out (by rw [HBK.out, e1, e2, e3, e4]; rfl))
                        clear e1 e2 e3 e4 q1 q2 q3 q4
                        go_wp2_with (go_at_call 45; refine (dn_special.calls c false _ HSPE.out).mono ?_; rintro e w' ⟨rfl, ⟨nq, rfl⟩⟩; have HTn := Aside0.mk (HT.out.drewN nq); clear HT; have HT := HTn; clear HTn)
                        go_wp2_with fail
                        refine (bwriteByte w.heap.size w.heap.size _ c _ HT.out.bld (by rw [byteCells_len, List.length_append]; have h1 := HMX.out; have h2 := HBL.out; rw [HEB.out, List.length_append] at h1; simp at h1; omega) HWQ.out).mono ?_
                        rintro e w6 ⟨rfl, hB6, hb6, ho6⟩
                        have HT6 := Aside0.mk (HT.out.step (bs' := Bs ++ escTo f1.data.toList (m + 1)) hb6 (by rw [HEB.out, ← List.append_assoc, byteCells_append]; rw [← HCU.out] at hB6; exact hB6) ho6 HRN.out)
                        clear hB6 hb6 ho6
                        go_wp2_with fail
                        exact ⟨⟨m + 1, by omega, by go_num, HT6⟩, by simp [intOf]; omega⟩
                · have e1 := decide_eq_false q1
                  have b1 : ((m : Int) == 0) = false := beq_eq_false_iff_ne.2 (by omega)
                  by_cases q3 : c = 32
                  · have e3 := decide_eq_true q3
                    have b3 : (c == 32) = true := beq_iff_eq.2 q3
                    by_cases q2 : c = 35
                    · omega
                    · have e2 := decide_eq_false q2
                      have b2 : (c == 35) = false := beq_eq_false_iff_ne.2 q2
                      by_cases q4 : m + 1 = f1.size
                      · have e4 := decide_eq_true q4
                        rw [e4] at bb1 bb2
                        have HEB := Lib.hid (HB2.out (by rw [HBK.out, e1, e2, e3, e4]; rfl))
                        clear e1 e2 e3 e4 q1 q2 q3 q4
                        go_wp2_with (go_at_call 45; refine (dn_special.calls c false _ HSPE.out).mono ?_; rintro e w' ⟨rfl, ⟨nq, rfl⟩⟩; have HTn := Aside0.mk (HT.out.drewN nq); clear HT; have HT := HTn; clear HTn)
                        go_wp2_with fail
                        refine (bwriteByte w.heap.size w.heap.size _ 92 _ HT.out.bld (by rw [byteCells_len, List.length_append]; have h1 := HMX.out; have h2 := HBL.out; rw [HEB.out, List.length_append] at h1; simp at h1; omega) HWQ.out).mono ?_
                        rintro e w5 ⟨rfl, hB5, hb5, ho5⟩
                        have HT5 := Aside0.mk (HT.out.step (bs' := Bs ++ escTo f1.data.toList m ++ [92]) hb5 (by rw [byteCells_append]; exact hB5) ho5 HRN.out)
                        have HW5 := Lib.hid HT5.out.below.size
                        clear hB5 hb5 ho5
                        go_wp2_with fail
                        refine (bwriteByte w.heap.size w.heap.size _ c _ HT5.out.bld (by rw [byteCells_len, List.length_append, List.length_append]; have h1 := HMX.out; have h2 := HBL.out; rw [HEB.out, List.length_append] at h1; simp at h1 ⊢; omega) HW5.out).mono ?_
                        rintro e w6 ⟨rfl, hB6, hb6, ho6⟩
                        have HT6 := Aside0.mk (HT5.out.step (bs' := Bs ++ escTo f1.data.toList (m + 1)) hb6 (by rw [HEB.out, show Bs ++ (escTo f1.data.toList m ++ [92, u]) = (Bs ++ escTo f1.data.toList m ++ [92]) ++ [u] by simp, byteCells_append]; rw [← HCU.out] at hB6; exact hB6) ho6 HRN.out)
                        clear hB6 hb6 ho6
                        go_wp2_with fail
                        exact ⟨⟨m + 1, by omega, by go_num, HT6⟩, by simp [intOf]; omega⟩
                      · have e4 := decide_eq_false q4
                        rw [e4] at bb1 bb2
                        have HEB := Lib.hid (HB1.out (by rw [HBK.out, e1, e2, e3, e4]; rfl))
                        clear e1 e2 e3 e4 q1 q2 q3 q4
                        go_wp2_with (go_at_call 45; refine (dn_special.calls c false _ HSPE.out).mono ?_; rintro e w' ⟨rfl, ⟨nq, rfl⟩⟩; have HTn := Aside0.mk (HT.out.drewN nq); clear HT; have HT := HTn; clear HTn)
                        go_wp2_with fail
                        refine (bwriteByte w.heap.size w.heap.size _ c _ HT.out.bld (by rw [byteCells_len, List.length_append]; have h1 := HMX.out; have h2 := HBL.out; rw [HEB.out, List.length_append] at h1; simp at h1; omega) HWQ.out).mono ?_
                        rintro e w6 ⟨rfl, hB6, hb6, ho6⟩
                        have HT6 := Aside0.mk (HT.out.step (bs' := Bs ++ escTo f1.data.toList (m + 1)) hb6 (by rw [HEB.out, ← List.append_assoc, byteCells_append]; rw [← HCU.out] at hB6; exact hB6) ho6 HRN.out)
                        clear hB6 hb6 ho6
                        go_wp2_with fail
                        exact ⟨⟨m + 1, by omega, by go_num, HT6⟩, by simp [intOf]; omega⟩
                  · have e3 := decide_eq_false q3
                    have b3 : (c == 32) = false := beq_eq_false_iff_ne.2 q3
                    by_cases q2 : c = 35
                    · have e2 := decide_eq_true q2
                      have b2 : (c == 35) = true := beq_iff_eq.2 q2
                      by_cases q4 : m + 1 = f1.size
                      · have e4 := decide_eq_true q4
                        rw [e4] at bb1 bb2
                        have HEB := Lib.hid (HB1.out (by rw [HBK.out, e1, e2, e3, e4]; rfl))
                        clear e1 e2 e3 e4 q1 q2 q3 q4
                        go_wp2_with (go_at_call 45; refine (dn_special.calls c false _ HSPE.out).mono ?_; rintro e w' ⟨rfl, ⟨nq, rfl⟩⟩; have HTn := Aside0.mk (HT.out.drewN nq); clear HT; have HT := HTn; clear HTn)
                        go_wp2_with fail
                        refine (bwriteByte w.heap.size w.heap.size _ c _ HT.out.bld (by rw [byteCells_len, List.length_append]; have h1 := HMX.out; have h2 := HBL.out; rw [HEB.out, List.length_append] at h1; simp at h1; omega) HWQ.out).mono ?_
                        rintro e w6 ⟨rfl, hB6, hb6, ho6⟩
                        have HT6 := Aside0.mk (HT.out.step (bs' := Bs ++ escTo f1.data.toList (m + 1)) hb6 (by rw [HEB.out, ← List.append_assoc, byteCells_append]; rw [← HCU.out] at hB6; exact hB6) ho6 HRN.out)
                        clear hB6 hb6 ho6
                        go_wp2_with fail
                        exact ⟨⟨m + 1, by omega, by go_num, HT6⟩, by simp [intOf]; omega⟩
                      · have e4 := decide_eq_false q4
                        rw [e4] at bb1 bb2
                        have HEB := Lib.hid (HB1.out (by rw [HBK.out, e1, e2, e3, e4]; rfl))
                        clear e1 e2 e3 e4 q1 q2 q3 q4
                        go_wp2_with (go_at_call 45; refine (dn_special.calls c false _ HSPE.out).mono ?_; rintro e w' ⟨rfl, ⟨nq, rfl⟩⟩; have HTn := Aside0.mk (HT.out.drewN nq); clear HT; have HT := HTn; clear HTn)
                        go_wp2_with fail
                        refine (bwriteByte w.heap.size w.heap.size _ c _ HT.out.bld (by rw [byteCells_len, List.length_append]; have h1 := HMX.out; have h2 := HBL.out; rw [HEB.out, List.length_append] at h1; simp at h1; omega) HWQ.out).mono ?_
                        rintro e w6 ⟨rfl, hB6, hb6, ho6⟩
                        have HT6 := Aside0.mk (HT.out.step (bs' := Bs ++ escTo f1.data.toList (m + 1)) hb6 (by rw [HEB.out, ← List.append_assoc, byteCells_append]; rw [← HCU.out] at hB6; exact hB6) ho6 HRN.out)
                        clear hB6 hb6 ho6
                        go_wp2_with fail
                        exact ⟨⟨m + 1, by omega, by go_num, HT6⟩, by simp [intOf]; omega⟩
                    · have e2 := decide_eq_false q2
                      have b2 : (c == 35) = false := beq_eq_false_iff_ne.2 q2
                      by_cases q4 : m + 1 = f1.size
                      · have e4 := decide_eq_true q4
                        rw [e4] at bb1 bb2
                        have HEB := Lib.hid (HB1.out (by rw [HBK.out, e1, e2, e3, e4]; rfl))
                        clear e1 e2 e3 e4 q1 q2 q3 q4
                        go_wp2_with (go_at_call 45; refine (dn_special.calls c false _ HSPE.out).mono ?_; rintro e w' ⟨rfl, ⟨nq, rfl⟩⟩; have HTn := Aside0.mk (HT.out.drewN nq); clear HT; have HT := HTn; clear HTn)
                        go_wp2_with fail
                        refine (bwriteByte w.heap.size w.heap.size _ c _ HT.out.bld (by rw [byteCells_len, List.length_append]; have h1 := HMX.out; have h2 := HBL.out; rw [HEB.out, List.length_append] at h1; simp at h1; omega) HWQ.out).mono ?_
                        rintro e w6 ⟨rfl, hB6, hb6, ho6⟩
                        have HT6 := Aside0.mk (HT.out.step (bs' := Bs ++ escTo f1.data.toList (m + 1)) hb6 (by rw [HEB.out, ← List.append_assoc, byteCells_append]; rw [← HCU.out] at hB6; exact hB6) ho6 HRN.out)
                        clear hB6 hb6 ho6
                        go_wp2_with fail
                        exact ⟨⟨m + 1, by omega, by go_num, HT6⟩, by simp [intOf]; omega⟩
                      · have e4 := decide_eq_false q4
                        rw [e4] at bb1 bb2
                        have HEB := Lib.hid (HB1.out (by rw [HBK.out, e1, e2, e3, e4]; rfl))
                        clear e1 e2 e3 e4 q1 q2 q3 q4
                        go_wp2_with (go_at_call 45; refine (dn_special.calls c false _ HSPE.out).mono ?_; rintro e w' ⟨rfl, ⟨nq, rfl⟩⟩; have HTn := Aside0.mk (HT.out.drewN nq); clear HT; have HT := HTn; clear HTn)
                        go_wp2_with fail
                        refine (bwriteByte w.heap.size w.heap.size _ c _ HT.out.bld (by rw [byteCells_len, List.length_append]; have h1 := HMX.out; have h2 := HBL.out; rw [HEB.out, List.length_append] at h1; simp at h1; omega) HWQ.out).mono ?_
                        rintro e w6 ⟨rfl, hB6, hb6, ho6⟩
                        have HT6 := Aside0.mk (HT.out.step (bs' := Bs ++ escTo f1.data.toList (m + 1)) hb6 (by rw [HEB.out, ← List.append_assoc, byteCells_append]; rw [← HCU.out] at hB6; exact hB6) ho6 HRN.out)
                        clear hB6 hb6 ho6
                        go_wp2_with fail
                        exact ⟨⟨m + 1, by omega, by go_num, HT6⟩, by simp [intOf]; omega⟩
          · have hge : ¬ (m : Int) < (f1.size : Int) := by omega
            have hme : m = f1.data.toList.length := by rw [← size_len]; omega
            have HME := Lib.hid hme
            clear hme
            have hlt2 : w.heap.size < wr.heap.size := by rcases HT.out.bld with h | h <;> exact h.lt
            have HL2 := Lib.hid hlt2
            clear hlt2
            go_wp2
            refine ⟨⟨k + 1, by omega, by go_num, ⟨HT.out.below⟩, ⟨HL2.out⟩, ⟨?_⟩⟩, by simp [intOf]; omega⟩
            rw [HSUC.out]
            have hfin := HT.out.bld
            rw [HME.out] at hfin
            exact hfin
      · have d0 : decide (0 < k) = false := decide_eq_false hk0
        have hsep : textTo l0 k ++ sepB k = textTo l0 k := by unfold sepB; rw [if_pos (by omega)]; simp
        have HT : Aside0 (TW w (wo.alloc (.cells #[.string f0, .string f1] 51)) wo.heap.size f0 f1 (textTo l0 k ++ sepB k)) := by rw [hsep]; exact HT0
        clear hsep HT0 HWL
        have hc20 := HT.out.c0
        have HWS := Lib.hid HT.out.below.size
        go_wp2_with fail
        refine (bwriteString w.heap.size w.heap.size _ f0 _ HT.out.bld (by rw [byteCells_len]; have := HF0B.out; omega) HWS.out).mono ?_
        rintro e w3 ⟨rfl, hB3, hb3, ho3⟩
        have HT3 := Aside0.mk (HT.out.step (bs' := textTo l0 k ++ sepB k ++ f0.data.toList) hb3 (by rw [byteCells_append]; exact hB3) ho3 HRN.out)
        clear hB3 hb3 ho3 HT hc20 HWS
        have HWS := Lib.hid HT3.out.below.size
        go_wp2_with fail
        refine (bwriteByte w.heap.size w.heap.size _ 61 _ HT3.out.bld (by rw [byteCells_len, List.length_append, ← size_len]; have := HF0B.out; omega) HWS.out).mono ?_
        rintro e w4 ⟨rfl, hB4, hb4, ho4⟩
        have HT4 := Aside0.mk (HT3.out.step (bs' := Bs) hb4 (by rw [← HBS.out, byteCells_append]; exact hB4) ho4 HRN.out)
        clear hB4 hb4 ho4 HT3 HWS
        have hc41 := HT4.out.c1
        go_wp2_with fail
        go_loopw [25] (fun j wq => ∃ m : Nat, m ≤ f1.size ∧ j = .int .i64 m ∧ Aside0 (TW w wq wo.heap.size f0 f1 (Bs ++ escTo f1.data.toList m))) (fun j _ => f1.size - (intOf j).toNat)
        case atStart => exact ⟨0, Nat.zero_le _, rfl, ⟨by rw [show escTo f1.data.toList 0 = [] from rfl, List.append_nil]; exact HT4.out⟩⟩
        case round =>
          clear hc41 HT4
          obtain ⟨m, hm, rfl, HT⟩ := hrel
          have hcq := HT.out.c1
          have HWQ := Lib.hid HT.out.below.size
          by_cases hlm : m < f1.size
          · have hum := bt_nat f1 m
            have hes := escTo_succ f1.data.toList m
            have hmx := escTo_max f1.data.toList (m + 1) (by rw [← size_len]; omega)
            obtain ⟨u, hu⟩ : ∃ u : UInt8, f1.data.toList.getD m 0 = u := ⟨_, rfl⟩
            rw [hu] at hum hes
            rw [← size_len] at hes
            have hbx : ∀ h : m < f1.size, ((f1[m]'h).toNat : Int) = bt f1 (m : Int) := fun h => by
              have := bt_at f1 (m : Int) (by rw [Int.toNat_natCast]; exact h)
              simpa using this
            have hsp := dn_special_eq u
            rw [hum] at hbx
            obtain ⟨c, hcu⟩ : ∃ c : Int, (u.toNat : Int) = c := ⟨_, rfl⟩
            rw [hcu] at hbx hsp
            have hc0' : 0 ≤ c := by omega
            have hc1' : c ≤ 255 := by have := u.toNat_lt; omega
            have HSPE := Lib.hid hsp
            have HES := Lib.hid hes
            have HMX := Lib.hid hmx
            have HCU := Lib.hid hcu
            clear hum hu hsp hes hmx hcu
            have hesc : ∀ o b : Bool, oddB u = o → backB f1.size m u = b → escTo f1.data.toList (m + 1) = escTo f1.data.toList m ++ (if o = true then [92, hexD (u >>> 4), hexD (u &&& 15)] else if b = true then [92, u] else [u]) := by
              intro o b ho hb
              rw [HES.out]; unfold escB; rw [ho, hb]
            have HESC := Lib.hid hesc
            clear hesc
            by_cases h32 : c < 32 ∨ 126 < c
            · have hodd : oddB u = true := by
                unfold oddB
                have := HCU.out
                rcases h32 with h | h
                · rw [decide_eq_true (show u < 32 from by rw [UInt8.lt_iff_toNat_lt]; show u.toNat < 32; omega)]; rfl
                · rw [decide_eq_true (show 126 < u from by rw [UInt8.lt_iff_toNat_lt]; show 126 < u.toNat; omega), Bool.or_true]
              have hEB := HESC.out true _ hodd rfl
              rw [if_pos rfl] at hEB
              have HEB := Lib.hid hEB
              clear hEB hodd
              have hb32 : (∃ x, decide (c < 32) = x) := ⟨_, rfl⟩
              rcases Classical.em (c < 32) with h1 | h1
              · have d1 : decide (c < 32) = true := decide_eq_true h1
                clear h32
                have hx1 := hex_hi u
                have hx2 := hex_lo u
                have hr1 : 0 ≤ c / 16 ∧ c / 16 < 16 := by omega
                have hr2 := and15 u
                rw [HCU.out] at hx1 hx2 hr2
                obtain ⟨v1, hv1⟩ : ∃ v1 : Int, ((hexD (u >>> 4)).toNat : Int) = v1 := ⟨_, rfl⟩
                obtain ⟨v2, hv2⟩ : ∃ v2 : Int, ((hexD (u &&& 15)).toNat : Int) = v2 := ⟨_, rfl⟩
                rw [hv1] at hx1
                rw [hv2] at hx2
                have hi1 := hex_run (P := Tryd.prog) Tryd.underlying9 (c / 16) hr1.1 hr1.2
                have hi2 := hex_run (P := Tryd.prog) Tryd.underlying9 (Go.bits .and .u8 c 15) hr2.1 hr2.2
                rw [hx1] at hi1
                rw [hx2] at hi2
                have HV1 := Lib.hid hv1
                have HV2 := Lib.hid hv2
                clear hx1 hx2 hr1 hr2 hv1 hv2
                go_wp2_with fail
                go_still_tail 6, (by kernel_rfl)
                go_wp2_with fail
                have hTA : TW w (wr.alloc (.cells #[.int .u8 92, .int .u8 v1, .int .u8 v2] 5)).drew wo.heap.size f0 f1 (Bs ++ escTo f1.data.toList m) := (HT.out.alloc _).drewN 1
                have HTA := Aside0.mk hTA
                have hne : wr.heap.size ≠ w.heap.size := by
                  have : w.heap.size < wr.heap.size := by rcases HT.out.bld with h | h <;> exact h.lt
                  omega
                have HNE := Lib.hid hne
                have hcl : ∀ j, j < 3 → (wr.alloc (.cells #[.int .u8 92, .int .u8 v1, .int .u8 v2] 5)).drew.cell? ⟨wr.heap.size, j, none⟩ = some (.int .u8 (([92, v1, v2] : List Int).getD j 0)) := by
                  intro j hj
                  rcases j with _ | _ | _ | j
                  · simp
                  · simp
                  · simp
                  · omega
                have HCL := Lib.hid hcl
                have HWA := Lib.hid hTA.below.size
                clear hTA hne hcl
                refine (bwrite w.heap.size w.heap.size wr.heap.size 3 3 _ [92, v1, v2] rfl _ HTA.out.bld (by rw [byteCells_len, List.length_append]; have h1 := HMX.out; have h2 := HBL.out; rw [HEB.out, List.length_append] at h1; simp at h1; omega) HWA.out HCL.out (by omega) HNE.out).mono ?_
                rintro e w6 ⟨rfl, hB6, hb6, ho6⟩
                have HT6 := Aside0.mk (HTA.out.step (bs' := Bs ++ escTo f1.data.toList (m + 1)) hb6 (by rw [HEB.out, ← List.append_assoc, byteCells_append]; rw [← HV1.out, ← HV2.out] at hB6; exact hB6) ho6 HRN.out)
                clear hB6 hb6 ho6 HTA HCL
                go_wp2_with fail
                exact ⟨⟨m + 1, by omega, by go_num, HT6⟩, by simp [intOf]; omega⟩
              · have d1 : decide (c < 32) = false := decide_eq_false h1
                have d2 : decide (126 < c) = true := decide_eq_true (by omega)
                clear h32
                have hx1 := hex_hi u
                have hx2 := hex_lo u
                have hr1 : 0 ≤ c / 16 ∧ c / 16 < 16 := by omega
                have hr2 := and15 u
                rw [HCU.out] at hx1 hx2 hr2
                obtain ⟨v1, hv1⟩ : ∃ v1 : Int, ((hexD (u >>> 4)).toNat : Int) = v1 := ⟨_, rfl⟩
                obtain ⟨v2, hv2⟩ : ∃ v2 : Int, ((hexD (u &&& 15)).toNat : Int) = v2 := ⟨_, rfl⟩
                rw [hv1] at hx1
                rw [hv2] at hx2
                have hi1 := hex_run (P := Tryd.prog) Tryd.underlying9 (c / 16) hr1.1 hr1.2
                have hi2 := hex_run (P := Tryd.prog) Tryd.underlying9 (Go.bits .and .u8 c 15) hr2.1 hr2.2
                rw [hx1] at hi1
                rw [hx2] at hi2
                have HV1 := Lib.hid hv1
                have HV2 := Lib.hid hv2
                clear hx1 hx2 hr1 hr2 hv1 hv2
                go_wp2_with fail
                go_still_tail 6, (by kernel_rfl)
                go_wp2_with fail
                have hTA : TW w (wr.alloc (.cells #[.int .u8 92, .int .u8 v1, .int .u8 v2] 5)).drew wo.heap.size f0 f1 (Bs ++ escTo f1.data.toList m) := (HT.out.alloc _).drewN 1
                have HTA := Aside0.mk hTA
                have hne : wr.heap.size ≠ w.heap.size := by
                  have : w.heap.size < wr.heap.size := by rcases HT.out.bld with h | h <;> exact h.lt
                  omega
                have HNE := Lib.hid hne
                have hcl : ∀ j, j < 3 → (wr.alloc (.cells #[.int .u8 92, .int .u8 v1, .int .u8 v2] 5)).drew.cell? ⟨wr.heap.size, j, none⟩ = some (.int .u8 (([92, v1, v2] : List Int).getD j 0)) := by
                  intro j hj
                  rcases j with _ | _ | _ | j
                  · simp
                  · simp
                  · simp
                  · omega
                have HCL := Lib.hid hcl
                have HWA := Lib.hid hTA.below.size
                clear hTA hne hcl
                refine (bwrite w.heap.size w.heap.size wr.heap.size 3 3 _ [92, v1, v2] rfl _ HTA.out.bld (by rw [byteCells_len, List.length_append]; have h1 := HMX.out; have h2 := HBL.out; rw [HEB.out, List.length_append] at h1; simp at h1; omega) HWA.out HCL.out (by omega) HNE.out).mono ?_
                rintro e w6 ⟨rfl, hB6, hb6, ho6⟩
                have HT6 := Aside0.mk (HTA.out.step (bs' := Bs ++ escTo f1.data.toList (m + 1)) hb6 (by rw [HEB.out, ← List.append_assoc, byteCells_append]; rw [← HV1.out, ← HV2.out] at hB6; exact hB6) ho6 HRN.out)
                clear hB6 hb6 ho6 HTA HCL
                go_wp2_with fail
                exact ⟨⟨m + 1, by omega, by go_num, HT6⟩, by simp [intOf]; omega⟩
            · have h1 : ¬ c < 32 := fun h => h32 (.inl h)
              have h2 : ¬ 126 < c := fun h => h32 (.inr h)
              have hodd : oddB u = false := by
                unfold oddB
                have := HCU.out
                rw [decide_eq_false (show ¬ u < 32 from by rw [UInt8.lt_iff_toNat_lt]; show ¬ u.toNat < 32; omega), decide_eq_false (show ¬ 126 < u from by rw [UInt8.lt_iff_toNat_lt]; show ¬ 126 < u.toNat; omega)]; rfl
              have d1 : decide (c < 32) = false := decide_eq_false h1
              have d2 : decide (126 < c) = false := decide_eq_false h2
              have hEB2 := fun (h : backB f1.size m u = true) => HESC.out false true hodd h
              have hEB1 := fun (h : backB f1.size m u = false) => HESC.out false false hodd h
              rw [if_neg (by simp), if_pos rfl] at hEB2
              rw [if_neg (by simp), if_neg (by simp)] at hEB1
              have HB2 := Lib.hid hEB2
              have HB1 := Lib.hid hEB1
              clear hEB1 hEB2 hodd h32
              cases hsb : specialB u with
              | true =>
                rw [hsb] at HSPE
                have HEB := Lib.hid (HB2.out (by unfold backB; rw [hsb]; rfl))
                clear hsb
                go_wp2_with (go_at_call 45; refine (dn_special.calls c true _ HSPE.out).mono ?_; rintro e w' ⟨rfl, ⟨nq, rfl⟩⟩; have HTn := Aside0.mk (HT.out.drewN nq); clear HT; have HT := HTn; clear HTn)
                go_wp2_with fail
                refine (bwriteByte w.heap.size w.heap.size _ 92 _ HT.out.bld (by rw [byteCells_len, List.length_append]; have h1 := HMX.out; have h2 := HBL.out; rw [HEB.out, List.length_append] at h1; simp at h1; omega) HWQ.out).mono ?_
                rintro e w5 ⟨rfl, hB5, hb5, ho5⟩
                have HT5 := Aside0.mk (HT.out.step (bs' := Bs ++ escTo f1.data.toList m ++ [92]) hb5 (by rw [byteCells_append]; exact hB5) ho5 HRN.out)
                have HW5 := Lib.hid HT5.out.below.size
                clear hB5 hb5 ho5
                go_wp2_with fail
                refine (bwriteByte w.heap.size w.heap.size _ c _ HT5.out.bld (by rw [byteCells_len, List.length_append, List.length_append]; have h1 := HMX.out; have h2 := HBL.out; rw [HEB.out, List.length_append] at h1; simp at h1 ⊢; omega) HW5.out).mono ?_
                rintro e w6 ⟨rfl, hB6, hb6, ho6⟩
                have HT6 := Aside0.mk (HT5.out.step (bs' := Bs ++ escTo f1.data.toList (m + 1)) hb6 (by rw [HEB.out, show Bs ++ (escTo f1.data.toList m ++ [92, u]) = (Bs ++ escTo f1.data.toList m ++ [92]) ++ [u] by simp, byteCells_append]; rw [← HCU.out] at hB6; exact hB6) ho6 HRN.out)
                clear hB6 hb6 ho6
                go_wp2_with fail
                exact ⟨⟨m + 1, by omega, by go_num, HT6⟩, by simp [intOf]; omega⟩
              | false =>
                rw [hsb] at HSPE
                have hu35 : (u = 35) ↔ (c = 35) := by rw [← HCU.out]; exact (u8_35 u).symm
                have hu32 : (u = 32) ↔ (c = 32) := by rw [← HCU.out]; exact (u8_32 u).symm
                have hbk : backB f1.size m u = ((decide (m = 0) && (decide (c = 35) || decide (c = 32))) || (decide (m + 1 = f1.size) && decide (c = 32))) := by
                  unfold backB; rw [hsb, Bool.false_or, decide_eq_decide.2 hu35, decide_eq_decide.2 hu32]
                have HBK := Lib.hid hbk
                clear hbk hu35 hu32 hsb
                have bb1 : ((f1.size : Int) - 1 == (m : Int)) = decide (m + 1 = f1.size) := by
                  rw [Bool.eq_iff_iff, beq_iff_eq, decide_eq_true_iff]; omega
                have bb2 : ((m : Int) == (f1.size : Int) - 1) = decide (m + 1 = f1.size) := by
                  rw [Bool.eq_iff_iff, beq_iff_eq, decide_eq_true_iff]; omega
                by_cases q1 : m = 0
                · have e1 := decide_eq_true q1
                  have b1 : ((m : Int) == 0) = true := beq_iff_eq.2 (by omega)
                  by_cases q3 : c = 32
                  · have e3 := decide_eq_true q3
                    have b3 : (c == 32) = true := beq_iff_eq.2 q3
                    by_cases q2 : c = 35
                    · omega
                    · have e2 := decide_eq_false q2
                      have b2 : (c == 35) = false := beq_eq_false_iff_ne.2 q2
                      by_cases q4 : m + 1 = f1.size
                      · have e4 := decide_eq_true q4
                        rw [e4] at bb1 bb2
                        have HEB := Lib.hid (HB2.out (by rw [HBK.out, e1, e2, e3, e4]; rfl))
                        clear e1 e2 e3 e4 q1 q2 q3 q4
                        go_wp2_with (go_at_call 45; refine (dn_special.calls c false _ HSPE.out).mono ?_; rintro e w' ⟨rfl, ⟨nq, rfl⟩⟩; have HTn := Aside0.mk (HT.out.drewN nq); clear HT; have HT := HTn; clear HTn)
                        go_wp2_with fail
                        refine (bwriteByte w.heap.size w.heap.size _ 92 _ HT.out.bld (by rw [byteCells_len, List.length_append]; have h1 := HMX.out; have h2 := HBL.out; rw [HEB.out, List.length_append] at h1; simp at h1; omega) HWQ.out).mono ?_
                        rintro e w5 ⟨rfl, hB5, hb5, ho5⟩
                        have HT5 := Aside0.mk (HT.out.step (bs' := Bs ++ escTo f1.data.toList m ++ [92]) hb5 (by rw [byteCells_append]; exact hB5) ho5 HRN.out)
                        have HW5 := Lib.hid HT5.out.below.size
                        clear hB5 hb5 ho5
                        go_wp2_with fail
                        refine (bwriteByte w.heap.size w.heap.size _ c _ HT5.out.bld (by rw [byteCells_len, List.length_append, List.length_append]; have h1 := HMX.out; have h2 := HBL.out; rw [HEB.out, List.length_append] at h1; simp at h1 ⊢; omega) HW5.out).mono ?_
                        rintro e w6 ⟨rfl, hB6, hb6, ho6⟩
                        have HT6 := Aside0.mk (HT5.out.step (bs' := Bs ++ escTo f1.data.toList (m + 1)) hb6 (by rw [HEB.out, show Bs ++ (escTo f1.data.toList m ++ [92, u]) = (Bs ++ escTo f1.data.toList m ++ [92]) ++ [u] by simp, byteCells_append]; rw [← HCU.out] at hB6; exact hB6) ho6 HRN.out)
                        clear hB6 hb6 ho6
                        go_wp2_with fail
                        exact ⟨⟨m + 1, by omega, by go_num, HT6⟩, by simp [intOf]; omega⟩
                      · have e4 := decide_eq_false q4
                        rw [e4] at bb1 bb2
                        have HEB := Lib.hid (HB2.out (by rw [HBK.out, e1, e2, e3, e4]; rfl))
                        clear e1 e2 e3 e4 q1 q2 q3 q4
                        go_wp2_with (go_at_call 45; refine (dn_special.calls c false _ HSPE.out).mono ?_; rintro e w' ⟨rfl, ⟨nq, rfl⟩⟩; have HTn := Aside0.mk (HT.out.drewN nq); clear HT; have HT := HTn; clear HTn)
                        go_wp2_with fail
                        refine (bwriteByte w.heap.size w.heap.size _ 92 _ HT.out.bld (by rw [byteCells_len, List.length_append]; have h1 := HMX.out; have h2 := HBL.out; rw [HEB.out, List.length_append] at h1; simp at h1; omega) HWQ.out).mono ?_
                        rintro e w5 ⟨rfl, hB5, hb5, ho5⟩
                        have HT5 := Aside0.mk (HT.out.step (bs' := Bs ++ escTo f1.data.toList m ++ [92]) hb5 (by rw [byteCells_append]; exact hB5) ho5 HRN.out)
                        have HW5 := Lib.hid HT5.out.below.size
                        clear hB5 hb5 ho5
                        go_wp2_with fail
                        refine (bwriteByte w.heap.size w.heap.size _ c _ HT5.out.bld (by rw [byteCells_len, List.length_append, List.length_append]; have h1 := HMX.out; have h2 := HBL.out; rw [HEB.out, List.length_append] at h1; simp at h1 ⊢; omega) HW5.out).mono ?_
                        rintro e w6 ⟨rfl, hB6, hb6, ho6⟩
                        have HT6 := Aside0.mk (HT5.out.step (bs' := Bs ++ escTo f1.data.toList (m + 1)) hb6 (by rw [HEB.out, show Bs ++ (escTo f1.data.toList m ++ [92, u]) = (Bs ++ escTo f1.data.toList m ++ [92]) ++ [u] by simp, byteCells_append]; rw [← HCU.out] at hB6; exact hB6) ho6 HRN.out)
                        clear hB6 hb6 ho6
                        go_wp2_with fail
                        exact ⟨⟨m + 1, by omega, by go_num, HT6⟩, by simp [intOf]; omega⟩
                  · have e3 := decide_eq_false q3
                    have b3 : (c == 32) = false := beq_eq_false_iff_ne.2 q3
                    by_cases q2 : c = 35
                    · have e2 := decide_eq_true q2
                      have b2 : (c == 35) = true := beq_iff_eq.2 q2
                      by_cases q4 : m + 1 = f1.size
                      · have e4 := decide_eq_true q4
                        rw [e4] at bb1 bb2
                        have HEB := Lib.hid (HB2.out (by rw [HBK.out, e1, e2, e3, e4]; rfl))
                        clear e1 e2 e3 e4 q1 q2 q3 q4
                        go_wp2_with (go_at_call 45; refine (dn_special.calls c false _ HSPE.out).mono ?_; rintro e w' ⟨rfl, ⟨nq, rfl⟩⟩; have HTn := Aside0.mk (HT.out.drewN nq); clear HT; have HT := HTn; clear HTn)
                        go_wp2_with fail
                        refine (bwriteByte w.heap.size w.heap.size _ 92 _ HT.out.bld (by rw [byteCells_len, List.length_append]; have h1 := HMX.out; have h2 := HBL.out; rw [HEB.out, List.length_append] at h1; simp at h1; omega) HWQ.out).mono ?_
                        rintro e w5 ⟨rfl, hB5, hb5, ho5⟩
                        have HT5 := Aside0.mk (HT.out.step (bs' := Bs ++ escTo f1.data.toList m ++ [92]) hb5 (by rw [byteCells_append]; exact hB5) ho5 HRN.out)
                        have HW5 := Lib.hid HT5.out.below.size
                        clear hB5 hb5 ho5
                        go_wp2_with fail
                        refine (bwriteByte w.heap.size w.heap.size _ c _ HT5.out.bld (by rw [byteCells_len, List.length_append, List.length_append]; have h1 := HMX.out; have h2 := HBL.out; rw [HEB.out, List.length_append] at h1; simp at h1 ⊢; omega) HW5.out).mono ?_
                        rintro e w6 ⟨rfl, hB6, hb6, ho6⟩
                        have HT6 := Aside0.mk (HT5.out.step (bs' := Bs ++ escTo f1.data.toList (m + 1)) hb6 (by rw [HEB.out, show Bs ++ (escTo f1.data.toList m ++ [92, u]) = (Bs ++ escTo f1.data.toList m ++ [92]) ++ [u] by simp, byteCells_append]; rw [← HCU.out] at hB6; exact hB6) ho6 HRN.out)
                        clear hB6 hb6 ho6
                        go_wp2_with fail
                        exact ⟨⟨m + 1, by omega, by go_num, HT6⟩, by simp [intOf]; omega⟩
                      · have e4 := decide_eq_false q4
                        rw [e4] at bb1 bb2
                        have HEB := Lib.hid (HB2.out (by rw [HBK.out, e1, e2, e3, e4]; rfl))
                        clear e1 e2 e3 e4 q1 q2 q3 q4
                        go_wp2_with (go_at_call 45; refine (dn_special.calls c false _ HSPE.out).mono ?_; rintro e w' ⟨rfl, ⟨nq, rfl⟩⟩; have HTn := Aside0.mk (HT.out.drewN nq); clear HT; have HT := HTn; clear HTn)
                        go_wp2_with fail
                        refine (bwriteByte w.heap.size w.heap.size _ 92 _ HT.out.bld (by rw [byteCells_len, List.length_append]; have h1 := HMX.out; have h2 := HBL.out; rw [HEB.out, List.length_append] at h1; simp at h1; omega) HWQ.out).mono ?_
                        rintro e w5 ⟨rfl, hB5, hb5, ho5⟩
                        have HT5 := Aside0.mk (HT.out.step (bs' := Bs ++ escTo f1.data.toList m ++ [92]) hb5 (by rw [byteCells_append]; exact hB5) ho5 HRN.out)
                        have HW5 := Lib.hid HT5.out.below.size
                        clear hB5 hb5 ho5
                        go_wp2_with fail
                        refine (bwriteByte w.heap.size w.heap.size _ c _ HT5.out.bld (by rw [byteCells_len, List.length_append, List.length_append]; have h1 := HMX.out; have h2 := HBL.out; rw [HEB.out, List.length_append] at h1; simp at h1 ⊢; omega) HW5.out).mono ?_
                        rintro e w6 ⟨rfl, hB6, hb6, ho6⟩
                        have HT6 := Aside0.mk (HT5.out.step (bs' := Bs ++ escTo f1.data.toList (m + 1)) hb6 (by rw [HEB.out, show Bs ++ (escTo f1.data.toList m ++ [92, u]) = (Bs ++ escTo f1.data.toList m ++ [92]) ++ [u] by simp, byteCells_append]; rw [← HCU.out] at hB6; exact hB6) ho6 HRN.out)
                        clear hB6 hb6 ho6
                        go_wp2_with fail
                        exact ⟨⟨m + 1, by omega, by go_num, HT6⟩, by simp [intOf]; omega⟩
                    · have e2 := decide_eq_false q2
                      have b2 : (c == 35) = false := beq_eq_false_iff_ne.2 q2
                      by_cases q4 : m + 1 = f1.size
                      · have e4 := decide_eq_true q4
                        rw [e4] at bb1 bb2
                        have HEB := Lib.hid (HB1.out (by rw [HBK.out, e1, e2, e3, e4]; rfl))
                        clear e1 e2 e3 e4 q1 q2 q3 q4
                        go_wp2_with (go_at_call 45; refine (dn_special.calls c false _ HSPE.out).mono ?_; rintro e w' ⟨rfl, ⟨nq, rfl⟩⟩; have HTn := Aside0.mk (HT.out.drewN nq); clear HT; have HT := HTn; clear HTn)
                        go_wp2_with fail
                        refine (bwriteByte w.heap.size w.heap.size _ c _ HT.out.bld (by rw [byteCells_len, List.length_append]; have h1 := HMX.out; have h2 := HBL.out; rw [HEB.out, List.length_append] at h1; simp at h1; omega) HWQ.out).mono ?_
                        rintro e w6 ⟨rfl, hB6, hb6, ho6⟩
                        have HT6 := Aside0.mk (HT.out.step (bs' := Bs ++ escTo f1.data.toList (m + 1)) hb6 (by rw [HEB.out, ← List.append_assoc, byteCells_append]; rw [← HCU.out] at hB6; exact hB6) ho6 HRN.out)
                        clear hB6 hb6 ho6
                        go_wp2_with fail
                        exact ⟨⟨m + 1, by omega, by go_num, HT6⟩, by simp [intOf]; omega⟩
                      · have e4 := decide_eq_false q4
                        rw [e4] at bb1 bb2
                        have HEB := Lib.hid (HB1.out (by rw [HBK.out, e1, e2, e3, e4]; rfl))
                        clear e1 e2 e3 e4 q1 q2 q3 q4
                        go_wp2_with (go_at_call 45; refine (dn_special.calls c false _ HSPE.out).mono ?_; rintro e w' ⟨rfl, ⟨nq, rfl⟩⟩; have HTn := Aside0.mk (HT.out.drewN nq); clear HT; have HT := HTn; clear HTn)
                        go_wp2_with fail
                        refine (bwriteByte w.heap.size w.heap.size _ c _ HT.out.bld (by rw [byteCells_len, List.length_append]; have h1 := HMX.out; have h2 := HBL.out; rw [HEB.out, List.length_append] at h1; simp at h1; omega) HWQ.out).mono ?_
                        rintro e w6 ⟨rfl, hB6, hb6, ho6⟩
                        have HT6 := Aside0.mk (HT.out.step (bs' := Bs ++ escTo f1.data.toList (m + 1)) hb6 (by rw [HEB.out, ← List.append_assoc, byteCells_append]; rw [← HCU.out] at hB6; exact hB6) ho6 HRN.out)
                        clear hB6 hb6 ho6
                        go_wp2_with fail
                        exact ⟨⟨m + 1, by omega, by go_num, HT6⟩, by simp [intOf]; omega⟩
                · have e1 := decide_eq_false q1
                  have b1 : ((m : Int) == 0) = false := beq_eq_false_iff_ne.2 (by omega)
                  by_cases q3 : c = 32
                  · have e3 := decide_eq_true q3
                    have b3 : (c == 32) = true := beq_iff_eq.2 q3
                    by_cases q2 : c = 35
                    · omega
                    · have e2 := decide_eq_false q2
                      have b2 : (c == 35) = false := beq_eq_false_iff_ne.2 q2
                      by_cases q4 : m + 1 = f1.size
                      · have e4 := decide_eq_true q4
                        rw [e4] at bb1 bb2
                        have HEB := Lib.hid (HB2.out (by rw [HBK.out, e1, e2, e3, e4]; rfl))
                        clear e1 e2 e3 e4 q1 q2 q3 q4
                        go_wp2_with (go_at_call 45; refine (dn_special.calls c false _ HSPE.out).mono ?_; rintro e w' ⟨rfl, ⟨nq, rfl⟩⟩; have HTn := Aside0.mk (HT.out.drewN nq); clear HT; have HT := HTn; clear HTn)
                        go_wp2_with fail
                        refine (bwriteByte w.heap.size w.heap.size _ 92 _ HT.out.bld (by rw [byteCells_len, List.length_append]; have h1 := HMX.out; have h2 := HBL.out; rw [HEB.out, List.length_append] at h1; simp at h1; omega) HWQ.out).mono ?_
                        rintro e w5 ⟨rfl, hB5, hb5, ho5⟩
                        have HT5 := Aside0.mk (HT.out.step (bs' := Bs ++ escTo f1.data.toList m ++ [92]) hb5 (by rw [byteCells_append]; exact hB5) ho5 HRN.out)
                        have HW5 := Lib.hid HT5.out.below.size
                        clear hB5 hb5 ho5
                        go_wp2_with fail
                        refine (bwriteByte w.heap.size w.heap.size _ c _ HT5.out.bld (by rw [byteCells_len, List.length_append, List.length_append]; have h1 := HMX.out; have h2 := HBL.out; rw [HEB.out, List.length_append] at h1; simp at h1 ⊢; omega) HW5.out).mono ?_
                        rintro e w6 ⟨rfl, hB6, hb6, ho6⟩
                        have HT6 := Aside0.mk (HT5.out.step (bs' := Bs ++ escTo f1.data.toList (m + 1)) hb6 (by rw [HEB.out, show Bs ++ (escTo f1.data.toList m ++ [92, u]) = (Bs ++ escTo f1.data.toList m ++ [92]) ++ [u] by simp, byteCells_append]; rw [← HCU.out] at hB6; exact hB6) ho6 HRN.out)
                        clear hB6 hb6 ho6
                        go_wp2_with fail
                        exact ⟨⟨m + 1, by omega, by go_num, HT6⟩, by simp [intOf]; omega⟩
                      · have e4 := decide_eq_false q4
                        rw [e4] at bb1 bb2
                        have HEB := Lib.hid (HB1.out (by rw [HBK.out, e1, e2, e3, e4]; rfl))
                        clear e1 e2 e3 e4 q1 q2 q3 q4
                        go_wp2_with (go_at_call 45; refine (dn_special.calls c false _ HSPE.out).mono ?_; rintro e w' ⟨rfl, ⟨nq, rfl⟩⟩; have HTn := Aside0.mk (HT.out.drewN nq); clear HT; have HT := HTn; clear HTn)
                        go_wp2_with fail
                        refine (bwriteByte w.heap.size w.heap.size _ c _ HT.out.bld (by rw [byteCells_len, List.length_append]; have h1 := HMX.out; have h2 := HBL.out; rw [HEB.out, List.length_append] at h1; simp at h1; omega) HWQ.out).mono ?_
                        rintro e w6 ⟨rfl, hB6, hb6, ho6⟩
                        have HT6 := Aside0.mk (HT.out.step (bs' := Bs ++ escTo f1.data.toList (m + 1)) hb6 (by rw [HEB.out, ← List.append_assoc, byteCells_append]; rw [← HCU.out] at hB6; exact hB6) ho6 HRN.out)
                        clear hB6 hb6 ho6
                        go_wp2_with fail
                        exact ⟨⟨m + 1, by omega, by go_num, HT6⟩, by simp [intOf]; omega⟩
                  · have e3 := decide_eq_false q3
                    have b3 : (c == 32) = false := beq_eq_false_iff_ne.2 q3
                    by_cases q2 : c = 35
                    · have e2 := decide_eq_true q2
                      have b2 : (c == 35) = true := beq_iff_eq.2 q2
                      by_cases q4 : m + 1 = f1.size
                      · have e4 := decide_eq_true q4
                        rw [e4] at bb1 bb2
                        have HEB := Lib.hid (HB1.out (by rw [HBK.out, e1, e2, e3, e4]; rfl))
                        clear e1 e2 e3 e4 q1 q2 q3 q4
                        go_wp2_with (go_at_call 45; refine (dn_special.calls c false _ HSPE.out).mono ?_; rintro e w' ⟨rfl, ⟨nq, rfl⟩⟩; have HTn := Aside0.mk (HT.out.drewN nq); clear HT; have HT := HTn; clear HTn)
                        go_wp2_with fail
                        refine (bwriteByte w.heap.size w.heap.size _ c _ HT.out.bld (by rw [byteCells_len, List.length_append]; have h1 := HMX.out; have h2 := HBL.out; rw [HEB.out, List.length_append] at h1; simp at h1; omega) HWQ.out).mono ?_
                        rintro e w6 ⟨rfl, hB6, hb6, ho6⟩
                        have HT6 := Aside0.mk (HT.out.step (bs' := Bs ++ escTo f1.data.toList (m + 1)) hb6 (by rw [HEB.out, ← List.append_assoc, byteCells_append]; rw [← HCU.out] at hB6; exact hB6) ho6 HRN.out)
                        clear hB6 hb6 ho6
                        go_wp2_with fail
                        exact ⟨⟨m + 1, by omega, by go_num, HT6⟩, by simp [intOf]; omega⟩
                      · have e4 := decide_eq_false q4
                        rw [e4] at bb1 bb2
                        have HEB := Lib.hid (HB1.out (by rw [HBK.out, e1, e2, e3, e4]; rfl))
                        clear e1 e2 e3 e4 q1 q2 q3 q4
                        go_wp2_with (go_at_call 45; refine (dn_special.calls c false _ HSPE.out).mono ?_; rintro e w' ⟨rfl, ⟨nq, rfl⟩⟩; have HTn := Aside0.mk (HT.out.drewN nq); clear HT; have HT := HTn; clear HTn)
                        go_wp2_with fail
                        refine (bwriteByte w.heap.size w.heap.size _ c _ HT.out.bld (by rw [byteCells_len, List.length_append]; have h1 := HMX.out; have h2 := HBL.out; rw [HEB.out, List.length_append] at h1; simp at h1; omega) HWQ.out).mono ?_
                        rintro e w6 ⟨rfl, hB6, hb6, ho6⟩
                        have HT6 := Aside0.mk (HT.out.step (bs' := Bs ++ escTo f1.data.toList (m + 1)) hb6 (by rw [HEB.out, ← List.append_assoc, byteCells_append]; rw [← HCU.out] at hB6; exact hB6) ho6 HRN.out)
                        clear hB6 hb6 ho6
                        go_wp2_with fail
                        exact ⟨⟨m + 1, by omega, by go_num, HT6⟩, by simp [intOf]; omega⟩
                    · have e2 := decide_eq_false q2
                      have b2 : (c == 35) = false := beq_eq_false_iff_ne.2 q2
                      by_cases q4 : m + 1 = f1.size
                      · have e4 := decide_eq_true q4
                        rw [e4] at bb1 bb2
                        have HEB := Lib.hid (HB1.out (by rw [HBK.out, e1, e2, e3, e4]; rfl))
                        clear e1 e2 e3 e4 q1 q2 q3 q4
                        go_wp2_with (go_at_call 45; refine (dn_special.calls c false _ HSPE.out).mono ?_; rintro e w' ⟨rfl, ⟨nq, rfl⟩⟩; have HTn := Aside0.mk (HT.out.drewN nq); clear HT; have HT := HTn; clear HTn)
                        go_wp2_with fail
                        refine (bwriteByte w.heap.size w.heap.size _ c _ HT.out.bld (by rw [byteCells_len, List.length_append]; have h1 := HMX.out; have h2 := HBL.out; rw [HEB.out, List.length_append] at h1; simp at h1; omega) HWQ.out).mono ?_
                        rintro e w6 ⟨rfl, hB6, hb6, ho6⟩
                        have HT6 := Aside0.mk (HT.out.step (bs' := Bs ++ escTo f1.data.toList (m + 1)) hb6 (by rw [HEB.out, ← List.append_assoc, byteCells_append]; rw [← HCU.out] at hB6; exact hB6) ho6 HRN.out)
                        clear hB6 hb6 ho6
                        go_wp2_with fail
                        exact ⟨⟨m + 1, by omega, by go_num, HT6⟩, by simp [intOf]; omega⟩
                      · have e4 := decide_eq_false q4
                        rw [e4] at bb1 bb2
                        have HEB := Lib.hid (HB1.out (by rw [HBK.out, e1, e2, e3, e4]; rfl))
                        clear e1 e2 e3 e4 q1 q2 q3 q4
                        go_wp2_with (go_at_call 45; refine (dn_special.calls c false _ HSPE.out).mono ?_; rintro e w' ⟨rfl, ⟨nq, rfl⟩⟩; have HTn := Aside0.mk (HT.out.drewN nq); clear HT; have HT := HTn; clear HTn)
                        go_wp2_with fail
                        refine (bwriteByte w.heap.size w.heap.size _ c _ HT.out.bld (by rw [byteCells_len, List.length_append]; have h1 := HMX.out; have h2 := HBL.out; rw [HEB.out, List.length_append] at h1; simp at h1; omega) HWQ.out).mono ?_
                        rintro e w6 ⟨rfl, hB6, hb6, ho6⟩
                        have HT6 := Aside0.mk (HT.out.step (bs' := Bs ++ escTo f1.data.toList (m + 1)) hb6 (by rw [HEB.out, ← List.append_assoc, byteCells_append]; rw [← HCU.out] at hB6; exact hB6) ho6 HRN.out)
                        clear hB6 hb6 ho6
                        go_wp2_with fail
                        exact ⟨⟨m + 1, by omega, by go_num, HT6⟩, by simp [intOf]; omega⟩
          · have hge : ¬ (m : Int) < (f1.size : Int) := by omega
            have hme : m = f1.data.toList.length := by rw [← size_len]; omega
            have HME := Lib.hid hme
            clear hme
            have hlt2 : w.heap.size < wr.heap.size := by rcases HT.out.bld with h | h <;> exact h.lt
            have HL2 := Lib.hid hlt2
            clear hlt2
            go_wp2
            refine ⟨⟨k + 1, by omega, by go_num, ⟨HT.out.below⟩, ⟨HL2.out⟩, ⟨?_⟩⟩, by simp [intOf]; omega⟩
            rw [HSUC.out]
            have hfin := HT.out.bld
            rw [HME.out] at hfin
            exact hfin
    · obtain rfl : k = l0.length := by omega
      have hle : w.heap.size ≤ wo.heap.size := Nat.le_of_lt HZ.out
      have HLE := Lib.hid hle
      have hnlt : ¬ (l0.length : Int) < (l0.length : Int) := by omega
      clear hle hk hlt
      go_wp2_with fail
      refine (Tryd.Builder_String_any w.heap.size w.heap.size (textTo l0 l0.length) _ HI.out HLE.out).mono ?_
      rintro e w5 ⟨rfl, hb5⟩
      have HB5 := Aside0.mk (HB.out.trans hb5)
      clear hb5
      go_wp2
      go_ret
      exact ⟨rfl, HB5.out⟩
theorem textL_len (l : List SR) : l.length ≤ (textL l).length + 1 := by
  have h : ∀ k, k ≤ (textTo l k).length + 1 := by
    intro k
    induction k with
    | zero => omega
    | succ k ih =>
      rw [textTo_succ, List.length_append, List.length_append]
      have : 1 ≤ (rdnB (l.getD k z51).f0.data.toList (l.getD k z51).f1.data.toList).length := by unfold rdnB; simp; omega
      omega
  exact h _
theorem dn_Text.calls (A0 : Option Addr) (c0 : Nat) (l0 : List SR) (r : ByteArray) (w : World) (hr0 : Kd.C k51 w A0 l0.length l0) (hc0 : l0.length ≤ c0) (h : dn_Text.f l0 = some r) :
    Calls Tryd.prog 25 #[.slice A0 l0.length c0] w fun e w' => e = .returned (.string r) ∧ Below w.heap.size w w' := by
  unfold dn_Text.f at h
  by_cases hs : (textL l0).length ≤ 140737488351231
  · rw [if_pos hs] at h
    obtain rfl := Option.some.inj h
    exact dn_Text.any A0 c0 l0 w hr0 hc0 (by omega) (by have := textL_len l0; omega)
  · rw [if_neg hs] at h
    cases h
end Go.Proofs.YtjicpomcfelobaaDoor.P

namespace Go.Proofs.YtjicpomcfelobaaDoor.P
open Go.RowKit Go.Proofs.YtjicpomcfelobaaDoorW.PrintWords Go.Proofs.YtjicpomcfelobaaDoorW.PrintLast Go.Proofs.YtjicpomcfelobaaDoorW.PrintMore
attribute [local go_sem] max2_int min2_int max_two min_two max_three min_three max_four min_four
set_option linter.unusedVariables false
set_option linter.unusedSimpArgs false

/-! ### dn_Key: function 15 -/
def dn_Key.l0 : Nat → List (S51) → Int → Int → Option (ByteArray × Bool)
  | 0, _, _, _ => none
  | k + 1, x4, x15, x16 => if x16 < x15 then (if 0 ≤ x16 then (if x16 < (x4.length : Int) then ((dn_lowered.f ((rd_T51 x4 x16).f0)).bind fun t147 => ((dn_Fold.f ((rd_T51 x4 x16).f1)).bind fun t149 => ((some (x4.set (x16 : Int).toNat (⟨t147, (rd_T51 x4 x16).f1⟩ : S51) : List (S51))).bind fun y150 => (if t149.toList = ([] : List UInt8) then (some ((⟨#[]⟩ : ByteArray), false)) else (dn_Key.l0 k (y150.set (x16 : Int).toNat (⟨(rd_T51 y150 x16).f0, t149⟩ : S51)) x15 (wrap64 (x16 + 1))))))) else (none)) else (none)) else ((dn_Text.f x4).bind fun t145 => (some (t145, true)))
def dn_Key.f (k : Nat) (a0 : ByteArray) : Option (ByteArray × Bool) := (dn_Parse.f k a0).bind fun bt141 => (if bt141.2 = true then (dn_Key.l0 k bt141.1 (bt141.1.length : Int) 0) else (some ((⟨#[]⟩ : ByteArray), false)))
theorem dn_Key.mono_l : ∀ k, (∀ y0 y1 y2, LeO (dn_Key.l0 k y0 y1 y2) (dn_Key.l0 (k + 1) y0 y1 y2))
  | 0 => fun _ _ _ r h => by simp [dn_Key.l0] at h
  | k + 1 => by
    have ih0 := dn_Key.mono_l k
    · intro y0 y1 y2
      unfold dn_Key.l0
      repeat' first
      | (with_reducible exact ih0 _ _ _)
      | (with_reducible exact dn_Parse.mono _ _)
      | (with_reducible exact LeO.refl _)
      | (with_reducible exact LeO.none _)
      | (with_reducible refine LeO.ite ?_ ?_)
      | (with_reducible refine LeO.bind ?_ (fun _ => ?_))
      | exact ih0 _ _ _
      | exact dn_Parse.mono _ _
      | exact LeO.none _
      | refine LeO.ite ?_ ?_
      | refine LeO.bind ?_ (fun _ => ?_)
theorem dn_Key.mono : ∀ a0 k, LeO (dn_Key.f k a0) (dn_Key.f (k + 1) a0) := by
  intro a0 k
  have ih0 := dn_Key.mono_l k
  unfold dn_Key.f
  repeat' first
      | (with_reducible exact ih0 _ _ _)
      | (with_reducible exact dn_Parse.mono _ _)
      | (with_reducible exact LeO.refl _)
      | (with_reducible exact LeO.none _)
      | (with_reducible refine LeO.ite ?_ ?_)
      | (with_reducible refine LeO.bind ?_ (fun _ => ?_))
      | exact ih0 _ _ _
      | exact dn_Parse.mono _ _
      | exact LeO.none _
      | refine LeO.ite ?_ ?_
      | refine LeO.bind ?_ (fun _ => ?_)
def dn_Key.T7 : Bool × List (List Nat × List Nat) := (true, [([], []), ([], []), ([], []), ([], []), ([], []), ([], []), ([4, 5], [4, 5]), ([6], [6]), ([7], [7]), ([8], [8]), ([], []), ([], []), ([10, 11], [10, 11]), ([12], [12]), ([13], [13]), ([14, 9], [14]), ([0, 1, 0, 1, 4, 5, 6, 7, 8, 9, 14, 15], [0, 1]), ([16, 0, 1, 4, 5, 6, 7, 8, 9, 14, 15], [16]), ([17, 9, 15, 0, 1, 4, 5, 6, 7, 8, 9, 14, 15], [9, 17]), ([2, 3, 0, 1, 2, 3, 4, 5, 6, 7, 8, 9, 10, 11, 12, 13, 14, 15, 16, 17, 18], [2, 3]), ([19, 0, 1, 2, 3, 4, 5, 6, 7, 8, 9, 10, 11, 12, 13, 14, 15, 16, 17, 18], [19]), ([20, 15, 18, 0, 1, 2, 3, 4, 5, 6, 7, 8, 9, 10, 11, 12, 13, 14, 15, 16, 17, 18], [15, 20])])
def dn_Key.B7 : List Nat := [0, 0, 0, 0, 0, 0, 48, 112, 240, 496, 0, 0, 3072, 7168, 15360, 32752, 65523, 131059, 262131, 524287, 1048575, 2097151]
theorem dn_Key.tab7 : rtab .any (opsOf Tryd.f15 7) = dn_Key.T7 := by kernel_rfl
theorem dn_Key.bits7 : waitsOk dn_Key.T7.2 dn_Key.B7 = true := by kernel_rfl
set_option maxHeartbeats 8000000 in
set_option maxRecDepth 100000 in
theorem dn_Key.calls (k : Nat) (a0 : ByteArray) (r1 : ByteArray) (r2 : Bool) (w : World) (hG : Gl w) (h : dn_Key.f k a0 = some (r1, r2)) :
    Calls Tryd.prog 15 #[.string a0] w fun e w' => e = .returned (.tuple #[.string r1, .bool r2]) ∧ Below w.heap.size w w' := by
  have HB := Aside0.mk (Below.refl w.heap.size w)
  have HG := Aside0.mk hG
  clear hG
  have H : ((dn_Parse.f k a0).bind fun bt141 => (if bt141.2 = true then (dn_Key.l0 k bt141.1 (bt141.1.length : Int) 0) else (some ((⟨#[]⟩ : ByteArray), false)))) = some (r1, r2) := h
  clear h
  replace H := Option.bind_eq_some_iff.mp H
  obtain ⟨⟨t141, t142⟩, A20, H⟩ := H
  replace H : (if t142 = true then (dn_Key.l0 k t141 (t141.length : Int) 0) else (some ((⟨#[]⟩ : ByteArray), false))) = some (r1, r2) := H
  have A2 := Aside0.mk A20
  clear A20
  by_cases c3 : t142 = true
  · subst c3
    have H1 : (dn_Key.l0 k t141 (t141.length : Int) 0) = some (r1, r2) := by rw [if_pos rfl] at H; exact H
    clear H
    have H := H1
    clear H1
    have H' := Aside0.mk H
    clear H
    go_enter Tryd.func15, Tryd.ntmps15
    go_wp2_with (first | ((with_reducible refine gate_callee (f := 24) rfl ?_); refine goesL_ (some 9) rfl rfl Tryd.func24 (by kernel_rfl) rfl #[.string a0] rfl (by (try simp only [List.map_toArray, List.map_cons, List.map_nil]); first | done | rfl | (simp only [List.length_drop, List.length_take]; rfl)) ?_; (with_reducible refine (dn_Parse.calls k a0 t141 true _ ?side1 A2.out).mono ?_); (case side1 => first | exact HG.out | exact Gl.drewN HG.out _ | exact Gl.below HG.out (by repeat (first | (with_reducible first | exact HB.out | apply below_alloc | apply pw_below_drewN | apply below_drew1) | exact HB.out))); rintro e w4 ⟨v143, rfl, ho0, hb⟩; refine ⟨_, rfl, ?_⟩; have n0_ := Aside0.mk (Kd.R_lower ho0 (below_size (by repeat (first | (with_reducible first | exact HB.out | apply below_alloc | apply pw_below_drewN | apply below_drew1) | exact HB.out)))); have n1_ := Aside0.mk (below_step (by repeat (first | (with_reducible first | exact HB.out | apply below_alloc | apply pw_below_drewN | apply below_drew1) | exact HB.out)) hb); clear HB; have HO144 := n0_; have HB := n1_; clear n0_ n1_; (try clear hb); (try clear hb2); (try clear hk); (try clear hi); (try clear ho0); obtain ⟨Ao5, co5, eo5⟩ := Kd.R_slice HO144.out; subst eo5))
    go_loopg [16] k (fun kq v16 w' => ∃ (x4_1 : List (S51)) (x16_1 : Int), v16 = .int .i64 x16_1 ∧ Aside0 (dn_Key.l0 kq x4_1 (t141.length : Int) x16_1 = some (r1, r2)) ∧ Aside0 (kq ≤ k) ∧ Aside0 (Kd.R k51 51 w' w.heap.size (fun _ => True) (.slice Ao5 t141.length co5) x4_1) ∧ Aside0 (Below w.heap.size w w'))
    case atStart => exact ⟨(t141), (0), (by first | rfl | (simp; done) | (simp [*]; done) | (simp [*, i64_w, i32_w, u8_w]; done) | (simp only [bneNil, beqNil]; done) | (simp only [bneNil, beqNil]; simp; done) | (simp only [bneNil, beqNil]; simp [*]; done)), H', ⟨Nat.le_refl _⟩, ⟨by (with_reducible repeat (first | apply Kd.R_alloc | apply Kd.R_drewN | apply Kd.R_drew)); exact HO144.out⟩, ⟨by repeat (first | (with_reducible first | exact HB.out | apply below_alloc | apply pw_below_drewN | apply below_drew1) | exact HB.out)⟩⟩
    case round =>
      clear H'
      try clear c1
      try clear c2
      try clear p2
      try clear c3
      obtain ⟨x4_1, x16_1, rfl, HA, HK1, HO_4, HB⟩ := hrel
      have hl4_1 := (Kd.R_reads' HO_4.out).1
      rw [hl4_1] at HO_4
      (try simp only [hl4_1])
      cases gk with
      | zero => exact absurd HA.out (by simp [dn_Key.l0])
      | succ k1 =>
        have H := HA.out
        clear HA
        simp only [dn_Key.l0] at H
        by_cases c6 : x16_1 < (t141.length : Int)
        · rw [if_pos c6] at H
          have c6b0 : decide (x16_1 < (t141.length : Int)) = true := decide_eq_true c6
          (try (have c6b0h := c6b0; simp only [hl4_1] at c6b0h))
          clear c6
          by_cases c7 : 0 ≤ x16_1
          · rw [if_pos c7] at H
            have c7b0 : decide (0 ≤ x16_1) = true := decide_eq_true c7
            clear c7
            by_cases c8 : x16_1 < (x4_1.length : Int)
            · rw [if_pos c8] at H
              have c8b0 : decide (x16_1 < (x4_1.length : Int)) = true := decide_eq_true c8
              (try (have c8b0h := c8b0; simp only [hl4_1] at c8b0h))
              clear c8
              replace H := Option.bind_eq_some_iff.mp H
              obtain ⟨t147, A90, H⟩ := H
              replace H : ((dn_Fold.f ((rd_T51 x4_1 x16_1).f1)).bind fun t149 => ((some (x4_1.set (x16_1 : Int).toNat (⟨t147, (rd_T51 x4_1 x16_1).f1⟩ : S51) : List (S51))).bind fun y150 => (if t149.toList = ([] : List UInt8) then (some ((⟨#[]⟩ : ByteArray), false)) else (dn_Key.l0 k1 (y150.set (x16_1 : Int).toNat (⟨(rd_T51 y150 x16_1).f0, t149⟩ : S51)) (t141.length : Int) (wrap64 (x16_1 + 1)))))) = some (r1, r2) := H
              have A9 := Aside0.mk A90
              clear A90
              replace H := Option.bind_eq_some_iff.mp H
              obtain ⟨t149, A100, H⟩ := H
              replace H : ((some (x4_1.set (x16_1 : Int).toNat (⟨t147, (rd_T51 x4_1 x16_1).f1⟩ : S51) : List (S51))).bind fun y150 => (if t149.toList = ([] : List UInt8) then (some ((⟨#[]⟩ : ByteArray), false)) else (dn_Key.l0 k1 (y150.set (x16_1 : Int).toNat (⟨(rd_T51 y150 x16_1).f0, t149⟩ : S51)) (t141.length : Int) (wrap64 (x16_1 + 1))))) = some (r1, r2) := H
              have A10 := Aside0.mk A100
              clear A100
              obtain ⟨y150, hy150⟩ : ∃ y_ : List (S51), y_ = (x4_1.set (x16_1 : Int).toNat (⟨t147, (rd_T51 x4_1 x16_1).f1⟩ : S51)) := ⟨_, rfl⟩
              replace H : (if t149.toList = ([] : List UInt8) then (some ((⟨#[]⟩ : ByteArray), false)) else (dn_Key.l0 k1 (y150.set (x16_1 : Int).toNat (⟨(rd_T51 y150 x16_1).f0, t149⟩ : S51)) (t141.length : Int) (wrap64 (x16_1 + 1)))) = some (r1, r2) := by first | (rw [hy150]; with_reducible exact H) | (have H2_ := (Option.bind_some _ _).symm.trans H; rw [hy150]; with_reducible exact H2_) | (have H2_ := (Option.bind_some _ _).symm.trans H; with_reducible exact H2_) | with_reducible exact H | (rw [hy150]; exact H) | exact H
              have Ny150 := Aside0.mk hy150
              clear hy150
              obtain ⟨y151, hy151⟩ : ∃ y_ : List (S51), y_ = (y150.set (x16_1 : Int).toNat (⟨(rd_T51 y150 x16_1).f0, t149⟩ : S51)) := ⟨_, rfl⟩
              replace H : (if t149.toList = ([] : List UInt8) then (some ((⟨#[]⟩ : ByteArray), false)) else (dn_Key.l0 k1 y151 (t141.length : Int) (wrap64 (x16_1 + 1)))) = some (r1, r2) := by first | (rw [hy151]; with_reducible exact H) | (have H2_ := (Option.bind_some _ _).symm.trans H; rw [hy151]; with_reducible exact H2_) | (have H2_ := (Option.bind_some _ _).symm.trans H; with_reducible exact H2_) | with_reducible exact H | (rw [hy151]; exact H) | exact H
              have Ny151 := Aside0.mk hy151
              clear hy151
              by_cases c14 : t149.toList = ([] : List UInt8)
              · rw [if_pos c14] at H
                have c14b0 : (t149.toList == ([] : List UInt8)) = true := beq_iff_eq.mpr c14
                have c14b1 : (t149.toList != ([] : List UInt8)) = false := bne_eq_false_iff_eq.mpr c14
                clear c14
                simp only [Option.some.injEq, Prod.mk.injEq] at H
                obtain ⟨rfl, rfl⟩ := H
                try go_wp2
                have n0_ := Aside0.mk (Kd.R_drew HO_4.out)
                have n1_ := Aside0.mk (below_drew1 HB.out)
                clear HO_4
                clear HB
                have HO_4 := n0_
                have HB := n1_
                clear n0_ n1_
                have p146 : 0 ≤ (x16_1 : Int) := of_decide_eq_true (by first | (with_reducible assumption) | assumption)
                have q146 : x16_1 < (x4_1.length : Int) := of_decide_eq_true (by first | (with_reducible assumption) | assumption)
                obtain ⟨ad146, e146, hx146_0, hx146_1⟩ := at_T51 (Kd.R_reads' HO_4.out).2.2 x16_1 p146 q146
                cases e146
                replace p146 := eq_true p146
                replace q146 := eq_true q146
                have p148 : 0 ≤ (x16_1 : Int) := of_decide_eq_true (by first | (with_reducible assumption) | assumption)
                have q148 : x16_1 < (x4_1.length : Int) := of_decide_eq_true (by first | (with_reducible assumption) | assumption)
                obtain ⟨ad148, e148, hx148_0, hx148_1⟩ := at_T51 (Kd.R_reads' HO_4.out).2.2 x16_1 p148 q148
                obtain rfl : ad146 = ad148 := (by injection e148)
                replace p148 := eq_true p148
                replace q148 := eq_true q148
                refine start_ (n := 22) (S := fun w' => w'.cell? (ad146.add ((x16_1).toNat * 2)) = some (.string ((rd_T51 x4_1 x16_1).f0)) ∧ w'.cell? ⟨(ad146.add ((x16_1).toNat * 2)).block, (ad146.add ((x16_1).toNat * 2)).off + 1, none⟩ = some (.string ((rd_T51 x4_1 x16_1).f1)) ∧ w'.cell? (ad146.add ((x16_1).toNat * 2)) = some (.string ((rd_T51 x4_1 x16_1).f0)) ∧ w'.cell? ⟨(ad146.add ((x16_1).toNat * 2)).block, (ad146.add ((x16_1).toNat * 2)).off + 1, none⟩ = some (.string ((rd_T51 x4_1 x16_1).f1))) (ds := [18, 21]) #[false, false, false, false, false, false, false, false, false, false, false, false, false, false, false, false, false, false, false, false, false, false] (by kernel_rfl) rfl rfl ⟨hx146_0, hx146_1, hx148_0, hx148_1⟩ (fun hHeld => ?_); refine with_tabW dn_Key.tab7 dn_Key.bits7 (fun HT_ HW_ => ?_)
                generalize wr.drew = w15 at HO_4 HB hx146_0 hx146_1 hx148_0 hx148_1 hHeld ⊢
                refine pure_ (i := 0) (N := some 19) (v := ?_) (a' := ?_) #[true, false, false, false, false, false, false, false, false, false, false, false, false, false, false, false, false, false, false, false, false, false] rfl rfl (any_of HT_.out (by kernel_rfl)) (fun _ _ _ h => h) (Or.inl ⟨by rfl, ?_⟩) ?_ ?_
                rotate_left
                · intro w'
                  go_simp
                  with_reducible rfl
                rotate_left
                · simp only [Act.put, List.setIfInBounds_toArray, List.set_cons_zero, List.set_cons_succ, i64_w, i32_w]
                  rfl
                refine pure_ (i := 1) (N := some 20) (v := ?_) (a' := ?_) #[true, true, false, false, false, false, false, false, false, false, false, false, false, false, false, false, false, false, false, false, false, false] rfl rfl (any_of HT_.out (by kernel_rfl)) (fun _ _ _ h => h) (Or.inl ⟨by rfl, ?_⟩) ?_ ?_
                rotate_left
                · intro w'
                  go_simp
                  with_reducible rfl
                rotate_left
                · simp only [Act.put, List.setIfInBounds_toArray, List.set_cons_zero, List.set_cons_succ, i64_w, i32_w]
                  rfl
                refine pure_ (i := 2) (N := some 21) (v := ?_) (a' := ?_) #[true, true, true, false, false, false, false, false, false, false, false, false, false, false, false, false, false, false, false, false, false, false] rfl rfl (any_of HT_.out (by kernel_rfl)) (fun _ _ _ h => h) (Or.inl ⟨by rfl, ?_⟩) ?_ ?_
                rotate_left
                · intro w'
                  go_simp
                  with_reducible rfl
                rotate_left
                · simp only [Act.put, List.setIfInBounds_toArray, List.set_cons_zero, List.set_cons_succ, i64_w, i32_w]
                  rfl
                refine pure_ (i := 3) (N := some 22) (v := ?_) (a' := ?_) #[true, true, true, true, false, false, false, false, false, false, false, false, false, false, false, false, false, false, false, false, false, false] rfl rfl (any_of HT_.out (by kernel_rfl)) (fun _ _ _ h => h) (Or.inl ⟨by rfl, ?_⟩) ?_ ?_
                rotate_left
                · intro w'
                  go_simp
                  with_reducible rfl
                rotate_left
                · simp only [Act.put, List.setIfInBounds_toArray, List.set_cons_zero, List.set_cons_succ, i64_w, i32_w]
                  rfl
                refine pure_ (i := 4) (N := some 23) (v := ?_) (a' := ?_) #[true, true, true, true, true, false, false, false, false, false, false, false, false, false, false, false, false, false, false, false, false, false] rfl rfl (any_of HT_.out (by kernel_rfl)) (fun _ _ _ h => h) (Or.inl ⟨by rfl, ?_⟩) ?_ ?_
                rotate_left
                · intro w'
                  go_simp
                  with_reducible rfl
                rotate_left
                · simp only [Act.put, List.setIfInBounds_toArray, List.set_cons_zero, List.set_cons_succ, i64_w, i32_w]
                  rfl
                refine pure_ (i := 5) (N := some 24) (v := ?_) (a' := ?_) #[true, true, true, true, true, true, false, false, false, false, false, false, false, false, false, false, false, false, false, false, false, false] rfl rfl (any_of HT_.out (by kernel_rfl)) (fun _ _ _ h => h) (Or.inl ⟨by rfl, ?_⟩) ?_ ?_
                rotate_left
                · intro w'
                  go_simp
                  with_reducible rfl
                rotate_left
                · simp only [Act.put, List.setIfInBounds_toArray, List.set_cons_zero, List.set_cons_succ, i64_w, i32_w]
                  rfl
                refine pure_ (i := 6) (N := some 25) (v := ?_) (a' := ?_) #[true, true, true, true, true, true, true, false, false, false, false, false, false, false, false, false, false, false, false, false, false, false] rfl rfl (any_of HT_.out (by kernel_rfl)) (fun _ _ _ h => h) (Or.inl ⟨by rfl, ?_⟩) ?_ ?_
                rotate_left
                · intro w'
                  go_simp
                  with_reducible rfl
                rotate_left
                · simp only [Act.put, List.setIfInBounds_toArray, List.set_cons_zero, List.set_cons_succ, i64_w, i32_w]
                  rfl
                refine pure_ (i := 7) (N := some 26) (v := ?_) (a' := ?_) #[true, true, true, true, true, true, true, true, false, false, false, false, false, false, false, false, false, false, false, false, false, false] rfl rfl (any_of HT_.out (by kernel_rfl)) (fun _ _ _ h => h) (Or.inl ⟨by rfl, ?_⟩) ?_ ?_
                rotate_left
                · intro w'
                  go_simp
                  with_reducible rfl
                rotate_left
                · simp only [Act.put, List.setIfInBounds_toArray, List.set_cons_zero, List.set_cons_succ, i64_w, i32_w]
                  rfl
                refine pure_ (i := 10) (N := some 29) (v := ?_) (a' := ?_) #[true, true, true, true, true, true, true, true, false, false, true, false, false, false, false, false, false, false, false, false, false, false] rfl rfl (any_of HT_.out (by kernel_rfl)) (fun _ _ _ h => h) (Or.inl ⟨by rfl, ?_⟩) ?_ ?_
                rotate_left
                · intro w'
                  go_simp
                  with_reducible rfl
                rotate_left
                · simp only [Act.put, List.setIfInBounds_toArray, List.set_cons_zero, List.set_cons_succ, i64_w, i32_w]
                  rfl
                refine pure_ (i := 11) (N := some 30) (v := ?_) (a' := ?_) #[true, true, true, true, true, true, true, true, false, false, true, true, false, false, false, false, false, false, false, false, false, false] rfl rfl (any_of HT_.out (by kernel_rfl)) (fun _ _ _ h => h) (Or.inl ⟨by rfl, ?_⟩) ?_ ?_
                rotate_left
                · intro w'
                  go_simp
                  with_reducible rfl
                rotate_left
                · simp only [Act.put, List.setIfInBounds_toArray, List.set_cons_zero, List.set_cons_succ, i64_w, i32_w]
                  rfl
                refine pure_ (i := 12) (N := some 31) (v := ?_) (a' := ?_) #[true, true, true, true, true, true, true, true, false, false, true, true, true, false, false, false, false, false, false, false, false, false] rfl rfl (any_of HT_.out (by kernel_rfl)) (fun _ _ _ h => h) (Or.inl ⟨by rfl, ?_⟩) ?_ ?_
                rotate_left
                · intro w'
                  go_simp
                  with_reducible rfl
                rotate_left
                · simp only [Act.put, List.setIfInBounds_toArray, List.set_cons_zero, List.set_cons_succ, i64_w, i32_w]
                  rfl
                refine pure_ (i := 13) (N := some 32) (v := ?_) (a' := ?_) #[true, true, true, true, true, true, true, true, false, false, true, true, true, true, false, false, false, false, false, false, false, false] rfl rfl (any_of HT_.out (by kernel_rfl)) (fun _ _ _ h => h) (Or.inl ⟨by rfl, ?_⟩) ?_ ?_
                rotate_left
                · intro w'
                  go_simp
                  with_reducible rfl
                rotate_left
                · simp only [Act.put, List.setIfInBounds_toArray, List.set_cons_zero, List.set_cons_succ, i64_w, i32_w]
                  rfl
                refine take_ (i := 8) (N := some 27) (v := ?_) (a' := ?_) #[true, true, true, true, true, true, true, true, true, false, true, true, true, true, false, false, false, false, false, false, false, false] rfl rfl (take_ofW HT_.out HW_.out (by kernel_rfl)) (fun _ _ _ h => h) (Or.inl ⟨by rfl, ?_⟩) hHeld ?_ ?_
                rotate_left
                · rintro w' ⟨s0, s1, s2, s3⟩
                  go_simp
                  with_reducible rfl
                rotate_left
                · simp only [Act.put, List.setIfInBounds_toArray, List.set_cons_zero, List.set_cons_succ, i64_w, i32_w]
                  rfl
                refine take_ (i := 14) (N := some 33) (v := ?_) (a' := ?_) #[true, true, true, true, true, true, true, true, true, false, true, true, true, true, true, false, false, false, false, false, false, false] rfl rfl (take_ofW HT_.out HW_.out (by kernel_rfl)) (fun _ _ _ h => h) (Or.inl ⟨by rfl, ?_⟩) hHeld ?_ ?_
                rotate_left
                · rintro w' ⟨s0, s1, s2, s3⟩
                  go_simp
                  with_reducible rfl
                rotate_left
                · simp only [Act.put, List.setIfInBounds_toArray, List.set_cons_zero, List.set_cons_succ, i64_w, i32_w]
                  rfl
                refine one_ (i := 9) (N := some 28) #[true, true, true, true, true, true, true, true, true, true, true, true, true, true, true, false, false, false, false, false, false, false] rfl rfl (one_of HT_.out (by kernel_rfl)) (by decide) (fun K hK => ?_)
                refine goes_ Tryd.func20 (by kernel_rfl) rfl #[.string ((rd_T51 x4_1 x16_1).f0)] (by rfl) rfl rfl (by (try simp only [List.map_toArray, List.map_cons, List.map_nil]); first | done | rfl | (simp only [List.length_drop, List.length_take]; rfl)) ?_
                with_reducible refine (dn_lowered.calls ((rd_T51 x4_1 x16_1).f0) t147 _ A9.out).mono ?_
                rintro e w16 ⟨rfl, hb⟩
                have HS0_ := (hb.cell (World.block_lt_of_cell? _ _ (hHeld.1))).trans (hHeld.1)
                have HS1_ := (hb.cell (World.block_lt_of_cell? _ _ (hHeld.2.1))).trans (hHeld.2.1)
                have HS2_ := (hb.cell (World.block_lt_of_cell? _ _ (hHeld.2.2.1))).trans (hHeld.2.2.1)
                have HS3_ := (hb.cell (World.block_lt_of_cell? _ _ (hHeld.2.2.2))).trans (hHeld.2.2.2)
                refine ⟨_, rfl, ?_⟩
                have n0_ := Aside0.mk (Kd.R_below (by (with_reducible repeat (first | apply Kd.R_alloc | apply Kd.R_drewN | apply Kd.R_drew)); exact HO_4.out) hb)
                have n1_ := Aside0.mk (below_step (by repeat (first | (with_reducible first | exact HB.out | apply below_alloc | apply pw_below_drewN | apply below_drew1) | exact HB.out)) hb)
                clear HO_4
                clear HB
                have HO_4 := n0_
                have HB := n1_
                clear n0_ n1_
                (try clear hb)
                (try clear hb2)
                (try clear hk)
                (try clear hi)
                refine hK.out _ _ ⟨HS0_, HS1_, HS2_, HS3_⟩ (fun hHeld => ?_)
                clear hK K
                refine norm_ (a' := ?_) ?_ ?_
                rotate_left
                · show Act.put _ (some 28) _ = _
                  simp only [Act.put, List.setIfInBounds_toArray, List.set_cons_zero, List.set_cons_succ, i64_w, i32_w]
                  rfl
                refine one_ (i := 15) (N := some 34) #[true, true, true, true, true, true, true, true, true, true, true, true, true, true, true, true, false, false, false, false, false, false] rfl rfl (one_of HT_.out (by kernel_rfl)) (by decide) (fun K hK => ?_)
                refine goes_ Tryd.func13 (by kernel_rfl) rfl #[.string ((rd_T51 x4_1 x16_1).f1)] (by rfl) rfl rfl (by (try simp only [List.map_toArray, List.map_cons, List.map_nil]); first | done | rfl | (simp only [List.length_drop, List.length_take]; rfl)) ?_
                with_reducible refine (dn_Fold.calls ((rd_T51 x4_1 x16_1).f1) t149 _ A10.out).mono ?_
                rintro e w17 ⟨rfl, hb⟩
                have HS0_ := (hb.cell (World.block_lt_of_cell? _ _ (hHeld.1))).trans (hHeld.1)
                have HS1_ := (hb.cell (World.block_lt_of_cell? _ _ (hHeld.2.1))).trans (hHeld.2.1)
                have HS2_ := (hb.cell (World.block_lt_of_cell? _ _ (hHeld.2.2.1))).trans (hHeld.2.2.1)
                have HS3_ := (hb.cell (World.block_lt_of_cell? _ _ (hHeld.2.2.2))).trans (hHeld.2.2.2)
                refine ⟨_, rfl, ?_⟩
                have n0_ := Aside0.mk (Kd.R_below (by (with_reducible repeat (first | apply Kd.R_alloc | apply Kd.R_drewN | apply Kd.R_drew)); exact HO_4.out) hb)
                have n1_ := Aside0.mk (below_step (by repeat (first | (with_reducible first | exact HB.out | apply below_alloc | apply pw_below_drewN | apply below_drew1) | exact HB.out)) hb)
                clear HO_4
                clear HB
                have HO_4 := n0_
                have HB := n1_
                clear n0_ n1_
                (try clear hb)
                (try clear hb2)
                (try clear hk)
                (try clear hi)
                have p11 : 0 ≤ (x16_1 : Int) := of_decide_eq_true (by first | (with_reducible assumption) | assumption)
                have q11 : (x16_1 : Int) < ((x4_1.length : Int) : Int) := of_decide_eq_true (by first | (with_reducible assumption) | assumption)
                obtain ⟨go11, co11, eo11, gb11, gl11, cl11, HG11⟩ := Kd.R_form HO_4.out (by omega)
                (first | cases eo11 | (injection eo11 with ea_ en_ ec_; (first | subst ea_ | (injection ea_ with ea_; subst ea_)); subst ec_; clear en_))
                have GB11 := Aside0.mk gb11
                have GG11 := Aside0.mk HG11
                clear gb11 gl11 HG11
                (first | simp only [add_plain] at hx146_0 | skip)
                (first | simp only [add_plain] at hx146_1 | skip)
                (first | simp only [add_plain] at hx148_0 | skip)
                (first | simp only [add_plain] at hx148_1 | skip)
                obtain ⟨ce11, hcl11, hM11, hcc11, hfr11⟩ := Kd.R_elem HO_4.out z51 (x16_1 : Int) p11 q11
                obtain rfl := k51_openM hM11
                have hx11_0 : World.cell? _ ⟨go11, (x16_1 : Int).toNat * 2, none⟩ = some (.string ((rd_T51 x4_1 x16_1).f0)) := hcc11 0 _ rfl
                have hx11_1 : World.cell? _ ⟨go11, (x16_1 : Int).toNat * 2 + 1, none⟩ = some (.string ((rd_T51 x4_1 x16_1).f1)) := hcc11 1 _ rfl
                have hf11_0 : World.frozen? _ ⟨go11, (x16_1 : Int).toNat * 2, none⟩ = false := hfr11 0
                have hf11_1 : World.frozen? _ ⟨go11, (x16_1 : Int).toNat * 2 + 1, none⟩ = false := hfr11 1
                clear hcl11 hcc11 hfr11 hM11
                replace p11 := eq_true p11
                replace q11 := eq_true q11
                obtain ⟨ce18, hcl18, hM18, hcc18, hfr18⟩ := Kd.R_elem HO_4.out z51 (x16_1 : Int) (of_decide_eq_true (by first | (with_reducible assumption) | assumption)) (by have h_ : (x16_1 : Int) < ((x4_1.length : Int) : Int) := of_decide_eq_true (by first | (with_reducible assumption) | assumption); first | exact h_ | (have e_ := (Kd.R_reads' HO_4.out).1; omega) | simpa using h_)
                obtain rfl := k51_openM hM18
                have HP18 := (Kd.R_seg HO_4.out (x16_1 : Int) (of_decide_eq_true (by first | (with_reducible assumption) | assumption)) (by have h_ : (x16_1 : Int) < ((x4_1.length : Int) : Int) := of_decide_eq_true (by first | (with_reducible assumption) | assumption); first | exact h_ | (have e_ := (Kd.R_reads' HO_4.out).1; omega) | simpa using h_) (seg := [.string t147]) (j := 0) hcl18 hcc18 (show 1 ≤ 2 from by decide) (x' := (⟨t147, (rd_T51 x4_1 x16_1).f1⟩ : S51)) (k51_mkM _ _ _ (⟨t147, (rd_T51 x4_1 x16_1).f1⟩ : S51) ) (fun _ hk => hk)).1
                rw [← Ny150.out] at HP18
                have HQ18 := Aside0.mk HP18
                clear hcl18 hcc18 hfr18 hM18 HP18
                have p12 : 0 ≤ (x16_1 : Int) := of_decide_eq_true (by first | (with_reducible assumption) | assumption)
                have q12 : (x16_1 : Int) < ((x4_1.length : Int) : Int) := of_decide_eq_true (by first | (with_reducible assumption) | assumption)
                replace p12 := eq_true p12
                replace q12 := eq_true q12
                obtain ⟨ce19, hcl19, hM19, hcc19, hfr19⟩ := Kd.R_elem HQ18.out z51 (x16_1 : Int) (of_decide_eq_true (by first | (with_reducible assumption) | assumption)) (by have h_ : (x16_1 : Int) < ((x4_1.length : Int) : Int) := of_decide_eq_true (by first | (with_reducible assumption) | assumption); first | exact h_ | (have e_ := (Kd.R_reads' HO_4.out).1; omega) | simpa using h_)
                obtain rfl := k51_openM hM19
                have HP19 := (Kd.R_seg HQ18.out (x16_1 : Int) (of_decide_eq_true (by first | (with_reducible assumption) | assumption)) (by have h_ : (x16_1 : Int) < ((x4_1.length : Int) : Int) := of_decide_eq_true (by first | (with_reducible assumption) | assumption); first | exact h_ | (have e_ := (Kd.R_reads' HO_4.out).1; omega) | simpa using h_) (seg := [.string t149]) (j := 1) hcl19 hcc19 (show 2 ≤ 2 from by decide) (x' := (⟨(rd_T51 y150 x16_1).f0, t149⟩ : S51)) (k51_mkM _ _ _ (⟨(rd_T51 y150 x16_1).f0, t149⟩ : S51) ) (fun _ hk => hk)).1
                rw [← Ny151.out] at HP19
                have HQ19 := Aside0.mk HP19
                clear hcl19 hcc19 hfr19 hM19 HP19
                refine hK.out _ _ ⟨HS0_, HS1_, HS2_, HS3_⟩ (fun hHeld => ?_)
                clear hK K
                refine norm_ (a' := ?_) ?_ ?_
                rotate_left
                · show Act.put _ (some 34) _ = _
                  simp only [Act.put, List.setIfInBounds_toArray, List.set_cons_zero, List.set_cons_succ, i64_w, i32_w]
                  rfl
                refine pure_ (i := 16) (N := some 35) (v := ?_) (a' := ?_) #[true, true, true, true, true, true, true, true, true, true, true, true, true, true, true, true, true, false, false, false, false, false] rfl rfl (any_of HT_.out (by kernel_rfl)) (fun _ _ _ h => h) (Or.inl ⟨by rfl, ?_⟩) ?_ ?_
                rotate_left
                · intro w'
                  go_simp
                  with_reducible rfl
                rotate_left
                · simp only [Act.put, List.setIfInBounds_toArray, List.set_cons_zero, List.set_cons_succ, i64_w, i32_w]
                  rfl
                refine pure_ (i := 17) (N := some 36) (v := ?_) (a' := ?_) #[true, true, true, true, true, true, true, true, true, true, true, true, true, true, true, true, true, true, false, false, false, false] rfl rfl (any_of HT_.out (by kernel_rfl)) (fun _ _ _ h => h) (Or.inl ⟨by rfl, ?_⟩) ?_ ?_
                rotate_left
                · intro w'
                  go_simp
                  with_reducible rfl
                rotate_left
                · simp only [Act.put, List.setIfInBounds_toArray, List.set_cons_zero, List.set_cons_succ, i64_w, i32_w]
                  rfl
                refine last_ (i := 18) (N := none) #[true, true, true, true, true, true, true, true, true, true, true, true, true, true, true, true, true, true, true, false, false, false] rfl rfl (one_of HT_.out (by kernel_rfl)) (by decide) (fun K hK => ?_)
                refine skip_ (w1 := ?_) (by rfl) rfl ?_ ?_
                rotate_left
                · go_simp
                  rfl
                refine hK.out _ _ ?_
                clear hK K
                refine pure_ (i := 19) (N := some 37) (v := ?_) (a' := ?_) #[true, true, true, true, true, true, true, true, true, true, true, true, true, true, true, true, true, true, true, true, false, false] rfl rfl (any_of HT_.out (by kernel_rfl)) (fun _ _ _ h => h) (Or.inl ⟨by rfl, ?_⟩) ?_ ?_
                rotate_left
                · intro w'
                  go_simp
                  with_reducible rfl
                rotate_left
                · simp only [Act.put, List.setIfInBounds_toArray, List.set_cons_zero, List.set_cons_succ, i64_w, i32_w]
                  rfl
                refine pure_ (i := 20) (N := some 38) (v := ?_) (a' := ?_) #[true, true, true, true, true, true, true, true, true, true, true, true, true, true, true, true, true, true, true, true, true, false] rfl rfl (any_of HT_.out (by kernel_rfl)) (fun _ _ _ h => h) (Or.inl ⟨by rfl, ?_⟩) ?_ ?_
                rotate_left
                · intro w'
                  go_simp
                  with_reducible rfl
                rotate_left
                · simp only [Act.put, List.setIfInBounds_toArray, List.set_cons_zero, List.set_cons_succ, i64_w, i32_w]
                  rfl
                refine last_ (i := 21) (N := none) #[true, true, true, true, true, true, true, true, true, true, true, true, true, true, true, true, true, true, true, true, true, true] rfl rfl (one_of HT_.out (by kernel_rfl)) (by decide) (fun K hK => ?_)
                refine skip_ (w1 := ?_) (by rfl) rfl ?_ ?_
                rotate_left
                · go_simp
                  rfl
                refine hK.out _ _ ?_
                clear hK K
                refine done_ (done_of HT_.out (by kernel_rfl)) ?_
                have p13 : 0 ≤ (x16_1 : Int) := of_decide_eq_true (by first | (with_reducible assumption) | assumption)
                have q13 : (x16_1 : Int) < ((x4_1.length : Int) : Int) := of_decide_eq_true (by first | (with_reducible assumption) | assumption)
                replace p13 := eq_true p13
                replace q13 := eq_true q13
                try go_wp2
                go_ret2
                exact ⟨by first | rfl | (simp [errW_none, errW_some] <;> rfl) | (simp [*, errW_none, errW_some] <;> rfl), by repeat (first | (with_reducible first | exact HB.out | apply below_alloc | apply pw_below_drewN | apply below_drew1 | refine below_set ?_ GB11.out | refine below_set ?_ GB11.out) | exact HB.out)⟩
              · rw [if_neg c14] at H
                have c14b0 : (t149.toList == ([] : List UInt8)) = false := beq_eq_false_iff_ne.mpr c14
                have c14b1 : (t149.toList != ([] : List UInt8)) = true := bne_iff_ne.mpr c14
                have H' := Aside0.mk H
                clear H
                try go_wp2
                have n0_ := Aside0.mk (Kd.R_drew HO_4.out)
                have n1_ := Aside0.mk (below_drew1 HB.out)
                clear HO_4
                clear HB
                have HO_4 := n0_
                have HB := n1_
                clear n0_ n1_
                have p146 : 0 ≤ (x16_1 : Int) := of_decide_eq_true (by first | (with_reducible assumption) | assumption)
                have q146 : x16_1 < (x4_1.length : Int) := of_decide_eq_true (by first | (with_reducible assumption) | assumption)
                obtain ⟨ad146, e146, hx146_0, hx146_1⟩ := at_T51 (Kd.R_reads' HO_4.out).2.2 x16_1 p146 q146
                cases e146
                replace p146 := eq_true p146
                replace q146 := eq_true q146
                have p148 : 0 ≤ (x16_1 : Int) := of_decide_eq_true (by first | (with_reducible assumption) | assumption)
                have q148 : x16_1 < (x4_1.length : Int) := of_decide_eq_true (by first | (with_reducible assumption) | assumption)
                obtain ⟨ad148, e148, hx148_0, hx148_1⟩ := at_T51 (Kd.R_reads' HO_4.out).2.2 x16_1 p148 q148
                obtain rfl : ad146 = ad148 := (by injection e148)
                replace p148 := eq_true p148
                replace q148 := eq_true q148
                refine start_ (n := 22) (S := fun w' => w'.cell? (ad146.add ((x16_1).toNat * 2)) = some (.string ((rd_T51 x4_1 x16_1).f0)) ∧ w'.cell? ⟨(ad146.add ((x16_1).toNat * 2)).block, (ad146.add ((x16_1).toNat * 2)).off + 1, none⟩ = some (.string ((rd_T51 x4_1 x16_1).f1)) ∧ w'.cell? (ad146.add ((x16_1).toNat * 2)) = some (.string ((rd_T51 x4_1 x16_1).f0)) ∧ w'.cell? ⟨(ad146.add ((x16_1).toNat * 2)).block, (ad146.add ((x16_1).toNat * 2)).off + 1, none⟩ = some (.string ((rd_T51 x4_1 x16_1).f1))) (ds := [18, 21]) #[false, false, false, false, false, false, false, false, false, false, false, false, false, false, false, false, false, false, false, false, false, false] (by kernel_rfl) rfl rfl ⟨hx146_0, hx146_1, hx148_0, hx148_1⟩ (fun hHeld => ?_); refine with_tabW dn_Key.tab7 dn_Key.bits7 (fun HT_ HW_ => ?_)
                generalize wr.drew = w20 at HO_4 HB hx146_0 hx146_1 hx148_0 hx148_1 hHeld ⊢
                refine pure_ (i := 0) (N := some 19) (v := ?_) (a' := ?_) #[true, false, false, false, false, false, false, false, false, false, false, false, false, false, false, false, false, false, false, false, false, false] rfl rfl (any_of HT_.out (by kernel_rfl)) (fun _ _ _ h => h) (Or.inl ⟨by rfl, ?_⟩) ?_ ?_
                rotate_left
                · intro w'
                  go_simp
                  with_reducible rfl
                rotate_left
                · simp only [Act.put, List.setIfInBounds_toArray, List.set_cons_zero, List.set_cons_succ, i64_w, i32_w]
                  rfl
                refine pure_ (i := 1) (N := some 20) (v := ?_) (a' := ?_) #[true, true, false, false, false, false, false, false, false, false, false, false, false, false, false, false, false, false, false, false, false, false] rfl rfl (any_of HT_.out (by kernel_rfl)) (fun _ _ _ h => h) (Or.inl ⟨by rfl, ?_⟩) ?_ ?_
                rotate_left
                · intro w'
                  go_simp
                  with_reducible rfl
                rotate_left
                · simp only [Act.put, List.setIfInBounds_toArray, List.set_cons_zero, List.set_cons_succ, i64_w, i32_w]
                  rfl
                refine pure_ (i := 2) (N := some 21) (v := ?_) (a' := ?_) #[true, true, true, false, false, false, false, false, false, false, false, false, false, false, false, false, false, false, false, false, false, false] rfl rfl (any_of HT_.out (by kernel_rfl)) (fun _ _ _ h => h) (Or.inl ⟨by rfl, ?_⟩) ?_ ?_
                rotate_left
                · intro w'
                  go_simp
                  with_reducible rfl
                rotate_left
                · simp only [Act.put, List.setIfInBounds_toArray, List.set_cons_zero, List.set_cons_succ, i64_w, i32_w]
                  rfl
                refine pure_ (i := 3) (N := some 22) (v := ?_) (a' := ?_) #[true, true, true, true, false, false, false, false, false, false, false, false, false, false, false, false, false, false, false, false, false, false] rfl rfl (any_of HT_.out (by kernel_rfl)) (fun _ _ _ h => h) (Or.inl ⟨by rfl, ?_⟩) ?_ ?_
                rotate_left
                · intro w'
                  go_simp
                  with_reducible rfl
                rotate_left
                · simp only [Act.put, List.setIfInBounds_toArray, List.set_cons_zero, List.set_cons_succ, i64_w, i32_w]
                  rfl
                refine pure_ (i := 4) (N := some 23) (v := ?_) (a' := ?_) #[true, true, true, true, true, false, false, false, false, false, false, false, false, false, false, false, false, false, false, false, false, false] rfl rfl (any_of HT_.out (by kernel_rfl)) (fun _ _ _ h => h) (Or.inl ⟨by rfl, ?_⟩) ?_ ?_
                rotate_left
                · intro w'
                  go_simp
                  with_reducible rfl
                rotate_left
                · simp only [Act.put, List.setIfInBounds_toArray, List.set_cons_zero, List.set_cons_succ, i64_w, i32_w]
                  rfl
                refine pure_ (i := 5) (N := some 24) (v := ?_) (a' := ?_) #[true, true, true, true, true, true, false, false, false, false, false, false, false, false, false, false, false, false, false, false, false, false] rfl rfl (any_of HT_.out (by kernel_rfl)) (fun _ _ _ h => h) (Or.inl ⟨by rfl, ?_⟩) ?_ ?_
                rotate_left
                · intro w'
                  go_simp
                  with_reducible rfl
                rotate_left
                · simp only [Act.put, List.setIfInBounds_toArray, List.set_cons_zero, List.set_cons_succ, i64_w, i32_w]
                  rfl
                refine pure_ (i := 6) (N := some 25) (v := ?_) (a' := ?_) #[true, true, true, true, true, true, true, false, false, false, false, false, false, false, false, false, false, false, false, false, false, false] rfl rfl (any_of HT_.out (by kernel_rfl)) (fun _ _ _ h => h) (Or.inl ⟨by rfl, ?_⟩) ?_ ?_
                rotate_left
                · intro w'
                  go_simp
                  with_reducible rfl
                rotate_left
                · simp only [Act.put, List.setIfInBounds_toArray, List.set_cons_zero, List.set_cons_succ, i64_w, i32_w]
                  rfl
                refine pure_ (i := 7) (N := some 26) (v := ?_) (a' := ?_) #[true, true, true, true, true, true, true, true, false, false, false, false, false, false, false, false, false, false, false, false, false, false] rfl rfl (any_of HT_.out (by kernel_rfl)) (fun _ _ _ h => h) (Or.inl ⟨by rfl, ?_⟩) ?_ ?_
                rotate_left
                · intro w'
                  go_simp
                  with_reducible rfl
                rotate_left
                · simp only [Act.put, List.setIfInBounds_toArray, List.set_cons_zero, List.set_cons_succ, i64_w, i32_w]
                  rfl
                refine pure_ (i := 10) (N := some 29) (v := ?_) (a' := ?_) #[true, true, true, true, true, true, true, true, false, false, true, false, false, false, false, false, false, false, false, false, false, false] rfl rfl (any_of HT_.out (by kernel_rfl)) (fun _ _ _ h => h) (Or.inl ⟨by rfl, ?_⟩) ?_ ?_
                rotate_left
                · intro w'
                  go_simp
                  with_reducible rfl
                rotate_left
                · simp only [Act.put, List.setIfInBounds_toArray, List.set_cons_zero, List.set_cons_succ, i64_w, i32_w]
                  rfl
                refine pure_ (i := 11) (N := some 30) (v := ?_) (a' := ?_) #[true, true, true, true, true, true, true, true, false, false, true, true, false, false, false, false, false, false, false, false, false, false] rfl rfl (any_of HT_.out (by kernel_rfl)) (fun _ _ _ h => h) (Or.inl ⟨by rfl, ?_⟩) ?_ ?_
                rotate_left
                · intro w'
                  go_simp
                  with_reducible rfl
                rotate_left
                · simp only [Act.put, List.setIfInBounds_toArray, List.set_cons_zero, List.set_cons_succ, i64_w, i32_w]
                  rfl
                refine pure_ (i := 12) (N := some 31) (v := ?_) (a' := ?_) #[true, true, true, true, true, true, true, true, false, false, true, true, true, false, false, false, false, false, false, false, false, false] rfl rfl (any_of HT_.out (by kernel_rfl)) (fun _ _ _ h => h) (Or.inl ⟨by rfl, ?_⟩) ?_ ?_
                rotate_left
                · intro w'
                  go_simp
                  with_reducible rfl
                rotate_left
                · simp only [Act.put, List.setIfInBounds_toArray, List.set_cons_zero, List.set_cons_succ, i64_w, i32_w]
                  rfl
                refine pure_ (i := 13) (N := some 32) (v := ?_) (a' := ?_) #[true, true, true, true, true, true, true, true, false, false, true, true, true, true, false, false, false, false, false, false, false, false] rfl rfl (any_of HT_.out (by kernel_rfl)) (fun _ _ _ h => h) (Or.inl ⟨by rfl, ?_⟩) ?_ ?_
                rotate_left
                · intro w'
                  go_simp
                  with_reducible rfl
                rotate_left
                · simp only [Act.put, List.setIfInBounds_toArray, List.set_cons_zero, List.set_cons_succ, i64_w, i32_w]
                  rfl
                refine take_ (i := 8) (N := some 27) (v := ?_) (a' := ?_) #[true, true, true, true, true, true, true, true, true, false, true, true, true, true, false, false, false, false, false, false, false, false] rfl rfl (take_ofW HT_.out HW_.out (by kernel_rfl)) (fun _ _ _ h => h) (Or.inl ⟨by rfl, ?_⟩) hHeld ?_ ?_
                rotate_left
                · rintro w' ⟨s0, s1, s2, s3⟩
                  go_simp
                  with_reducible rfl
                rotate_left
                · simp only [Act.put, List.setIfInBounds_toArray, List.set_cons_zero, List.set_cons_succ, i64_w, i32_w]
                  rfl
                refine take_ (i := 14) (N := some 33) (v := ?_) (a' := ?_) #[true, true, true, true, true, true, true, true, true, false, true, true, true, true, true, false, false, false, false, false, false, false] rfl rfl (take_ofW HT_.out HW_.out (by kernel_rfl)) (fun _ _ _ h => h) (Or.inl ⟨by rfl, ?_⟩) hHeld ?_ ?_
                rotate_left
                · rintro w' ⟨s0, s1, s2, s3⟩
                  go_simp
                  with_reducible rfl
                rotate_left
                · simp only [Act.put, List.setIfInBounds_toArray, List.set_cons_zero, List.set_cons_succ, i64_w, i32_w]
                  rfl
                refine one_ (i := 9) (N := some 28) #[true, true, true, true, true, true, true, true, true, true, true, true, true, true, true, false, false, false, false, false, false, false] rfl rfl (one_of HT_.out (by kernel_rfl)) (by decide) (fun K hK => ?_)
                refine goes_ Tryd.func20 (by kernel_rfl) rfl #[.string ((rd_T51 x4_1 x16_1).f0)] (by rfl) rfl rfl (by (try simp only [List.map_toArray, List.map_cons, List.map_nil]); first | done | rfl | (simp only [List.length_drop, List.length_take]; rfl)) ?_
                with_reducible refine (dn_lowered.calls ((rd_T51 x4_1 x16_1).f0) t147 _ A9.out).mono ?_
                rintro e w21 ⟨rfl, hb⟩
                have HS0_ := (hb.cell (World.block_lt_of_cell? _ _ (hHeld.1))).trans (hHeld.1)
                have HS1_ := (hb.cell (World.block_lt_of_cell? _ _ (hHeld.2.1))).trans (hHeld.2.1)
                have HS2_ := (hb.cell (World.block_lt_of_cell? _ _ (hHeld.2.2.1))).trans (hHeld.2.2.1)
                have HS3_ := (hb.cell (World.block_lt_of_cell? _ _ (hHeld.2.2.2))).trans (hHeld.2.2.2)
                refine ⟨_, rfl, ?_⟩
                have n0_ := Aside0.mk (Kd.R_below (by (with_reducible repeat (first | apply Kd.R_alloc | apply Kd.R_drewN | apply Kd.R_drew)); exact HO_4.out) hb)
                have n1_ := Aside0.mk (below_step (by repeat (first | (with_reducible first | exact HB.out | apply below_alloc | apply pw_below_drewN | apply below_drew1) | exact HB.out)) hb)
                clear HO_4
                clear HB
                have HO_4 := n0_
                have HB := n1_
                clear n0_ n1_
                (try clear hb)
                (try clear hb2)
                (try clear hk)
                (try clear hi)
                refine hK.out _ _ ⟨HS0_, HS1_, HS2_, HS3_⟩ (fun hHeld => ?_)
                clear hK K
                refine norm_ (a' := ?_) ?_ ?_
                rotate_left
                · show Act.put _ (some 28) _ = _
                  simp only [Act.put, List.setIfInBounds_toArray, List.set_cons_zero, List.set_cons_succ, i64_w, i32_w]
                  rfl
                refine one_ (i := 15) (N := some 34) #[true, true, true, true, true, true, true, true, true, true, true, true, true, true, true, true, false, false, false, false, false, false] rfl rfl (one_of HT_.out (by kernel_rfl)) (by decide) (fun K hK => ?_)
                refine goes_ Tryd.func13 (by kernel_rfl) rfl #[.string ((rd_T51 x4_1 x16_1).f1)] (by rfl) rfl rfl (by (try simp only [List.map_toArray, List.map_cons, List.map_nil]); first | done | rfl | (simp only [List.length_drop, List.length_take]; rfl)) ?_
                with_reducible refine (dn_Fold.calls ((rd_T51 x4_1 x16_1).f1) t149 _ A10.out).mono ?_
                rintro e w22 ⟨rfl, hb⟩
                have HS0_ := (hb.cell (World.block_lt_of_cell? _ _ (hHeld.1))).trans (hHeld.1)
                have HS1_ := (hb.cell (World.block_lt_of_cell? _ _ (hHeld.2.1))).trans (hHeld.2.1)
                have HS2_ := (hb.cell (World.block_lt_of_cell? _ _ (hHeld.2.2.1))).trans (hHeld.2.2.1)
                have HS3_ := (hb.cell (World.block_lt_of_cell? _ _ (hHeld.2.2.2))).trans (hHeld.2.2.2)
                refine ⟨_, rfl, ?_⟩
                have n0_ := Aside0.mk (Kd.R_below (by (with_reducible repeat (first | apply Kd.R_alloc | apply Kd.R_drewN | apply Kd.R_drew)); exact HO_4.out) hb)
                have n1_ := Aside0.mk (below_step (by repeat (first | (with_reducible first | exact HB.out | apply below_alloc | apply pw_below_drewN | apply below_drew1) | exact HB.out)) hb)
                clear HO_4
                clear HB
                have HO_4 := n0_
                have HB := n1_
                clear n0_ n1_
                (try clear hb)
                (try clear hb2)
                (try clear hk)
                (try clear hi)
                have p11 : 0 ≤ (x16_1 : Int) := of_decide_eq_true (by first | (with_reducible assumption) | assumption)
                have q11 : (x16_1 : Int) < ((x4_1.length : Int) : Int) := of_decide_eq_true (by first | (with_reducible assumption) | assumption)
                obtain ⟨go11, co11, eo11, gb11, gl11, cl11, HG11⟩ := Kd.R_form HO_4.out (by omega)
                (first | cases eo11 | (injection eo11 with ea_ en_ ec_; (first | subst ea_ | (injection ea_ with ea_; subst ea_)); subst ec_; clear en_))
                have GB11 := Aside0.mk gb11
                have GG11 := Aside0.mk HG11
                clear gb11 gl11 HG11
                (first | simp only [add_plain] at hx146_0 | skip)
                (first | simp only [add_plain] at hx146_1 | skip)
                (first | simp only [add_plain] at hx148_0 | skip)
                (first | simp only [add_plain] at hx148_1 | skip)
                obtain ⟨ce11, hcl11, hM11, hcc11, hfr11⟩ := Kd.R_elem HO_4.out z51 (x16_1 : Int) p11 q11
                obtain rfl := k51_openM hM11
                have hx11_0 : World.cell? _ ⟨go11, (x16_1 : Int).toNat * 2, none⟩ = some (.string ((rd_T51 x4_1 x16_1).f0)) := hcc11 0 _ rfl
                have hx11_1 : World.cell? _ ⟨go11, (x16_1 : Int).toNat * 2 + 1, none⟩ = some (.string ((rd_T51 x4_1 x16_1).f1)) := hcc11 1 _ rfl
                have hf11_0 : World.frozen? _ ⟨go11, (x16_1 : Int).toNat * 2, none⟩ = false := hfr11 0
                have hf11_1 : World.frozen? _ ⟨go11, (x16_1 : Int).toNat * 2 + 1, none⟩ = false := hfr11 1
                clear hcl11 hcc11 hfr11 hM11
                replace p11 := eq_true p11
                replace q11 := eq_true q11
                obtain ⟨ce23, hcl23, hM23, hcc23, hfr23⟩ := Kd.R_elem HO_4.out z51 (x16_1 : Int) (of_decide_eq_true (by first | (with_reducible assumption) | assumption)) (by have h_ : (x16_1 : Int) < ((x4_1.length : Int) : Int) := of_decide_eq_true (by first | (with_reducible assumption) | assumption); first | exact h_ | (have e_ := (Kd.R_reads' HO_4.out).1; omega) | simpa using h_)
                obtain rfl := k51_openM hM23
                have HP23 := (Kd.R_seg HO_4.out (x16_1 : Int) (of_decide_eq_true (by first | (with_reducible assumption) | assumption)) (by have h_ : (x16_1 : Int) < ((x4_1.length : Int) : Int) := of_decide_eq_true (by first | (with_reducible assumption) | assumption); first | exact h_ | (have e_ := (Kd.R_reads' HO_4.out).1; omega) | simpa using h_) (seg := [.string t147]) (j := 0) hcl23 hcc23 (show 1 ≤ 2 from by decide) (x' := (⟨t147, (rd_T51 x4_1 x16_1).f1⟩ : S51)) (k51_mkM _ _ _ (⟨t147, (rd_T51 x4_1 x16_1).f1⟩ : S51) ) (fun _ hk => hk)).1
                rw [← Ny150.out] at HP23
                have HQ23 := Aside0.mk HP23
                clear hcl23 hcc23 hfr23 hM23 HP23
                have p12 : 0 ≤ (x16_1 : Int) := of_decide_eq_true (by first | (with_reducible assumption) | assumption)
                have q12 : (x16_1 : Int) < ((x4_1.length : Int) : Int) := of_decide_eq_true (by first | (with_reducible assumption) | assumption)
                replace p12 := eq_true p12
                replace q12 := eq_true q12
                obtain ⟨ce24, hcl24, hM24, hcc24, hfr24⟩ := Kd.R_elem HQ23.out z51 (x16_1 : Int) (of_decide_eq_true (by first | (with_reducible assumption) | assumption)) (by have h_ : (x16_1 : Int) < ((x4_1.length : Int) : Int) := of_decide_eq_true (by first | (with_reducible assumption) | assumption); first | exact h_ | (have e_ := (Kd.R_reads' HO_4.out).1; omega) | simpa using h_)
                obtain rfl := k51_openM hM24
                have HP24 := (Kd.R_seg HQ23.out (x16_1 : Int) (of_decide_eq_true (by first | (with_reducible assumption) | assumption)) (by have h_ : (x16_1 : Int) < ((x4_1.length : Int) : Int) := of_decide_eq_true (by first | (with_reducible assumption) | assumption); first | exact h_ | (have e_ := (Kd.R_reads' HO_4.out).1; omega) | simpa using h_) (seg := [.string t149]) (j := 1) hcl24 hcc24 (show 2 ≤ 2 from by decide) (x' := (⟨(rd_T51 y150 x16_1).f0, t149⟩ : S51)) (k51_mkM _ _ _ (⟨(rd_T51 y150 x16_1).f0, t149⟩ : S51) ) (fun _ hk => hk)).1
                rw [← Ny151.out] at HP24
                have HQ24 := Aside0.mk HP24
                clear hcl24 hcc24 hfr24 hM24 HP24
                refine hK.out _ _ ⟨HS0_, HS1_, HS2_, HS3_⟩ (fun hHeld => ?_)
                clear hK K
                refine norm_ (a' := ?_) ?_ ?_
                rotate_left
                · show Act.put _ (some 34) _ = _
                  simp only [Act.put, List.setIfInBounds_toArray, List.set_cons_zero, List.set_cons_succ, i64_w, i32_w]
                  rfl
                refine pure_ (i := 16) (N := some 35) (v := ?_) (a' := ?_) #[true, true, true, true, true, true, true, true, true, true, true, true, true, true, true, true, true, false, false, false, false, false] rfl rfl (any_of HT_.out (by kernel_rfl)) (fun _ _ _ h => h) (Or.inl ⟨by rfl, ?_⟩) ?_ ?_
                rotate_left
                · intro w'
                  go_simp
                  with_reducible rfl
                rotate_left
                · simp only [Act.put, List.setIfInBounds_toArray, List.set_cons_zero, List.set_cons_succ, i64_w, i32_w]
                  rfl
                refine pure_ (i := 17) (N := some 36) (v := ?_) (a' := ?_) #[true, true, true, true, true, true, true, true, true, true, true, true, true, true, true, true, true, true, false, false, false, false] rfl rfl (any_of HT_.out (by kernel_rfl)) (fun _ _ _ h => h) (Or.inl ⟨by rfl, ?_⟩) ?_ ?_
                rotate_left
                · intro w'
                  go_simp
                  with_reducible rfl
                rotate_left
                · simp only [Act.put, List.setIfInBounds_toArray, List.set_cons_zero, List.set_cons_succ, i64_w, i32_w]
                  rfl
                refine last_ (i := 18) (N := none) #[true, true, true, true, true, true, true, true, true, true, true, true, true, true, true, true, true, true, true, false, false, false] rfl rfl (one_of HT_.out (by kernel_rfl)) (by decide) (fun K hK => ?_)
                refine skip_ (w1 := ?_) (by rfl) rfl ?_ ?_
                rotate_left
                · go_simp
                  rfl
                refine hK.out _ _ ?_
                clear hK K
                refine pure_ (i := 19) (N := some 37) (v := ?_) (a' := ?_) #[true, true, true, true, true, true, true, true, true, true, true, true, true, true, true, true, true, true, true, true, false, false] rfl rfl (any_of HT_.out (by kernel_rfl)) (fun _ _ _ h => h) (Or.inl ⟨by rfl, ?_⟩) ?_ ?_
                rotate_left
                · intro w'
                  go_simp
                  with_reducible rfl
                rotate_left
                · simp only [Act.put, List.setIfInBounds_toArray, List.set_cons_zero, List.set_cons_succ, i64_w, i32_w]
                  rfl
                refine pure_ (i := 20) (N := some 38) (v := ?_) (a' := ?_) #[true, true, true, true, true, true, true, true, true, true, true, true, true, true, true, true, true, true, true, true, true, false] rfl rfl (any_of HT_.out (by kernel_rfl)) (fun _ _ _ h => h) (Or.inl ⟨by rfl, ?_⟩) ?_ ?_
                rotate_left
                · intro w'
                  go_simp
                  with_reducible rfl
                rotate_left
                · simp only [Act.put, List.setIfInBounds_toArray, List.set_cons_zero, List.set_cons_succ, i64_w, i32_w]
                  rfl
                refine last_ (i := 21) (N := none) #[true, true, true, true, true, true, true, true, true, true, true, true, true, true, true, true, true, true, true, true, true, true] rfl rfl (one_of HT_.out (by kernel_rfl)) (by decide) (fun K hK => ?_)
                refine skip_ (w1 := ?_) (by rfl) rfl ?_ ?_
                rotate_left
                · go_simp
                  rfl
                refine hK.out _ _ ?_
                clear hK K
                refine done_ (done_of HT_.out (by kernel_rfl)) ?_
                have p13 : 0 ≤ (x16_1 : Int) := of_decide_eq_true (by first | (with_reducible assumption) | assumption)
                have q13 : (x16_1 : Int) < ((x4_1.length : Int) : Int) := of_decide_eq_true (by first | (with_reducible assumption) | assumption)
                replace p13 := eq_true p13
                replace q13 := eq_true q13
                try go_wp2
                (try simp only [← hl4_1])
                go_roundg k1
                case measure => have := HK1.out; omega
                case rel => exact ⟨(y151), (wrap64 (x16_1 + 1)), (by first | rfl | (simp; done) | (simp [*]; done) | (simp [*, i64_w, i32_w, u8_w]; done) | (simp only [bneNil, beqNil]; done) | (simp only [bneNil, beqNil]; simp; done) | (simp only [bneNil, beqNil]; simp [*]; done)), H', ⟨by have := HK1.out; omega⟩, ⟨by (try simp only [hl4_1]); (with_reducible repeat (first | apply Kd.R_alloc | apply Kd.R_drewN | apply Kd.R_drew)); exact HQ24.out⟩, ⟨by repeat (first | (with_reducible first | exact HB.out | apply below_alloc | apply pw_below_drewN | apply below_drew1 | refine below_set ?_ GB11.out | refine below_set ?_ GB11.out) | exact HB.out)⟩⟩
            · rw [if_neg c8] at H
              exact absurd H (by simp)
          · rw [if_neg c7] at H
            exact absurd H (by simp)
        · rw [if_neg c6] at H
          have c6b0 : decide (x16_1 < (t141.length : Int)) = false := decide_eq_false c6
          (try (have c6b0h := c6b0; simp only [hl4_1] at c6b0h))
          clear c6
          replace H := Option.bind_eq_some_iff.mp H
          obtain ⟨t145, A250, H⟩ := H
          replace H : (some (t145, true)) = some (r1, r2) := H
          have A25 := Aside0.mk A250
          clear A250
          simp only [Option.some.injEq, Prod.mk.injEq] at H
          obtain ⟨rfl, rfl⟩ := H
          go_wp2_with (first | ((with_reducible refine gate_callee (f := 25) rfl ?_); refine goesL_ (some 47) rfl rfl Tryd.func25 (by kernel_rfl) rfl #[.slice Ao5 x4_1.length co5] rfl (by (try simp only [List.map_toArray, List.map_cons, List.map_nil]); first | done | rfl | (simp only [List.length_drop, List.length_take]; rfl)) ?_; (with_reducible refine (dn_Text.calls _ _ x4_1 t145 _ ?side1 ?side2 A25.out).mono ?_); (case side1 => repeat (first | exact (Kd.R_reads' HO_4.out).2.2 | (with_reducible refine Kd.C_alloc ?_ _) | (with_reducible refine Kd.C_drewN ?_ _) | (with_reducible refine Kd.C_drew ?_))); (case side2 => exact (Kd.R_reads' HO_4.out).2.1); rintro e w26 ⟨rfl, hb⟩; refine ⟨_, rfl, ?_⟩; have n0_ := Aside0.mk (Kd.R_below (by (with_reducible repeat (first | apply Kd.R_alloc | apply Kd.R_drewN | apply Kd.R_drew)); exact HO_4.out) hb); have n1_ := Aside0.mk (below_step (by repeat (first | (with_reducible first | exact HB.out | apply below_alloc | apply pw_below_drewN | apply below_drew1) | exact HB.out)) hb); clear HO_4; clear HB; have HO_4 := n0_; have HB := n1_; clear n0_ n1_; (try clear hb); (try clear hb2); (try clear hk); (try clear hi)))
          go_ret2
          exact ⟨by first | rfl | (simp [errW_none, errW_some] <;> rfl) | (simp [*, errW_none, errW_some] <;> rfl), by repeat (first | (with_reducible first | exact HB.out | apply below_alloc | apply pw_below_drewN | apply below_drew1) | exact HB.out)⟩
  · replace c3 := Bool.eq_false_iff.mpr c3
    subst c3
    have H1 : (some ((⟨#[]⟩ : ByteArray), false)) = some (r1, r2) := by rw [if_neg (show ¬ (false = true) by decide)] at H; exact H
    clear H
    have H := H1
    clear H1
    simp only [Option.some.injEq, Prod.mk.injEq] at H
    obtain ⟨rfl, rfl⟩ := H
    go_enter Tryd.func15, Tryd.ntmps15
    go_wp2_with (first | ((with_reducible refine gate_callee (f := 24) rfl ?_); refine goesL_ (some 9) rfl rfl Tryd.func24 (by kernel_rfl) rfl #[.string a0] rfl (by (try simp only [List.map_toArray, List.map_cons, List.map_nil]); first | done | rfl | (simp only [List.length_drop, List.length_take]; rfl)) ?_; (with_reducible refine (dn_Parse.calls k a0 t141 false _ ?side1 A2.out).mono ?_); (case side1 => first | exact HG.out | exact Gl.drewN HG.out _ | exact Gl.below HG.out (by repeat (first | (with_reducible first | exact HB.out | apply below_alloc | apply pw_below_drewN | apply below_drew1) | exact HB.out))); rintro e w27 ⟨v143, rfl, ho0, hb⟩; refine ⟨_, rfl, ?_⟩; have n0_ := Aside0.mk (Kd.R_lower ho0 (below_size (by repeat (first | (with_reducible first | exact HB.out | apply below_alloc | apply pw_below_drewN | apply below_drew1) | exact HB.out)))); have n1_ := Aside0.mk (below_step (by repeat (first | (with_reducible first | exact HB.out | apply below_alloc | apply pw_below_drewN | apply below_drew1) | exact HB.out)) hb); clear HB; have HO144 := n0_; have HB := n1_; clear n0_ n1_; (try clear hb); (try clear hb2); (try clear hk); (try clear hi); (try clear ho0)))
    go_ret2
    exact ⟨by first | rfl | (simp [errW_none, errW_some] <;> rfl) | (simp [*, errW_none, errW_some] <;> rfl), by repeat (first | (with_reducible first | exact HB.out | apply below_alloc | apply pw_below_drewN | apply below_drew1) | exact HB.out)⟩

end Go.Proofs.YtjicpomcfelobaaDoor.P

namespace Go.Proofs.YtjicpomcfelobaaDoor.P
open Go.RowKit Go.Proofs.YtjicpomcfelobaaDoorW.PrintWords Go.Proofs.YtjicpomcfelobaaDoorW.PrintLast Go.Proofs.YtjicpomcfelobaaDoorW.PrintMore
attribute [local go_sem] max2_int min2_int max_two min_two max_three min_three max_four min_four
set_option linter.unusedVariables false
set_option linter.unusedSimpArgs false

/-! ### match_Norm: function 8 -/
def match_Norm.j0 : Nat → ByteArray → ByteArray → Bool → Option (ByteArray × Bool)
  | 0, _, _, _ => none
  | k + 1, x0, x1, x13 => if x13 = true then (some ((⟨#[]⟩ : ByteArray), false)) else ((match_Rule.f x0).bind fun t153 => (if t153 = 1 then ((dn_Fold.f x1).bind fun t154 => (if t154.toList = ([] : List UInt8) then (some ((⟨#[]⟩ : ByteArray), false)) else (some (t154, true)))) else (if t153 = 2 then ((match_number.f x1).bind fun t155 => (if t155 = true then (if x1.toList = ([] : List UInt8) then (some ((⟨#[]⟩ : ByteArray), false)) else (some (x1, true))) else (some ((⟨#[]⟩ : ByteArray), false)))) else (if t153 = 3 then ((dn_Key.f k x1).bind fun bt156 => (if bt156.2 = true then (if bt156.1.toList = ([] : List UInt8) then (some ((⟨#[]⟩ : ByteArray), false)) else (some (bt156.1, true))) else (some ((⟨#[]⟩ : ByteArray), false)))) else (if t153 = 4 then (if x1.toList = ([] : List UInt8) then (some ((⟨#[]⟩ : ByteArray), false)) else (some (x1, true))) else (some ((⟨#[]⟩ : ByteArray), false)))))))
def match_Norm.f (k : Nat) (a0 : ByteArray) (a1 : ByteArray) : Option (ByteArray × Bool) := if a1.toList = ([] : List UInt8) then (match_Norm.j0 k a0 a1 true) else (match_Norm.j0 k a0 a1 (decide ((a1.size : Int) > 100)))
theorem match_Norm.mono_l : ∀ k, (∀ y0 y1 y2, LeO (match_Norm.j0 k y0 y1 y2) (match_Norm.j0 (k + 1) y0 y1 y2))
  | 0 => fun _ _ _ r h => by simp [match_Norm.j0] at h
  | k + 1 => by
    have ih0 := match_Norm.mono_l k
    · intro y0 y1 y2
      unfold match_Norm.j0
      repeat' first
      | (with_reducible exact ih0 _ _ _)
      | (with_reducible exact dn_Key.mono _ _)
      | (with_reducible exact LeO.refl _)
      | (with_reducible exact LeO.none _)
      | (with_reducible refine LeO.ite ?_ ?_)
      | (with_reducible refine LeO.bind ?_ (fun _ => ?_))
      | exact ih0 _ _ _
      | exact dn_Key.mono _ _
      | exact LeO.none _
      | refine LeO.ite ?_ ?_
      | refine LeO.bind ?_ (fun _ => ?_)
theorem match_Norm.mono : ∀ a0 a1 k, LeO (match_Norm.f k a0 a1) (match_Norm.f (k + 1) a0 a1) := by
  intro a0 a1 k
  have ih0 := match_Norm.mono_l k
  unfold match_Norm.f
  repeat' first
      | (with_reducible exact ih0 _ _ _)
      | (with_reducible exact dn_Key.mono _ _)
      | (with_reducible exact LeO.refl _)
      | (with_reducible exact LeO.none _)
      | (with_reducible refine LeO.ite ?_ ?_)
      | (with_reducible refine LeO.bind ?_ (fun _ => ?_))
      | exact ih0 _ _ _
      | exact dn_Key.mono _ _
      | exact LeO.none _
      | refine LeO.ite ?_ ?_
      | refine LeO.bind ?_ (fun _ => ?_)
set_option maxHeartbeats 8000000 in
set_option maxRecDepth 100000 in
theorem match_Norm.calls (k : Nat) (a0 : ByteArray) (a1 : ByteArray) (r1 : ByteArray) (r2 : Bool) (w : World) (hG : Gl w) (h : match_Norm.f k a0 a1 = some (r1, r2)) :
    Calls Tryd.prog 8 #[.string a0, .string a1] w fun e w' => e = .returned (.tuple #[.string r1, .bool r2]) ∧ Below w.heap.size w w' := by
  have HB := Aside0.mk (Below.refl w.heap.size w)
  have HG := Aside0.mk hG
  clear hG
  have H : (if a1.toList = ([] : List UInt8) then (match_Norm.j0 k a0 a1 true) else (match_Norm.j0 k a0 a1 (decide ((a1.size : Int) > 100)))) = some (r1, r2) := h
  clear h
  have HC3 := Aside0.mk H
  clear H
  go_enter Tryd.func8, Tryd.ntmps8
  go_upto_region 1 with (fail)
  go_cut [13] (fun v13 wc => ∃ (kq : Nat) (x13_2 : Bool), v13 = .bool x13_2 ∧ Aside0 (match_Norm.j0 kq a0 a1 x13_2 = some (r1, r2)) ∧ Aside0 (kq ≤ k) ∧ Aside0 (Below w.heap.size w wc))
  case first =>
    have H := HC3.out
    clear HC3
    by_cases c4 : a1.toList = ([] : List UInt8)
    · rw [if_pos c4] at H
      have c4b0 : (a1.toList == ([] : List UInt8)) = true := beq_iff_eq.mpr c4
      have c4b1 : (a1.toList != ([] : List UInt8)) = false := bne_eq_false_iff_eq.mpr c4
      clear c4
      (first | rw [c4b0] | (simp only [i64_w, i32_w]; rw [c4b0]) | skip)
      have H' := Aside0.mk H
      clear H
      go_wp2
      go_meet
      case rel => exact ⟨_, (true), (by first | rfl | (simp; done) | (simp [*]; done) | (simp [*, i64_w, i32_w, u8_w]; done) | (simp only [bneNil, beqNil]; done) | (simp only [bneNil, beqNil]; simp; done) | (simp only [bneNil, beqNil]; simp [*]; done)), H', ⟨by first | omega | exact Nat.le_refl _⟩, ⟨by repeat (first | (with_reducible first | exact HB.out | apply below_alloc | apply pw_below_drewN | apply below_drew1) | exact HB.out)⟩⟩
    · rw [if_neg c4] at H
      have c4b0 : (a1.toList == ([] : List UInt8)) = false := beq_eq_false_iff_ne.mpr c4
      have c4b1 : (a1.toList != ([] : List UInt8)) = true := bne_iff_ne.mpr c4
      (first | rw [c4b0] | (simp only [i64_w, i32_w]; rw [c4b0]) | skip)
      have H' := Aside0.mk H
      clear H
      go_wp2
      go_meet
      case rel => exact ⟨_, (decide ((a1.size : Int) > 100)), (by first | rfl | (simp; done) | (simp [*]; done) | (simp [*, i64_w, i32_w, u8_w]; done) | (simp only [bneNil, beqNil]; done) | (simp only [bneNil, beqNil]; simp; done) | (simp only [bneNil, beqNil]; simp [*]; done)), H', ⟨by first | omega | exact Nat.le_refl _⟩, ⟨by repeat (first | (with_reducible first | exact HB.out | apply below_alloc | apply pw_below_drewN | apply below_drew1) | exact HB.out)⟩⟩
  case rest =>
    clear HC3
    try clear p2
    try clear c4
    try clear c4b0
    try clear c4b1
    obtain ⟨kq, x13_2, rfl, HA, HJ2, HB⟩ := hcut
    cases kq with
    | zero => exact absurd HA.out (by simp [match_Norm.j0])
    | succ kj2 =>
      have H := HA.out
      clear HA
      simp only [match_Norm.j0] at H
      by_cases c5 : x13_2 = true
      · subst c5
        have H1 : (some ((⟨#[]⟩ : ByteArray), false)) = some (r1, r2) := by rw [if_pos rfl] at H; exact H
        clear H
        have H := H1
        clear H1
        simp only [Option.some.injEq, Prod.mk.injEq] at H
        obtain ⟨rfl, rfl⟩ := H
        go_wp2
        go_ret2
        exact ⟨by first | rfl | (simp [errW_none, errW_some] <;> rfl) | (simp [*, errW_none, errW_some] <;> rfl), by repeat (first | (with_reducible first | exact HB.out | apply below_alloc | apply pw_below_drewN | apply below_drew1) | exact HB.out)⟩
      · replace c5 := Bool.eq_false_iff.mpr c5
        subst c5
        have H1 : ((match_Rule.f a0).bind fun t153 => (if t153 = 1 then ((dn_Fold.f a1).bind fun t154 => (if t154.toList = ([] : List UInt8) then (some ((⟨#[]⟩ : ByteArray), false)) else (some (t154, true)))) else (if t153 = 2 then ((match_number.f a1).bind fun t155 => (if t155 = true then (if a1.toList = ([] : List UInt8) then (some ((⟨#[]⟩ : ByteArray), false)) else (some (a1, true))) else (some ((⟨#[]⟩ : ByteArray), false)))) else (if t153 = 3 then ((dn_Key.f kj2 a1).bind fun bt156 => (if bt156.2 = true then (if bt156.1.toList = ([] : List UInt8) then (some ((⟨#[]⟩ : ByteArray), false)) else (some (bt156.1, true))) else (some ((⟨#[]⟩ : ByteArray), false)))) else (if t153 = 4 then (if a1.toList = ([] : List UInt8) then (some ((⟨#[]⟩ : ByteArray), false)) else (some (a1, true))) else (some ((⟨#[]⟩ : ByteArray), false))))))) = some (r1, r2) := by rw [if_neg (show ¬ (false = true) by decide)] at H; exact H
        clear H
        have H := H1
        clear H1
        replace H := Option.bind_eq_some_iff.mp H
        obtain ⟨t153, A60, H⟩ := H
        replace H : (if t153 = 1 then ((dn_Fold.f a1).bind fun t154 => (if t154.toList = ([] : List UInt8) then (some ((⟨#[]⟩ : ByteArray), false)) else (some (t154, true)))) else (if t153 = 2 then ((match_number.f a1).bind fun t155 => (if t155 = true then (if a1.toList = ([] : List UInt8) then (some ((⟨#[]⟩ : ByteArray), false)) else (some (a1, true))) else (some ((⟨#[]⟩ : ByteArray), false)))) else (if t153 = 3 then ((dn_Key.f kj2 a1).bind fun bt156 => (if bt156.2 = true then (if bt156.1.toList = ([] : List UInt8) then (some ((⟨#[]⟩ : ByteArray), false)) else (some (bt156.1, true))) else (some ((⟨#[]⟩ : ByteArray), false)))) else (if t153 = 4 then (if a1.toList = ([] : List UInt8) then (some ((⟨#[]⟩ : ByteArray), false)) else (some (a1, true))) else (some ((⟨#[]⟩ : ByteArray), false)))))) = some (r1, r2) := H
        have A6 := Aside0.mk A60
        clear A60
        by_cases c7 : t153 = 1
        · rw [if_pos c7] at H
          have c7b0 : (t153 == 1) = true := beq_iff_eq.mpr c7
          have c7b1 : (t153 != 1) = false := bne_eq_false_iff_eq.mpr c7
          clear c7
          replace H := Option.bind_eq_some_iff.mp H
          obtain ⟨t154, A80, H⟩ := H
          replace H : (if t154.toList = ([] : List UInt8) then (some ((⟨#[]⟩ : ByteArray), false)) else (some (t154, true))) = some (r1, r2) := H
          have A8 := Aside0.mk A80
          clear A80
          by_cases c9 : t154.toList = ([] : List UInt8)
          · rw [if_pos c9] at H
            have c9b0 : (t154.toList == ([] : List UInt8)) = true := beq_iff_eq.mpr c9
            have c9b1 : (t154.toList != ([] : List UInt8)) = false := bne_eq_false_iff_eq.mpr c9
            clear c9
            simp only [Option.some.injEq, Prod.mk.injEq] at H
            obtain ⟨rfl, rfl⟩ := H
            go_wp2_with (first | ((with_reducible refine gate_callee (f := 12) rfl ?_); refine goesL_ (some 15) rfl rfl Tryd.func12 (by kernel_rfl) rfl #[.string a0] rfl (by (try simp only [List.map_toArray, List.map_cons, List.map_nil]); first | done | rfl | (simp only [List.length_drop, List.length_take]; rfl)) ?_; (with_reducible refine (match_Rule.calls a0 t153 _ A6.out).mono ?_); rintro e w10 ⟨rfl, hb⟩; refine ⟨_, rfl, ?_⟩; have n0_ := Aside0.mk (below_step (by repeat (first | (with_reducible first | exact HB.out | apply below_alloc | apply pw_below_drewN | apply below_drew1) | exact HB.out)) hb); clear HB; have HB := n0_; clear n0_; (try clear hb); (try clear hb2); (try clear hk); (try clear hi)) | ((with_reducible refine gate_callee (f := 13) rfl ?_); refine goesL_ (some 19) rfl rfl Tryd.func13 (by kernel_rfl) rfl #[.string a1] rfl (by (try simp only [List.map_toArray, List.map_cons, List.map_nil]); first | done | rfl | (simp only [List.length_drop, List.length_take]; rfl)) ?_; (with_reducible refine (dn_Fold.calls a1 t154 _ A8.out).mono ?_); rintro e w11 ⟨rfl, hb⟩; refine ⟨_, rfl, ?_⟩; have n0_ := Aside0.mk (below_step (by repeat (first | (with_reducible first | exact HB.out | apply below_alloc | apply pw_below_drewN | apply below_drew1) | exact HB.out)) hb); clear HB; have HB := n0_; clear n0_; (try clear hb); (try clear hb2); (try clear hk); (try clear hi)))
            go_ret2
            exact ⟨by first | rfl | (simp [errW_none, errW_some] <;> rfl) | (simp [*, errW_none, errW_some] <;> rfl), by repeat (first | (with_reducible first | exact HB.out | apply below_alloc | apply pw_below_drewN | apply below_drew1) | exact HB.out)⟩
          · rw [if_neg c9] at H
            have c9b0 : (t154.toList == ([] : List UInt8)) = false := beq_eq_false_iff_ne.mpr c9
            have c9b1 : (t154.toList != ([] : List UInt8)) = true := bne_iff_ne.mpr c9
            simp only [Option.some.injEq, Prod.mk.injEq] at H
            obtain ⟨rfl, rfl⟩ := H
            go_wp2_with (first | ((with_reducible refine gate_callee (f := 12) rfl ?_); refine goesL_ (some 15) rfl rfl Tryd.func12 (by kernel_rfl) rfl #[.string a0] rfl (by (try simp only [List.map_toArray, List.map_cons, List.map_nil]); first | done | rfl | (simp only [List.length_drop, List.length_take]; rfl)) ?_; (with_reducible refine (match_Rule.calls a0 t153 _ A6.out).mono ?_); rintro e w12 ⟨rfl, hb⟩; refine ⟨_, rfl, ?_⟩; have n0_ := Aside0.mk (below_step (by repeat (first | (with_reducible first | exact HB.out | apply below_alloc | apply pw_below_drewN | apply below_drew1) | exact HB.out)) hb); clear HB; have HB := n0_; clear n0_; (try clear hb); (try clear hb2); (try clear hk); (try clear hi)) | ((with_reducible refine gate_callee (f := 13) rfl ?_); refine goesL_ (some 19) rfl rfl Tryd.func13 (by kernel_rfl) rfl #[.string a1] rfl (by (try simp only [List.map_toArray, List.map_cons, List.map_nil]); first | done | rfl | (simp only [List.length_drop, List.length_take]; rfl)) ?_; (with_reducible refine (dn_Fold.calls a1 t154 _ A8.out).mono ?_); rintro e w13 ⟨rfl, hb⟩; refine ⟨_, rfl, ?_⟩; have n0_ := Aside0.mk (below_step (by repeat (first | (with_reducible first | exact HB.out | apply below_alloc | apply pw_below_drewN | apply below_drew1) | exact HB.out)) hb); clear HB; have HB := n0_; clear n0_; (try clear hb); (try clear hb2); (try clear hk); (try clear hi)))
            go_ret2
            exact ⟨by first | rfl | (simp [errW_none, errW_some] <;> rfl) | (simp [*, errW_none, errW_some] <;> rfl), by repeat (first | (with_reducible first | exact HB.out | apply below_alloc | apply pw_below_drewN | apply below_drew1) | exact HB.out)⟩
        · rw [if_neg c7] at H
          have c7b0 : (t153 == 1) = false := beq_eq_false_iff_ne.mpr c7
          have c7b1 : (t153 != 1) = true := bne_iff_ne.mpr c7
          by_cases c14 : t153 = 2
          · rw [if_pos c14] at H
            have c14b0 : (t153 == 2) = true := beq_iff_eq.mpr c14
            have c14b1 : (t153 != 2) = false := bne_eq_false_iff_eq.mpr c14
            clear c14
            replace H := Option.bind_eq_some_iff.mp H
            obtain ⟨t155, A150, H⟩ := H
            replace H : (if t155 = true then (if a1.toList = ([] : List UInt8) then (some ((⟨#[]⟩ : ByteArray), false)) else (some (a1, true))) else (some ((⟨#[]⟩ : ByteArray), false))) = some (r1, r2) := H
            have A15 := Aside0.mk A150
            clear A150
            by_cases c16 : t155 = true
            · subst c16
              have H1 : (if a1.toList = ([] : List UInt8) then (some ((⟨#[]⟩ : ByteArray), false)) else (some (a1, true))) = some (r1, r2) := by rw [if_pos rfl] at H; exact H
              clear H
              have H := H1
              clear H1
              by_cases c17 : a1.toList = ([] : List UInt8)
              · rw [if_pos c17] at H
                have c17b0 : (a1.toList == ([] : List UInt8)) = true := beq_iff_eq.mpr c17
                have c17b1 : (a1.toList != ([] : List UInt8)) = false := bne_eq_false_iff_eq.mpr c17
                clear c17
                simp only [Option.some.injEq, Prod.mk.injEq] at H
                obtain ⟨rfl, rfl⟩ := H
                go_wp2_with (first | ((with_reducible refine gate_callee (f := 12) rfl ?_); refine goesL_ (some 15) rfl rfl Tryd.func12 (by kernel_rfl) rfl #[.string a0] rfl (by (try simp only [List.map_toArray, List.map_cons, List.map_nil]); first | done | rfl | (simp only [List.length_drop, List.length_take]; rfl)) ?_; (with_reducible refine (match_Rule.calls a0 t153 _ A6.out).mono ?_); rintro e w18 ⟨rfl, hb⟩; refine ⟨_, rfl, ?_⟩; have n0_ := Aside0.mk (below_step (by repeat (first | (with_reducible first | exact HB.out | apply below_alloc | apply pw_below_drewN | apply below_drew1) | exact HB.out)) hb); clear HB; have HB := n0_; clear n0_; (try clear hb); (try clear hb2); (try clear hk); (try clear hi)) | ((with_reducible refine gate_callee (f := 14) rfl ?_); refine goesL_ (some 23) rfl rfl Tryd.func14 (by kernel_rfl) rfl #[.string a1] rfl (by (try simp only [List.map_toArray, List.map_cons, List.map_nil]); first | done | rfl | (simp only [List.length_drop, List.length_take]; rfl)) ?_; (with_reducible refine (match_number.calls a1 true _ ?side1 A15.out).mono ?_); (case side1 => first | exact HG.out | exact Gl.drewN HG.out _ | exact Gl.below HG.out (by repeat (first | (with_reducible first | exact HB.out | apply below_alloc | apply pw_below_drewN | apply below_drew1) | exact HB.out))); rintro e w19 ⟨rfl, hb⟩; refine ⟨_, rfl, ?_⟩; have n0_ := Aside0.mk (below_step (by repeat (first | (with_reducible first | exact HB.out | apply below_alloc | apply pw_below_drewN | apply below_drew1) | exact HB.out)) hb); clear HB; have HB := n0_; clear n0_; (try clear hb); (try clear hb2); (try clear hk); (try clear hi)))
                go_ret2
                exact ⟨by first | rfl | (simp [errW_none, errW_some] <;> rfl) | (simp [*, errW_none, errW_some] <;> rfl), by repeat (first | (with_reducible first | exact HB.out | apply below_alloc | apply pw_below_drewN | apply below_drew1) | exact HB.out)⟩
              · rw [if_neg c17] at H
                have c17b0 : (a1.toList == ([] : List UInt8)) = false := beq_eq_false_iff_ne.mpr c17
                have c17b1 : (a1.toList != ([] : List UInt8)) = true := bne_iff_ne.mpr c17
                simp only [Option.some.injEq, Prod.mk.injEq] at H
                obtain ⟨rfl, rfl⟩ := H
                go_wp2_with (first | ((with_reducible refine gate_callee (f := 12) rfl ?_); refine goesL_ (some 15) rfl rfl Tryd.func12 (by kernel_rfl) rfl #[.string a0] rfl (by (try simp only [List.map_toArray, List.map_cons, List.map_nil]); first | done | rfl | (simp only [List.length_drop, List.length_take]; rfl)) ?_; (with_reducible refine (match_Rule.calls a0 t153 _ A6.out).mono ?_); rintro e w20 ⟨rfl, hb⟩; refine ⟨_, rfl, ?_⟩; have n0_ := Aside0.mk (below_step (by repeat (first | (with_reducible first | exact HB.out | apply below_alloc | apply pw_below_drewN | apply below_drew1) | exact HB.out)) hb); clear HB; have HB := n0_; clear n0_; (try clear hb); (try clear hb2); (try clear hk); (try clear hi)) | ((with_reducible refine gate_callee (f := 14) rfl ?_); refine goesL_ (some 23) rfl rfl Tryd.func14 (by kernel_rfl) rfl #[.string a1] rfl (by (try simp only [List.map_toArray, List.map_cons, List.map_nil]); first | done | rfl | (simp only [List.length_drop, List.length_take]; rfl)) ?_; (with_reducible refine (match_number.calls a1 true _ ?side1 A15.out).mono ?_); (case side1 => first | exact HG.out | exact Gl.drewN HG.out _ | exact Gl.below HG.out (by repeat (first | (with_reducible first | exact HB.out | apply below_alloc | apply pw_below_drewN | apply below_drew1) | exact HB.out))); rintro e w21 ⟨rfl, hb⟩; refine ⟨_, rfl, ?_⟩; have n0_ := Aside0.mk (below_step (by repeat (first | (with_reducible first | exact HB.out | apply below_alloc | apply pw_below_drewN | apply below_drew1) | exact HB.out)) hb); clear HB; have HB := n0_; clear n0_; (try clear hb); (try clear hb2); (try clear hk); (try clear hi)))
                go_ret2
                exact ⟨by first | rfl | (simp [errW_none, errW_some] <;> rfl) | (simp [*, errW_none, errW_some] <;> rfl), by repeat (first | (with_reducible first | exact HB.out | apply below_alloc | apply pw_below_drewN | apply below_drew1) | exact HB.out)⟩
            · replace c16 := Bool.eq_false_iff.mpr c16
              subst c16
              have H1 : (some ((⟨#[]⟩ : ByteArray), false)) = some (r1, r2) := by rw [if_neg (show ¬ (false = true) by decide)] at H; exact H
              clear H
              have H := H1
              clear H1
              simp only [Option.some.injEq, Prod.mk.injEq] at H
              obtain ⟨rfl, rfl⟩ := H
              go_wp2_with (first | ((with_reducible refine gate_callee (f := 12) rfl ?_); refine goesL_ (some 15) rfl rfl Tryd.func12 (by kernel_rfl) rfl #[.string a0] rfl (by (try simp only [List.map_toArray, List.map_cons, List.map_nil]); first | done | rfl | (simp only [List.length_drop, List.length_take]; rfl)) ?_; (with_reducible refine (match_Rule.calls a0 t153 _ A6.out).mono ?_); rintro e w22 ⟨rfl, hb⟩; refine ⟨_, rfl, ?_⟩; have n0_ := Aside0.mk (below_step (by repeat (first | (with_reducible first | exact HB.out | apply below_alloc | apply pw_below_drewN | apply below_drew1) | exact HB.out)) hb); clear HB; have HB := n0_; clear n0_; (try clear hb); (try clear hb2); (try clear hk); (try clear hi)) | ((with_reducible refine gate_callee (f := 14) rfl ?_); refine goesL_ (some 23) rfl rfl Tryd.func14 (by kernel_rfl) rfl #[.string a1] rfl (by (try simp only [List.map_toArray, List.map_cons, List.map_nil]); first | done | rfl | (simp only [List.length_drop, List.length_take]; rfl)) ?_; (with_reducible refine (match_number.calls a1 false _ ?side1 A15.out).mono ?_); (case side1 => first | exact HG.out | exact Gl.drewN HG.out _ | exact Gl.below HG.out (by repeat (first | (with_reducible first | exact HB.out | apply below_alloc | apply pw_below_drewN | apply below_drew1) | exact HB.out))); rintro e w23 ⟨rfl, hb⟩; refine ⟨_, rfl, ?_⟩; have n0_ := Aside0.mk (below_step (by repeat (first | (with_reducible first | exact HB.out | apply below_alloc | apply pw_below_drewN | apply below_drew1) | exact HB.out)) hb); clear HB; have HB := n0_; clear n0_; (try clear hb); (try clear hb2); (try clear hk); (try clear hi)))
              go_ret2
              exact ⟨by first | rfl | (simp [errW_none, errW_some] <;> rfl) | (simp [*, errW_none, errW_some] <;> rfl), by repeat (first | (with_reducible first | exact HB.out | apply below_alloc | apply pw_below_drewN | apply below_drew1) | exact HB.out)⟩
          · rw [if_neg c14] at H
            have c14b0 : (t153 == 2) = false := beq_eq_false_iff_ne.mpr c14
            have c14b1 : (t153 != 2) = true := bne_iff_ne.mpr c14
            by_cases c24 : t153 = 3
            · rw [if_pos c24] at H
              have c24b0 : (t153 == 3) = true := beq_iff_eq.mpr c24
              have c24b1 : (t153 != 3) = false := bne_eq_false_iff_eq.mpr c24
              clear c24
              replace H := Option.bind_eq_some_iff.mp H
              obtain ⟨⟨t156, t157⟩, A250, H⟩ := H
              replace H : (if t157 = true then (if t156.toList = ([] : List UInt8) then (some ((⟨#[]⟩ : ByteArray), false)) else (some (t156, true))) else (some ((⟨#[]⟩ : ByteArray), false))) = some (r1, r2) := H
              have A25 := Aside0.mk A250
              clear A250
              by_cases c26 : t157 = true
              · subst c26
                have H1 : (if t156.toList = ([] : List UInt8) then (some ((⟨#[]⟩ : ByteArray), false)) else (some (t156, true))) = some (r1, r2) := by rw [if_pos rfl] at H; exact H
                clear H
                have H := H1
                clear H1
                by_cases c27 : t156.toList = ([] : List UInt8)
                · rw [if_pos c27] at H
                  have c27b0 : (t156.toList == ([] : List UInt8)) = true := beq_iff_eq.mpr c27
                  have c27b1 : (t156.toList != ([] : List UInt8)) = false := bne_eq_false_iff_eq.mpr c27
                  clear c27
                  simp only [Option.some.injEq, Prod.mk.injEq] at H
                  obtain ⟨rfl, rfl⟩ := H
                  go_wp2_with (first | ((with_reducible refine gate_callee (f := 12) rfl ?_); refine goesL_ (some 15) rfl rfl Tryd.func12 (by kernel_rfl) rfl #[.string a0] rfl (by (try simp only [List.map_toArray, List.map_cons, List.map_nil]); first | done | rfl | (simp only [List.length_drop, List.length_take]; rfl)) ?_; (with_reducible refine (match_Rule.calls a0 t153 _ A6.out).mono ?_); rintro e w28 ⟨rfl, hb⟩; refine ⟨_, rfl, ?_⟩; have n0_ := Aside0.mk (below_step (by repeat (first | (with_reducible first | exact HB.out | apply below_alloc | apply pw_below_drewN | apply below_drew1) | exact HB.out)) hb); clear HB; have HB := n0_; clear n0_; (try clear hb); (try clear hb2); (try clear hk); (try clear hi)) | ((with_reducible refine gate_callee (f := 15) rfl ?_); refine goesL_ (some 28) rfl rfl Tryd.func15 (by kernel_rfl) rfl #[.string a1] rfl (by (try simp only [List.map_toArray, List.map_cons, List.map_nil]); first | done | rfl | (simp only [List.length_drop, List.length_take]; rfl)) ?_; (with_reducible refine (dn_Key.calls kj2 a1 t156 true _ ?side1 A25.out).mono ?_); (case side1 => first | exact HG.out | exact Gl.drewN HG.out _ | exact Gl.below HG.out (by repeat (first | (with_reducible first | exact HB.out | apply below_alloc | apply pw_below_drewN | apply below_drew1) | exact HB.out))); rintro e w29 ⟨rfl, hb⟩; refine ⟨_, rfl, ?_⟩; have n0_ := Aside0.mk (below_step (by repeat (first | (with_reducible first | exact HB.out | apply below_alloc | apply pw_below_drewN | apply below_drew1) | exact HB.out)) hb); clear HB; have HB := n0_; clear n0_; (try clear hb); (try clear hb2); (try clear hk); (try clear hi)))
                  go_ret2
                  exact ⟨by first | rfl | (simp [errW_none, errW_some] <;> rfl) | (simp [*, errW_none, errW_some] <;> rfl), by repeat (first | (with_reducible first | exact HB.out | apply below_alloc | apply pw_below_drewN | apply below_drew1) | exact HB.out)⟩
                · rw [if_neg c27] at H
                  have c27b0 : (t156.toList == ([] : List UInt8)) = false := beq_eq_false_iff_ne.mpr c27
                  have c27b1 : (t156.toList != ([] : List UInt8)) = true := bne_iff_ne.mpr c27
                  simp only [Option.some.injEq, Prod.mk.injEq] at H
                  obtain ⟨rfl, rfl⟩ := H
                  go_wp2_with (first | ((with_reducible refine gate_callee (f := 12) rfl ?_); refine goesL_ (some 15) rfl rfl Tryd.func12 (by kernel_rfl) rfl #[.string a0] rfl (by (try simp only [List.map_toArray, List.map_cons, List.map_nil]); first | done | rfl | (simp only [List.length_drop, List.length_take]; rfl)) ?_; (with_reducible refine (match_Rule.calls a0 t153 _ A6.out).mono ?_); rintro e w30 ⟨rfl, hb⟩; refine ⟨_, rfl, ?_⟩; have n0_ := Aside0.mk (below_step (by repeat (first | (with_reducible first | exact HB.out | apply below_alloc | apply pw_below_drewN | apply below_drew1) | exact HB.out)) hb); clear HB; have HB := n0_; clear n0_; (try clear hb); (try clear hb2); (try clear hk); (try clear hi)) | ((with_reducible refine gate_callee (f := 15) rfl ?_); refine goesL_ (some 28) rfl rfl Tryd.func15 (by kernel_rfl) rfl #[.string a1] rfl (by (try simp only [List.map_toArray, List.map_cons, List.map_nil]); first | done | rfl | (simp only [List.length_drop, List.length_take]; rfl)) ?_; (with_reducible refine (dn_Key.calls kj2 a1 t156 true _ ?side1 A25.out).mono ?_); (case side1 => first | exact HG.out | exact Gl.drewN HG.out _ | exact Gl.below HG.out (by repeat (first | (with_reducible first | exact HB.out | apply below_alloc | apply pw_below_drewN | apply below_drew1) | exact HB.out))); rintro e w31 ⟨rfl, hb⟩; refine ⟨_, rfl, ?_⟩; have n0_ := Aside0.mk (below_step (by repeat (first | (with_reducible first | exact HB.out | apply below_alloc | apply pw_below_drewN | apply below_drew1) | exact HB.out)) hb); clear HB; have HB := n0_; clear n0_; (try clear hb); (try clear hb2); (try clear hk); (try clear hi)))
                  go_ret2
                  exact ⟨by first | rfl | (simp [errW_none, errW_some] <;> rfl) | (simp [*, errW_none, errW_some] <;> rfl), by repeat (first | (with_reducible first | exact HB.out | apply below_alloc | apply pw_below_drewN | apply below_drew1) | exact HB.out)⟩
              · replace c26 := Bool.eq_false_iff.mpr c26
                subst c26
                have H1 : (some ((⟨#[]⟩ : ByteArray), false)) = some (r1, r2) := by rw [if_neg (show ¬ (false = true) by decide)] at H; exact H
                clear H
                have H := H1
                clear H1
                simp only [Option.some.injEq, Prod.mk.injEq] at H
                obtain ⟨rfl, rfl⟩ := H
                go_wp2_with (first | ((with_reducible refine gate_callee (f := 12) rfl ?_); refine goesL_ (some 15) rfl rfl Tryd.func12 (by kernel_rfl) rfl #[.string a0] rfl (by (try simp only [List.map_toArray, List.map_cons, List.map_nil]); first | done | rfl | (simp only [List.length_drop, List.length_take]; rfl)) ?_; (with_reducible refine (match_Rule.calls a0 t153 _ A6.out).mono ?_); rintro e w32 ⟨rfl, hb⟩; refine ⟨_, rfl, ?_⟩; have n0_ := Aside0.mk (below_step (by repeat (first | (with_reducible first | exact HB.out | apply below_alloc | apply pw_below_drewN | apply below_drew1) | exact HB.out)) hb); clear HB; have HB := n0_; clear n0_; (try clear hb); (try clear hb2); (try clear hk); (try clear hi)) | ((with_reducible refine gate_callee (f := 15) rfl ?_); refine goesL_ (some 28) rfl rfl Tryd.func15 (by kernel_rfl) rfl #[.string a1] rfl (by (try simp only [List.map_toArray, List.map_cons, List.map_nil]); first | done | rfl | (simp only [List.length_drop, List.length_take]; rfl)) ?_; (with_reducible refine (dn_Key.calls kj2 a1 t156 false _ ?side1 A25.out).mono ?_); (case side1 => first | exact HG.out | exact Gl.drewN HG.out _ | exact Gl.below HG.out (by repeat (first | (with_reducible first | exact HB.out | apply below_alloc | apply pw_below_drewN | apply below_drew1) | exact HB.out))); rintro e w33 ⟨rfl, hb⟩; refine ⟨_, rfl, ?_⟩; have n0_ := Aside0.mk (below_step (by repeat (first | (with_reducible first | exact HB.out | apply below_alloc | apply pw_below_drewN | apply below_drew1) | exact HB.out)) hb); clear HB; have HB := n0_; clear n0_; (try clear hb); (try clear hb2); (try clear hk); (try clear hi)))
                go_ret2
                exact ⟨by first | rfl | (simp [errW_none, errW_some] <;> rfl) | (simp [*, errW_none, errW_some] <;> rfl), by repeat (first | (with_reducible first | exact HB.out | apply below_alloc | apply pw_below_drewN | apply below_drew1) | exact HB.out)⟩
            · rw [if_neg c24] at H
              have c24b0 : (t153 == 3) = false := beq_eq_false_iff_ne.mpr c24
              have c24b1 : (t153 != 3) = true := bne_iff_ne.mpr c24
              by_cases c34 : t153 = 4
              · rw [if_pos c34] at H
                have c34b0 : (t153 == 4) = true := beq_iff_eq.mpr c34
                have c34b1 : (t153 != 4) = false := bne_eq_false_iff_eq.mpr c34
                clear c34
                by_cases c35 : a1.toList = ([] : List UInt8)
                · rw [if_pos c35] at H
                  have c35b0 : (a1.toList == ([] : List UInt8)) = true := beq_iff_eq.mpr c35
                  have c35b1 : (a1.toList != ([] : List UInt8)) = false := bne_eq_false_iff_eq.mpr c35
                  clear c35
                  simp only [Option.some.injEq, Prod.mk.injEq] at H
                  obtain ⟨rfl, rfl⟩ := H
                  go_wp2_with (first | ((with_reducible refine gate_callee (f := 12) rfl ?_); refine goesL_ (some 15) rfl rfl Tryd.func12 (by kernel_rfl) rfl #[.string a0] rfl (by (try simp only [List.map_toArray, List.map_cons, List.map_nil]); first | done | rfl | (simp only [List.length_drop, List.length_take]; rfl)) ?_; (with_reducible refine (match_Rule.calls a0 t153 _ A6.out).mono ?_); rintro e w36 ⟨rfl, hb⟩; refine ⟨_, rfl, ?_⟩; have n0_ := Aside0.mk (below_step (by repeat (first | (with_reducible first | exact HB.out | apply below_alloc | apply pw_below_drewN | apply below_drew1) | exact HB.out)) hb); clear HB; have HB := n0_; clear n0_; (try clear hb); (try clear hb2); (try clear hk); (try clear hi)))
                  go_ret2
                  exact ⟨by first | rfl | (simp [errW_none, errW_some] <;> rfl) | (simp [*, errW_none, errW_some] <;> rfl), by repeat (first | (with_reducible first | exact HB.out | apply below_alloc | apply pw_below_drewN | apply below_drew1) | exact HB.out)⟩
                · rw [if_neg c35] at H
                  have c35b0 : (a1.toList == ([] : List UInt8)) = false := beq_eq_false_iff_ne.mpr c35
                  have c35b1 : (a1.toList != ([] : List UInt8)) = true := bne_iff_ne.mpr c35
                  simp only [Option.some.injEq, Prod.mk.injEq] at H
                  obtain ⟨rfl, rfl⟩ := H
                  go_wp2_with (first | ((with_reducible refine gate_callee (f := 12) rfl ?_); refine goesL_ (some 15) rfl rfl Tryd.func12 (by kernel_rfl) rfl #[.string a0] rfl (by (try simp only [List.map_toArray, List.map_cons, List.map_nil]); first | done | rfl | (simp only [List.length_drop, List.length_take]; rfl)) ?_; (with_reducible refine (match_Rule.calls a0 t153 _ A6.out).mono ?_); rintro e w37 ⟨rfl, hb⟩; refine ⟨_, rfl, ?_⟩; have n0_ := Aside0.mk (below_step (by repeat (first | (with_reducible first | exact HB.out | apply below_alloc | apply pw_below_drewN | apply below_drew1) | exact HB.out)) hb); clear HB; have HB := n0_; clear n0_; (try clear hb); (try clear hb2); (try clear hk); (try clear hi)))
                  go_ret2
                  exact ⟨by first | rfl | (simp [errW_none, errW_some] <;> rfl) | (simp [*, errW_none, errW_some] <;> rfl), by repeat (first | (with_reducible first | exact HB.out | apply below_alloc | apply pw_below_drewN | apply below_drew1) | exact HB.out)⟩
              · rw [if_neg c34] at H
                have c34b0 : (t153 == 4) = false := beq_eq_false_iff_ne.mpr c34
                have c34b1 : (t153 != 4) = true := bne_iff_ne.mpr c34
                simp only [Option.some.injEq, Prod.mk.injEq] at H
                obtain ⟨rfl, rfl⟩ := H
                go_wp2_with (first | ((with_reducible refine gate_callee (f := 12) rfl ?_); refine goesL_ (some 15) rfl rfl Tryd.func12 (by kernel_rfl) rfl #[.string a0] rfl (by (try simp only [List.map_toArray, List.map_cons, List.map_nil]); first | done | rfl | (simp only [List.length_drop, List.length_take]; rfl)) ?_; (with_reducible refine (match_Rule.calls a0 t153 _ A6.out).mono ?_); rintro e w38 ⟨rfl, hb⟩; refine ⟨_, rfl, ?_⟩; have n0_ := Aside0.mk (below_step (by repeat (first | (with_reducible first | exact HB.out | apply below_alloc | apply pw_below_drewN | apply below_drew1) | exact HB.out)) hb); clear HB; have HB := n0_; clear n0_; (try clear hb); (try clear hb2); (try clear hk); (try clear hi)))
                go_ret2
                exact ⟨by first | rfl | (simp [errW_none, errW_some] <;> rfl) | (simp [*, errW_none, errW_some] <;> rfl), by repeat (first | (with_reducible first | exact HB.out | apply below_alloc | apply pw_below_drewN | apply below_drew1) | exact HB.out)⟩

end Go.Proofs.YtjicpomcfelobaaDoor.P

namespace Go.Proofs.YtjicpomcfelobaaDoor.P
open Go.RowKit Go.Proofs.YtjicpomcfelobaaDoorW.PrintWords Go.Proofs.YtjicpomcfelobaaDoorW.PrintLast Go.Proofs.YtjicpomcfelobaaDoorW.PrintMore
attribute [local go_sem] max2_int min2_int max_two min_two max_three min_three max_four min_four
set_option linter.unusedVariables false
set_option linter.unusedSimpArgs false

/-! ### match_norms: function 16 -/
def match_norms.f (k : Nat) (a0 : ByteArray) (a1 : ByteArray) (a2 : ByteArray) : Option (ByteArray × ByteArray × Bool) := (match_Norm.f k a0 a1).bind fun bt158 => ((match_Norm.f k a0 a2).bind fun bt160 => (if bt158.2 = true then (some (bt158.1, bt160.1, bt160.2)) else (some (bt158.1, bt160.1, false))))
theorem match_norms.mono : ∀ a0 a1 a2 k, LeO (match_norms.f k a0 a1 a2) (match_norms.f (k + 1) a0 a1 a2) := by
  intro a0 a1 a2 k
  unfold match_norms.f
  repeat' first
      | (with_reducible exact match_Norm.mono _ _ _)
      | (with_reducible exact LeO.refl _)
      | (with_reducible exact LeO.none _)
      | (with_reducible refine LeO.ite ?_ ?_)
      | (with_reducible refine LeO.bind ?_ (fun _ => ?_))
      | exact match_Norm.mono _ _ _
      | exact LeO.none _
      | refine LeO.ite ?_ ?_
      | refine LeO.bind ?_ (fun _ => ?_)
set_option maxHeartbeats 8000000 in
set_option maxRecDepth 100000 in
theorem match_norms.calls (k : Nat) (a0 : ByteArray) (a1 : ByteArray) (a2 : ByteArray) (r1 : ByteArray) (r2 : ByteArray) (r3 : Bool) (w : World) (hG : Gl w) (h : match_norms.f k a0 a1 a2 = some (r1, r2, r3)) :
    Calls Tryd.prog 16 #[.string a0, .string a1, .string a2] w fun e w' => e = .returned (.tuple #[.string r1, .string r2, .bool r3]) ∧ Below w.heap.size w w' := by
  have HB := Aside0.mk (Below.refl w.heap.size w)
  have HG := Aside0.mk hG
  clear hG
  have H : ((match_Norm.f k a0 a1).bind fun bt158 => ((match_Norm.f k a0 a2).bind fun bt160 => (if bt158.2 = true then (some (bt158.1, bt160.1, bt160.2)) else (some (bt158.1, bt160.1, false))))) = some (r1, r2, r3) := h
  clear h
  replace H := Option.bind_eq_some_iff.mp H
  obtain ⟨⟨t158, t159⟩, A40, H⟩ := H
  replace H : ((match_Norm.f k a0 a2).bind fun bt160 => (if t159 = true then (some (t158, bt160.1, bt160.2)) else (some (t158, bt160.1, false)))) = some (r1, r2, r3) := H
  have A4 := Aside0.mk A40
  clear A40
  replace H := Option.bind_eq_some_iff.mp H
  obtain ⟨⟨t160, t161⟩, A50, H⟩ := H
  replace H : (if t159 = true then (some (t158, t160, t161)) else (some (t158, t160, false))) = some (r1, r2, r3) := H
  have A5 := Aside0.mk A50
  clear A50
  by_cases c6 : t159 = true
  · subst c6
    have H1 : (some (t158, t160, t161)) = some (r1, r2, r3) := by rw [if_pos rfl] at H; exact H
    clear H
    have H := H1
    clear H1
    simp only [Option.some.injEq, Prod.mk.injEq] at H
    obtain ⟨rfl, rfl, rfl⟩ := H
    go_enter Tryd.func16, Tryd.ntmps16
    go_wp2_with (first | ((with_reducible refine gate_callee (f := 8) rfl ?_); refine goesL_ (some 13) rfl rfl Tryd.func8 (by kernel_rfl) rfl #[.string a0, .string a1] rfl (by (try simp only [List.map_toArray, List.map_cons, List.map_nil]); first | done | rfl | (simp only [List.length_drop, List.length_take]; rfl)) ?_; (with_reducible refine (match_Norm.calls k a0 a1 t158 true _ ?side1 A4.out).mono ?_); (case side1 => first | exact HG.out | exact Gl.drewN HG.out _ | exact Gl.below HG.out (by repeat (first | (with_reducible first | exact HB.out | apply below_alloc | apply pw_below_drewN | apply below_drew1) | exact HB.out))); rintro e w7 ⟨rfl, hb⟩; refine ⟨_, rfl, ?_⟩; have n0_ := Aside0.mk (below_step (by repeat (first | (with_reducible first | exact HB.out | apply below_alloc | apply pw_below_drewN | apply below_drew1) | exact HB.out)) hb); clear HB; have HB := n0_; clear n0_; (try clear hb); (try clear hb2); (try clear hk); (try clear hi)) | ((with_reducible refine gate_callee (f := 8) rfl ?_); refine goesL_ (some 19) rfl rfl Tryd.func8 (by kernel_rfl) rfl #[.string a0, .string a2] rfl (by (try simp only [List.map_toArray, List.map_cons, List.map_nil]); first | done | rfl | (simp only [List.length_drop, List.length_take]; rfl)) ?_; (with_reducible refine (match_Norm.calls k a0 a2 t160 t161 _ ?side1 A5.out).mono ?_); (case side1 => first | exact HG.out | exact Gl.drewN HG.out _ | exact Gl.below HG.out (by repeat (first | (with_reducible first | exact HB.out | apply below_alloc | apply pw_below_drewN | apply below_drew1) | exact HB.out))); rintro e w8 ⟨rfl, hb⟩; refine ⟨_, rfl, ?_⟩; have n0_ := Aside0.mk (below_step (by repeat (first | (with_reducible first | exact HB.out | apply below_alloc | apply pw_below_drewN | apply below_drew1) | exact HB.out)) hb); clear HB; have HB := n0_; clear n0_; (try clear hb); (try clear hb2); (try clear hk); (try clear hi)))
    go_ret3
    exact ⟨by first | rfl | (simp [errW_none, errW_some] <;> rfl) | (simp [*, errW_none, errW_some] <;> rfl), by repeat (first | (with_reducible first | exact HB.out | apply below_alloc | apply pw_below_drewN | apply below_drew1) | exact HB.out)⟩
  · replace c6 := Bool.eq_false_iff.mpr c6
    subst c6
    have H1 : (some (t158, t160, false)) = some (r1, r2, r3) := by rw [if_neg (show ¬ (false = true) by decide)] at H; exact H
    clear H
    have H := H1
    clear H1
    simp only [Option.some.injEq, Prod.mk.injEq] at H
    obtain ⟨rfl, rfl, rfl⟩ := H
    go_enter Tryd.func16, Tryd.ntmps16
    go_wp2_with (first | ((with_reducible refine gate_callee (f := 8) rfl ?_); refine goesL_ (some 13) rfl rfl Tryd.func8 (by kernel_rfl) rfl #[.string a0, .string a1] rfl (by (try simp only [List.map_toArray, List.map_cons, List.map_nil]); first | done | rfl | (simp only [List.length_drop, List.length_take]; rfl)) ?_; (with_reducible refine (match_Norm.calls k a0 a1 t158 false _ ?side1 A4.out).mono ?_); (case side1 => first | exact HG.out | exact Gl.drewN HG.out _ | exact Gl.below HG.out (by repeat (first | (with_reducible first | exact HB.out | apply below_alloc | apply pw_below_drewN | apply below_drew1) | exact HB.out))); rintro e w9 ⟨rfl, hb⟩; refine ⟨_, rfl, ?_⟩; have n0_ := Aside0.mk (below_step (by repeat (first | (with_reducible first | exact HB.out | apply below_alloc | apply pw_below_drewN | apply below_drew1) | exact HB.out)) hb); clear HB; have HB := n0_; clear n0_; (try clear hb); (try clear hb2); (try clear hk); (try clear hi)) | ((with_reducible refine gate_callee (f := 8) rfl ?_); refine goesL_ (some 19) rfl rfl Tryd.func8 (by kernel_rfl) rfl #[.string a0, .string a2] rfl (by (try simp only [List.map_toArray, List.map_cons, List.map_nil]); first | done | rfl | (simp only [List.length_drop, List.length_take]; rfl)) ?_; (with_reducible refine (match_Norm.calls k a0 a2 t160 t161 _ ?side1 A5.out).mono ?_); (case side1 => first | exact HG.out | exact Gl.drewN HG.out _ | exact Gl.below HG.out (by repeat (first | (with_reducible first | exact HB.out | apply below_alloc | apply pw_below_drewN | apply below_drew1) | exact HB.out))); rintro e w10 ⟨rfl, hb⟩; refine ⟨_, rfl, ?_⟩; have n0_ := Aside0.mk (below_step (by repeat (first | (with_reducible first | exact HB.out | apply below_alloc | apply pw_below_drewN | apply below_drew1) | exact HB.out)) hb); clear HB; have HB := n0_; clear n0_; (try clear hb); (try clear hb2); (try clear hk); (try clear hi)))
    go_ret3
    exact ⟨by first | rfl | (simp [errW_none, errW_some] <;> rfl) | (simp [*, errW_none, errW_some] <;> rfl), by repeat (first | (with_reducible first | exact HB.out | apply below_alloc | apply pw_below_drewN | apply below_drew1) | exact HB.out)⟩

end Go.Proofs.YtjicpomcfelobaaDoor.P

namespace Go.Proofs.YtjicpomcfelobaaDoor.P
open Go.RowKit Go.Proofs.YtjicpomcfelobaaDoorW.PrintWords Go.Proofs.YtjicpomcfelobaaDoorW.PrintLast Go.Proofs.YtjicpomcfelobaaDoorW.PrintMore
set_option linter.unusedVariables false
set_option linter.unusedSimpArgs false

def lessNum (x y : List UInt8) : Option (Bool × Bool) :=
  match Lib.atoiAll x, Lib.atoiAll y with
  | .ok n, .ok m => some (decide (n < m), true)
  | _, _ => none
def lessBy (r : Int) (x y : ByteArray) : Option (Bool × Bool) :=
  if r = 1 then some (Op.bytesLess x.toList y.toList, true) else if r = 2 then (if x.size ≤ 281474976710656 ∧ y.size ≤ 281474976710656 then lessNum x.data.toList y.data.toList else none) else some (false, false)
def match_Less.f (k : Nat) (a0 a1 a2 : ByteArray) : Option (Bool × Bool) :=
  (match_norms.f k a0 a1 a2).bind fun b => if b.2.2 = true then (match_Rule.f a0).bind fun r => lessBy r b.1 b.2.1 else some (false, false)
theorem match_Less.mono : ∀ a0 a1 a2 k, LeO (match_Less.f k a0 a1 a2) (match_Less.f (k + 1) a0 a1 a2) := by
  intro a0 a1 a2 k
  unfold match_Less.f
  exact LeO.bind (match_norms.mono _ _ _ _) fun _ => LeO.refl _

set_option maxHeartbeats 8000000 in
theorem match_Less.calls (k : Nat) (a0 a1 a2 : ByteArray) (r1 r2 : Bool) (w : World) (hG : Gl w) (h : match_Less.f k a0 a1 a2 = some (r1, r2)) :
    Calls Tryd.prog 11 #[.string a0, .string a1, .string a2] w fun e w' => e = .returned (.tuple #[.bool r1, .bool r2]) ∧ Below w.heap.size w w' := by
  unfold match_Less.f at h
  obtain ⟨⟨x, y, ok⟩, hn, h⟩ := Option.bind_eq_some_iff.1 h
  have HN := Lib.hid hn
  have HG := Lib.hid hG
  clear hn hG
  simp only at h
  cases ok with
  | false =>
    rw [if_neg (by simp)] at h
    obtain ⟨rfl, rfl⟩ := Prod.mk.inj (Option.some.inj h)
    clear h
    go_enter Tryd.func11, Tryd.ntmps11
    go_wp2_with (go_at_call 16; refine (match_norms.calls k a0 a1 a2 x y false _ HG.out HN.out).mono ?_; rintro e w1 ⟨rfl, hb1⟩; have HB1 := Lib.hid hb1; clear hb1)
    go_ret2
    exact ⟨rfl, HB1.out⟩
  | true =>
    rw [if_pos rfl] at h
    obtain ⟨r, hr, h⟩ := Option.bind_eq_some_iff.1 h
    have HR := Lib.hid hr
    clear hr
    unfold lessBy at h
    by_cases e1 : r = 1
    · rw [if_pos e1] at h
      obtain ⟨rfl, rfl⟩ := Prod.mk.inj (Option.some.inj h)
      clear h
      have b1 : (r == 1) = true := beq_iff_eq.2 e1
      clear e1
      go_enter Tryd.func11, Tryd.ntmps11
      go_wp2_with (first
        | (go_at_call 16; refine (match_norms.calls k a0 a1 a2 x y true _ HG.out HN.out).mono ?_; rintro e w1 ⟨rfl, hb1⟩; have HB1 := Lib.hid hb1; clear hb1)
        | (go_at_call 12; refine (match_Rule.calls a0 r _ HR.out).mono ?_; rintro e w2 ⟨rfl, hb2⟩; have HB2 := Lib.hid hb2; clear hb2))
      go_ret2
      exact ⟨rfl, HB1.out.trans (HB2.out.mono HB1.out.size)⟩
    · have b1 : (r == 1) = false := beq_eq_false_iff_ne.2 e1
      rw [if_neg e1] at h
      by_cases e2 : r = 2
      · rw [if_pos e2] at h
        by_cases hz : x.size ≤ 281474976710656 ∧ y.size ≤ 281474976710656
        · rw [if_pos hz] at h
          unfold lessNum at h
          have nx : ∃ n, Lib.atoiAll x.data.toList = .ok n := by
            cases hx : Lib.atoiAll x.data.toList with
            | ok n => exact ⟨n, rfl⟩
            | _ => rw [hx] at h; exact absurd h (by simp)
          obtain ⟨n, hx⟩ := nx
          have ny : ∃ m, Lib.atoiAll y.data.toList = .ok m := by
            cases hy : Lib.atoiAll y.data.toList with
            | ok m => exact ⟨m, rfl⟩
            | _ => rw [hx, hy] at h; exact absurd h (by simp)
          obtain ⟨m, hy⟩ := ny
          · ·
              rw [hx, hy] at h
              obtain ⟨rfl, rfl⟩ := Prod.mk.inj (Option.some.inj h)
              have HX := Lib.hid hx
              have HY := Lib.hid hy
              have HZ := Lib.hid hz
              have b2 : (r == 2) = true := beq_iff_eq.2 e2
              clear h hx hy hz e1 e2
              go_enter Tryd.func11, Tryd.ntmps11
              go_wp2_with (first
                | (go_at_call 16; refine (match_norms.calls k a0 a1 a2 x y true _ HG.out HN.out).mono ?_; rintro e w1 ⟨rfl, hb1⟩; have HB1 := Lib.hid hb1; clear hb1)
                | (go_at_call 12; refine (match_Rule.calls a0 r _ HR.out).mono ?_; rintro e w2 ⟨rfl, hb2⟩; have HB2 := Lib.hid hb2; clear hb2)
                | fail)
              refine (atoiB x n HZ.out.1 HX.out _).mono ?_
              rintro e w3 ⟨rfl, hb3⟩
              have HB3 := Lib.hid hb3
              clear hb3
              go_wp2_with fail
              refine (atoiB y m HZ.out.2 HY.out _).mono ?_
              rintro e w4 ⟨rfl, hb4⟩
              have HB4 := Lib.hid hb4
              clear hb4
              go_wp2_with fail
              go_ret2
              have c1 := HB1.out.trans (HB2.out.mono HB1.out.size)
              have c2 := c1.trans (HB3.out.mono c1.size)
              exact ⟨rfl, c2.trans (HB4.out.mono c2.size)⟩
        · rw [if_neg hz] at h
          cases h
      · rw [if_neg e2] at h
        obtain ⟨rfl, rfl⟩ := Prod.mk.inj (Option.some.inj h)
        have b2 : (r == 2) = false := beq_eq_false_iff_ne.2 e2
        clear h e1 e2
        go_enter Tryd.func11, Tryd.ntmps11
        go_wp2_with (first
          | (go_at_call 16; refine (match_norms.calls k a0 a1 a2 x y true _ HG.out HN.out).mono ?_; rintro e w1 ⟨rfl, hb1⟩; have HB1 := Lib.hid hb1; clear hb1)
          | (go_at_call 12; refine (match_Rule.calls a0 r _ HR.out).mono ?_; rintro e w2 ⟨rfl, hb2⟩; have HB2 := Lib.hid hb2; clear hb2))
        go_ret2
        exact ⟨rfl, HB1.out.trans (HB2.out.mono HB1.out.size)⟩
end Go.Proofs.YtjicpomcfelobaaDoor.P

namespace Go.Proofs.YtjicpomcfelobaaDoor.P
open Go.RowKit Go.Proofs.YtjicpomcfelobaaDoorW.PrintWords Go.Proofs.YtjicpomcfelobaaDoorW.PrintLast Go.Proofs.YtjicpomcfelobaaDoorW.PrintMore
attribute [local go_sem] max2_int min2_int max_two min_two max_three min_three max_four min_four
set_option linter.unusedVariables false
set_option linter.unusedSimpArgs false

/-! ### match_Same: function 9 -/
def match_Same.f (k : Nat) (a0 : ByteArray) (a1 : ByteArray) (a2 : ByteArray) : Option (Bool) := (match_norms.f k a0 a1 a2).bind fun bt162 => (if bt162.2.2 = true then (some (bt162.1.toList == bt162.2.1.toList)) else (some false))
theorem match_Same.mono : ∀ a0 a1 a2 k, LeO (match_Same.f k a0 a1 a2) (match_Same.f (k + 1) a0 a1 a2) := by
  intro a0 a1 a2 k
  unfold match_Same.f
  repeat' first
      | (with_reducible exact match_norms.mono _ _ _ _)
      | (with_reducible exact LeO.refl _)
      | (with_reducible exact LeO.none _)
      | (with_reducible refine LeO.ite ?_ ?_)
      | (with_reducible refine LeO.bind ?_ (fun _ => ?_))
      | exact match_norms.mono _ _ _ _
      | exact LeO.none _
      | refine LeO.ite ?_ ?_
      | refine LeO.bind ?_ (fun _ => ?_)
set_option maxHeartbeats 8000000 in
set_option maxRecDepth 100000 in
theorem match_Same.calls (k : Nat) (a0 : ByteArray) (a1 : ByteArray) (a2 : ByteArray) (r : Bool) (w : World) (hG : Gl w) (h : match_Same.f k a0 a1 a2 = some r) :
    Calls Tryd.prog 9 #[.string a0, .string a1, .string a2] w fun e w' => e = .returned (.bool r) ∧ Below w.heap.size w w' := by
  have HB := Aside0.mk (Below.refl w.heap.size w)
  have HG := Aside0.mk hG
  clear hG
  have H : ((match_norms.f k a0 a1 a2).bind fun bt162 => (if bt162.2.2 = true then (some (bt162.1.toList == bt162.2.1.toList)) else (some false))) = some r := h
  clear h
  replace H := Option.bind_eq_some_iff.mp H
  obtain ⟨⟨t162, t163, t164⟩, A40, H⟩ := H
  replace H : (if t164 = true then (some (t162.toList == t163.toList)) else (some false)) = some r := H
  have A4 := Aside0.mk A40
  clear A40
  by_cases c5 : t164 = true
  · subst c5
    have H1 : (some (t162.toList == t163.toList)) = some r := by rw [if_pos rfl] at H; exact H
    clear H
    have H := H1
    clear H1
    obtain rfl := Option.some.inj H
    go_enter Tryd.func9, Tryd.ntmps9
    go_wp2_with (first | ((with_reducible refine gate_callee (f := 16) rfl ?_); refine goesL_ (some 14) rfl rfl Tryd.func16 (by kernel_rfl) rfl #[.string a0, .string a1, .string a2] rfl (by (try simp only [List.map_toArray, List.map_cons, List.map_nil]); first | done | rfl | (simp only [List.length_drop, List.length_take]; rfl)) ?_; (with_reducible refine (match_norms.calls k a0 a1 a2 t162 t163 true _ ?side1 A4.out).mono ?_); (case side1 => first | exact HG.out | exact Gl.drewN HG.out _ | exact Gl.below HG.out (by repeat (first | (with_reducible first | exact HB.out | apply below_alloc | apply pw_below_drewN | apply below_drew1) | exact HB.out))); rintro e w6 ⟨rfl, hb⟩; refine ⟨_, rfl, ?_⟩; have n0_ := Aside0.mk (below_step (by repeat (first | (with_reducible first | exact HB.out | apply below_alloc | apply pw_below_drewN | apply below_drew1) | exact HB.out)) hb); clear HB; have HB := n0_; clear n0_; (try clear hb); (try clear hb2); (try clear hk); (try clear hi)))
    go_ret
    exact ⟨by first | rfl | (simp [errW_none, errW_some] <;> rfl) | (simp [*, errW_none, errW_some] <;> rfl), by repeat (first | (with_reducible first | exact HB.out | apply below_alloc | apply pw_below_drewN | apply below_drew1) | exact HB.out)⟩
  · replace c5 := Bool.eq_false_iff.mpr c5
    subst c5
    have H1 : (some false) = some r := by rw [if_neg (show ¬ (false = true) by decide)] at H; exact H
    clear H
    have H := H1
    clear H1
    obtain rfl := Option.some.inj H
    go_enter Tryd.func9, Tryd.ntmps9
    go_wp2_with (first | ((with_reducible refine gate_callee (f := 16) rfl ?_); refine goesL_ (some 14) rfl rfl Tryd.func16 (by kernel_rfl) rfl #[.string a0, .string a1, .string a2] rfl (by (try simp only [List.map_toArray, List.map_cons, List.map_nil]); first | done | rfl | (simp only [List.length_drop, List.length_take]; rfl)) ?_; (with_reducible refine (match_norms.calls k a0 a1 a2 t162 t163 false _ ?side1 A4.out).mono ?_); (case side1 => first | exact HG.out | exact Gl.drewN HG.out _ | exact Gl.below HG.out (by repeat (first | (with_reducible first | exact HB.out | apply below_alloc | apply pw_below_drewN | apply below_drew1) | exact HB.out))); rintro e w7 ⟨rfl, hb⟩; refine ⟨_, rfl, ?_⟩; have n0_ := Aside0.mk (below_step (by repeat (first | (with_reducible first | exact HB.out | apply below_alloc | apply pw_below_drewN | apply below_drew1) | exact HB.out)) hb); clear HB; have HB := n0_; clear n0_; (try clear hb); (try clear hb2); (try clear hk); (try clear hi)))
    go_ret
    exact ⟨by first | rfl | (simp [errW_none, errW_some] <;> rfl) | (simp [*, errW_none, errW_some] <;> rfl), by repeat (first | (with_reducible first | exact HB.out | apply below_alloc | apply pw_below_drewN | apply below_drew1) | exact HB.out)⟩

end Go.Proofs.YtjicpomcfelobaaDoor.P
