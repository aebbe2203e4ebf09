/- Of brook/brooklaw3.MatchNumbers: for whatever two whole numbers and whatever byte it returns true and leaves its arguments as they were: the tied card. Conditions: the listed package variables hold what the program's text lays (tied by the card). -/
import Derived.Test.YtjicpomcfelobaaDoorMNumbers4
import Derived.Test.YtjicpomcfelobaaDoorMNumbers5
import Derived.Lib.ItoaNum
import Derived.Test.YtjicpomcfelobaaDoorCards
import Derived.Test.YtjicpomcfelobaaDoorTie
import Derived.WalkKit
import Derived.ProofKit
import Derived.OpenShut
import Derived.ShutString
import Derived.ChangeOld
import Derived.ChangeSame
import Derived.Below
import Derived.SizedLaws
import Derived.Deep.DeepHandedRow
import Derived.JoinedCond
import Derived.SevenTiedAt
import Derived.Lay
namespace Go.Proofs.YtjicpomcfelobaaDoor.P
open Go.RowKit Go.Proofs.YtjicpomcfelobaaDoorW.PrintWords Go.Proofs.YtjicpomcfelobaaDoorW.PrintLast Go.Proofs.YtjicpomcfelobaaDoorW.PrintMore
attribute [local go_sem] max2_int min2_int max_two min_two max_three min_three max_four min_four
set_option linter.unusedVariables false
set_option linter.unusedSimpArgs false

/-! ### brooklaw3_awake: function 6 -/
def brooklaw3_awake.f (k : Nat)  : Option (Bool) := (match_Same.f k (⟨#[99, 110]⟩ : ByteArray) (⟨#[65, 110, 110]⟩ : ByteArray) (⟨#[32, 65, 78, 78]⟩ : ByteArray)).bind fun t165 => (if t165 = true then ((match_Same.f k (⟨#[99, 110]⟩ : ByteArray) (⟨#[65, 110, 110]⟩ : ByteArray) (⟨#[65, 110]⟩ : ByteArray)).bind fun t166 => (some (!t166))) else (some false))
theorem brooklaw3_awake.mono : ∀ k, LeO (brooklaw3_awake.f k ) (brooklaw3_awake.f (k + 1) ) := by
  intro  k
  unfold brooklaw3_awake.f
  repeat' first
      | (with_reducible exact match_Same.mono _ _ _ _)
      | (with_reducible exact LeO.refl _)
      | (with_reducible exact LeO.none _)
      | (with_reducible refine LeO.ite ?_ ?_)
      | (with_reducible refine LeO.bind ?_ (fun _ => ?_))
      | exact match_Same.mono _ _ _ _
      | exact LeO.none _
      | refine LeO.ite ?_ ?_
      | refine LeO.bind ?_ (fun _ => ?_)
set_option maxHeartbeats 8000000 in
set_option maxRecDepth 100000 in
theorem brooklaw3_awake.calls (k : Nat)  (r : Bool) (w : World) (hG : Gl w) (h : brooklaw3_awake.f k  = some r) :
    Calls Tryd.prog 6 #[] w fun e w' => e = .returned (.bool r) ∧ Below w.heap.size w w' := by
  have HB := Aside0.mk (Below.refl w.heap.size w)
  have HG := Aside0.mk hG
  clear hG
  have H : ((match_Same.f k (⟨#[99, 110]⟩ : ByteArray) (⟨#[65, 110, 110]⟩ : ByteArray) (⟨#[32, 65, 78, 78]⟩ : ByteArray)).bind fun t165 => (if t165 = true then ((match_Same.f k (⟨#[99, 110]⟩ : ByteArray) (⟨#[65, 110, 110]⟩ : ByteArray) (⟨#[65, 110]⟩ : ByteArray)).bind fun t166 => (some (!t166))) else (some false))) = some r := h
  clear h
  replace H := Option.bind_eq_some_iff.mp H
  obtain ⟨t165, A10, H⟩ := H
  replace H : (if t165 = true then ((match_Same.f k (⟨#[99, 110]⟩ : ByteArray) (⟨#[65, 110, 110]⟩ : ByteArray) (⟨#[65, 110]⟩ : ByteArray)).bind fun t166 => (some (!t166))) else (some false)) = some r := H
  have A1 := Aside0.mk A10
  clear A10
  by_cases c2 : t165 = true
  · subst c2
    have H1 : ((match_Same.f k (⟨#[99, 110]⟩ : ByteArray) (⟨#[65, 110, 110]⟩ : ByteArray) (⟨#[65, 110]⟩ : ByteArray)).bind fun t166 => (some (!t166))) = some r := by rw [if_pos rfl] at H; exact H
    clear H
    have H := H1
    clear H1
    replace H := Option.bind_eq_some_iff.mp H
    obtain ⟨t166, A30, H⟩ := H
    replace H : (some (!t166)) = some r := H
    have A3 := Aside0.mk A30
    clear A30
    obtain rfl := Option.some.inj H
    go_enter Tryd.func6, Tryd.ntmps6
    go_wp2_with (first | ((with_reducible refine gate_callee (f := 9) rfl ?_); refine goesL_ (some 1) rfl rfl Tryd.func9 (by kernel_rfl) rfl #[.string (⟨#[99, 110]⟩ : ByteArray), .string (⟨#[65, 110, 110]⟩ : ByteArray), .string (⟨#[32, 65, 78, 78]⟩ : ByteArray)] rfl (by (try simp only [List.map_toArray, List.map_cons, List.map_nil]); first | done | rfl | (simp only [List.length_drop, List.length_take]; rfl)) ?_; (with_reducible refine (match_Same.calls k (⟨#[99, 110]⟩ : ByteArray) (⟨#[65, 110, 110]⟩ : ByteArray) (⟨#[32, 65, 78, 78]⟩ : ByteArray) true _ ?side1 A1.out).mono ?_); (case side1 => first | exact HG.out | exact Gl.drewN HG.out _ | exact Gl.below HG.out (by repeat (first | (with_reducible first | exact HB.out | apply below_alloc | apply pw_below_drewN | apply below_drew1) | exact HB.out))); rintro e w4 ⟨rfl, hb⟩; refine ⟨_, rfl, ?_⟩; have n0_ := Aside0.mk (below_step (by repeat (first | (with_reducible first | exact HB.out | apply below_alloc | apply pw_below_drewN | apply below_drew1) | exact HB.out)) hb); clear HB; have HB := n0_; clear n0_; (try clear hb); (try clear hb2); (try clear hk); (try clear hi)) | (go_at_call 9; (with_reducible refine (match_Same.calls k (⟨#[99, 110]⟩ : ByteArray) (⟨#[65, 110, 110]⟩ : ByteArray) (⟨#[65, 110]⟩ : ByteArray) t166 _ ?side1 A3.out).mono ?_); (case side1 => first | exact HG.out | exact Gl.drewN HG.out _ | exact Gl.below HG.out (by repeat (first | (with_reducible first | exact HB.out | apply below_alloc | apply pw_below_drewN | apply below_drew1) | exact HB.out))); rintro e w5 ⟨rfl, hb⟩; have n0_ := Aside0.mk (below_step (by repeat (first | (with_reducible first | exact HB.out | apply below_alloc | apply pw_below_drewN | apply below_drew1) | exact HB.out)) hb); clear HB; have HB := n0_; clear n0_; (try clear hb); (try clear hb2); (try clear hk); (try clear hi)))
    go_ret
    exact ⟨by first | rfl | (simp [errW_none, errW_some] <;> rfl) | (simp [*, errW_none, errW_some] <;> rfl), by repeat (first | (with_reducible first | exact HB.out | apply below_alloc | apply pw_below_drewN | apply below_drew1) | exact HB.out)⟩
  · replace c2 := Bool.eq_false_iff.mpr c2
    subst c2
    have H1 : (some false) = some r := by rw [if_neg (show ¬ (false = true) by decide)] at H; exact H
    clear H
    have H := H1
    clear H1
    obtain rfl := Option.some.inj H
    go_enter Tryd.func6, Tryd.ntmps6
    go_wp2_with (first | ((with_reducible refine gate_callee (f := 9) rfl ?_); refine goesL_ (some 1) rfl rfl Tryd.func9 (by kernel_rfl) rfl #[.string (⟨#[99, 110]⟩ : ByteArray), .string (⟨#[65, 110, 110]⟩ : ByteArray), .string (⟨#[32, 65, 78, 78]⟩ : ByteArray)] rfl (by (try simp only [List.map_toArray, List.map_cons, List.map_nil]); first | done | rfl | (simp only [List.length_drop, List.length_take]; rfl)) ?_; (with_reducible refine (match_Same.calls k (⟨#[99, 110]⟩ : ByteArray) (⟨#[65, 110, 110]⟩ : ByteArray) (⟨#[32, 65, 78, 78]⟩ : ByteArray) false _ ?side1 A1.out).mono ?_); (case side1 => first | exact HG.out | exact Gl.drewN HG.out _ | exact Gl.below HG.out (by repeat (first | (with_reducible first | exact HB.out | apply below_alloc | apply pw_below_drewN | apply below_drew1) | exact HB.out))); rintro e w6 ⟨rfl, hb⟩; refine ⟨_, rfl, ?_⟩; have n0_ := Aside0.mk (below_step (by repeat (first | (with_reducible first | exact HB.out | apply below_alloc | apply pw_below_drewN | apply below_drew1) | exact HB.out)) hb); clear HB; have HB := n0_; clear n0_; (try clear hb); (try clear hb2); (try clear hk); (try clear hi)))
    go_ret
    exact ⟨by first | rfl | (simp [errW_none, errW_some] <;> rfl) | (simp [*, errW_none, errW_some] <;> rfl), by repeat (first | (with_reducible first | exact HB.out | apply below_alloc | apply pw_below_drewN | apply below_drew1) | exact HB.out)⟩

end Go.Proofs.YtjicpomcfelobaaDoor.P

/-! Plain: what the rule by a type's name is, and what a value is by its rule. -/
namespace Go.Proofs.YtjicpomcfelobaaDoor.P
open Go.RowKit Go.Proofs.YtjicpomcfelobaaDoorW.PrintWords Go.Proofs.YtjicpomcfelobaaDoorW.PrintLast Go.Proofs.YtjicpomcfelobaaDoorW.PrintMore
set_option linter.unusedVariables false
set_option linter.unusedSimpArgs false

def rulesL (l : List UInt8) : Int :=
  if l = [117, 105, 100, 110, 117, 109, 98, 101, 114] then 2 else if l = [109, 101, 109, 98, 101, 114] then 3 else if l = [117, 115, 101, 114, 112, 97, 115, 115, 119, 111, 114, 100] then 4 else
  if l = [111, 98, 106, 101, 99, 116, 99, 108, 97, 115, 115] then 1 else if l = [99, 110] then 1 else if l = [115, 110] then 1 else if l = [111] then 1 else if l = [111, 117] then 1 else if l = [117, 105, 100] then 1 else if l = [109, 97, 105, 108] then 1 else
  if l = [100, 101, 115, 99, 114, 105, 112, 116, 105, 111, 110] then 1 else 0
def ruleL (t : List UInt8) : Int := rulesL (t.map lowB)
theorem rules_eq (s : ByteArray) : match_rules.f s = some (rulesL s.data.toList) := by
  unfold match_rules.f rulesL
  rw [toList_data]
  simp only [apply_ite (some (α := Int))]
theorem canon_eq (s : ByteArray) (h : s.size ≤ 9223372036854775807) : match_Canon.f s = if ruleL s.data.toList = 0 then some (mk [], false) else some (lowS s, true) := by
  unfold match_Canon.f ruleL
  rw [if_pos h, rules_eq, lowS_data]
  rfl
theorem rule_eq (s : ByteArray) (h : s.size ≤ 9223372036854775807) : match_Rule.f s = some (ruleL s.data.toList) := by
  unfold match_Rule.f
  rw [canon_eq s h]
  by_cases h0 : ruleL s.data.toList = 0
  · rw [if_pos h0, h0]
    show (match_rules.f (mk [])).bind _ = _
    rw [rules_eq]
    rfl
  · rw [if_neg h0]
    show (match_rules.f (lowS s)).bind _ = _
    rw [rules_eq, lowS_data]
    rfl

def encO : Option (List UInt8) → ByteArray × Bool
  | some n => (mk n, true)
  | none => (mk [], false)
def normO (o : Option (List UInt8)) (t v : List UInt8) : Option (List UInt8) :=
  if v = [] ∨ 100 < v.length then none else
  if ruleL t = 1 then (if foldL v = [] then none else some (foldL v)) else
  if ruleL t = 2 then (if numberL v = true then some v else none) else
  if ruleL t = 3 then (if o = some [] then none else o) else
  if ruleL t = 4 then some v else none

theorem mk_nil_iff (l : List UInt8) : (mk l).toList = [] ↔ l = [] := by rw [mk_toList]
theorem Ev.const {α : Type} {g : Nat → Option α} {r : α} (h : ∀ k, g k = some r) : Ev g r := ⟨0, fun k _ => h k⟩
theorem Ev.ifp {α : Type} {c : Prop} [Decidable c] {f g : Nat → Option α} {r : α} (h : c) (e : Ev f r) : Ev (fun k => if c then f k else g k) r := Ev.congr (fun k => if_pos h) e
theorem Ev.ifn {α : Type} {c : Prop} [Decidable c] {f g : Nat → Option α} {r : α} (h : ¬ c) (e : Ev g r) : Ev (fun k => if c then f k else g k) r := Ev.congr (fun k => if_neg h) e
theorem Ev.bs {α β : Type} {a : α} {f : Nat → α → Option β} {r : β} (e : Ev (fun k => f k a) r) : Ev (fun k => (some a).bind (f k)) r := e
theorem norm_ev (t v : ByteArray) (o : Option (List UInt8)) (ht : t.size ≤ 9223372036854775807)
    (hk : v.size ≤ 100 → ruleL t.data.toList = 3 → Ev (fun k => dn_Key.f k v) (encO o)) :
    Ev (fun k => match_Norm.f k t v) (encO (normO o t.data.toList v.data.toList)) := by
  by_cases h0 : v.data.toList = []
  · have : normO o t.data.toList v.data.toList = none := by unfold normO; rw [if_pos (Or.inl h0)]
    rw [this]
    refine ⟨1, fun k hk => ?_⟩
    obtain ⟨k, rfl⟩ : ∃ j, k = j + 1 := ⟨k - 1, by omega⟩
    simp only [match_Norm.f]
    rw [toList_data, if_pos h0]
    rfl
  by_cases h1 : 100 < v.data.toList.length
  · have : normO o t.data.toList v.data.toList = none := by unfold normO; rw [if_pos (Or.inr h1)]
    rw [this]
    refine ⟨1, fun k hk => ?_⟩
    obtain ⟨k, rfl⟩ : ∃ j, k = j + 1 := ⟨k - 1, by omega⟩
    simp only [match_Norm.f]
    rw [toList_data, if_neg h0, show decide ((v.size : Int) > 100) = true from decide_eq_true (by rw [size_len]; omega)]
    rfl
  have hn : normO o t.data.toList v.data.toList = (if ruleL t.data.toList = 1 then (if foldL v.data.toList = [] then none else some (foldL v.data.toList)) else
      if ruleL t.data.toList = 2 then (if numberL v.data.toList = true then some v.data.toList else none) else
      if ruleL t.data.toList = 3 then (if o = some [] then none else o) else
      if ruleL t.data.toList = 4 then some v.data.toList else none) := by
    unfold normO
    rw [if_neg (by intro h; rcases h with h | h; exact h0 h; exact h1 h)]
  rw [hn]
  clear hn
  have hv : v.size ≤ 100 := by rw [size_len]; omega
  have key : Ev (fun k => match_Norm.j0 k t v false) (encO (if ruleL t.data.toList = 1 then (if foldL v.data.toList = [] then none else some (foldL v.data.toList)) else
      if ruleL t.data.toList = 2 then (if numberL v.data.toList = true then some v.data.toList else none) else
      if ruleL t.data.toList = 3 then (if o = some [] then none else o) else
      if ruleL t.data.toList = 4 then some v.data.toList else none)) := by
    refine Ev.step (fun k => by rw [match_Norm.j0, if_neg Bool.false_ne_true, rule_eq t ht, Option.bind_some]) ?_
    by_cases r1 : ruleL t.data.toList = 1
    · simp only [if_pos r1]
      unfold dn_Fold.f
      rw [if_pos (by omega)]
      refine Ev.const fun k => ?_
      rw [Option.bind_some, mk_toList]
      by_cases hf : foldL v.data.toList = []
      · rw [if_pos hf, if_pos hf]; rfl
      · rw [if_neg hf, if_neg hf]; rfl
    simp only [if_neg r1]
    by_cases r2 : ruleL t.data.toList = 2
    · simp only [if_pos r2]
      unfold match_number.f
      rw [if_pos (by omega)]
      refine Ev.const fun k => ?_
      rw [Option.bind_some]
      by_cases hf : numberL v.data.toList = true
      · rw [if_pos hf, if_pos hf, toList_data, if_neg h0]; rfl
      · rw [if_neg hf, if_neg hf]; rfl
    simp only [if_neg r2]
    by_cases r3 : ruleL t.data.toList = 3
    · simp only [if_pos r3]
      refine (hk hv r3).bind (Ev.const fun k => ?_)
      cases o with
      | none => rfl
      | some n =>
        by_cases hn : n = []
        · subst hn
          show (if true = true then (if (mk []).toList = [] then _ else _) else _) = _
          rw [if_pos rfl, if_pos (mk_toList []), if_pos rfl]; rfl
        · show (if true = true then (if (mk n).toList = [] then _ else _) else _) = _
          rw [if_pos rfl, mk_toList, if_neg hn, if_neg (by intro h; exact hn (Option.some.inj h))]; rfl
    simp only [if_neg r3]
    by_cases r4 : ruleL t.data.toList = 4
    · simp only [if_pos r4]
      refine Ev.const fun k => ?_
      rw [toList_data, if_neg h0]; rfl
    · simp only [if_neg r4]
      exact Ev.const fun k => rfl
  refine Ev.congr (fun k => ?_) key
  simp only [match_Norm.f]
  rw [toList_data, if_neg h0, show decide ((v.size : Int) > 100) = false from decide_eq_false (by omega)]

def sameO (x y : Option (List UInt8)) : Bool :=
  match x, y with
  | some a, some b => a == b
  | _, _ => false
theorem norms_ev {t a b : ByteArray} {x y : Option (List UInt8)} (ha : Ev (fun k => match_Norm.f k t a) (encO x)) (hb : Ev (fun k => match_Norm.f k t b) (encO y)) :
    Ev (fun k => match_norms.f k t a b) ((encO x).1, (encO y).1, (x.isSome && y.isSome)) := by
  unfold match_norms.f
  refine ha.bind (hb.bind (Ev.const fun k => ?_))
  cases x <;> cases y <;> rfl
theorem same_ev {t a b : ByteArray} {x y : Option (List UInt8)} (ha : Ev (fun k => match_Norm.f k t a) (encO x)) (hb : Ev (fun k => match_Norm.f k t b) (encO y)) :
    Ev (fun k => match_Same.f k t a b) (sameO x y) := by
  unfold match_Same.f
  refine (norms_ev ha hb).bind (Ev.const fun k => ?_)
  cases x with
  | none => rfl
  | some x => cases y with
    | none => rfl
    | some y => show (if true = true then some ((mk x).toList == (mk y).toList) else _) = _; rw [if_pos rfl, mk_toList, mk_toList]; rfl
theorem less_ev {t a b : ByteArray} {x y : Option (List UInt8)} {p : Bool × Bool} (ht : t.size ≤ 9223372036854775807) (ha : Ev (fun k => match_Norm.f k t a) (encO x)) (hb : Ev (fun k => match_Norm.f k t b) (encO y))
    (h : (if (x.isSome && y.isSome) = true then lessBy (ruleL t.data.toList) (encO x).1 (encO y).1 else some (false, false)) = some p) :
    Ev (fun k => match_Less.f k t a b) p := by
  unfold match_Less.f
  refine (norms_ev ha hb).bind (Ev.const fun k => ?_)
  rw [rule_eq t ht, Option.bind_some]
  exact h

theorem awake_ev : Ev (fun k => brooklaw3_awake.f k) true := by
  have cn : ruleL [99, 110] = 1 := by decide +kernel
  have N : ∀ v : List UInt8, Ev (fun k => match_Norm.f k (⟨#[99, 110]⟩ : ByteArray) (mk v)) (encO (normO none [99, 110] v)) := fun v =>
    norm_ev (⟨#[99, 110]⟩ : ByteArray) (mk v) none (by decide) (fun _ h => absurd (cn.symm.trans h) (by decide))
  have e1 : normO none [99, 110] [65, 110, 110] = some [97, 110, 110] := by decide +kernel
  have e2 : normO none [99, 110] [32, 65, 78, 78] = some [97, 110, 110] := by decide +kernel
  have e3 : normO none [99, 110] [65, 110] = some [97, 110] := by decide +kernel
  have h1 := N [65, 110, 110]
  have h2 := N [32, 65, 78, 78]
  have h3 := N [65, 110]
  rw [e1] at h1
  rw [e2] at h2
  rw [e3] at h3
  unfold brooklaw3_awake.f
  refine (same_ev h1 h2).bind (Ev.congr (fun k => if_pos (by decide)) ((same_ev h1 h3).bind (Ev.const fun k => by decide)))
end Go.Proofs.YtjicpomcfelobaaDoor.P

namespace Go.Proofs.YtjicpomcfelobaaDoor.P
open Go.RowKit Go.Proofs.YtjicpomcfelobaaDoorW.PrintWords Go.Proofs.YtjicpomcfelobaaDoorW.PrintLast Go.Proofs.YtjicpomcfelobaaDoorW.PrintMore
set_option linter.unusedVariables false
set_option linter.unusedSimpArgs false

theorem one_byte (w : World) (c : Int) : (convert 33 9 (.slice (some ⟨w.heap.size, 0, none⟩) 1 1)).run Tryd.prog (w.alloc (.cells #[.int .u8 c] 5)) = .ok (.string (strOfNums [c])) (w.alloc (.cells #[.int .u8 c] 5)) := by
  refine run_convert_bytes_arg _ _ _ Tryd.underlying33 Tryd.underlying5 _ 0 1 1 [c] rfl (fun i hi => ?_) _ Tryd.underlying9
  obtain rfl : i = 0 := by omega
  simp
theorem decDigits_big (n : Nat) (h : 10 ≤ n) : Lib.decDigits n = Lib.decDigits (n / 10) ++ [UInt8.ofNat (48 + n % 10)] := by
  rw [Lib.decDigits, dif_neg (by omega)]
theorem decDigits_small (n : Nat) (h : n < 10) : Lib.decDigits n = [UInt8.ofNat (48 + n)] := by
  rw [Lib.decDigits, dif_pos h]
theorem decDigits_len (n : Nat) : n < 18446744073709551616 → (Lib.decDigits n).length ≤ 20 := by
  intro h
  have key : ∀ d m : Nat, m < 10 ^ (d + 1) → (Lib.decDigits m).length ≤ d + 1 := by
    intro d
    induction d with
    | zero => intro m hm; rw [decDigits_small m (by omega)]; simp
    | succ d ih =>
      intro m hm
      by_cases h1 : m < 10
      · rw [decDigits_small m h1]; simp
      · rw [decDigits_big m (by omega), List.length_append]
        have := ih (m / 10) (by rw [Nat.pow_succ] at hm; omega)
        simp; omega
  exact key 19 n (by omega)
theorem strOf_one (d : Nat) (h : d < 10) : strOfNums [48 + (d : Int)] = mk [UInt8.ofNat (48 + d)] := by
  apply ba_ext
  rw [strOfNums_data, mk_data]
  simp only [List.map_cons, List.map_nil]
  rw [show (48 + (d : Int)).toNat = 48 + d from by omega]
theorem mk_append (a b : List UInt8) : mk a ++ mk b = mk (a ++ b) := by apply ba_ext; rw [append_data, mk_data, mk_data, mk_data]

def brookref1_Digits.f (a0 : Int) : Option ByteArray := if -9223372036854775808 ≤ a0 ∧ a0 ≤ 9223372036854775807 then some (mk (Lib.itoa a0)) else none
set_option maxHeartbeats 8000000 in
theorem brookref1_Digits.any (n : Int) (hn0 : -9223372036854775808 ≤ n) (hn1 : n ≤ 9223372036854775807) (w : World) :
    Calls Tryd.prog 10 #[.int .i64 n] w fun e w' => e = .returned (.string (mk (Lib.itoa n))) ∧ Below w.heap.size w w' := by
  have hob := one_byte
  obtain ⟨m, hm⟩ : ∃ m : Nat, n.natAbs = m := ⟨_, rfl⟩
  have hm2 : m ≤ 9223372036854775808 := by omega
  have hml := decDigits_len m (by omega)
  by_cases hneg : n < 0
  · have d0 : decide (n < 0) = true := decide_eq_true hneg
    have hw : IntKind.u64.wrap (-IntKind.u64.wrap n) = (m : Int) := by rw [IntKind.wrap_u64, IntKind.wrap_u64]; omega
    have hit : Lib.itoa n = 45 :: Lib.decDigits m := by unfold Lib.itoa; rw [if_pos hneg, hm]
    rw [hit]
    have HW := Lib.hid hw
    clear hm hit
    go_enter Tryd.func10, Tryd.ntmps10
    go_wp2
    clear hw
    go_loopw [3, 4] (fun x s wr => ∃ (u : Nat) (ui : Int) (t : List UInt8), 0 ≤ ui ∧ ui ≤ 9223372036854775808 ∧ Aside0 (ui = (u : Int)) ∧ x = .int .u64 ui ∧ s = .string (mk t) ∧ Aside0 (Below w.heap.size w wr) ∧ Aside0 (Lib.decDigits m = Lib.decDigits u ++ t)) (fun x _ _ => (intOf x).toNat)
    case atStart => exact ⟨m, m, [], by omega, by omega, ⟨rfl⟩, by first | rfl | (rw [HW.out]), rfl, ⟨Below.refl _ _⟩, ⟨by simp⟩⟩
    case round =>
      obtain ⟨u, ui, t, h0, h1, HU, rfl, rfl, HB, HE⟩ := hrel
      have htl : t.length ≤ 20 := by have := congrArg List.length HE.out; rw [List.length_append] at this; omega
      obtain ⟨T, hT⟩ : ∃ T, mk t = T := ⟨_, rfl⟩
      have hts : T.size ≤ 20 := by rw [← hT, mk_size]; exact htl
      rw [hT]
      have HT := Lib.hid hT
      clear hT htl
      by_cases hu : 10 ≤ ui
      · obtain ⟨d, hd⟩ : ∃ d : Int, ui % 10 = d := ⟨_, rfl⟩
        have hd0 : 0 ≤ d ∧ d ≤ 9 := by omega
        have HD := Lib.hid hd
        obtain ⟨D, hD⟩ : ∃ D, strOfNums [48 + d] = D := ⟨_, rfl⟩
        have hDs : D.size = 1 := by rw [← hD, strOfNums_size]; rfl
        have hsz : D.size + T.size ≤ 9223372036854775807 := by omega
        have hd1 : 0 ≤ d := hd0.1
        have hd2 : d ≤ 9 := hd0.2
        have HDD := Lib.hid hD
        clear hd0 hDs
        go_wp2_with fail
        have hdu : d = ((u % 10 : Nat) : Int) := by have := HU.out; omega
        have hDm : D = mk [UInt8.ofNat (48 + u % 10)] := by rw [← HDD.out, hdu]; exact strOf_one _ (by omega)
        refine ⟨⟨u / 10, ui / 10, [UInt8.ofNat (48 + u % 10)] ++ t, by omega, by omega, ⟨by have := HU.out; omega⟩, rfl, ?_, ⟨HB.out.alloc HB.out.size _⟩, ⟨?_⟩⟩, by simp [intOf]; omega⟩
        · rw [hDm, ← HT.out, mk_append]
        · rw [HE.out, decDigits_big u (by have := HU.out; omega), List.append_assoc]
      · obtain ⟨D, hD⟩ : ∃ D, strOfNums [48 + ui] = D := ⟨_, rfl⟩
        have hDs : D.size = 1 := by rw [← hD, strOfNums_size]; rfl
        have hsz : D.size + T.size ≤ 9223372036854775807 := by omega
        have hu9 : ui ≤ 9 := by omega
        have hDT : (D ++ T).size ≤ 21 := by
          rw [size_len, append_data, List.length_append, ← size_len, ← size_len]; omega
        obtain ⟨E, hE⟩ : ∃ E, D ++ T = E := ⟨_, rfl⟩
        rw [hE] at hDT
        have hfin : E = mk (Lib.decDigits m) := by
          have hu2 : u < 10 := by have := HU.out; omega
          rw [HE.out, decDigits_small u hu2, ← hE, ← hD, HU.out, strOf_one u hu2, ← HT.out, mk_append]
        have hsz2 : (1 : Nat) + E.size ≤ 9223372036854775807 := by omega
        have hsz3 : (⟨#[45]⟩ : ByteArray).size + E.size ≤ 9223372036854775807 := by
          rw [show (⟨#[45]⟩ : ByteArray).size = 1 from rfl]; omega
        have HD := Lib.hid hD
        have HFIN := Lib.hid hfin
        clear hDs hfin
        go_wp2_with fail
        go_ret
        refine ⟨?_, HB.out.alloc HB.out.size _⟩
        have hF := HFIN.out
        first
        | (rw [hF]; done)
        | (show Ending.returned (.string _) = _; rw [hE, hF]; rfl)
        | (show Ending.returned (.string _) = _; rw [hF]; rfl)
        | (rw [hF, show (⟨#[45]⟩ : ByteArray) = mk [45] from rfl, mk_append]; rfl)
        | (show Ending.returned (.string E) = _; rw [hF])
  · have d0 : decide (n < 0) = false := decide_eq_false hneg
    have hw : IntKind.u64.wrap n = (m : Int) := by rw [IntKind.wrap_u64]; omega
    have hit : Lib.itoa n = Lib.decDigits m := by unfold Lib.itoa; rw [if_neg hneg, show n.toNat = m by omega]
    rw [hit]
    have HW := Lib.hid hw
    clear hm hit
    go_enter Tryd.func10, Tryd.ntmps10
    go_wp2
    clear hw
    go_loopw [3, 4] (fun x s wr => ∃ (u : Nat) (ui : Int) (t : List UInt8), 0 ≤ ui ∧ ui ≤ 9223372036854775808 ∧ Aside0 (ui = (u : Int)) ∧ x = .int .u64 ui ∧ s = .string (mk t) ∧ Aside0 (Below w.heap.size w wr) ∧ Aside0 (Lib.decDigits m = Lib.decDigits u ++ t)) (fun x _ _ => (intOf x).toNat)
    case atStart => exact ⟨m, m, [], by omega, by omega, ⟨rfl⟩, by first | rfl | (rw [HW.out]), rfl, ⟨Below.refl _ _⟩, ⟨by simp⟩⟩
    case round =>
      obtain ⟨u, ui, t, h0, h1, HU, rfl, rfl, HB, HE⟩ := hrel
      have htl : t.length ≤ 20 := by have := congrArg List.length HE.out; rw [List.length_append] at this; omega
      obtain ⟨T, hT⟩ : ∃ T, mk t = T := ⟨_, rfl⟩
      have hts : T.size ≤ 20 := by rw [← hT, mk_size]; exact htl
      rw [hT]
      have HT := Lib.hid hT
      clear hT htl
      by_cases hu : 10 ≤ ui
      · obtain ⟨d, hd⟩ : ∃ d : Int, ui % 10 = d := ⟨_, rfl⟩
        have hd0 : 0 ≤ d ∧ d ≤ 9 := by omega
        have HD := Lib.hid hd
        obtain ⟨D, hD⟩ : ∃ D, strOfNums [48 + d] = D := ⟨_, rfl⟩
        have hDs : D.size = 1 := by rw [← hD, strOfNums_size]; rfl
        have hsz : D.size + T.size ≤ 9223372036854775807 := by omega
        have hd1 : 0 ≤ d := hd0.1
        have hd2 : d ≤ 9 := hd0.2
        have HDD := Lib.hid hD
        clear hd0 hDs
        go_wp2_with fail
        have hdu : d = ((u % 10 : Nat) : Int) := by have := HU.out; omega
        have hDm : D = mk [UInt8.ofNat (48 + u % 10)] := by rw [← HDD.out, hdu]; exact strOf_one _ (by omega)
        refine ⟨⟨u / 10, ui / 10, [UInt8.ofNat (48 + u % 10)] ++ t, by omega, by omega, ⟨by have := HU.out; omega⟩, rfl, ?_, ⟨HB.out.alloc HB.out.size _⟩, ⟨?_⟩⟩, by simp [intOf]; omega⟩
        · rw [hDm, ← HT.out, mk_append]
        · rw [HE.out, decDigits_big u (by have := HU.out; omega), List.append_assoc]
      · obtain ⟨D, hD⟩ : ∃ D, strOfNums [48 + ui] = D := ⟨_, rfl⟩
        have hDs : D.size = 1 := by rw [← hD, strOfNums_size]; rfl
        have hsz : D.size + T.size ≤ 9223372036854775807 := by omega
        have hu9 : ui ≤ 9 := by omega
        have hDT : (D ++ T).size ≤ 21 := by
          rw [size_len, append_data, List.length_append, ← size_len, ← size_len]; omega
        obtain ⟨E, hE⟩ : ∃ E, D ++ T = E := ⟨_, rfl⟩
        rw [hE] at hDT
        have hfin : E = mk (Lib.decDigits m) := by
          have hu2 : u < 10 := by have := HU.out; omega
          rw [HE.out, decDigits_small u hu2, ← hE, ← hD, HU.out, strOf_one u hu2, ← HT.out, mk_append]
        have hsz2 : (1 : Nat) + E.size ≤ 9223372036854775807 := by omega
        have hsz3 : (⟨#[45]⟩ : ByteArray).size + E.size ≤ 9223372036854775807 := by
          rw [show (⟨#[45]⟩ : ByteArray).size = 1 from rfl]; omega
        have HD := Lib.hid hD
        have HFIN := Lib.hid hfin
        clear hDs hfin
        go_wp2_with fail
        go_ret
        refine ⟨?_, HB.out.alloc HB.out.size _⟩
        have hF := HFIN.out
        first
        | (rw [hF]; done)
        | (show Ending.returned (.string _) = _; rw [hE, hF]; rfl)
        | (show Ending.returned (.string _) = _; rw [hF]; rfl)
        | (rw [hF, show (⟨#[45]⟩ : ByteArray) = mk [45] from rfl, mk_append]; rfl)
        | (show Ending.returned (.string E) = _; rw [hF])
theorem brookref1_Digits.calls (a0 : Int) (r : ByteArray) (w : World) (h : brookref1_Digits.f a0 = some r) :
    Calls Tryd.prog 10 #[.int .i64 a0] w fun e w' => e = .returned (.string r) ∧ Below w.heap.size w w' := by
  unfold brookref1_Digits.f at h
  by_cases hs : -9223372036854775808 ≤ a0 ∧ a0 ≤ 9223372036854775807
  · rw [if_pos hs] at h
    obtain rfl := Option.some.inj h
    exact brookref1_Digits.any a0 hs.1 hs.2 w
  · rw [if_neg hs] at h
    cases h
end Go.Proofs.YtjicpomcfelobaaDoor.P

namespace Go.Proofs.YtjicpomcfelobaaDoor.P
open Go.RowKit Go.Proofs.YtjicpomcfelobaaDoorW.PrintWords Go.Proofs.YtjicpomcfelobaaDoorW.PrintLast Go.Proofs.YtjicpomcfelobaaDoorW.PrintMore
attribute [local go_sem] max2_int min2_int max_two min_two max_three min_three max_four min_four
set_option linter.unusedVariables false
set_option linter.unusedSimpArgs false

/-! ### brooklaw3_MatchNumbers: function 4 -/
def brooklaw3_MatchNumbers.f (k : Nat) (a0 : Int) (a1 : Int) (a2 : Int) : Option (Bool) := (brookref1_Digits.f (Int.tmod a0 1000000000000000)).bind fun t190 => ((brookref1_Digits.f (Int.tmod a1 1000000000000000)).bind fun t191 => ((match_Less.f k (⟨#[117, 105, 100, 78, 117, 109, 98, 101, 114]⟩ : ByteArray) t190 t191).bind fun bt192 => (if 1 + t190.size ≤ 9223372036854775807 then (if t190.size + 1 ≤ 9223372036854775807 then (if t190.size + 2 ≤ 9223372036854775807 then ((some (([(⟨#[48]⟩ : ByteArray) ++ t190, (⟨#[43]⟩ : ByteArray) ++ t190, t190 ++ (⟨#[32]⟩ : ByteArray), (⟨#[32]⟩ : ByteArray) ++ t190, t190 ++ (⟨#[46, 48]⟩ : ByteArray), (⟨#[45, 48]⟩ : ByteArray), (⟨#[]⟩ : ByteArray), (⟨#[45]⟩ : ByteArray), (⟨#[49, 50, 51, 52, 53, 54, 55, 56, 57, 48, 49, 50, 51, 52, 53, 54]⟩ : ByteArray)] : List ByteArray) : List ByteArray)).bind fun y194 => (if 0 ≤ (Int.tmod a2 9) then (if (Int.tmod a2 9) < (y194.length : Int) then ((match_Norm.f k (⟨#[117, 105, 100, 110, 117, 109, 98, 101, 114]⟩ : ByteArray) (rdOf ByteArray.empty y194 (Int.tmod a2 9))).bind fun bt198 => (if bt192.2 = true then (if (bt192.1 == (decide ((Int.tmod a0 1000000000000000) < (Int.tmod a1 1000000000000000)))) = true then ((match_Same.f k (⟨#[117, 105, 100, 110, 117, 109, 98, 101, 114]⟩ : ByteArray) t190 t191).bind fun t200 => (if (t200 == ((Int.tmod a0 1000000000000000) == (Int.tmod a1 1000000000000000))) = true then (if bt198.2 = true then (some false) else ((brooklaw3_awake.f k).bind fun t201 => (some t201))) else (some false))) else (some false)) else (some false))) else (none)) else (none))) else (none)) else (none)) else (none))))
theorem brooklaw3_MatchNumbers.mono : ∀ a0 a1 a2 k, LeO (brooklaw3_MatchNumbers.f k a0 a1 a2) (brooklaw3_MatchNumbers.f (k + 1) a0 a1 a2) := by
  intro a0 a1 a2 k
  unfold brooklaw3_MatchNumbers.f
  repeat' first
      | (with_reducible exact brooklaw3_awake.mono _)
      | (with_reducible exact match_Less.mono _ _ _ _)
      | (with_reducible exact match_Norm.mono _ _ _)
      | (with_reducible exact match_Same.mono _ _ _ _)
      | (with_reducible exact LeO.refl _)
      | (with_reducible exact LeO.none _)
      | (with_reducible refine LeO.ite ?_ ?_)
      | (with_reducible refine LeO.bind ?_ (fun _ => ?_))
      | exact brooklaw3_awake.mono _
      | exact match_Less.mono _ _ _ _
      | exact match_Norm.mono _ _ _
      | exact match_Same.mono _ _ _ _
      | exact LeO.none _
      | refine LeO.ite ?_ ?_
      | refine LeO.bind ?_ (fun _ => ?_)
set_option maxHeartbeats 8000000 in
set_option maxRecDepth 100000 in
theorem brooklaw3_MatchNumbers.calls (k : Nat) (a0 : Int) (a1 : Int) (a2 : Int) (r : Bool) (w : World) (hG : Gl w) (h : brooklaw3_MatchNumbers.f k a0 a1 a2 = some r) :
    Calls Tryd.prog 4 #[.int .i64 a0, .int .i64 a1, .int .u8 a2] w fun e w' => e = .returned (.bool r) ∧ Below w.heap.size w w' := by
  have HB := Aside0.mk (Below.refl w.heap.size w)
  have HG := Aside0.mk hG
  clear hG
  have H : ((brookref1_Digits.f (Int.tmod a0 1000000000000000)).bind fun t190 => ((brookref1_Digits.f (Int.tmod a1 1000000000000000)).bind fun t191 => ((match_Less.f k (⟨#[117, 105, 100, 78, 117, 109, 98, 101, 114]⟩ : ByteArray) t190 t191).bind fun bt192 => (if 1 + t190.size ≤ 9223372036854775807 then (if t190.size + 1 ≤ 9223372036854775807 then (if t190.size + 2 ≤ 9223372036854775807 then ((some (([(⟨#[48]⟩ : ByteArray) ++ t190, (⟨#[43]⟩ : ByteArray) ++ t190, t190 ++ (⟨#[32]⟩ : ByteArray), (⟨#[32]⟩ : ByteArray) ++ t190, t190 ++ (⟨#[46, 48]⟩ : ByteArray), (⟨#[45, 48]⟩ : ByteArray), (⟨#[]⟩ : ByteArray), (⟨#[45]⟩ : ByteArray), (⟨#[49, 50, 51, 52, 53, 54, 55, 56, 57, 48, 49, 50, 51, 52, 53, 54]⟩ : ByteArray)] : List ByteArray) : List ByteArray)).bind fun y194 => (if 0 ≤ (Int.tmod a2 9) then (if (Int.tmod a2 9) < (y194.length : Int) then ((match_Norm.f k (⟨#[117, 105, 100, 110, 117, 109, 98, 101, 114]⟩ : ByteArray) (rdOf ByteArray.empty y194 (Int.tmod a2 9))).bind fun bt198 => (if bt192.2 = true then (if (bt192.1 == (decide ((Int.tmod a0 1000000000000000) < (Int.tmod a1 1000000000000000)))) = true then ((match_Same.f k (⟨#[117, 105, 100, 110, 117, 109, 98, 101, 114]⟩ : ByteArray) t190 t191).bind fun t200 => (if (t200 == ((Int.tmod a0 1000000000000000) == (Int.tmod a1 1000000000000000))) = true then (if bt198.2 = true then (some false) else ((brooklaw3_awake.f k).bind fun t201 => (some t201))) else (some false))) else (some false)) else (some false))) else (none)) else (none))) else (none)) else (none)) else (none))))) = some r := h
  clear h
  replace H := Option.bind_eq_some_iff.mp H
  obtain ⟨t190, A40, H⟩ := H
  replace H : ((brookref1_Digits.f (Int.tmod a1 1000000000000000)).bind fun t191 => ((match_Less.f k (⟨#[117, 105, 100, 78, 117, 109, 98, 101, 114]⟩ : ByteArray) t190 t191).bind fun bt192 => (if 1 + t190.size ≤ 9223372036854775807 then (if t190.size + 1 ≤ 9223372036854775807 then (if t190.size + 2 ≤ 9223372036854775807 then ((some (([(⟨#[48]⟩ : ByteArray) ++ t190, (⟨#[43]⟩ : ByteArray) ++ t190, t190 ++ (⟨#[32]⟩ : ByteArray), (⟨#[32]⟩ : ByteArray) ++ t190, t190 ++ (⟨#[46, 48]⟩ : ByteArray), (⟨#[45, 48]⟩ : ByteArray), (⟨#[]⟩ : ByteArray), (⟨#[45]⟩ : ByteArray), (⟨#[49, 50, 51, 52, 53, 54, 55, 56, 57, 48, 49, 50, 51, 52, 53, 54]⟩ : ByteArray)] : List ByteArray) : List ByteArray)).bind fun y194 => (if 0 ≤ (Int.tmod a2 9) then (if (Int.tmod a2 9) < (y194.length : Int) then ((match_Norm.f k (⟨#[117, 105, 100, 110, 117, 109, 98, 101, 114]⟩ : ByteArray) (rdOf ByteArray.empty y194 (Int.tmod a2 9))).bind fun bt198 => (if bt192.2 = true then (if (bt192.1 == (decide ((Int.tmod a0 1000000000000000) < (Int.tmod a1 1000000000000000)))) = true then ((match_Same.f k (⟨#[117, 105, 100, 110, 117, 109, 98, 101, 114]⟩ : ByteArray) t190 t191).bind fun t200 => (if (t200 == ((Int.tmod a0 1000000000000000) == (Int.tmod a1 1000000000000000))) = true then (if bt198.2 = true then (some false) else ((brooklaw3_awake.f k).bind fun t201 => (some t201))) else (some false))) else (some false)) else (some false))) else (none)) else (none))) else (none)) else (none)) else (none)))) = some r := H
  have A4 := Aside0.mk A40
  clear A40
  replace H := Option.bind_eq_some_iff.mp H
  obtain ⟨t191, A50, H⟩ := H
  replace H : ((match_Less.f k (⟨#[117, 105, 100, 78, 117, 109, 98, 101, 114]⟩ : ByteArray) t190 t191).bind fun bt192 => (if 1 + t190.size ≤ 9223372036854775807 then (if t190.size + 1 ≤ 9223372036854775807 then (if t190.size + 2 ≤ 9223372036854775807 then ((some (([(⟨#[48]⟩ : ByteArray) ++ t190, (⟨#[43]⟩ : ByteArray) ++ t190, t190 ++ (⟨#[32]⟩ : ByteArray), (⟨#[32]⟩ : ByteArray) ++ t190, t190 ++ (⟨#[46, 48]⟩ : ByteArray), (⟨#[45, 48]⟩ : ByteArray), (⟨#[]⟩ : ByteArray), (⟨#[45]⟩ : ByteArray), (⟨#[49, 50, 51, 52, 53, 54, 55, 56, 57, 48, 49, 50, 51, 52, 53, 54]⟩ : ByteArray)] : List ByteArray) : List ByteArray)).bind fun y194 => (if 0 ≤ (Int.tmod a2 9) then (if (Int.tmod a2 9) < (y194.length : Int) then ((match_Norm.f k (⟨#[117, 105, 100, 110, 117, 109, 98, 101, 114]⟩ : ByteArray) (rdOf ByteArray.empty y194 (Int.tmod a2 9))).bind fun bt198 => (if bt192.2 = true then (if (bt192.1 == (decide ((Int.tmod a0 1000000000000000) < (Int.tmod a1 1000000000000000)))) = true then ((match_Same.f k (⟨#[117, 105, 100, 110, 117, 109, 98, 101, 114]⟩ : ByteArray) t190 t191).bind fun t200 => (if (t200 == ((Int.tmod a0 1000000000000000) == (Int.tmod a1 1000000000000000))) = true then (if bt198.2 = true then (some false) else ((brooklaw3_awake.f k).bind fun t201 => (some t201))) else (some false))) else (some false)) else (some false))) else (none)) else (none))) else (none)) else (none)) else (none))) = some r := H
  have A5 := Aside0.mk A50
  clear A50
  replace H := Option.bind_eq_some_iff.mp H
  obtain ⟨⟨t192, t193⟩, A60, H⟩ := H
  replace H : (if 1 + t190.size ≤ 9223372036854775807 then (if t190.size + 1 ≤ 9223372036854775807 then (if t190.size + 2 ≤ 9223372036854775807 then ((some (([(⟨#[48]⟩ : ByteArray) ++ t190, (⟨#[43]⟩ : ByteArray) ++ t190, t190 ++ (⟨#[32]⟩ : ByteArray), (⟨#[32]⟩ : ByteArray) ++ t190, t190 ++ (⟨#[46, 48]⟩ : ByteArray), (⟨#[45, 48]⟩ : ByteArray), (⟨#[]⟩ : ByteArray), (⟨#[45]⟩ : ByteArray), (⟨#[49, 50, 51, 52, 53, 54, 55, 56, 57, 48, 49, 50, 51, 52, 53, 54]⟩ : ByteArray)] : List ByteArray) : List ByteArray)).bind fun y194 => (if 0 ≤ (Int.tmod a2 9) then (if (Int.tmod a2 9) < (y194.length : Int) then ((match_Norm.f k (⟨#[117, 105, 100, 110, 117, 109, 98, 101, 114]⟩ : ByteArray) (rdOf ByteArray.empty y194 (Int.tmod a2 9))).bind fun bt198 => (if t193 = true then (if (t192 == (decide ((Int.tmod a0 1000000000000000) < (Int.tmod a1 1000000000000000)))) = true then ((match_Same.f k (⟨#[117, 105, 100, 110, 117, 109, 98, 101, 114]⟩ : ByteArray) t190 t191).bind fun t200 => (if (t200 == ((Int.tmod a0 1000000000000000) == (Int.tmod a1 1000000000000000))) = true then (if bt198.2 = true then (some false) else ((brooklaw3_awake.f k).bind fun t201 => (some t201))) else (some false))) else (some false)) else (some false))) else (none)) else (none))) else (none)) else (none)) else (none)) = some r := H
  have A6 := Aside0.mk A60
  clear A60
  by_cases c7 : 1 + t190.size ≤ 9223372036854775807
  · rw [if_pos c7] at H
    have c7b0 := eq_true c7
    have c7b1 : decide (1 + t190.size ≤ 9223372036854775807) = true := decide_eq_true c7
    try have c7b2 : (9223372036854775807 < 1 + t190.size) = False := eq_false (Nat.not_lt.2 c7)
    by_cases c8 : t190.size + 1 ≤ 9223372036854775807
    · rw [if_pos c8] at H
      have c8b0 := eq_true c8
      have c8b1 : decide (t190.size + 1 ≤ 9223372036854775807) = true := decide_eq_true c8
      try have c8b2 : (9223372036854775807 < t190.size + 1) = False := eq_false (Nat.not_lt.2 c8)
      by_cases c9 : t190.size + 2 ≤ 9223372036854775807
      · rw [if_pos c9] at H
        have c9b0 := eq_true c9
        have c9b1 : decide (t190.size + 2 ≤ 9223372036854775807) = true := decide_eq_true c9
        try have c9b2 : (9223372036854775807 < t190.size + 2) = False := eq_false (Nat.not_lt.2 c9)
        obtain ⟨y194, hy194⟩ : ∃ y_ : List ByteArray, y_ = (([(⟨#[48]⟩ : ByteArray) ++ t190, (⟨#[43]⟩ : ByteArray) ++ t190, t190 ++ (⟨#[32]⟩ : ByteArray), (⟨#[32]⟩ : ByteArray) ++ t190, t190 ++ (⟨#[46, 48]⟩ : ByteArray), (⟨#[45, 48]⟩ : ByteArray), (⟨#[]⟩ : ByteArray), (⟨#[45]⟩ : ByteArray), (⟨#[49, 50, 51, 52, 53, 54, 55, 56, 57, 48, 49, 50, 51, 52, 53, 54]⟩ : ByteArray)] : List ByteArray)) := ⟨_, rfl⟩
        replace H : (if 0 ≤ (Int.tmod a2 9) then (if (Int.tmod a2 9) < (y194.length : Int) then ((match_Norm.f k (⟨#[117, 105, 100, 110, 117, 109, 98, 101, 114]⟩ : ByteArray) (rdOf ByteArray.empty y194 (Int.tmod a2 9))).bind fun bt198 => (if t193 = true then (if (t192 == (decide ((Int.tmod a0 1000000000000000) < (Int.tmod a1 1000000000000000)))) = true then ((match_Same.f k (⟨#[117, 105, 100, 110, 117, 109, 98, 101, 114]⟩ : ByteArray) t190 t191).bind fun t200 => (if (t200 == ((Int.tmod a0 1000000000000000) == (Int.tmod a1 1000000000000000))) = true then (if bt198.2 = true then (some false) else ((brooklaw3_awake.f k).bind fun t201 => (some t201))) else (some false))) else (some false)) else (some false))) else (none)) else (none)) = some r := by first | (rw [hy194]; with_reducible exact H) | (have H2_ := (Option.bind_some _ _).symm.trans H; rw [hy194]; with_reducible exact H2_) | (have H2_ := (Option.bind_some _ _).symm.trans H; with_reducible exact H2_) | with_reducible exact H | (rw [hy194]; exact H) | exact H
        have Ny194 := Aside0.mk hy194
        clear hy194
        obtain ⟨ji10, hji10⟩ : ∃ j_ : Int, (Int.tmod a2 9) = j_ := ⟨_, rfl⟩
        replace H : (if 0 ≤ (ji10) then (if (ji10) < (y194.length : Int) then ((match_Norm.f k (⟨#[117, 105, 100, 110, 117, 109, 98, 101, 114]⟩ : ByteArray) (rdOf ByteArray.empty y194 (ji10))).bind fun bt198 => (if t193 = true then (if (t192 == (decide ((Int.tmod a0 1000000000000000) < (Int.tmod a1 1000000000000000)))) = true then ((match_Same.f k (⟨#[117, 105, 100, 110, 117, 109, 98, 101, 114]⟩ : ByteArray) t190 t191).bind fun t200 => (if (t200 == ((Int.tmod a0 1000000000000000) == (Int.tmod a1 1000000000000000))) = true then (if bt198.2 = true then (some false) else ((brooklaw3_awake.f k).bind fun t201 => (some t201))) else (some false))) else (some false)) else (some false))) else (none)) else (none)) = some r := by first | (rw [hji10] at H; exact H) | (simp only [hji10] at H ⊢; exact H)
        (try rw [hji10] at A4)
        (try rw [hji10] at A5)
        (try rw [hji10] at A6)
        by_cases c11 : 0 ≤ (ji10)
        · rw [if_pos c11] at H
          have c11b0 : decide (0 ≤ (ji10)) = true := decide_eq_true c11
          clear c11
          by_cases c12 : (ji10) < (y194.length : Int)
          · rw [if_pos c12] at H
            have c12b0 : decide ((ji10) < (y194.length : Int)) = true := decide_eq_true c12
            clear c12
            replace H := Option.bind_eq_some_iff.mp H
            obtain ⟨⟨t198, t199⟩, A130, H⟩ := H
            replace H : (if t193 = true then (if (t192 == (decide ((Int.tmod a0 1000000000000000) < (Int.tmod a1 1000000000000000)))) = true then ((match_Same.f k (⟨#[117, 105, 100, 110, 117, 109, 98, 101, 114]⟩ : ByteArray) t190 t191).bind fun t200 => (if (t200 == ((Int.tmod a0 1000000000000000) == (Int.tmod a1 1000000000000000))) = true then (if t199 = true then (some false) else ((brooklaw3_awake.f k).bind fun t201 => (some t201))) else (some false))) else (some false)) else (some false)) = some r := H
            have A13 := Aside0.mk A130
            clear A130
            by_cases c14 : t193 = true
            · subst c14
              have H1 : (if (t192 == (decide ((Int.tmod a0 1000000000000000) < (Int.tmod a1 1000000000000000)))) = true then ((match_Same.f k (⟨#[117, 105, 100, 110, 117, 109, 98, 101, 114]⟩ : ByteArray) t190 t191).bind fun t200 => (if (t200 == ((Int.tmod a0 1000000000000000) == (Int.tmod a1 1000000000000000))) = true then (if t199 = true then (some false) else ((brooklaw3_awake.f k).bind fun t201 => (some t201))) else (some false))) else (some false)) = some r := by rw [if_pos rfl] at H; exact H
              clear H
              have H := H1
              clear H1
              by_cases c15 : (t192 == (decide ((Int.tmod a0 1000000000000000) < (Int.tmod a1 1000000000000000)))) = true
              · rw [if_pos c15] at H
                have c15b0 : (t192 == (decide ((Int.tmod a0 1000000000000000) < (Int.tmod a1 1000000000000000)))) = true := c15
                (try (have c15b1 : decide (t192 = (decide ((Int.tmod a0 1000000000000000) < (Int.tmod a1 1000000000000000)))) = true := by simpa using c15))
                (try (have c15b2 : (t192 == (decide ((Int.tmod a0 1000000000000000) < (Int.tmod a1 1000000000000000)))) = true := by simpa using c15))
                clear c15
                replace H := Option.bind_eq_some_iff.mp H
                obtain ⟨t200, A160, H⟩ := H
                replace H : (if (t200 == ((Int.tmod a0 1000000000000000) == (Int.tmod a1 1000000000000000))) = true then (if t199 = true then (some false) else ((brooklaw3_awake.f k).bind fun t201 => (some t201))) else (some false)) = some r := H
                have A16 := Aside0.mk A160
                clear A160
                by_cases c17 : (t200 == ((Int.tmod a0 1000000000000000) == (Int.tmod a1 1000000000000000))) = true
                · rw [if_pos c17] at H
                  have c17b0 : (t200 == ((Int.tmod a0 1000000000000000) == (Int.tmod a1 1000000000000000))) = true := c17
                  (try (have c17b1 : decide (t200 = ((Int.tmod a0 1000000000000000) == (Int.tmod a1 1000000000000000))) = true := by simpa using c17))
                  (try (have c17b2 : (t200 == ((Int.tmod a0 1000000000000000) == (Int.tmod a1 1000000000000000))) = true := by simpa using c17))
                  clear c17
                  by_cases c18 : t199 = true
                  · subst c18
                    have H1 : (some false) = some r := by rw [if_pos rfl] at H; exact H
                    clear H
                    have H := H1
                    clear H1
                    obtain rfl := Option.some.inj H
                    go_enter Tryd.func4, Tryd.ntmps4
                    go_wp2_with (first | ((with_reducible refine gate_callee (f := 10) rfl ?_); refine goesL_ (some 20) rfl rfl Tryd.func10 (by kernel_rfl) rfl #[.int .i64 (Int.tmod a0 1000000000000000)] rfl (by (try simp only [List.map_toArray, List.map_cons, List.map_nil]); first | done | rfl | (simp only [List.length_drop, List.length_take]; rfl)) ?_; (with_reducible refine (brookref1_Digits.calls (Int.tmod a0 1000000000000000) t190 _ A4.out).mono ?_); rintro e w19 ⟨rfl, hb⟩; refine ⟨_, rfl, ?_⟩; have n0_ := Aside0.mk (below_step (by repeat (first | (with_reducible first | exact HB.out | apply below_alloc | apply pw_below_drewN | apply below_drew1) | exact HB.out)) hb); clear HB; have HB := n0_; clear n0_; (try clear hb); (try clear hb2); (try clear hk); (try clear hi)) | ((with_reducible refine gate_callee (f := 10) rfl ?_); refine goesL_ (some 22) rfl rfl Tryd.func10 (by kernel_rfl) rfl #[.int .i64 (Int.tmod a1 1000000000000000)] rfl (by (try simp only [List.map_toArray, List.map_cons, List.map_nil]); first | done | rfl | (simp only [List.length_drop, List.length_take]; rfl)) ?_; (with_reducible refine (brookref1_Digits.calls (Int.tmod a1 1000000000000000) t191 _ A5.out).mono ?_); rintro e w20 ⟨rfl, hb⟩; refine ⟨_, rfl, ?_⟩; have n0_ := Aside0.mk (below_step (by repeat (first | (with_reducible first | exact HB.out | apply below_alloc | apply pw_below_drewN | apply below_drew1) | exact HB.out)) hb); clear HB; have HB := n0_; clear n0_; (try clear hb); (try clear hb2); (try clear hk); (try clear hi)) | ((with_reducible refine gate_callee (f := 11) rfl ?_); refine goesL_ (some 26) rfl rfl Tryd.func11 (by kernel_rfl) rfl #[.string (⟨#[117, 105, 100, 78, 117, 109, 98, 101, 114]⟩ : ByteArray), .string t190, .string t191] rfl (by (try simp only [List.map_toArray, List.map_cons, List.map_nil]); first | done | rfl | (simp only [List.length_drop, List.length_take]; rfl)) ?_; (with_reducible refine (match_Less.calls k (⟨#[117, 105, 100, 78, 117, 109, 98, 101, 114]⟩ : ByteArray) t190 t191 t192 true _ ?side1 A6.out).mono ?_); (case side1 => first | exact HG.out | exact Gl.drewN HG.out _ | exact Gl.below HG.out (by repeat (first | (with_reducible first | exact HB.out | apply below_alloc | apply pw_below_drewN | apply below_drew1) | exact HB.out))); rintro e w21 ⟨rfl, hb⟩; refine ⟨_, rfl, ?_⟩; have n0_ := Aside0.mk (below_step (by repeat (first | (with_reducible first | exact HB.out | apply below_alloc | apply pw_below_drewN | apply below_drew1) | exact HB.out)) hb); clear HB; have HB := n0_; clear n0_; (try clear hb); (try clear hb2); (try clear hk); (try clear hi)) | ((with_reducible refine gate_dst (N := 40) rfl ?_); refine Kd.R_lit Kd.string _ 9 ?hg (N := 40) ?hd (xs := ([(⟨#[48]⟩ : ByteArray) ++ t190, (⟨#[43]⟩ : ByteArray) ++ t190, t190 ++ (⟨#[32]⟩ : ByteArray), (⟨#[32]⟩ : ByteArray) ++ t190, t190 ++ (⟨#[46, 48]⟩ : ByteArray), (⟨#[45, 48]⟩ : ByteArray), (⟨#[]⟩ : ByteArray), (⟨#[45]⟩ : ByteArray), (⟨#[49, 50, 51, 52, 53, 54, 55, 56, 57, 48, 49, 50, 51, 52, 53, 54]⟩ : ByteArray)] : List ByteArray)) (inner := [.string ((⟨#[48]⟩ : ByteArray) ++ t190), .string ((⟨#[43]⟩ : ByteArray) ++ t190), .string (t190 ++ (⟨#[32]⟩ : ByteArray)), .string ((⟨#[32]⟩ : ByteArray) ++ t190), .string (t190 ++ (⟨#[46, 48]⟩ : ByteArray)), .string (⟨#[45, 48]⟩ : ByteArray), .string (⟨#[]⟩ : ByteArray), .string (⟨#[45]⟩ : ByteArray), .string (⟨#[49, 50, 51, 52, 53, 54, 55, 56, 57, 48, 49, 50, 51, 52, 53, 54]⟩ : ByteArray)]) (ok := fun _ => True) (okp := fun _ => True) ?hr ?hp (fun _ hk => hk) trivial (Below.refl _ _) (Nat.le_refl _) (by simp) ?_; (case hd => rfl); (case hg => rfl); (case hr => first | (go_simp; done) | (go_simp; rfl)); (case hp => exact (Reps.one (show Kd.M Kd.string _ _ _ ((⟨#[48]⟩ : ByteArray) ++ t190) [.string ((⟨#[48]⟩ : ByteArray) ++ t190)] from rfl) (Reps.one (show Kd.M Kd.string _ _ _ ((⟨#[43]⟩ : ByteArray) ++ t190) [.string ((⟨#[43]⟩ : ByteArray) ++ t190)] from rfl) (Reps.one (show Kd.M Kd.string _ _ _ (t190 ++ (⟨#[32]⟩ : ByteArray)) [.string (t190 ++ (⟨#[32]⟩ : ByteArray))] from rfl) (Reps.one (show Kd.M Kd.string _ _ _ ((⟨#[32]⟩ : ByteArray) ++ t190) [.string ((⟨#[32]⟩ : ByteArray) ++ t190)] from rfl) (Reps.one (show Kd.M Kd.string _ _ _ (t190 ++ (⟨#[46, 48]⟩ : ByteArray)) [.string (t190 ++ (⟨#[46, 48]⟩ : ByteArray))] from rfl) (Reps.one (show Kd.M Kd.string _ _ _ (⟨#[45, 48]⟩ : ByteArray) [.string (⟨#[45, 48]⟩ : ByteArray)] from rfl) (Reps.one (show Kd.M Kd.string _ _ _ (⟨#[]⟩ : ByteArray) [.string (⟨#[]⟩ : ByteArray)] from rfl) (Reps.one (show Kd.M Kd.string _ _ _ (⟨#[45]⟩ : ByteArray) [.string (⟨#[45]⟩ : ByteArray)] from rfl) (Reps.one (show Kd.M Kd.string _ _ _ (⟨#[49, 50, 51, 52, 53, 54, 55, 56, 57, 48, 49, 50, 51, 52, 53, 54]⟩ : ByteArray) [.string (⟨#[49, 50, 51, 52, 53, 54, 55, 56, 57, 48, 49, 50, 51, 52, 53, 54]⟩ : ByteArray)] from rfl) (Reps.none _ _))))))))))); intro v195 w22 ho23 hb hg_ hnew_; clear hg_ hnew_; (first | rw [← Ny194.out] at ho23 | (simp only [Int.reduceToNat] at ho23; rw [← Ny194.out] at ho23)); have n0_ := Aside0.mk (Kd.R_lower ho23 (below_size (by repeat (first | (with_reducible first | exact HB.out | apply below_alloc | apply pw_below_drewN | apply below_drew1) | exact HB.out)))); have n1_ := Aside0.mk (below_step (by repeat (first | (with_reducible first | exact HB.out | apply below_alloc | apply pw_below_drewN | apply below_drew1) | exact HB.out)) hb); clear HB; have HO196 := n0_; have HB := n1_; clear n0_ n1_; clear hb ho23; obtain ⟨Ao24, co24, eo24⟩ := Kd.R_slice HO196.out; subst eo24; have p197 : 0 ≤ ((ji10) : Int) := of_decide_eq_true (by first | (with_reducible assumption) | assumption); have q197 : (ji10) < (y194.length : Int) := of_decide_eq_true (by first | (with_reducible assumption) | assumption); obtain ⟨ad197, e197, hx197_0⟩ := Kd.at_string (Kd.R_reads' HO196.out).2.2 (ji10) p197 q197; cases e197; replace p197 := eq_true p197; replace q197 := eq_true q197) | ((with_reducible refine gate_callee (f := 8) rfl ?_); refine goesL_ (some 45) rfl rfl Tryd.func8 (by kernel_rfl) rfl #[.string (⟨#[117, 105, 100, 110, 117, 109, 98, 101, 114]⟩ : ByteArray), .string (rdOf ByteArray.empty y194 (ji10))] rfl (by (try simp only [List.map_toArray, List.map_cons, List.map_nil]); first | done | (simp only [hji10]; rfl) | rfl | (simp only [List.length_drop, List.length_take]; rfl)) ?_; (with_reducible refine (match_Norm.calls k (⟨#[117, 105, 100, 110, 117, 109, 98, 101, 114]⟩ : ByteArray) (rdOf ByteArray.empty y194 (ji10)) t198 true _ ?side1 A13.out).mono ?_); (case side1 => first | exact HG.out | exact Gl.drewN HG.out _ | exact Gl.below HG.out (by repeat (first | (with_reducible first | exact HB.out | apply below_alloc | apply pw_below_drewN | apply below_drew1) | exact HB.out))); rintro e w25 ⟨rfl, hb⟩; refine ⟨_, rfl, ?_⟩; have n0_ := Aside0.mk (Kd.R_below (by (with_reducible repeat (first | apply Kd.R_alloc | apply Kd.R_drewN | apply Kd.R_drew)); exact HO196.out) hb); have n1_ := Aside0.mk (below_step (by repeat (first | (with_reducible first | exact HB.out | apply below_alloc | apply pw_below_drewN | apply below_drew1) | exact HB.out)) hb); clear HO196; clear HB; have HO196 := n0_; have HB := n1_; clear n0_ n1_; (try clear hb); (try clear hb2); (try clear hk); (try clear hi)) | (go_at_call 9; (with_reducible refine (match_Same.calls k (⟨#[117, 105, 100, 110, 117, 109, 98, 101, 114]⟩ : ByteArray) t190 t191 t200 _ ?side1 A16.out).mono ?_); (case side1 => first | exact HG.out | exact Gl.drewN HG.out _ | exact Gl.below HG.out (by repeat (first | (with_reducible first | exact HB.out | apply below_alloc | apply pw_below_drewN | apply below_drew1) | exact HB.out))); rintro e w26 ⟨rfl, hb⟩; have n0_ := Aside0.mk (Kd.R_below (by (with_reducible repeat (first | apply Kd.R_alloc | apply Kd.R_drewN | apply Kd.R_drew)); exact HO196.out) hb); have n1_ := Aside0.mk (below_step (by repeat (first | (with_reducible first | exact HB.out | apply below_alloc | apply pw_below_drewN | apply below_drew1) | exact HB.out)) hb); clear HO196; clear HB; have HO196 := n0_; have HB := n1_; clear n0_ n1_; (try clear hb); (try clear hb2); (try clear hk); (try clear hi)))
                    go_ret
                    exact ⟨by first | rfl | (simp [errW_none, errW_some] <;> rfl) | (simp only [← hji10]; first | rfl | (simp [errW_none, errW_some] <;> rfl)) | (simp [*, errW_none, errW_some] <;> rfl), by repeat (first | (with_reducible first | exact HB.out | apply below_alloc | apply pw_below_drewN | apply below_drew1) | exact HB.out)⟩
                  · replace c18 := Bool.eq_false_iff.mpr c18
                    subst c18
                    have H1 : ((brooklaw3_awake.f k).bind fun t201 => (some t201)) = some r := by rw [if_neg (show ¬ (false = true) by decide)] at H; exact H
                    clear H
                    have H := H1
                    clear H1
                    replace H := Option.bind_eq_some_iff.mp H
                    obtain ⟨t201, A270, H⟩ := H
                    replace H : (some t201) = some r := H
                    have A27 := Aside0.mk A270
                    clear A270
                    obtain rfl := Option.some.inj H
                    go_enter Tryd.func4, Tryd.ntmps4
                    go_wp2_with (first | ((with_reducible refine gate_callee (f := 10) rfl ?_); refine goesL_ (some 20) rfl rfl Tryd.func10 (by kernel_rfl) rfl #[.int .i64 (Int.tmod a0 1000000000000000)] rfl (by (try simp only [List.map_toArray, List.map_cons, List.map_nil]); first | done | rfl | (simp only [List.length_drop, List.length_take]; rfl)) ?_; (with_reducible refine (brookref1_Digits.calls (Int.tmod a0 1000000000000000) t190 _ A4.out).mono ?_); rintro e w28 ⟨rfl, hb⟩; refine ⟨_, rfl, ?_⟩; have n0_ := Aside0.mk (below_step (by repeat (first | (with_reducible first | exact HB.out | apply below_alloc | apply pw_below_drewN | apply below_drew1) | exact HB.out)) hb); clear HB; have HB := n0_; clear n0_; (try clear hb); (try clear hb2); (try clear hk); (try clear hi)) | ((with_reducible refine gate_callee (f := 10) rfl ?_); refine goesL_ (some 22) rfl rfl Tryd.func10 (by kernel_rfl) rfl #[.int .i64 (Int.tmod a1 1000000000000000)] rfl (by (try simp only [List.map_toArray, List.map_cons, List.map_nil]); first | done | rfl | (simp only [List.length_drop, List.length_take]; rfl)) ?_; (with_reducible refine (brookref1_Digits.calls (Int.tmod a1 1000000000000000) t191 _ A5.out).mono ?_); rintro e w29 ⟨rfl, hb⟩; refine ⟨_, rfl, ?_⟩; have n0_ := Aside0.mk (below_step (by repeat (first | (with_reducible first | exact HB.out | apply below_alloc | apply pw_below_drewN | apply below_drew1) | exact HB.out)) hb); clear HB; have HB := n0_; clear n0_; (try clear hb); (try clear hb2); (try clear hk); (try clear hi)) | ((with_reducible refine gate_callee (f := 11) rfl ?_); refine goesL_ (some 26) rfl rfl Tryd.func11 (by kernel_rfl) rfl #[.string (⟨#[117, 105, 100, 78, 117, 109, 98, 101, 114]⟩ : ByteArray), .string t190, .string t191] rfl (by (try simp only [List.map_toArray, List.map_cons, List.map_nil]); first | done | rfl | (simp only [List.length_drop, List.length_take]; rfl)) ?_; (with_reducible refine (match_Less.calls k (⟨#[117, 105, 100, 78, 117, 109, 98, 101, 114]⟩ : ByteArray) t190 t191 t192 true _ ?side1 A6.out).mono ?_); (case side1 => first | exact HG.out | exact Gl.drewN HG.out _ | exact Gl.below HG.out (by repeat (first | (with_reducible first | exact HB.out | apply below_alloc | apply pw_below_drewN | apply below_drew1) | exact HB.out))); rintro e w30 ⟨rfl, hb⟩; refine ⟨_, rfl, ?_⟩; have n0_ := Aside0.mk (below_step (by repeat (first | (with_reducible first | exact HB.out | apply below_alloc | apply pw_below_drewN | apply below_drew1) | exact HB.out)) hb); clear HB; have HB := n0_; clear n0_; (try clear hb); (try clear hb2); (try clear hk); (try clear hi)) | ((with_reducible refine gate_dst (N := 40) rfl ?_); refine Kd.R_lit Kd.string _ 9 ?hg (N := 40) ?hd (xs := ([(⟨#[48]⟩ : ByteArray) ++ t190, (⟨#[43]⟩ : ByteArray) ++ t190, t190 ++ (⟨#[32]⟩ : ByteArray), (⟨#[32]⟩ : ByteArray) ++ t190, t190 ++ (⟨#[46, 48]⟩ : ByteArray), (⟨#[45, 48]⟩ : ByteArray), (⟨#[]⟩ : ByteArray), (⟨#[45]⟩ : ByteArray), (⟨#[49, 50, 51, 52, 53, 54, 55, 56, 57, 48, 49, 50, 51, 52, 53, 54]⟩ : ByteArray)] : List ByteArray)) (inner := [.string ((⟨#[48]⟩ : ByteArray) ++ t190), .string ((⟨#[43]⟩ : ByteArray) ++ t190), .string (t190 ++ (⟨#[32]⟩ : ByteArray)), .string ((⟨#[32]⟩ : ByteArray) ++ t190), .string (t190 ++ (⟨#[46, 48]⟩ : ByteArray)), .string (⟨#[45, 48]⟩ : ByteArray), .string (⟨#[]⟩ : ByteArray), .string (⟨#[45]⟩ : ByteArray), .string (⟨#[49, 50, 51, 52, 53, 54, 55, 56, 57, 48, 49, 50, 51, 52, 53, 54]⟩ : ByteArray)]) (ok := fun _ => True) (okp := fun _ => True) ?hr ?hp (fun _ hk => hk) trivial (Below.refl _ _) (Nat.le_refl _) (by simp) ?_; (case hd => rfl); (case hg => rfl); (case hr => first | (go_simp; done) | (go_simp; rfl)); (case hp => exact (Reps.one (show Kd.M Kd.string _ _ _ ((⟨#[48]⟩ : ByteArray) ++ t190) [.string ((⟨#[48]⟩ : ByteArray) ++ t190)] from rfl) (Reps.one (show Kd.M Kd.string _ _ _ ((⟨#[43]⟩ : ByteArray) ++ t190) [.string ((⟨#[43]⟩ : ByteArray) ++ t190)] from rfl) (Reps.one (show Kd.M Kd.string _ _ _ (t190 ++ (⟨#[32]⟩ : ByteArray)) [.string (t190 ++ (⟨#[32]⟩ : ByteArray))] from rfl) (Reps.one (show Kd.M Kd.string _ _ _ ((⟨#[32]⟩ : ByteArray) ++ t190) [.string ((⟨#[32]⟩ : ByteArray) ++ t190)] from rfl) (Reps.one (show Kd.M Kd.string _ _ _ (t190 ++ (⟨#[46, 48]⟩ : ByteArray)) [.string (t190 ++ (⟨#[46, 48]⟩ : ByteArray))] from rfl) (Reps.one (show Kd.M Kd.string _ _ _ (⟨#[45, 48]⟩ : ByteArray) [.string (⟨#[45, 48]⟩ : ByteArray)] from rfl) (Reps.one (show Kd.M Kd.string _ _ _ (⟨#[]⟩ : ByteArray) [.string (⟨#[]⟩ : ByteArray)] from rfl) (Reps.one (show Kd.M Kd.string _ _ _ (⟨#[45]⟩ : ByteArray) [.string (⟨#[45]⟩ : ByteArray)] from rfl) (Reps.one (show Kd.M Kd.string _ _ _ (⟨#[49, 50, 51, 52, 53, 54, 55, 56, 57, 48, 49, 50, 51, 52, 53, 54]⟩ : ByteArray) [.string (⟨#[49, 50, 51, 52, 53, 54, 55, 56, 57, 48, 49, 50, 51, 52, 53, 54]⟩ : ByteArray)] from rfl) (Reps.none _ _))))))))))); intro v195 w31 ho32 hb hg_ hnew_; clear hg_ hnew_; (first | rw [← Ny194.out] at ho32 | (simp only [Int.reduceToNat] at ho32; rw [← Ny194.out] at ho32)); have n0_ := Aside0.mk (Kd.R_lower ho32 (below_size (by repeat (first | (with_reducible first | exact HB.out | apply below_alloc | apply pw_below_drewN | apply below_drew1) | exact HB.out)))); have n1_ := Aside0.mk (below_step (by repeat (first | (with_reducible first | exact HB.out | apply below_alloc | apply pw_below_drewN | apply below_drew1) | exact HB.out)) hb); clear HB; have HO196 := n0_; have HB := n1_; clear n0_ n1_; clear hb ho32; obtain ⟨Ao33, co33, eo33⟩ := Kd.R_slice HO196.out; subst eo33; have p197 : 0 ≤ ((ji10) : Int) := of_decide_eq_true (by first | (with_reducible assumption) | assumption); have q197 : (ji10) < (y194.length : Int) := of_decide_eq_true (by first | (with_reducible assumption) | assumption); obtain ⟨ad197, e197, hx197_0⟩ := Kd.at_string (Kd.R_reads' HO196.out).2.2 (ji10) p197 q197; cases e197; replace p197 := eq_true p197; replace q197 := eq_true q197) | ((with_reducible refine gate_callee (f := 8) rfl ?_); refine goesL_ (some 45) rfl rfl Tryd.func8 (by kernel_rfl) rfl #[.string (⟨#[117, 105, 100, 110, 117, 109, 98, 101, 114]⟩ : ByteArray), .string (rdOf ByteArray.empty y194 (ji10))] rfl (by (try simp only [List.map_toArray, List.map_cons, List.map_nil]); first | done | (simp only [hji10]; rfl) | rfl | (simp only [List.length_drop, List.length_take]; rfl)) ?_; (with_reducible refine (match_Norm.calls k (⟨#[117, 105, 100, 110, 117, 109, 98, 101, 114]⟩ : ByteArray) (rdOf ByteArray.empty y194 (ji10)) t198 false _ ?side1 A13.out).mono ?_); (case side1 => first | exact HG.out | exact Gl.drewN HG.out _ | exact Gl.below HG.out (by repeat (first | (with_reducible first | exact HB.out | apply below_alloc | apply pw_below_drewN | apply below_drew1) | exact HB.out))); rintro e w34 ⟨rfl, hb⟩; refine ⟨_, rfl, ?_⟩; have n0_ := Aside0.mk (Kd.R_below (by (with_reducible repeat (first | apply Kd.R_alloc | apply Kd.R_drewN | apply Kd.R_drew)); exact HO196.out) hb); have n1_ := Aside0.mk (below_step (by repeat (first | (with_reducible first | exact HB.out | apply below_alloc | apply pw_below_drewN | apply below_drew1) | exact HB.out)) hb); clear HO196; clear HB; have HO196 := n0_; have HB := n1_; clear n0_ n1_; (try clear hb); (try clear hb2); (try clear hk); (try clear hi)) | (go_at_call 9; (with_reducible refine (match_Same.calls k (⟨#[117, 105, 100, 110, 117, 109, 98, 101, 114]⟩ : ByteArray) t190 t191 t200 _ ?side1 A16.out).mono ?_); (case side1 => first | exact HG.out | exact Gl.drewN HG.out _ | exact Gl.below HG.out (by repeat (first | (with_reducible first | exact HB.out | apply below_alloc | apply pw_below_drewN | apply below_drew1) | exact HB.out))); rintro e w35 ⟨rfl, hb⟩; have n0_ := Aside0.mk (Kd.R_below (by (with_reducible repeat (first | apply Kd.R_alloc | apply Kd.R_drewN | apply Kd.R_drew)); exact HO196.out) hb); have n1_ := Aside0.mk (below_step (by repeat (first | (with_reducible first | exact HB.out | apply below_alloc | apply pw_below_drewN | apply below_drew1) | exact HB.out)) hb); clear HO196; clear HB; have HO196 := n0_; have HB := n1_; clear n0_ n1_; (try clear hb); (try clear hb2); (try clear hk); (try clear hi)) | (go_at_call 6; (with_reducible refine (brooklaw3_awake.calls k  t201 _ ?side1 A27.out).mono ?_); (case side1 => first | exact HG.out | exact Gl.drewN HG.out _ | exact Gl.below HG.out (by repeat (first | (with_reducible first | exact HB.out | apply below_alloc | apply pw_below_drewN | apply below_drew1) | exact HB.out))); rintro e w36 ⟨rfl, hb⟩; have n0_ := Aside0.mk (Kd.R_below (by (with_reducible repeat (first | apply Kd.R_alloc | apply Kd.R_drewN | apply Kd.R_drew)); exact HO196.out) hb); have n1_ := Aside0.mk (below_step (by repeat (first | (with_reducible first | exact HB.out | apply below_alloc | apply pw_below_drewN | apply below_drew1) | exact HB.out)) hb); clear HO196; clear HB; have HO196 := n0_; have HB := n1_; clear n0_ n1_; (try clear hb); (try clear hb2); (try clear hk); (try clear hi)))
                    go_ret
                    exact ⟨by first | rfl | (simp [errW_none, errW_some] <;> rfl) | (simp only [← hji10]; first | rfl | (simp [errW_none, errW_some] <;> rfl)) | (simp [*, errW_none, errW_some] <;> rfl), by repeat (first | (with_reducible first | exact HB.out | apply below_alloc | apply pw_below_drewN | apply below_drew1) | exact HB.out)⟩
                · rw [if_neg c17] at H
                  have c17b0 : (t200 == ((Int.tmod a0 1000000000000000) == (Int.tmod a1 1000000000000000))) = false := by simpa using c17
                  (try (have c17b1 : decide (t200 = ((Int.tmod a0 1000000000000000) == (Int.tmod a1 1000000000000000))) = false := by simpa using c17))
                  (try (have c17b2 : (t200 == ((Int.tmod a0 1000000000000000) == (Int.tmod a1 1000000000000000))) = false := by simpa using c17))
                  (try (have c17b3 : ¬ (t200 = ((Int.tmod a0 1000000000000000) == (Int.tmod a1 1000000000000000))) := by simpa using c17))
                  clear c17
                  obtain rfl := Option.some.inj H
                  go_enter Tryd.func4, Tryd.ntmps4
                  go_wp2_with (first | ((with_reducible refine gate_callee (f := 10) rfl ?_); refine goesL_ (some 20) rfl rfl Tryd.func10 (by kernel_rfl) rfl #[.int .i64 (Int.tmod a0 1000000000000000)] rfl (by (try simp only [List.map_toArray, List.map_cons, List.map_nil]); first | done | rfl | (simp only [List.length_drop, List.length_take]; rfl)) ?_; (with_reducible refine (brookref1_Digits.calls (Int.tmod a0 1000000000000000) t190 _ A4.out).mono ?_); rintro e w37 ⟨rfl, hb⟩; refine ⟨_, rfl, ?_⟩; have n0_ := Aside0.mk (below_step (by repeat (first | (with_reducible first | exact HB.out | apply below_alloc | apply pw_below_drewN | apply below_drew1) | exact HB.out)) hb); clear HB; have HB := n0_; clear n0_; (try clear hb); (try clear hb2); (try clear hk); (try clear hi)) | ((with_reducible refine gate_callee (f := 10) rfl ?_); refine goesL_ (some 22) rfl rfl Tryd.func10 (by kernel_rfl) rfl #[.int .i64 (Int.tmod a1 1000000000000000)] rfl (by (try simp only [List.map_toArray, List.map_cons, List.map_nil]); first | done | rfl | (simp only [List.length_drop, List.length_take]; rfl)) ?_; (with_reducible refine (brookref1_Digits.calls (Int.tmod a1 1000000000000000) t191 _ A5.out).mono ?_); rintro e w38 ⟨rfl, hb⟩; refine ⟨_, rfl, ?_⟩; have n0_ := Aside0.mk (below_step (by repeat (first | (with_reducible first | exact HB.out | apply below_alloc | apply pw_below_drewN | apply below_drew1) | exact HB.out)) hb); clear HB; have HB := n0_; clear n0_; (try clear hb); (try clear hb2); (try clear hk); (try clear hi)) | ((with_reducible refine gate_callee (f := 11) rfl ?_); refine goesL_ (some 26) rfl rfl Tryd.func11 (by kernel_rfl) rfl #[.string (⟨#[117, 105, 100, 78, 117, 109, 98, 101, 114]⟩ : ByteArray), .string t190, .string t191] rfl (by (try simp only [List.map_toArray, List.map_cons, List.map_nil]); first | done | rfl | (simp only [List.length_drop, List.length_take]; rfl)) ?_; (with_reducible refine (match_Less.calls k (⟨#[117, 105, 100, 78, 117, 109, 98, 101, 114]⟩ : ByteArray) t190 t191 t192 true _ ?side1 A6.out).mono ?_); (case side1 => first | exact HG.out | exact Gl.drewN HG.out _ | exact Gl.below HG.out (by repeat (first | (with_reducible first | exact HB.out | apply below_alloc | apply pw_below_drewN | apply below_drew1) | exact HB.out))); rintro e w39 ⟨rfl, hb⟩; refine ⟨_, rfl, ?_⟩; have n0_ := Aside0.mk (below_step (by repeat (first | (with_reducible first | exact HB.out | apply below_alloc | apply pw_below_drewN | apply below_drew1) | exact HB.out)) hb); clear HB; have HB := n0_; clear n0_; (try clear hb); (try clear hb2); (try clear hk); (try clear hi)) | ((with_reducible refine gate_dst (N := 40) rfl ?_); refine Kd.R_lit Kd.string _ 9 ?hg (N := 40) ?hd (xs := ([(⟨#[48]⟩ : ByteArray) ++ t190, (⟨#[43]⟩ : ByteArray) ++ t190, t190 ++ (⟨#[32]⟩ : ByteArray), (⟨#[32]⟩ : ByteArray) ++ t190, t190 ++ (⟨#[46, 48]⟩ : ByteArray), (⟨#[45, 48]⟩ : ByteArray), (⟨#[]⟩ : ByteArray), (⟨#[45]⟩ : ByteArray), (⟨#[49, 50, 51, 52, 53, 54, 55, 56, 57, 48, 49, 50, 51, 52, 53, 54]⟩ : ByteArray)] : List ByteArray)) (inner := [.string ((⟨#[48]⟩ : ByteArray) ++ t190), .string ((⟨#[43]⟩ : ByteArray) ++ t190), .string (t190 ++ (⟨#[32]⟩ : ByteArray)), .string ((⟨#[32]⟩ : ByteArray) ++ t190), .string (t190 ++ (⟨#[46, 48]⟩ : ByteArray)), .string (⟨#[45, 48]⟩ : ByteArray), .string (⟨#[]⟩ : ByteArray), .string (⟨#[45]⟩ : ByteArray), .string (⟨#[49, 50, 51, 52, 53, 54, 55, 56, 57, 48, 49, 50, 51, 52, 53, 54]⟩ : ByteArray)]) (ok := fun _ => True) (okp := fun _ => True) ?hr ?hp (fun _ hk => hk) trivial (Below.refl _ _) (Nat.le_refl _) (by simp) ?_; (case hd => rfl); (case hg => rfl); (case hr => first | (go_simp; done) | (go_simp; rfl)); (case hp => exact (Reps.one (show Kd.M Kd.string _ _ _ ((⟨#[48]⟩ : ByteArray) ++ t190) [.string ((⟨#[48]⟩ : ByteArray) ++ t190)] from rfl) (Reps.one (show Kd.M Kd.string _ _ _ ((⟨#[43]⟩ : ByteArray) ++ t190) [.string ((⟨#[43]⟩ : ByteArray) ++ t190)] from rfl) (Reps.one (show Kd.M Kd.string _ _ _ (t190 ++ (⟨#[32]⟩ : ByteArray)) [.string (t190 ++ (⟨#[32]⟩ : ByteArray))] from rfl) (Reps.one (show Kd.M Kd.string _ _ _ ((⟨#[32]⟩ : ByteArray) ++ t190) [.string ((⟨#[32]⟩ : ByteArray) ++ t190)] from rfl) (Reps.one (show Kd.M Kd.string _ _ _ (t190 ++ (⟨#[46, 48]⟩ : ByteArray)) [.string (t190 ++ (⟨#[46, 48]⟩ : ByteArray))] from rfl) (Reps.one (show Kd.M Kd.string _ _ _ (⟨#[45, 48]⟩ : ByteArray) [.string (⟨#[45, 48]⟩ : ByteArray)] from rfl) (Reps.one (show Kd.M Kd.string _ _ _ (⟨#[]⟩ : ByteArray) [.string (⟨#[]⟩ : ByteArray)] from rfl) (Reps.one (show Kd.M Kd.string _ _ _ (⟨#[45]⟩ : ByteArray) [.string (⟨#[45]⟩ : ByteArray)] from rfl) (Reps.one (show Kd.M Kd.string _ _ _ (⟨#[49, 50, 51, 52, 53, 54, 55, 56, 57, 48, 49, 50, 51, 52, 53, 54]⟩ : ByteArray) [.string (⟨#[49, 50, 51, 52, 53, 54, 55, 56, 57, 48, 49, 50, 51, 52, 53, 54]⟩ : ByteArray)] from rfl) (Reps.none _ _))))))))))); intro v195 w40 ho41 hb hg_ hnew_; clear hg_ hnew_; (first | rw [← Ny194.out] at ho41 | (simp only [Int.reduceToNat] at ho41; rw [← Ny194.out] at ho41)); have n0_ := Aside0.mk (Kd.R_lower ho41 (below_size (by repeat (first | (with_reducible first | exact HB.out | apply below_alloc | apply pw_below_drewN | apply below_drew1) | exact HB.out)))); have n1_ := Aside0.mk (below_step (by repeat (first | (with_reducible first | exact HB.out | apply below_alloc | apply pw_below_drewN | apply below_drew1) | exact HB.out)) hb); clear HB; have HO196 := n0_; have HB := n1_; clear n0_ n1_; clear hb ho41; obtain ⟨Ao42, co42, eo42⟩ := Kd.R_slice HO196.out; subst eo42; have p197 : 0 ≤ ((ji10) : Int) := of_decide_eq_true (by first | (with_reducible assumption) | assumption); have q197 : (ji10) < (y194.length : Int) := of_decide_eq_true (by first | (with_reducible assumption) | assumption); obtain ⟨ad197, e197, hx197_0⟩ := Kd.at_string (Kd.R_reads' HO196.out).2.2 (ji10) p197 q197; cases e197; replace p197 := eq_true p197; replace q197 := eq_true q197) | ((with_reducible refine gate_callee (f := 8) rfl ?_); refine goesL_ (some 45) rfl rfl Tryd.func8 (by kernel_rfl) rfl #[.string (⟨#[117, 105, 100, 110, 117, 109, 98, 101, 114]⟩ : ByteArray), .string (rdOf ByteArray.empty y194 (ji10))] rfl (by (try simp only [List.map_toArray, List.map_cons, List.map_nil]); first | done | (simp only [hji10]; rfl) | rfl | (simp only [List.length_drop, List.length_take]; rfl)) ?_; (with_reducible refine (match_Norm.calls k (⟨#[117, 105, 100, 110, 117, 109, 98, 101, 114]⟩ : ByteArray) (rdOf ByteArray.empty y194 (ji10)) t198 t199 _ ?side1 A13.out).mono ?_); (case side1 => first | exact HG.out | exact Gl.drewN HG.out _ | exact Gl.below HG.out (by repeat (first | (with_reducible first | exact HB.out | apply below_alloc | apply pw_below_drewN | apply below_drew1) | exact HB.out))); rintro e w43 ⟨rfl, hb⟩; refine ⟨_, rfl, ?_⟩; have n0_ := Aside0.mk (Kd.R_below (by (with_reducible repeat (first | apply Kd.R_alloc | apply Kd.R_drewN | apply Kd.R_drew)); exact HO196.out) hb); have n1_ := Aside0.mk (below_step (by repeat (first | (with_reducible first | exact HB.out | apply below_alloc | apply pw_below_drewN | apply below_drew1) | exact HB.out)) hb); clear HO196; clear HB; have HO196 := n0_; have HB := n1_; clear n0_ n1_; (try clear hb); (try clear hb2); (try clear hk); (try clear hi)) | (go_at_call 9; (with_reducible refine (match_Same.calls k (⟨#[117, 105, 100, 110, 117, 109, 98, 101, 114]⟩ : ByteArray) t190 t191 t200 _ ?side1 A16.out).mono ?_); (case side1 => first | exact HG.out | exact Gl.drewN HG.out _ | exact Gl.below HG.out (by repeat (first | (with_reducible first | exact HB.out | apply below_alloc | apply pw_below_drewN | apply below_drew1) | exact HB.out))); rintro e w44 ⟨rfl, hb⟩; have n0_ := Aside0.mk (Kd.R_below (by (with_reducible repeat (first | apply Kd.R_alloc | apply Kd.R_drewN | apply Kd.R_drew)); exact HO196.out) hb); have n1_ := Aside0.mk (below_step (by repeat (first | (with_reducible first | exact HB.out | apply below_alloc | apply pw_below_drewN | apply below_drew1) | exact HB.out)) hb); clear HO196; clear HB; have HO196 := n0_; have HB := n1_; clear n0_ n1_; (try clear hb); (try clear hb2); (try clear hk); (try clear hi)))
                  go_ret
                  exact ⟨by first | rfl | (simp [errW_none, errW_some] <;> rfl) | (simp only [← hji10]; first | rfl | (simp [errW_none, errW_some] <;> rfl)) | (simp [*, errW_none, errW_some] <;> rfl), by repeat (first | (with_reducible first | exact HB.out | apply below_alloc | apply pw_below_drewN | apply below_drew1) | exact HB.out)⟩
              · rw [if_neg c15] at H
                have c15b0 : (t192 == (decide ((Int.tmod a0 1000000000000000) < (Int.tmod a1 1000000000000000)))) = false := by simpa using c15
                (try (have c15b1 : decide (t192 = (decide ((Int.tmod a0 1000000000000000) < (Int.tmod a1 1000000000000000)))) = false := by simpa using c15))
                (try (have c15b2 : (t192 == (decide ((Int.tmod a0 1000000000000000) < (Int.tmod a1 1000000000000000)))) = false := by simpa using c15))
                (try (have c15b3 : ¬ (t192 = (decide ((Int.tmod a0 1000000000000000) < (Int.tmod a1 1000000000000000)))) := by simpa using c15))
                clear c15
                obtain rfl := Option.some.inj H
                go_enter Tryd.func4, Tryd.ntmps4
                go_wp2_with (first | ((with_reducible refine gate_callee (f := 10) rfl ?_); refine goesL_ (some 20) rfl rfl Tryd.func10 (by kernel_rfl) rfl #[.int .i64 (Int.tmod a0 1000000000000000)] rfl (by (try simp only [List.map_toArray, List.map_cons, List.map_nil]); first | done | rfl | (simp only [List.length_drop, List.length_take]; rfl)) ?_; (with_reducible refine (brookref1_Digits.calls (Int.tmod a0 1000000000000000) t190 _ A4.out).mono ?_); rintro e w45 ⟨rfl, hb⟩; refine ⟨_, rfl, ?_⟩; have n0_ := Aside0.mk (below_step (by repeat (first | (with_reducible first | exact HB.out | apply below_alloc | apply pw_below_drewN | apply below_drew1) | exact HB.out)) hb); clear HB; have HB := n0_; clear n0_; (try clear hb); (try clear hb2); (try clear hk); (try clear hi)) | ((with_reducible refine gate_callee (f := 10) rfl ?_); refine goesL_ (some 22) rfl rfl Tryd.func10 (by kernel_rfl) rfl #[.int .i64 (Int.tmod a1 1000000000000000)] rfl (by (try simp only [List.map_toArray, List.map_cons, List.map_nil]); first | done | rfl | (simp only [List.length_drop, List.length_take]; rfl)) ?_; (with_reducible refine (brookref1_Digits.calls (Int.tmod a1 1000000000000000) t191 _ A5.out).mono ?_); rintro e w46 ⟨rfl, hb⟩; refine ⟨_, rfl, ?_⟩; have n0_ := Aside0.mk (below_step (by repeat (first | (with_reducible first | exact HB.out | apply below_alloc | apply pw_below_drewN | apply below_drew1) | exact HB.out)) hb); clear HB; have HB := n0_; clear n0_; (try clear hb); (try clear hb2); (try clear hk); (try clear hi)) | ((with_reducible refine gate_callee (f := 11) rfl ?_); refine goesL_ (some 26) rfl rfl Tryd.func11 (by kernel_rfl) rfl #[.string (⟨#[117, 105, 100, 78, 117, 109, 98, 101, 114]⟩ : ByteArray), .string t190, .string t191] rfl (by (try simp only [List.map_toArray, List.map_cons, List.map_nil]); first | done | rfl | (simp only [List.length_drop, List.length_take]; rfl)) ?_; (with_reducible refine (match_Less.calls k (⟨#[117, 105, 100, 78, 117, 109, 98, 101, 114]⟩ : ByteArray) t190 t191 t192 true _ ?side1 A6.out).mono ?_); (case side1 => first | exact HG.out | exact Gl.drewN HG.out _ | exact Gl.below HG.out (by repeat (first | (with_reducible first | exact HB.out | apply below_alloc | apply pw_below_drewN | apply below_drew1) | exact HB.out))); rintro e w47 ⟨rfl, hb⟩; refine ⟨_, rfl, ?_⟩; have n0_ := Aside0.mk (below_step (by repeat (first | (with_reducible first | exact HB.out | apply below_alloc | apply pw_below_drewN | apply below_drew1) | exact HB.out)) hb); clear HB; have HB := n0_; clear n0_; (try clear hb); (try clear hb2); (try clear hk); (try clear hi)) | ((with_reducible refine gate_dst (N := 40) rfl ?_); refine Kd.R_lit Kd.string _ 9 ?hg (N := 40) ?hd (xs := ([(⟨#[48]⟩ : ByteArray) ++ t190, (⟨#[43]⟩ : ByteArray) ++ t190, t190 ++ (⟨#[32]⟩ : ByteArray), (⟨#[32]⟩ : ByteArray) ++ t190, t190 ++ (⟨#[46, 48]⟩ : ByteArray), (⟨#[45, 48]⟩ : ByteArray), (⟨#[]⟩ : ByteArray), (⟨#[45]⟩ : ByteArray), (⟨#[49, 50, 51, 52, 53, 54, 55, 56, 57, 48, 49, 50, 51, 52, 53, 54]⟩ : ByteArray)] : List ByteArray)) (inner := [.string ((⟨#[48]⟩ : ByteArray) ++ t190), .string ((⟨#[43]⟩ : ByteArray) ++ t190), .string (t190 ++ (⟨#[32]⟩ : ByteArray)), .string ((⟨#[32]⟩ : ByteArray) ++ t190), .string (t190 ++ (⟨#[46, 48]⟩ : ByteArray)), .string (⟨#[45, 48]⟩ : ByteArray), .string (⟨#[]⟩ : ByteArray), .string (⟨#[45]⟩ : ByteArray), .string (⟨#[49, 50, 51, 52, 53, 54, 55, 56, 57, 48, 49, 50, 51, 52, 53, 54]⟩ : ByteArray)]) (ok := fun _ => True) (okp := fun _ => True) ?hr ?hp (fun _ hk => hk) trivial (Below.refl _ _) (Nat.le_refl _) (by simp) ?_; (case hd => rfl); (case hg => rfl); (case hr => first | (go_simp; done) | (go_simp; rfl)); (case hp => exact (Reps.one (show Kd.M Kd.string _ _ _ ((⟨#[48]⟩ : ByteArray) ++ t190) [.string ((⟨#[48]⟩ : ByteArray) ++ t190)] from rfl) (Reps.one (show Kd.M Kd.string _ _ _ ((⟨#[43]⟩ : ByteArray) ++ t190) [.string ((⟨#[43]⟩ : ByteArray) ++ t190)] from rfl) (Reps.one (show Kd.M Kd.string _ _ _ (t190 ++ (⟨#[32]⟩ : ByteArray)) [.string (t190 ++ (⟨#[32]⟩ : ByteArray))] from rfl) (Reps.one (show Kd.M Kd.string _ _ _ ((⟨#[32]⟩ : ByteArray) ++ t190) [.string ((⟨#[32]⟩ : ByteArray) ++ t190)] from rfl) (Reps.one (show Kd.M Kd.string _ _ _ (t190 ++ (⟨#[46, 48]⟩ : ByteArray)) [.string (t190 ++ (⟨#[46, 48]⟩ : ByteArray))] from rfl) (Reps.one (show Kd.M Kd.string _ _ _ (⟨#[45, 48]⟩ : ByteArray) [.string (⟨#[45, 48]⟩ : ByteArray)] from rfl) (Reps.one (show Kd.M Kd.string _ _ _ (⟨#[]⟩ : ByteArray) [.string (⟨#[]⟩ : ByteArray)] from rfl) (Reps.one (show Kd.M Kd.string _ _ _ (⟨#[45]⟩ : ByteArray) [.string (⟨#[45]⟩ : ByteArray)] from rfl) (Reps.one (show Kd.M Kd.string _ _ _ (⟨#[49, 50, 51, 52, 53, 54, 55, 56, 57, 48, 49, 50, 51, 52, 53, 54]⟩ : ByteArray) [.string (⟨#[49, 50, 51, 52, 53, 54, 55, 56, 57, 48, 49, 50, 51, 52, 53, 54]⟩ : ByteArray)] from rfl) (Reps.none _ _))))))))))); intro v195 w48 ho49 hb hg_ hnew_; clear hg_ hnew_; (first | rw [← Ny194.out] at ho49 | (simp only [Int.reduceToNat] at ho49; rw [← Ny194.out] at ho49)); have n0_ := Aside0.mk (Kd.R_lower ho49 (below_size (by repeat (first | (with_reducible first | exact HB.out | apply below_alloc | apply pw_below_drewN | apply below_drew1) | exact HB.out)))); have n1_ := Aside0.mk (below_step (by repeat (first | (with_reducible first | exact HB.out | apply below_alloc | apply pw_below_drewN | apply below_drew1) | exact HB.out)) hb); clear HB; have HO196 := n0_; have HB := n1_; clear n0_ n1_; clear hb ho49; obtain ⟨Ao50, co50, eo50⟩ := Kd.R_slice HO196.out; subst eo50; have p197 : 0 ≤ ((ji10) : Int) := of_decide_eq_true (by first | (with_reducible assumption) | assumption); have q197 : (ji10) < (y194.length : Int) := of_decide_eq_true (by first | (with_reducible assumption) | assumption); obtain ⟨ad197, e197, hx197_0⟩ := Kd.at_string (Kd.R_reads' HO196.out).2.2 (ji10) p197 q197; cases e197; replace p197 := eq_true p197; replace q197 := eq_true q197) | ((with_reducible refine gate_callee (f := 8) rfl ?_); refine goesL_ (some 45) rfl rfl Tryd.func8 (by kernel_rfl) rfl #[.string (⟨#[117, 105, 100, 110, 117, 109, 98, 101, 114]⟩ : ByteArray), .string (rdOf ByteArray.empty y194 (ji10))] rfl (by (try simp only [List.map_toArray, List.map_cons, List.map_nil]); first | done | (simp only [hji10]; rfl) | rfl | (simp only [List.length_drop, List.length_take]; rfl)) ?_; (with_reducible refine (match_Norm.calls k (⟨#[117, 105, 100, 110, 117, 109, 98, 101, 114]⟩ : ByteArray) (rdOf ByteArray.empty y194 (ji10)) t198 t199 _ ?side1 A13.out).mono ?_); (case side1 => first | exact HG.out | exact Gl.drewN HG.out _ | exact Gl.below HG.out (by repeat (first | (with_reducible first | exact HB.out | apply below_alloc | apply pw_below_drewN | apply below_drew1) | exact HB.out))); rintro e w51 ⟨rfl, hb⟩; refine ⟨_, rfl, ?_⟩; have n0_ := Aside0.mk (Kd.R_below (by (with_reducible repeat (first | apply Kd.R_alloc | apply Kd.R_drewN | apply Kd.R_drew)); exact HO196.out) hb); have n1_ := Aside0.mk (below_step (by repeat (first | (with_reducible first | exact HB.out | apply below_alloc | apply pw_below_drewN | apply below_drew1) | exact HB.out)) hb); clear HO196; clear HB; have HO196 := n0_; have HB := n1_; clear n0_ n1_; (try clear hb); (try clear hb2); (try clear hk); (try clear hi)))
                go_ret
                exact ⟨by first | rfl | (simp [errW_none, errW_some] <;> rfl) | (simp only [← hji10]; first | rfl | (simp [errW_none, errW_some] <;> rfl)) | (simp [*, errW_none, errW_some] <;> rfl), by repeat (first | (with_reducible first | exact HB.out | apply below_alloc | apply pw_below_drewN | apply below_drew1) | exact HB.out)⟩
            · replace c14 := Bool.eq_false_iff.mpr c14
              subst c14
              have H1 : (some false) = some r := by rw [if_neg (show ¬ (false = true) by decide)] at H; exact H
              clear H
              have H := H1
              clear H1
              obtain rfl := Option.some.inj H
              go_enter Tryd.func4, Tryd.ntmps4
              go_wp2_with (first | ((with_reducible refine gate_callee (f := 10) rfl ?_); refine goesL_ (some 20) rfl rfl Tryd.func10 (by kernel_rfl) rfl #[.int .i64 (Int.tmod a0 1000000000000000)] rfl (by (try simp only [List.map_toArray, List.map_cons, List.map_nil]); first | done | rfl | (simp only [List.length_drop, List.length_take]; rfl)) ?_; (with_reducible refine (brookref1_Digits.calls (Int.tmod a0 1000000000000000) t190 _ A4.out).mono ?_); rintro e w52 ⟨rfl, hb⟩; refine ⟨_, rfl, ?_⟩; have n0_ := Aside0.mk (below_step (by repeat (first | (with_reducible first | exact HB.out | apply below_alloc | apply pw_below_drewN | apply below_drew1) | exact HB.out)) hb); clear HB; have HB := n0_; clear n0_; (try clear hb); (try clear hb2); (try clear hk); (try clear hi)) | ((with_reducible refine gate_callee (f := 10) rfl ?_); refine goesL_ (some 22) rfl rfl Tryd.func10 (by kernel_rfl) rfl #[.int .i64 (Int.tmod a1 1000000000000000)] rfl (by (try simp only [List.map_toArray, List.map_cons, List.map_nil]); first | done | rfl | (simp only [List.length_drop, List.length_take]; rfl)) ?_; (with_reducible refine (brookref1_Digits.calls (Int.tmod a1 1000000000000000) t191 _ A5.out).mono ?_); rintro e w53 ⟨rfl, hb⟩; refine ⟨_, rfl, ?_⟩; have n0_ := Aside0.mk (below_step (by repeat (first | (with_reducible first | exact HB.out | apply below_alloc | apply pw_below_drewN | apply below_drew1) | exact HB.out)) hb); clear HB; have HB := n0_; clear n0_; (try clear hb); (try clear hb2); (try clear hk); (try clear hi)) | ((with_reducible refine gate_callee (f := 11) rfl ?_); refine goesL_ (some 26) rfl rfl Tryd.func11 (by kernel_rfl) rfl #[.string (⟨#[117, 105, 100, 78, 117, 109, 98, 101, 114]⟩ : ByteArray), .string t190, .string t191] rfl (by (try simp only [List.map_toArray, List.map_cons, List.map_nil]); first | done | rfl | (simp only [List.length_drop, List.length_take]; rfl)) ?_; (with_reducible refine (match_Less.calls k (⟨#[117, 105, 100, 78, 117, 109, 98, 101, 114]⟩ : ByteArray) t190 t191 t192 false _ ?side1 A6.out).mono ?_); (case side1 => first | exact HG.out | exact Gl.drewN HG.out _ | exact Gl.below HG.out (by repeat (first | (with_reducible first | exact HB.out | apply below_alloc | apply pw_below_drewN | apply below_drew1) | exact HB.out))); rintro e w54 ⟨rfl, hb⟩; refine ⟨_, rfl, ?_⟩; have n0_ := Aside0.mk (below_step (by repeat (first | (with_reducible first | exact HB.out | apply below_alloc | apply pw_below_drewN | apply below_drew1) | exact HB.out)) hb); clear HB; have HB := n0_; clear n0_; (try clear hb); (try clear hb2); (try clear hk); (try clear hi)) | ((with_reducible refine gate_dst (N := 40) rfl ?_); refine Kd.R_lit Kd.string _ 9 ?hg (N := 40) ?hd (xs := ([(⟨#[48]⟩ : ByteArray) ++ t190, (⟨#[43]⟩ : ByteArray) ++ t190, t190 ++ (⟨#[32]⟩ : ByteArray), (⟨#[32]⟩ : ByteArray) ++ t190, t190 ++ (⟨#[46, 48]⟩ : ByteArray), (⟨#[45, 48]⟩ : ByteArray), (⟨#[]⟩ : ByteArray), (⟨#[45]⟩ : ByteArray), (⟨#[49, 50, 51, 52, 53, 54, 55, 56, 57, 48, 49, 50, 51, 52, 53, 54]⟩ : ByteArray)] : List ByteArray)) (inner := [.string ((⟨#[48]⟩ : ByteArray) ++ t190), .string ((⟨#[43]⟩ : ByteArray) ++ t190), .string (t190 ++ (⟨#[32]⟩ : ByteArray)), .string ((⟨#[32]⟩ : ByteArray) ++ t190), .string (t190 ++ (⟨#[46, 48]⟩ : ByteArray)), .string (⟨#[45, 48]⟩ : ByteArray), .string (⟨#[]⟩ : ByteArray), .string (⟨#[45]⟩ : ByteArray), .string (⟨#[49, 50, 51, 52, 53, 54, 55, 56, 57, 48, 49, 50, 51, 52, 53, 54]⟩ : ByteArray)]) (ok := fun _ => True) (okp := fun _ => True) ?hr ?hp (fun _ hk => hk) trivial (Below.refl _ _) (Nat.le_refl _) (by simp) ?_; (case hd => rfl); (case hg => rfl); (case hr => first | (go_simp; done) | (go_simp; rfl)); (case hp => exact (Reps.one (show Kd.M Kd.string _ _ _ ((⟨#[48]⟩ : ByteArray) ++ t190) [.string ((⟨#[48]⟩ : ByteArray) ++ t190)] from rfl) (Reps.one (show Kd.M Kd.string _ _ _ ((⟨#[43]⟩ : ByteArray) ++ t190) [.string ((⟨#[43]⟩ : ByteArray) ++ t190)] from rfl) (Reps.one (show Kd.M Kd.string _ _ _ (t190 ++ (⟨#[32]⟩ : ByteArray)) [.string (t190 ++ (⟨#[32]⟩ : ByteArray))] from rfl) (Reps.one (show Kd.M Kd.string _ _ _ ((⟨#[32]⟩ : ByteArray) ++ t190) [.string ((⟨#[32]⟩ : ByteArray) ++ t190)] from rfl) (Reps.one (show Kd.M Kd.string _ _ _ (t190 ++ (⟨#[46, 48]⟩ : ByteArray)) [.string (t190 ++ (⟨#[46, 48]⟩ : ByteArray))] from rfl) (Reps.one (show Kd.M Kd.string _ _ _ (⟨#[45, 48]⟩ : ByteArray) [.string (⟨#[45, 48]⟩ : ByteArray)] from rfl) (Reps.one (show Kd.M Kd.string _ _ _ (⟨#[]⟩ : ByteArray) [.string (⟨#[]⟩ : ByteArray)] from rfl) (Reps.one (show Kd.M Kd.string _ _ _ (⟨#[45]⟩ : ByteArray) [.string (⟨#[45]⟩ : ByteArray)] from rfl) (Reps.one (show Kd.M Kd.string _ _ _ (⟨#[49, 50, 51, 52, 53, 54, 55, 56, 57, 48, 49, 50, 51, 52, 53, 54]⟩ : ByteArray) [.string (⟨#[49, 50, 51, 52, 53, 54, 55, 56, 57, 48, 49, 50, 51, 52, 53, 54]⟩ : ByteArray)] from rfl) (Reps.none _ _))))))))))); intro v195 w55 ho56 hb hg_ hnew_; clear hg_ hnew_; (first | rw [← Ny194.out] at ho56 | (simp only [Int.reduceToNat] at ho56; rw [← Ny194.out] at ho56)); have n0_ := Aside0.mk (Kd.R_lower ho56 (below_size (by repeat (first | (with_reducible first | exact HB.out | apply below_alloc | apply pw_below_drewN | apply below_drew1) | exact HB.out)))); have n1_ := Aside0.mk (below_step (by repeat (first | (with_reducible first | exact HB.out | apply below_alloc | apply pw_below_drewN | apply below_drew1) | exact HB.out)) hb); clear HB; have HO196 := n0_; have HB := n1_; clear n0_ n1_; clear hb ho56; obtain ⟨Ao57, co57, eo57⟩ := Kd.R_slice HO196.out; subst eo57; have p197 : 0 ≤ ((ji10) : Int) := of_decide_eq_true (by first | (with_reducible assumption) | assumption); have q197 : (ji10) < (y194.length : Int) := of_decide_eq_true (by first | (with_reducible assumption) | assumption); obtain ⟨ad197, e197, hx197_0⟩ := Kd.at_string (Kd.R_reads' HO196.out).2.2 (ji10) p197 q197; cases e197; replace p197 := eq_true p197; replace q197 := eq_true q197) | ((with_reducible refine gate_callee (f := 8) rfl ?_); refine goesL_ (some 45) rfl rfl Tryd.func8 (by kernel_rfl) rfl #[.string (⟨#[117, 105, 100, 110, 117, 109, 98, 101, 114]⟩ : ByteArray), .string (rdOf ByteArray.empty y194 (ji10))] rfl (by (try simp only [List.map_toArray, List.map_cons, List.map_nil]); first | done | (simp only [hji10]; rfl) | rfl | (simp only [List.length_drop, List.length_take]; rfl)) ?_; (with_reducible refine (match_Norm.calls k (⟨#[117, 105, 100, 110, 117, 109, 98, 101, 114]⟩ : ByteArray) (rdOf ByteArray.empty y194 (ji10)) t198 t199 _ ?side1 A13.out).mono ?_); (case side1 => first | exact HG.out | exact Gl.drewN HG.out _ | exact Gl.below HG.out (by repeat (first | (with_reducible first | exact HB.out | apply below_alloc | apply pw_below_drewN | apply below_drew1) | exact HB.out))); rintro e w58 ⟨rfl, hb⟩; refine ⟨_, rfl, ?_⟩; have n0_ := Aside0.mk (Kd.R_below (by (with_reducible repeat (first | apply Kd.R_alloc | apply Kd.R_drewN | apply Kd.R_drew)); exact HO196.out) hb); have n1_ := Aside0.mk (below_step (by repeat (first | (with_reducible first | exact HB.out | apply below_alloc | apply pw_below_drewN | apply below_drew1) | exact HB.out)) hb); clear HO196; clear HB; have HO196 := n0_; have HB := n1_; clear n0_ n1_; (try clear hb); (try clear hb2); (try clear hk); (try clear hi)))
              go_ret
              exact ⟨by first | rfl | (simp [errW_none, errW_some] <;> rfl) | (simp only [← hji10]; first | rfl | (simp [errW_none, errW_some] <;> rfl)) | (simp [*, errW_none, errW_some] <;> rfl), by repeat (first | (with_reducible first | exact HB.out | apply below_alloc | apply pw_below_drewN | apply below_drew1) | exact HB.out)⟩
          · rw [if_neg c12] at H
            exact absurd H (by simp)
        · rw [if_neg c11] at H
          exact absurd H (by simp)
      · rw [if_neg c9] at H
        exact absurd H (by simp)
    · rw [if_neg c8] at H
      exact absurd H (by simp)
  · rw [if_neg c7] at H
    exact absurd H (by simp)

end Go.Proofs.YtjicpomcfelobaaDoor.P

/-! Plain: brooklaw3.MatchNumbers answers true. -/
namespace Go.Proofs.YtjicpomcfelobaaDoor.P
open Go.RowKit Go.Proofs.YtjicpomcfelobaaDoorW.PrintWords Go.Proofs.YtjicpomcfelobaaDoorW.PrintLast Go.Proofs.YtjicpomcfelobaaDoorW.PrintMore
set_option linter.unusedVariables false
set_option linter.unusedSimpArgs false

theorem ruleN1 : ruleL [117, 105, 100, 78, 117, 109, 98, 101, 114] = 2 := by decide +kernel
theorem ruleN2 : ruleL [117, 105, 100, 110, 117, 109, 98, 101, 114] = 2 := by decide +kernel
theorem norm_num (t : ByteArray) (v : ByteArray) (ht : t.size ≤ 9223372036854775807) (hr : ruleL t.data.toList = 2) :
    Ev (fun k => match_Norm.f k t v) (encO (if numberL v.data.toList = true ∧ v.data.toList ≠ [] ∧ v.data.toList.length ≤ 100 then some v.data.toList else none)) := by
  have h := norm_ev t v none ht (fun _ h => absurd (hr.symm.trans h) (by decide))
  have e : normO none t.data.toList v.data.toList = (if numberL v.data.toList = true ∧ v.data.toList ≠ [] ∧ v.data.toList.length ≤ 100 then some v.data.toList else none) := by
    unfold normO
    rw [hr, if_neg (show ¬ (2 : Int) = 1 by decide), if_pos rfl]
    by_cases h0 : v.data.toList = []
    · rw [if_pos (Or.inl h0), if_neg (fun h => h.2.1 h0)]
    by_cases h1 : 100 < v.data.toList.length
    · rw [if_pos (Or.inr h1), if_neg (fun h => by have := h.2.2; omega)]
    rw [if_neg (by intro h; rcases h with h | h; exact h0 h; exact h1 h)]
    by_cases hn : numberL v.data.toList = true
    · rw [if_pos hn, if_pos ⟨hn, h0, by omega⟩]
    · rw [if_neg hn, if_neg (fun h => hn h.1)]
  rw [e] at h
  exact h
theorem norm_itoa (t : ByteArray) (m : Int) (ht : t.size ≤ 9223372036854775807) (hr : ruleL t.data.toList = 2) (h0 : -1000000000000000 < m) (h1 : m < 1000000000000000) :
    Ev (fun k => match_Norm.f k t (mk (Lib.itoa m))) (encO (some (Lib.itoa m))) := by
  have h := norm_num t (mk (Lib.itoa m)) ht hr
  rw [mk_data, if_pos ⟨number_itoa m h0 h1, (itoa_len m h0 h1).2, by have := (itoa_len m h0 h1).1; omega⟩] at h
  exact h
theorem norm_bad (t : ByteArray) (v : ByteArray) (ht : t.size ≤ 9223372036854775807) (hr : ruleL t.data.toList = 2) (hb : numberL v.data.toList = false) :
    Ev (fun k => match_Norm.f k t v) (mk [], false) := by
  have h := norm_num t v ht hr
  rw [if_neg (fun h => by rw [hb] at h; exact absurd h.1 (by decide))] at h
  exact h
theorem bad_nine (m : Int) (h0 : -1000000000000000 < m) (h1 : m < 1000000000000000) :
    ∀ x ∈ [(⟨#[48]⟩ : ByteArray) ++ mk (Lib.itoa m), (⟨#[43]⟩ : ByteArray) ++ mk (Lib.itoa m), mk (Lib.itoa m) ++ (⟨#[32]⟩ : ByteArray), (⟨#[32]⟩ : ByteArray) ++ mk (Lib.itoa m), mk (Lib.itoa m) ++ (⟨#[46, 48]⟩ : ByteArray), (⟨#[45, 48]⟩ : ByteArray), (⟨#[]⟩ : ByteArray), (⟨#[45]⟩ : ByteArray), (⟨#[49, 50, 51, 52, 53, 54, 55, 56, 57, 48, 49, 50, 51, 52, 53, 54]⟩ : ByteArray)], numberL x.data.toList = false := by
  have hne := (itoa_len m h0 h1).2
  have hp : ∀ (c : UInt8) (l : List UInt8), ((⟨#[c]⟩ : ByteArray) ++ mk l).data.toList = c :: l := fun c l => by rw [append_data]; rfl
  have hs : ∀ (l r : List UInt8), (mk l ++ mk r).data.toList = l ++ r := fun l r => by rw [append_data]
  simp only [List.forall_mem_cons]
  refine ⟨?_, ?_, ?_, ?_, ?_, ?_, ?_, ?_, ?_, fun _ h => by cases h⟩
  · rw [hp]; exact not_number_zero _ hne
  · rw [hp]; exact not_number_char 43 (List.mem_cons_self) (by decide) (by decide)
  · rw [show (⟨#[32]⟩ : ByteArray) = mk [32] from rfl, hs]; exact not_number_char 32 (by simp) (by decide) (by decide)
  · rw [hp]; exact not_number_char 32 (List.mem_cons_self) (by decide) (by decide)
  · rw [show (⟨#[46, 48]⟩ : ByteArray) = mk [46, 48] from rfl, hs]; exact not_number_char 46 (by simp) (by decide) (by decide)
  all_goals decide +kernel

theorem tmod_range (a : Int) : -1000000000000000 < Int.tmod a 1000000000000000 ∧ Int.tmod a 1000000000000000 < 1000000000000000 := by
  rcases Int.le_total 0 a with h | h
  · have := Int.tmod_nonneg 1000000000000000 h
    have := Int.tmod_lt_of_pos a (b := 1000000000000000) (by decide)
    omega
  · have h' : 0 ≤ -a := by omega
    have h1 := Int.tmod_nonneg 1000000000000000 h'
    have h2 := Int.tmod_lt_of_pos (-a) (b := 1000000000000000) (by decide)
    rw [Int.neg_tmod] at h1 h2
    omega
theorem numbers_true (a0 a1 a2 : Int) (h2 : 0 ≤ a2) : ∃ k, brooklaw3_MatchNumbers.f k a0 a1 a2 = some true := by
  obtain ⟨m0, m1⟩ := tmod_range a0
  obtain ⟨n0, n1⟩ := tmod_range a1
  generalize hm : Int.tmod a0 1000000000000000 = m at m0 m1
  generalize hn : Int.tmod a1 1000000000000000 = n at n0 n1
  have d1 : brookref1_Digits.f m = some (mk (Lib.itoa m)) := by unfold brookref1_Digits.f; rw [if_pos (by omega)]
  have d2 : brookref1_Digits.f n = some (mk (Lib.itoa n)) := by unfold brookref1_Digits.f; rw [if_pos (by omega)]
  have hi0 : 0 ≤ Int.tmod a2 9 := Int.tmod_nonneg 9 h2
  have hi1 : Int.tmod a2 9 < 9 := Int.tmod_lt_of_pos a2 (by decide)
  have z1 := norm_itoa (⟨#[117, 105, 100, 78, 117, 109, 98, 101, 114]⟩ : ByteArray) m (by decide) ruleN1 m0 m1
  have z2 := norm_itoa (⟨#[117, 105, 100, 78, 117, 109, 98, 101, 114]⟩ : ByteArray) n (by decide) ruleN1 n0 n1
  have y1 := norm_itoa (⟨#[117, 105, 100, 110, 117, 109, 98, 101, 114]⟩ : ByteArray) m (by decide) ruleN2 m0 m1
  have y2 := norm_itoa (⟨#[117, 105, 100, 110, 117, 109, 98, 101, 114]⟩ : ByteArray) n (by decide) ruleN2 n0 n1
  have lm := (itoa_len m m0 m1).1
  have ln := (itoa_len n n0 n1).1
  have L : Ev (fun k => match_Less.f k (⟨#[117, 105, 100, 78, 117, 109, 98, 101, 114]⟩ : ByteArray) (mk (Lib.itoa m)) (mk (Lib.itoa n))) (decide (m < n), true) := by
    refine less_ev (by decide) z1 z2 ?_
    rw [if_pos (show ((some (Lib.itoa m)).isSome && (some (Lib.itoa n)).isSome) = true from rfl), show ruleL (⟨#[117, 105, 100, 78, 117, 109, 98, 101, 114]⟩ : ByteArray).data.toList = 2 from ruleN1]
    unfold lessBy
    rw [if_neg (show ¬ (2 : Int) = 1 by decide), if_pos rfl]
    show (if (mk (Lib.itoa m)).size ≤ _ ∧ (mk (Lib.itoa n)).size ≤ _ then lessNum (Lib.itoa m) (Lib.itoa n) else none) = _
    rw [mk_size, mk_size, if_pos (by omega)]
    unfold lessNum
    rw [atoi_itoa m m0 m1, atoi_itoa n n0 n1]
  have S : Ev (fun k => match_Same.f k (⟨#[117, 105, 100, 110, 117, 109, 98, 101, 114]⟩ : ByteArray) (mk (Lib.itoa m)) (mk (Lib.itoa n))) (m == n) := by
    have h := same_ev y1 y2
    have e : sameO (some (Lib.itoa m)) (some (Lib.itoa n)) = (m == n) := by
      show (Lib.itoa m == Lib.itoa n) = (m == n)
      by_cases hq : m = n
      · subst hq; rw [beq_self_eq_true, beq_self_eq_true]
      · have : Lib.itoa m ≠ Lib.itoa n := fun h => hq (itoa_inj m0 m1 n0 n1 h)
        rw [beq_eq_false_iff_ne.2 this, beq_eq_false_iff_ne.2 hq]
    rw [e] at h
    exact h
  apply Ev.rounds
  unfold brooklaw3_MatchNumbers.f
  rw [hm, hn, d1, d2]
  refine Ev.bs (Ev.bs (L.bind ?_))
  rw [mk_size]
  refine Ev.ifp (by omega) (Ev.ifp (by omega) (Ev.ifp (by omega) (Ev.bs (Ev.ifp hi0 (Ev.ifp ?_ ?_)))))
  · show Int.tmod a2 9 < ((9 : Nat) : Int); omega
  refine (norm_bad _ _ (by decide) ruleN2 (bad_nine m m0 m1 _ ?_)).bind ?_
  · unfold rdOf
    rw [List.getD_eq_getElem?_getD, List.getElem?_eq_getElem (by simp only [List.length_cons, List.length_nil]; omega)]
    exact List.getElem_mem _
  · refine Ev.ifp rfl (Ev.ifp (beq_self_eq_true _) (S.bind (Ev.ifp (beq_self_eq_true _) (Ev.ifn Bool.false_ne_true (awake_ev.bind (Ev.now true))))))
end Go.Proofs.YtjicpomcfelobaaDoor.P

namespace Go.Proofs.YtjicpomcfelobaaDoor.matchNumbers
open Go.ChangeShapes Go.WideShapes Go.ChangeAt Go.RowKit Go.Proofs.YtjicpomcfelobaaDoor.P Go.Proofs.YtjicpomcfelobaaDoorW.PrintWords
open Go.ChangeMaps (open_string shut_string)
set_option linter.unusedVariables false
set_option maxRecDepth 100000 in
theorem contract (H : Type) (enc : TypeId × Value → H) (W : World) (base : Nat) (args : Array Value) (ds gs : List (DataW H)) (before : List MemPlace)
    (hval0 : ∀ (j : Nat) t v, Tryd.f4.params[j]? = some t → args[j]? = some v → Value.okWide Tryd.prog W .any base t v)
    (hW : DataW.Whole enc Tryd.prog Tryd.f4.params.toList Rows.matchNumbersSpec.vars false W args.toList ds gs before)
    (hsz0 : (DataW.weightsEach Tryd.prog (Tryd.f4.params.toList ++ Rows.matchNumbersSpec.plain.varTypes Tryd.prog) (ds ++ gs)).all (· ≤ reachBytes) = true) (hG : Gl W) :
    Calls Tryd.prog 4 args W fun e W' => ∃ v, e = .returned v ∧ Rows.matchNumbersSpec.post enc Tryd.prog Tryd.f4 false true false false W args v W' := by
  have hsz := hsz0
  have hval := hval0
  have hW' := hW
  obtain ⟨p, q, hA0, hV, rfl, hfz, hnd⟩ := hW
  have hA : DataW.TrodAll enc Tryd.prog W 0 (fun _ => true) true Tryd.f4.params.toList args.toList ds p := hA0
  rw [Tryd.params4] at hA hval hsz
  obtain ⟨v0, vs0, d0, ds0, p0, q0, hargs, rfl, rfl, h0, r0⟩ := trodAll_cons hA
  obtain ⟨v1, vs1, d1, ds1, p1, q1, rfl, rfl, rfl, h1, r1⟩ := trodAll_cons r0
  obtain ⟨v2, vs2, d2, ds2, p2, q2, rfl, rfl, rfl, h2, r2⟩ := trodAll_cons r1
  obtain ⟨rfl, rfl, rfl⟩ := trodAll_nil r2
  obtain rfl : args = #[v0, v1, v2] := by cases args; simp_all
  obtain ⟨rfl, rfl⟩ := trodVars_none hV
  obtain ⟨a0, rfl, rfl, rfl, w0⟩ := open_int Tryd.underlying3 (hval 0 3 v0 rfl rfl) h0
  obtain ⟨a1, rfl, rfl, rfl, w1⟩ := open_int Tryd.underlying3 (hval 1 3 v1 rfl rfl) h1
  obtain ⟨a2, rfl, rfl, rfl, w2⟩ := open_int Tryd.underlying5 (hval 2 5 v2 rfl rfl) h2
  clear hA0 hval0 hsz0 hsz
  have walk : Calls Tryd.prog 4 #[.int .i64 a0, .int .i64 a1, .int .u8 a2] W fun e w' => e = .returned (.bool true) ∧ Below W.heap.size W w' := (by
    obtain ⟨k, hk⟩ := numbers_true a0 a1 a2 (u8_wf w2).1
    exact brooklaw3_MatchNumbers.calls k a0 a1 a2 true W hG hk)
  refine walk.mono fun e W' ⟨he, bel⟩ => ?_
  subst he
  exact ⟨_, rfl, _, _, _, [], _, [], hW', trodAll_mk1 (shut_bool Tryd.underlying4 _), (trodAll_cons_mk (shut_int Tryd.underlying3 w0) (trodAll_cons_mk (shut_int Tryd.underlying3 w1) (trodAll_cons_mk (shut_int Tryd.underlying5 w2) trodAll_mk0))), rfl, bel.frame _, fun h => by cases h⟩
theorem reads (os : Os) {H : Type} (enc : TypeId × Value → H) : ∃ places, DataW.whole enc Tryd.prog ((laidWorld os).forCall (fun _ _ => 0) ⟨#[], #[.int .i64 0, .int .i64 0, .int .u8 0], []⟩).memory Tryd.f4.params.toList Rows.matchNumbersSpec.vars false (#[.int .i64 0, .int .i64 0, .int .u8 0] : Array Value).toList 8 = some ([.lit (.int .i64 0), .lit (.int .i64 0), .lit (.int .u8 0)], [], places) :=
  ⟨[], by kernel_rfl⟩
set_option maxRecDepth 100000 in
theorem lifted (os : Os) (started : os.Started) (H : Type) (enc : TypeId × Value → H) (F : Stop.Interp) :
    ReturnsInHanded {} Tryd.checked os 4 .any ((OpenSpec.ofChange Rows.matchNumbersSpec).preRow enc Tryd.prog Tryd.f4 Rows.matchNumbersRow.domain false Rows.matchNumbersRow.laid) (((OpenSpec.ofChange Rows.matchNumbersSpec).at F).post enc Tryd.prog Tryd.f4 false true false false) := by
  obtain ⟨places, hx⟩ := reads os enc
  refine returnsInHanded_of_row (C := Tryd.checked) (s := OpenSpec.ofChange Rows.matchNumbersSpec) own started (by kernel_rfl) Tryd.func4
    (witness_row_at (enc := enc) (C := Tryd.checked) false (laidWorld os) #[.int .i64 0, .int .i64 0, .int .u8 0] (World.laidAll_os _ _ _) (by kernel_rfl) (by kernel_rfl) (by kernel_rfl)
      (OpenSpec.preRow_of_cond 8 hx (by kernel_rfl) (fun k hk => by cases hk) (by kernel_rfl) (laid_met os _))) ?_
  intro W base args ds gs before hval hW _ _ hsz hL hsh _
  exact contract H enc W base args ds gs before hval hW hsz (gl_of hL hsh)
theorem said : Rows.MatchNumbersSaid :=
  OpenClaim.holds_of_cond 4 Tryd.f4 rfl rfl rfl rfl rfl rfl rfl ⟨rfl, rfl, rfl, rfl, rfl⟩ rfl rfl rfl rfl rfl (by kernel_rfl) Tryd.func4 (by kernel_rfl)
    (of_decide_eq_true (by kernel_rfl)) (by unfold Func.isWrapper; first | (rw [if_pos (by decide +kernel)]; kernel_rfl) | (rw [if_neg (by decide +kernel)]; exact ⟨rfl, rfl⟩))
    (fun os started H enc _ F => by rw [OpenClaim.pre_eq_preRow]; exact lifted os started H enc F)
theorem plain (f : FuncId) (fn : Func) (hf : Tryd.pinned.checked.prog.funcNamed "brook/brooklaw3.MatchNumbers" = some f) (hfn : Tryd.pinned.checked.prog.funcs[f]? = some fn) :
    true = Tryd.pinned.checked.prog.looks [] ∧ ∀ (j : Nat) t, fn.params[j]? = some t → Tryd.pinned.checked.prog.wantsStandIn t = false := by
  obtain rfl : f = 4 := Option.some.inj ((show Tryd.prog.funcNamed "brook/brooklaw3.MatchNumbers" = some 4 by kernel_rfl).symm.trans hf) |>.symm
  obtain rfl : fn = Tryd.f4 := (Option.some.inj (Tryd.func4.symm.trans hfn)).symm
  refine ⟨by kernel_rfl, fun j t ht => ?_⟩
  rw [Tryd.params4] at ht
  have hm : t ∈ [3, 3, 5] := by simpa using Array.mem_of_getElem? ht
  have hall : ([3, 3, 5].all fun u => !Tryd.prog.wantsStandIn u) = true := by kernel_rfl
  exact (show Tryd.prog.wantsStandIn t = false by simpa using List.all_eq_true.1 hall t hm)
/-- THE CARD -/
theorem card : Rows.MatchNumbersCardSaid :=
  Claim7.holds_tied_plain_at .later [] _ _ _ _ said (fun _ h => by cases h) (by kernel_rfl) (fun _ h => by cases h) matchNumbers_row_tie rfl ⟨rfl, rfl⟩ (by kernel_rfl) rfl plain (by kernel_rfl)
#print axioms card
end Go.Proofs.YtjicpomcfelobaaDoor.matchNumbers
namespace Go.Proofs.YtjicpomcfelobaaDoor
theorem matchNumbers_card : Rows.MatchNumbersCardSaid := matchNumbers.card
end Go.Proofs.YtjicpomcfelobaaDoor
