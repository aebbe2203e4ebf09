/- Of brook/brooklaw3.MatchNorms: for whatever byte and whatever two texts it returns true and leaves its arguments as they were: the tied card. Conditions: the listed package variables hold what the program's text lays (tied by the card). -/
import Derived.Test.YtjicpomcfelobaaDoorMNorms4
import Derived.Test.YtjicpomcfelobaaDoorMNorms5
import Derived.Test.YtjicpomcfelobaaDoorCards
import Derived.Test.YtjicpomcfelobaaDoorTie
import Derived.WalkKit
import Derived.ProofKit
import Derived.OpenShut
import Derived.ShutString
import Derived.ChangeOld
import Derived.ChangeSame
import Derived.Below
import Derived.SizedLaws
import Derived.Deep.DeepHandedRow
import Derived.JoinedCond
import Derived.SevenTiedAt
import Derived.Lay
/-! Plain: what names' texts say: values, names, keys; and that the walked functions tell just these. -/
namespace Go.Proofs.YtjicpomcfelobaaDoor.P
open Go.RowKit Go.Proofs.YtjicpomcfelobaaDoorW.PrintWords Go.Proofs.YtjicpomcfelobaaDoorW.PrintLast Go.Proofs.YtjicpomcfelobaaDoorW.PrintMore
set_option linter.unusedVariables false
set_option linter.unusedSimpArgs false

def isHexB (c : UInt8) : Bool := (decide (48 ≤ c) && decide (c ≤ 57)) || (decide (97 ≤ c) && decide (c ≤ 102)) || (decide (65 ≤ c) && decide (c ≤ 70))
def hexVB (c : UInt8) : UInt8 := if c ≤ 57 then c - 48 else if c ≤ 70 then c - 55 else c - 87
/-- What stands behind a backslash: the byte, and how many signs tell it. -/
def escN : List UInt8 → Option (UInt8 × Nat)
  | [] => none
  | c :: r => if (specialB c || c == 61 || c == 35 || c == 32) = true then some (c, 1) else
    match r with
    | [] => none
    | d :: _ => if (isHexB c && isHexB d) = true then some (hexVB c * 16 + hexVB d, 2) else none
/-- What may not stand bare. -/
def badB (first : Bool) (c : UInt8) : Bool := decide (c < 32) || decide (126 < c) || specialB c || (first && (c == 35 || c == 32))
def valG (first sp : Bool) : List UInt8 → Option (List UInt8 × List UInt8)
  | [] => if sp = true then none else some ([], [])
  | c :: r => if c = 44 then (if sp = true then none else some ([], c :: r)) else
    if c = 92 then (match escN r with | none => none | some (b, n) => (valG false false (r.drop n)).map fun p => (b :: p.1, p.2)) else
    if badB first c = true then none else (valG false (c == 32) r).map fun p => (c :: p.1, p.2)
termination_by l => l.length
decreasing_by all_goals (simp only [List.length_drop, List.length_cons]; omega)

theorem u8i (u v : UInt8) : ((u.toNat : Int) = (v.toNat : Int)) ↔ u = v :=
  ⟨fun h => UInt8.toNat_inj.1 (by omega), fun h => by rw [h]⟩
theorem dn_digit_eq (c : UInt8) : dn_digit.f (c.toNat : Int) = some (if isHexB c = true then ((hexVB c).toNat : Int) else -1) :=
  byteAll (p := fun c => dn_digit.f (c.toNat : Int) = some (if isHexB c = true then ((hexVB c).toNat : Int) else -1)) (by decide +kernel) c
theorem hexVB_lt (c : UInt8) : isHexB c = true → (hexVB c).toNat < 16 := byteAll (p := fun c => isHexB c = true → (hexVB c).toNat < 16) (by decide +kernel) c
theorem or16 : ∀ a b : Fin 16, (Go.bits .or .i64 (wrap64 ((a.val : Int) * 16)) (b.val : Int)) % 256 = ((UInt8.ofNat a.val * 16 + UInt8.ofNat b.val).toNat : Int) := by decide +kernel
theorem hex_two (c d : UInt8) (hc : isHexB c = true) (hd : isHexB d = true) : (Go.bits .or .i64 (wrap64 (((hexVB c).toNat : Int) * 16)) ((hexVB d).toNat : Int)) % 256 = ((hexVB c * 16 + hexVB d).toNat : Int) := by
  have h := or16 ⟨(hexVB c).toNat, hexVB_lt c hc⟩ ⟨(hexVB d).toNat, hexVB_lt d hd⟩
  simpa using h

theorem bt_mk0 (c : UInt8) (r : List UInt8) : bt (mk (c :: r)) 0 = (c.toNat : Int) := by rw [bt_eq]; rfl
theorem bt_mk1 (c d : UInt8) (r : List UInt8) : bt (mk (c :: d :: r)) 1 = (d.toNat : Int) := by rw [bt_eq]; rfl

theorem escN_t (c : UInt8) (r : List UInt8) (h : (specialB c || c == 61 || c == 35 || c == 32) = true) : escN (c :: r) = some (c, 1) := by simp only [escN]; rw [if_pos h]
theorem escN_f1 (c : UInt8) (h : (specialB c || c == 61 || c == 35 || c == 32) = false) : escN [c] = none := by simp only [escN]; rw [if_neg (by rw [h]; exact Bool.false_ne_true)]
theorem escN_f2 (c d : UInt8) (r : List UInt8) (h : (specialB c || c == 61 || c == 35 || c == 32) = false) : escN (c :: d :: r) = if (isHexB c && isHexB d) = true then some (hexVB c * 16 + hexVB d, 2) else none := by
  simp only [escN]; rw [if_neg (by rw [h]; exact Bool.false_ne_true)]
theorem escN_len (l : List UInt8) (b : UInt8) (n : Nat) (h : escN l = some (b, n)) : (n = 1 ∨ n = 2) ∧ n ≤ l.length := by
  cases l with
  | nil => cases h
  | cons c r =>
    cases hc : (specialB c || c == 61 || c == 35 || c == 32) with
    | true =>
      rw [escN_t c r hc] at h
      have := (Prod.mk.inj (Option.some.inj h)).2
      rw [List.length_cons]; omega
    | false =>
      cases r with
      | nil => rw [escN_f1 c hc] at h; cases h
      | cons d r =>
        rw [escN_f2 c d r hc] at h
        by_cases hh : (isHexB c && isHexB d) = true
        · rw [if_pos hh] at h
          have := (Prod.mk.inj (Option.some.inj h)).2
          rw [List.length_cons, List.length_cons]; omega
        · rw [if_neg hh] at h; cases h
def escP (l : List UInt8) : Int × Int := match escN l with | none => (0, 0) | some (b, n) => ((b.toNat : Int), (n : Int))
theorem escaped_j1 (c d : UInt8) (r : List UInt8) (b : Bool) (hb : b = true → isHexB c = true ∧ isHexB d = true) :
    Ev (fun k => dn_escaped.j1 k (mk (c :: d :: r)) b) (if b = true then (((hexVB c * 16 + hexVB d).toNat : Int), 2) else (0, 0)) := by
  refine Ev.step (fun k => by rw [dn_escaped.j1]) ?_
  cases b with
  | false => exact Ev.ifn Bool.false_ne_true (Ev.now _)
  | true =>
    obtain ⟨hc, hd⟩ := hb rfl
    refine Ev.const fun k => ?_
    rw [if_pos rfl, if_pos rfl, if_pos (by rw [mk_size]; simp only [List.length_cons]; omega), bt_mk0, bt_mk1, dn_digit_eq, dn_digit_eq, if_pos hc, if_pos hd, Option.bind_some, if_pos (by rw [mk_size]; simp only [List.length_cons]; omega), Option.bind_some, hex_two c d hc hd]
theorem escaped_j0 (c : UInt8) (r : List UInt8) (b : Bool) (hb : b = (specialB c || c == 61 || c == 35 || c == 32)) :
    Ev (fun k => dn_escaped.j0 k (mk (c :: r)) b) (escP (c :: r)) := by
  refine Ev.step (fun k => by rw [dn_escaped.j0]) ?_
  unfold escP
  cases b with
  | true =>
    rw [escN_t c r hb.symm]
    refine Ev.const fun k => ?_
    rw [if_pos rfl, if_pos (by rw [mk_size]; simp only [List.length_cons]; omega), bt_mk0]
    rfl
  | false =>
    refine Ev.ifn Bool.false_ne_true ?_
    cases r with
    | nil =>
      rw [escN_f1 c hb.symm]
      exact Ev.ifn (by rw [mk_size]; simp only [List.length_cons, List.length_nil]; omega) (Ev.step (fun k => by rw [dn_escaped.j1]) (Ev.const fun k => by rw [if_neg Bool.false_ne_true]))
    | cons d r =>
      rw [escN_f2 c d r hb.symm]
      refine Ev.ifp (by rw [mk_size]; simp only [List.length_cons]; omega) (Ev.ifp (by rw [mk_size]; simp only [List.length_cons]; omega) ?_)
      rw [bt_mk0, dn_digit_eq]
      refine Ev.bs ?_
      by_cases hc : isHexB c = true
      · rw [if_pos hc]
        refine Ev.ifp (by omega) (Ev.ifp (by rw [mk_size]; simp only [List.length_cons]; omega) ?_)
        rw [bt_mk1, dn_digit_eq]
        refine Ev.bs ?_
        by_cases hd : isHexB d = true
        · rw [if_pos hd, hc, hd, decide_eq_true (by omega)]
          exact escaped_j1 c d r true (fun _ => ⟨hc, hd⟩)
        · rw [if_neg hd, Bool.eq_false_iff.2 hd, Bool.and_false, decide_eq_false (by omega)]
          exact escaped_j1 c d r false (fun h => by cases h)
      · rw [if_neg hc, Bool.eq_false_iff.2 hc, Bool.false_and]
        exact Ev.ifn (by omega) (escaped_j1 c d r false (fun h => by cases h))
theorem escaped_ev (s : ByteArray) : Ev (fun k => dn_escaped.f k s) (escP s.data.toList) := by
  rw [← mk_of s]
  generalize s.data.toList = l
  unfold dn_escaped.f
  rw [mk_toList]
  cases l with
  | nil => exact Ev.ifp rfl (Ev.now _)
  | cons c r =>
    refine Ev.ifn (by simp) (Ev.ifp (by rw [mk_size]; simp only [List.length_cons]; omega) ?_)
    rw [bt_mk0, dn_special_eq]
    refine Ev.bs ?_
    by_cases h1 : specialB c = true
    · exact Ev.ifp h1 (escaped_j0 c r true (by rw [h1]; rfl))
    have h1' := Bool.eq_false_iff.2 h1
    refine Ev.ifn h1 ?_
    by_cases h2 : c = 61
    · exact Ev.ifp ((u8i c 61).2 h2) (escaped_j0 c r true (by rw [h2]; rfl))
    refine Ev.ifn (fun h => h2 ((u8i c 61).1 h)) ?_
    by_cases h3 : c = 35
    · exact Ev.ifp ((u8i c 35).2 h3) (escaped_j0 c r true (by rw [h3]; rfl))
    refine Ev.ifn (fun h => h3 ((u8i c 35).1 h)) ?_
    refine escaped_j0 c r _ ?_
    rw [h1', beq_eq_false_iff_ne.2 h2, beq_eq_false_iff_ne.2 h3, Bool.false_or, Bool.false_or, Bool.false_or]
    by_cases h4 : c = 32
    · rw [h4]; rfl
    · rw [beq_eq_false_iff_ne.2 h4, show (((c.toNat : Int)) == 32) = false from beq_eq_false_iff_ne.2 (fun h => h4 ((u8i c 32).1 h))]

/-! ### A value -/
theorem drop_cons (l : List UInt8) (i : Nat) (h : i < l.length) : l.drop i = l.getD i 0 :: l.drop (i + 1) := by
  rw [List.drop_eq_getElem_cons h, List.getD_eq_getElem?_getD, List.getElem?_eq_getElem h]; rfl
theorem extract_tail (s : ByteArray) (i : Nat) : s.extract i s.size = mk (s.data.toList.drop i) := by
  apply ba_ext
  have e : (s.data.toList.drop i).length = s.size - i := by rw [List.length_drop, ← size_len]
  rw [extract_data, mk_data, List.take_of_length_le (Nat.le_of_eq e)]
theorem wrap_small (n : Int) (h0 : 0 ≤ n) (h1 : n ≤ 9223372036854775807) : wrap64 n = n := by
  first
    | exact wrap64_small n (by omega) (by omega)
    | (unfold wrap64; simp only [Int.emod_def]; omega)

/-- What a told value is, out of what is left from place i on. -/
def ValIs (o : List UInt8) (x : Option (List UInt8 × List UInt8)) (p : ByteArray × ByteArray × Bool) : Prop :=
  match x with
  | some (v, r) => p = (mk (o ++ v), mk r, true)
  | none => p.2.2 = false
theorem ValIs.push {o : List UInt8} {b : UInt8} {x : Option (List UInt8 × List UInt8)} {p : ByteArray × ByteArray × Bool} (h : ValIs (o ++ [b]) x p) : ValIs o (x.map fun q => (b :: q.1, q.2)) p := by
  cases x with
  | none => exact h
  | some q =>
    obtain ⟨v, r⟩ := q
    unfold ValIs at h ⊢
    simp only [Option.map_some]
    rw [h, List.append_assoc]; rfl
theorem value_loop (s : ByteArray) (hs : s.size ≤ 70368744177664) : ∀ (n i : Nat) (o : List UInt8) (sp : Bool), s.size - i = n → i ≤ s.size → o.length ≤ i →
    ∃ p, Ev (fun k => dn_value.l0 k s (numsB o) sp (i : Int)) p ∧ ValIs o (valG (decide (i = 0)) sp (s.data.toList.drop i)) p := by
  intro n
  induction n using Nat.strongRecOn with
  | _ n ih =>
    intro i o sp hn hi ho
    have hlen : s.data.toList.length = s.size := (size_len s).symm
    have stop : ∀ (x20 : Bool), x20 = false → (s.data.toList.drop i = [] ∨ ∃ r, s.data.toList.drop i = 44 :: r) →
        ∃ p, Ev (fun k => dn_value.j1 k s (numsB o) sp (i : Int) x20) p ∧ ValIs o (valG (decide (i = 0)) sp (s.data.toList.drop i)) p := by
      intro x20 hx hr
      subst hx
      refine ⟨(strOfNums (numsB o), s.extract i s.size, !sp), Ev.step (fun k => by rw [dn_value.j1]) (Ev.ifn Bool.false_ne_true (Ev.ifp (by omega) (Ev.ifp (by omega) (Ev.const fun k => by rw [Int.toNat_natCast])))), ?_⟩
      rw [strOf_numsB, extract_tail]
      cases sp with
      | true =>
        have : valG (decide (i = 0)) true (s.data.toList.drop i) = none := by
          rcases hr with hr | ⟨r, hr⟩
          · rw [hr, valG, if_pos rfl]
          · rw [hr, valG, if_pos rfl, if_pos rfl]
        rw [this]
        rfl
      | false =>
        have : valG (decide (i = 0)) false (s.data.toList.drop i) = some ([], s.data.toList.drop i) := by
          rcases hr with hr | ⟨r, hr⟩
          · rw [hr, valG, if_neg Bool.false_ne_true]
          · rw [hr, valG, if_pos rfl, if_neg Bool.false_ne_true]
        rw [this]
        show _ = _
        rw [List.append_nil]; rfl
    by_cases hlt : i < s.size
    · have hd := drop_cons s.data.toList i (by omega)
      generalize hc : s.data.toList.getD i 0 = c at hd
      have hb : bt s (i : Int) = (c.toNat : Int) := by rw [bt_nat, hc]
      by_cases h44 : c = 44
      · obtain ⟨p, hp, hv⟩ := stop ((bt s (i : Int)) != 44) (by rw [hb, h44]; rfl) (Or.inr ⟨_, by rw [hd, h44]⟩)
        exact ⟨p, Ev.step (fun k => by rw [dn_value.l0]) (Ev.ifp (by omega) (Ev.ifp (by omega) hp)), hv⟩
      · have hne : ((bt s (i : Int)) != 44) = true := by rw [hb, bne_iff_ne]; exact fun h => h44 ((u8i c 44).1 h)
        have body : ∃ p, Ev (fun k => dn_value.j1 k s (numsB o) sp (i : Int) true) p ∧ ValIs o (valG (decide (i = 0)) sp (s.data.toList.drop i)) p := by
          rw [hd, valG, if_neg h44]
          have w1 : wrap64 ((i : Int) + 1) = ((i + 1 : Nat) : Int) := by rw [wrap_small _ (by omega) (by omega)]; omega
          by_cases h92 : c = 92
          · rw [if_pos h92]
            have he := escaped_ev (s.extract (i + 1) s.size)
            rw [extract_tail, mk_data] at he
            have pre : ∀ {p : ByteArray × ByteArray × Bool}, Ev (fun k => if (escP (s.data.toList.drop (i + 1))).2 = 0 then some ((⟨#[]⟩ : ByteArray), (⟨#[]⟩ : ByteArray), false) else (if (numsB o).length < 140737488355328 then (dn_value.l0 k s (numsB o ++ [(escP (s.data.toList.drop (i + 1))).1]) ((bt s (i : Int)) == 32) (wrap64 ((wrap64 ((i : Int) + (escP (s.data.toList.drop (i + 1))).2)) + 1))) else none)) p →
                Ev (fun k => dn_value.j1 k s (numsB o) sp (i : Int) true) p := by
              intro p hp
              refine Ev.step (fun k => by rw [dn_value.j1]) (Ev.ifp rfl (Ev.ifp (by omega) (Ev.ifp (by omega) (Ev.ifp (by rw [hb, h92]; rfl) ?_))))
              rw [w1]
              refine Ev.ifp (by omega) (Ev.ifp (by omega) ?_)
              rw [Int.toNat_natCast, extract_tail]
              exact he.bind hp
            unfold escP at pre
            cases hx : escN (s.data.toList.drop (i + 1)) with
            | none =>
              rw [hx] at pre
              exact ⟨_, pre (Ev.ifp rfl (Ev.now _)), rfl⟩
            | some q =>
              obtain ⟨b, m⟩ := q
              rw [hx] at pre
              have hm : (m = 1 ∨ m = 2) ∧ i + 1 + m ≤ s.size := by
                obtain ⟨e1, e2⟩ := escN_len _ _ _ hx
                rw [List.length_drop] at e2
                omega
              obtain ⟨p, hp, hv⟩ := ih (s.size - (i + 1 + m)) (by omega) (i + 1 + m) (o ++ [b]) false rfl hm.2 (by rw [List.length_append, List.length_singleton]; omega)
              rw [show decide (i + 1 + m = 0) = false from decide_eq_false (by omega)] at hv
              refine ⟨p, pre (Ev.ifn (by simp only; omega) (Ev.ifp (by rw [numsB_len]; omega) ?_)), ?_⟩
              · rw [← numsB_snoc, show ((bt s (i : Int)) == 32) = false by rw [hb, h92]; rfl]
                rw [wrap_small ((i : Int) + (m : Int)) (by omega) (by omega), wrap_small _ (by omega) (by omega), show (i : Int) + (m : Int) + 1 = ((i + 1 + m : Nat) : Int) by omega]
                exact hp
              · rw [← List.drop_drop] at hv
                exact hv.push
          · rw [if_neg h92]
            have go : ∀ {p : ByteArray × ByteArray × Bool} (h32 : 32 ≤ c) (h126 : c ≤ 126) (hsp : specialB c = false) (hf : i = 0 → c ≠ 35 ∧ c ≠ 32), Ev (fun k => dn_value.l0 k s (numsB o ++ [bt s (i : Int)]) ((bt s (i : Int)) == 32) (wrap64 ((i : Int) + 1))) p → Ev (fun k => dn_value.j1 k s (numsB o) sp (i : Int) true) p := by
              intro p h32 h126 hsp hf hp
              have g1 : ¬ bt s (i : Int) < 32 := by rw [hb]; have : (32 : UInt8).toNat ≤ c.toNat := h32; have e : (32 : UInt8).toNat = 32 := rfl; omega
              have g2 : ¬ bt s (i : Int) > 126 := by rw [hb]; have : c.toNat ≤ (126 : UInt8).toNat := h126; have e : (126 : UInt8).toNat = 126 := rfl; omega
              refine Ev.step (fun k => by rw [dn_value.j1]) (Ev.ifp rfl (Ev.ifp (by omega) (Ev.ifp (by omega) (Ev.ifn (by rw [hb]; exact fun h => h92 ((u8i c 92).1 h)) (Ev.ifn g1 (Ev.ifn g2 ?_))))))
              rw [hb, dn_special_eq, ← hb]
              refine Ev.bs (Ev.ifn (by rw [hsp]; exact Bool.false_ne_true) ?_)
              by_cases hi0 : i = 0
              · obtain ⟨f1, f2⟩ := hf hi0
                exact Ev.ifp (by omega) (Ev.ifn (by rw [hb]; exact fun h => f1 ((u8i c 35).1 h)) (Ev.ifn (by rw [hb]; exact fun h => f2 ((u8i c 32).1 h)) (Ev.ifp (by rw [numsB_len]; omega) hp)))
              · exact Ev.ifn (by omega) (Ev.ifp (by rw [numsB_len]; omega) hp)
            by_cases hbad : badB (decide (i = 0)) c = true
            · rw [if_pos hbad]
              refine ⟨((⟨#[]⟩ : ByteArray), (⟨#[]⟩ : ByteArray), false), ?_, rfl⟩
              refine Ev.step (fun k => by rw [dn_value.j1]) (Ev.ifp rfl (Ev.ifp (by omega) (Ev.ifp (by omega) (Ev.ifn (by rw [hb]; exact fun h => h92 ((u8i c 92).1 h)) ?_))))
              by_cases g1 : bt s (i : Int) < 32
              · exact Ev.ifp g1 (Ev.now _)
              refine Ev.ifn g1 ?_
              by_cases g2 : bt s (i : Int) > 126
              · exact Ev.ifp g2 (Ev.now _)
              refine Ev.ifn g2 ?_
              have g1' : ¬ c < 32 := by rw [hb] at g1; intro h; have : c.toNat < (32 : UInt8).toNat := h; have e : (32 : UInt8).toNat = 32 := rfl; omega
              have g2' : ¬ 126 < c := by rw [hb] at g2; intro h; have : (126 : UInt8).toNat < c.toNat := h; have e : (126 : UInt8).toNat = 126 := rfl; omega
              rw [hb, dn_special_eq, ← hb]
              refine Ev.bs ?_
              by_cases hsp : specialB c = true
              · exact Ev.ifp hsp (Ev.now _)
              refine Ev.ifn hsp ?_
              unfold badB at hbad
              rw [decide_eq_false g1', decide_eq_false g2', Bool.eq_false_iff.2 hsp] at hbad
              simp only [Bool.false_or, Bool.and_eq_true, decide_eq_true_eq, Bool.or_eq_true, beq_iff_eq] at hbad
              obtain ⟨hi0, h⟩ := hbad
              refine Ev.ifp (by omega) ?_
              rcases h with h | h
              · exact Ev.ifp (by rw [hb]; exact (u8i c 35).2 h) (Ev.now _)
              · exact Ev.ifn (by rw [hb, h]; decide) (Ev.ifp (by rw [hb]; exact (u8i c 32).2 h) (Ev.now _))
            · rw [if_neg hbad]
              have hbad' := Bool.eq_false_iff.2 hbad
              unfold badB at hbad'
              simp only [Bool.or_eq_false_iff, decide_eq_false_iff_not, Bool.and_eq_false_iff, beq_eq_false_iff_ne] at hbad'
              obtain ⟨⟨⟨b1, b2⟩, b3⟩, b4⟩ := hbad'
              obtain ⟨p, hp, hv⟩ := ih (s.size - (i + 1)) (by omega) (i + 1) (o ++ [c]) (c == 32) rfl (by omega) (by rw [List.length_append, List.length_singleton]; omega)
              rw [show decide (i + 1 = 0) = false from decide_eq_false (by omega)] at hv
              refine ⟨p, go (UInt8.not_lt.1 b1) (UInt8.not_lt.1 b2) b3 (fun h => ?_) ?_, hv.push⟩
              · rcases b4 with b4 | b4
                · exact absurd h b4
                · exact b4
              · rw [w1, hb, ← numsB_snoc]
                have : (((c.toNat : Int)) == 32) = (c == 32) := by
                  by_cases h : c = 32
                  · rw [h]; rfl
                  · rw [beq_eq_false_iff_ne.2 h, show (((c.toNat : Int)) == 32) = false from beq_eq_false_iff_ne.2 (fun e => h ((u8i c 32).1 e))]
                rw [this]
                exact hp
        obtain ⟨p, hp, hv⟩ := body
        refine ⟨p, Ev.step (fun k => by rw [dn_value.l0]) (Ev.ifp (by omega) (Ev.ifp (by omega) ?_)), hv⟩
        rw [hne]
        exact hp
    · obtain ⟨p, hp, hv⟩ := stop false rfl (Or.inl (List.drop_eq_nil_of_le (by omega)))
      exact ⟨p, Ev.step (fun k => by rw [dn_value.l0]) (Ev.ifn (by omega) hp), hv⟩
theorem value_ev (s : ByteArray) (hs : s.size ≤ 70368744177664) : ∃ p, Ev (fun k => dn_value.f k s) p ∧ ValIs [] (valG true false s.data.toList) p := by
  have h := value_loop s hs s.size 0 [] false (by omega) (by omega) (Nat.le_refl _)
  exact h
end Go.Proofs.YtjicpomcfelobaaDoor.P

/-! Plain: names and keys; that the walked functions tell them. -/
namespace Go.Proofs.YtjicpomcfelobaaDoor.P
open Go.RowKit Go.Proofs.YtjicpomcfelobaaDoorW.PrintWords Go.Proofs.YtjicpomcfelobaaDoorW.PrintLast Go.Proofs.YtjicpomcfelobaaDoorW.PrintMore
set_option linter.unusedVariables false
set_option linter.unusedSimpArgs false

abbrev PR := List UInt8 × List UInt8
/-- Cut at the first '='. -/
def cutEq : List UInt8 → Option (List UInt8 × List UInt8)
  | [] => none
  | c :: r => if c = 61 then some ([], r) else (cutEq r).map fun p => (c :: p.1, p.2)
theorem cut_idx : ∀ (l : List UInt8), match cutEq l with
    | none => Lib.indexByte l 61 = -1
    | some (a, b) => ∃ n : Nat, Lib.indexByte l 61 = n ∧ l.take n = a ∧ l.drop (n + 1) = b
  | [] => rfl
  | c :: r => by
    have ih := cut_idx r
    unfold cutEq
    by_cases hc : c = 61
    · rw [if_pos hc]
      exact ⟨0, by unfold Lib.indexByte; rw [if_pos (by rw [hc]; rfl)]; rfl, rfl, rfl⟩
    · rw [if_neg hc]
      cases h : cutEq r with
      | none =>
        rw [h] at ih
        show Lib.indexByte (c :: r) 61 = -1
        unfold Lib.indexByte
        rw [if_neg (by rw [beq_iff_eq]; exact hc), if_pos (by rw [show Lib.indexByte r 61 = -1 from ih]; rfl)]
      | some p =>
        obtain ⟨a, b⟩ := p
        rw [h] at ih
        obtain ⟨n, h1, h2, h3⟩ := ih
        refine ⟨n + 1, ?_, ?_, ?_⟩
        · unfold Lib.indexByte
          rw [if_neg (by rw [beq_iff_eq]; exact hc), h1, if_neg (by rw [beq_iff_eq]; omega)]
          omega
        · rw [List.take_succ_cons, h2]
        · rw [List.drop_succ_cons, h3]
theorem cut_eq (l : List UInt8) : Lib.cut l [61] = match cutEq l with | none => (l, [], false) | some (a, b) => (a, b, true) := by
  have h := cut_idx l
  unfold Lib.cut
  rw [Lib.index_one]
  cases hc : cutEq l with
  | none =>
    rw [hc] at h
    rw [show Lib.indexByte l 61 = -1 from h, if_neg (by decide)]
  | some p =>
    obtain ⟨a, b⟩ := p
    rw [hc] at h
    obtain ⟨n, h1, h2, h3⟩ := h
    rw [h1, if_pos (by omega), Int.toNat_natCast, List.length_singleton, h2, h3]
theorem cutEq_len : ∀ (l a b : List UInt8), cutEq l = some (a, b) → l = a ++ 61 :: b
  | [], a, b, h => by cases h
  | c :: r, a, b, h => by
    unfold cutEq at h
    by_cases hc : c = 61
    · rw [if_pos hc] at h
      obtain ⟨rfl, rfl⟩ := Prod.mk.inj (Option.some.inj h)
      rw [hc]; rfl
    · rw [if_neg hc] at h
      obtain ⟨⟨a', b'⟩, h1, h2⟩ := Option.map_eq_some_iff.1 h
      obtain ⟨rfl, rfl⟩ := Prod.mk.inj h2
      rw [cutEq_len r _ _ h1]; rfl

def parseN : Nat → List UInt8 → Option (List PR)
  | 0, _ => none
  | m + 1, l => match cutEq l with
    | none => none
    | some (t, v) => if typedL t = true then (match valG true false v with
      | none => none
      | some (x, []) => some [(t, x)]
      | some (x, _ :: r) => (parseN m r).map fun y => (t, x) :: y) else none
def okV (p : PR) : Bool := !p.2.isEmpty && decide (p.2.length ≤ 100)
def okR (p : PR) : Bool := typedL p.1 && okV p
def mayL (rs : List PR) : Bool := rs.all okR && decide (rs.length ≤ 8)
def parseL (l : List UInt8) : Option (List PR) := if l = [] then some [] else (parseN 8 l).bind fun rs => if rs.all okV = true then some rs else none
def toS (p : PR) : S51 := ⟨mk p.1, mk p.2⟩

theorem rd_map (rs : List PR) (i : Nat) (h : i < rs.length) : rd_T51 (rs.map toS) (i : Int) = toS (rs.getD i ([], [])) := by
  unfold rd_T51
  rw [Int.toNat_natCast, List.getD_eq_getElem?_getD, List.getElem?_map, List.getElem?_eq_getElem h, List.getD_eq_getElem?_getD, List.getElem?_eq_getElem h]; rfl
theorem dropP_cons (l : List PR) (i : Nat) (h : i < l.length) : l.drop i = l.getD i ([], []) :: l.drop (i + 1) := by
  rw [List.drop_eq_getElem_cons h, List.getD_eq_getElem?_getD, List.getElem?_eq_getElem h]; rfl
theorem may_loop (rs : List PR) (hr : rs.length ≤ 1000000000) : ∀ n i : Nat, rs.length - i = n → i ≤ rs.length →
    Ev (fun k => dn_May.l0 k (rs.map toS) (rs.map toS) (rs.length : Int) (i : Int)) ((rs.drop i).all okR && decide (rs.length ≤ 8)) := by
  intro n
  induction n with
  | zero =>
    intro i hn hi
    refine Ev.step (fun k => by rw [dn_May.l0]) (Ev.ifn (by omega) (Ev.const fun k => ?_))
    rw [List.drop_eq_nil_of_le (by omega), List.length_map]
    simp only [List.all_nil, Bool.true_and]
    congr 1
    exact decide_eq_decide.2 (by omega)
  | succ n ih =>
    intro i hn hi
    refine Ev.step (fun k => by rw [dn_May.l0]) (Ev.ifp (by omega) (Ev.ifp (by omega) (Ev.ifp (by rw [List.length_map]; omega) ?_)))
    rw [rd_map rs i (by omega), dropP_cons rs i (by omega)]
    generalize rs.getD i ([], []) = p
    unfold dn_typed.f
    refine Ev.bs ?_
    show Ev (fun k => if typedL p.1 = true then (if (mk p.2).toList = [] then some false else (if ((mk p.2).size : Int) > 100 then some false else _)) else some false) _
    rw [List.all_cons]
    by_cases h1 : typedL p.1 = true
    · refine Ev.ifp h1 ?_
      rw [mk_toList, mk_size]
      by_cases h2 : p.2 = []
      · refine Ev.ifp h2 (Ev.const fun k => ?_)
        unfold okR okV; rw [h2]; simp
      refine Ev.ifn h2 ?_
      by_cases h3 : (p.2.length : Int) > 100
      · refine Ev.ifp h3 (Ev.const fun k => ?_)
        unfold okR okV; rw [decide_eq_false (show ¬ p.2.length ≤ 100 by omega)]; simp
      refine Ev.ifn h3 ?_
      have hp : okR p = true := by unfold okR okV; rw [h1, decide_eq_true (by omega)]; simp [List.isEmpty_iff, h2]
      rw [hp, Bool.true_and, wrap_small _ (by omega) (by omega), show (i : Int) + 1 = ((i + 1 : Nat) : Int) by omega]
      exact ih (i + 1) (by omega) (by omega)
    · refine Ev.ifn h1 (Ev.const fun k => ?_)
      unfold okR; rw [Bool.eq_false_iff.2 h1]; simp
theorem may_ev (rs : List PR) (hr : rs.length ≤ 1000000000) : Ev (fun k => dn_May.f k (rs.map toS)) (mayL rs) := by
  have h := may_loop rs hr rs.length 0 (by omega) (by omega)
  unfold dn_May.f
  rw [List.length_map]
  exact h

theorem valG_len : ∀ (n : Nat) (l : List UInt8) (f sp : Bool) (v r : List UInt8), l.length = n → valG f sp l = some (v, r) → v.length + r.length ≤ l.length ∧ (r = [] ∨ ∃ r', r = 44 :: r') := by
  intro n
  induction n using Nat.strongRecOn with
  | _ n ih =>
    intro l f sp v r hn h
    cases l with
    | nil =>
      rw [valG] at h
      split at h
      · cases h
      · obtain ⟨rfl, rfl⟩ := Prod.mk.inj (Option.some.inj h)
        exact ⟨Nat.le_refl _, Or.inl rfl⟩
    | cons c l =>
      rw [List.length_cons] at hn
      rw [valG] at h
      by_cases h44 : c = 44
      · rw [if_pos h44] at h
        split at h
        · cases h
        · obtain ⟨rfl, rfl⟩ := Prod.mk.inj (Option.some.inj h)
          exact ⟨by simp, Or.inr ⟨l, by rw [h44]⟩⟩
      rw [if_neg h44] at h
      by_cases h92 : c = 92
      · rw [if_pos h92] at h
        cases hx : escN l with
        | none => rw [hx] at h; cases h
        | some q =>
          obtain ⟨b, m⟩ := q
          rw [hx] at h
          obtain ⟨⟨v', r'⟩, h1, h2⟩ := Option.map_eq_some_iff.1 h
          obtain ⟨rfl, rfl⟩ := Prod.mk.inj h2
          obtain ⟨e1, e2⟩ := escN_len _ _ _ hx
          have := ih _ (by rw [List.length_drop]; omega) (l.drop m) _ _ _ _ rfl h1
          rw [List.length_drop] at this
          simp only [List.length_cons]
          exact ⟨by omega, this.2⟩
      · rw [if_neg h92] at h
        split at h
        · cases h
        · obtain ⟨⟨v', r'⟩, h1, h2⟩ := Option.map_eq_some_iff.1 h
          obtain ⟨rfl, rfl⟩ := Prod.mk.inj h2
          have := ih l.length (by omega) l _ _ _ _ rfl h1
          simp only [List.length_cons]
          exact ⟨by omega, this.2⟩

theorem bne_nil (l : List UInt8) : ((mk l).toList != []) = !decide (l = []) := by
  rw [mk_toList]
  cases l <;> rfl
def parseEnd (x : Option (List PR)) : List S51 × Bool := match x with | some rs => (rs.map toS, true) | none => ([], false)
def parseGo (acc : List PR) (m : Nat) (l : List UInt8) : Option (List PR) := (parseN m l).bind fun rs => if (acc ++ rs).all okV = true then some (acc ++ rs) else none
theorem parse_stop (acc : List PR) (ht : acc.all (fun p => typedL p.1) = true) (hl : acc.length ≤ 8) (s : ByteArray) :
    Ev (fun k => dn_Parse.l0 k s (acc.map toS) false) (parseEnd (if acc.all okV = true then some acc else none)) := by
  refine Ev.step (fun k => by rw [dn_Parse.l0]) (Ev.ifn Bool.false_ne_true ((may_ev acc (by omega)).bind (Ev.const fun k => ?_)))
  have e : mayL acc = acc.all okV := by
    unfold mayL
    rw [decide_eq_true hl, Bool.and_true]
    clear hl
    induction acc with
    | nil => rfl
    | cons a r ih =>
      rw [List.all_cons, Bool.and_eq_true] at ht
      rw [List.all_cons, List.all_cons, ih ht.2]
      unfold okR; rw [ht.1, Bool.true_and]
  rw [e]
  split <;> rfl
theorem parse_loop : ∀ (m : Nat) (acc : List PR), 8 - acc.length = m → acc.length ≤ 8 → acc.all (fun p => typedL p.1) = true → ∀ l : List UInt8, l.length ≤ 2147483648 →
    Ev (fun k => dn_Parse.l0 k (mk l) (acc.map toS) true) (parseEnd (parseGo acc m l)) := by
  intro m
  induction m with
  | zero =>
    intro acc hm ha ht l hl
    have e : parseGo acc 0 l = none := rfl
    rw [e]
    have j : ∀ (t v : ByteArray), Ev (fun k => dn_Parse.j1 k (acc.map toS) t v true) (([] : List S51), false) := fun t v => Ev.step (fun k => by rw [dn_Parse.j1]) (Ev.ifp rfl (Ev.now _))
    refine Ev.step (fun k => by rw [dn_Parse.l0]) (Ev.ifp rfl ?_)
    unfold strings_Cut.f
    rw [mk_size, if_pos (by omega), mk_data, show (⟨#[61]⟩ : ByteArray).data.toList = [61] from rfl, cut_eq]
    cases hc : cutEq l with
    | none => exact Ev.bs (Ev.ifn Bool.false_ne_true (j _ _))
    | some p =>
      obtain ⟨a, b⟩ := p
      refine Ev.bs (Ev.ifp rfl ?_)
      unfold dn_typed.f
      refine Ev.bs ?_
      rw [List.length_map, show (((acc.length : Int)) == 8) = true from beq_iff_eq.2 (by omega)]
      by_cases h : typedL a = true
      · exact Ev.ifp h (j _ _)
      · exact Ev.ifn h (j _ _)
  | succ m ih =>
    intro acc hm ha ht l hl
    have j : ∀ (t v : ByteArray), Ev (fun k => dn_Parse.j1 k (acc.map toS) t v true) (([] : List S51), false) := fun t v => Ev.step (fun k => by rw [dn_Parse.j1]) (Ev.ifp rfl (Ev.now _))
    refine Ev.step (fun k => by rw [dn_Parse.l0]) (Ev.ifp rfl ?_)
    unfold strings_Cut.f
    rw [mk_size, if_pos (by omega), mk_data, show (⟨#[61]⟩ : ByteArray).data.toList = [61] from rfl, cut_eq]
    unfold parseGo parseN
    cases hc : cutEq l with
    | none => exact Ev.bs (Ev.ifn Bool.false_ne_true (j _ _))
    | some p =>
      obtain ⟨a, b⟩ := p
      have hlen := congrArg List.length (cutEq_len _ _ _ hc)
      rw [List.length_append, List.length_cons] at hlen
      refine Ev.bs (Ev.ifp rfl ?_)
      unfold dn_typed.f
      refine Ev.bs ?_
      rw [List.length_map, show (((acc.length : Int)) == 8) = false from beq_eq_false_iff_ne.2 (by omega)]
      by_cases h : typedL a = true
      · simp only [if_pos h]
        refine Ev.step (fun k => by rw [dn_Parse.j1]) (Ev.ifn Bool.false_ne_true ?_)
        obtain ⟨p, hp, hv⟩ := value_ev (mk b) (by rw [mk_size]; omega)
        rw [mk_data] at hv
        refine hp.bind ?_
        cases hx : valG true false b with
        | none =>
          rw [hx] at hv
          exact Ev.ifn (by rw [show p.2.2 = false from hv]; exact Bool.false_ne_true) (Ev.now _)
        | some q =>
          obtain ⟨v, r⟩ := q
          rw [hx] at hv
          rw [show p = (mk v, mk r, true) from hv]
          have hvl := valG_len _ _ _ _ _ _ rfl hx
          have ht' : (acc ++ [(a, v)]).all (fun p => typedL p.1) = true := by rw [List.all_append, ht]; simp [h]
          have hm' : (acc.map toS ++ [(⟨mk a, mk v⟩ : S51)]) = (acc ++ [(a, v)]).map toS := by rw [List.map_append]; rfl
          refine Ev.ifp rfl (Ev.ifp (by rw [List.length_map]; omega) (Ev.bs ?_))
          show Ev (fun k => if (mk r).toList = [] then dn_Parse.l0 k (mk r) (acc.map toS ++ [(⟨mk a, mk v⟩ : S51)]) ((mk r).toList != []) else _) _
          rw [hm', bne_nil, mk_toList]
          cases r with
          | nil =>
            refine Ev.ifp rfl ?_
            exact parse_stop (acc ++ [(a, v)]) ht' (by rw [List.length_append, List.length_singleton]; omega) _
          | cons c r =>
            refine Ev.ifn (by simp) (Ev.ifp (by rw [mk_size]; simp only [List.length_cons]; omega) ?_)
            rw [extract_tail, mk_data, List.drop_succ_cons, List.drop_zero]
            have hi := ih (acc ++ [(a, v)]) (by rw [List.length_append, List.length_singleton]; omega) (by rw [List.length_append, List.length_singleton]; omega) ht' r (by simp only [List.length_cons] at hvl; omega)
            have e : parseGo (acc ++ [(a, v)]) m r = ((parseN m r).map fun y => (a, v) :: y).bind fun rs => if (acc ++ rs).all okV = true then some (acc ++ rs) else none := by
              unfold parseGo
              cases parseN m r with
              | none => rfl
              | some y => simp only [Option.bind_some, Option.map_some, List.append_assoc, List.singleton_append]
            rw [e] at hi
            exact hi
      · simp only [if_neg h]
        exact j _ _
theorem parse_ev (s : ByteArray) (hs : s.size ≤ 2147483648) : Ev (fun k => dn_Parse.f k s) (parseEnd (parseL s.data.toList)) := by
  rw [← mk_of s]
  rw [size_len] at hs
  generalize s.data.toList = l at hs
  unfold dn_Parse.f parseL
  rw [bne_nil]
  by_cases h : l = []
  · rw [if_pos h, decide_eq_true h]
    exact parse_stop [] rfl (by decide) _
  · rw [if_neg h, decide_eq_false h]
    have := parse_loop 8 [] rfl (by decide) rfl l hs
    unfold parseGo at this
    simp only [List.nil_append] at this
    exact this
end Go.Proofs.YtjicpomcfelobaaDoor.P

/-! Plain: the key of a name; that it is its own key, and no longer than the name. -/
namespace Go.Proofs.YtjicpomcfelobaaDoor.P
open Go.RowKit Go.Proofs.YtjicpomcfelobaaDoorW.PrintWords Go.Proofs.YtjicpomcfelobaaDoorW.PrintLast Go.Proofs.YtjicpomcfelobaaDoorW.PrintMore
set_option linter.unusedVariables false
set_option linter.unusedSimpArgs false

/-! ### Texts -/
def escF (first : Bool) : List UInt8 → List UInt8
  | [] => []
  | c :: r => (if oddB c = true then [92, hexD (c >>> 4), hexD (c &&& 15)] else if (specialB c || (first && (decide (c = 35) || decide (c = 32))) || (decide (r = []) && decide (c = 32))) = true then [92, c] else [c]) ++ escF false r
theorem escTo_F (l : List UInt8) : ∀ i, i ≤ l.length → escTo l i ++ escF (decide (i = 0)) (l.drop i) = escF true l
  | 0, _ => by
    show escTo l 0 ++ escF true (l.drop 0) = escF true l
    rfl
  | i + 1, h => by
    have ih := escTo_F l i (by omega)
    rw [drop_cons l i (by omega), escF] at ih
    rw [escTo_succ, show decide (i + 1 = 0) = false from decide_eq_false (by omega), List.append_assoc, ← ih]
    congr 2
    unfold escB backB
    have e : decide (l.drop (i + 1) = []) = decide (i + 1 = l.length) := decide_eq_decide.2 (by rw [List.drop_eq_nil_iff]; omega)
    rw [e]
theorem escV_F (l : List UInt8) : escV l = escF true l := by
  have h := escTo_F l l.length (Nat.le_refl _)
  rw [List.drop_length] at h
  simp only [escF, List.append_nil] at h
  exact h
def textR (first : Bool) : List PR → List UInt8
  | [] => []
  | p :: r => (if first = true then [] else [44]) ++ (p.1 ++ [61] ++ escF true p.2) ++ textR false r
theorem textTo_R (rs : List PR) : ∀ i, i ≤ rs.length → textTo (rs.map toS) i ++ textR (decide (i = 0)) (rs.drop i) = textR true rs
  | 0, _ => by
    show textTo (rs.map toS) 0 ++ textR true (rs.drop 0) = textR true rs
    rfl
  | i + 1, h => by
    have ih := textTo_R rs i (by omega)
    rw [dropP_cons rs i (by omega), textR] at ih
    rw [textTo_succ, show decide (i + 1 = 0) = false from decide_eq_false (by omega), List.append_assoc, ← ih, List.append_assoc]
    have e : ((rs.map toS).getD i z51) = toS (rs.getD i ([], [])) := by
      rw [List.getD_eq_getElem?_getD, List.getElem?_map, List.getElem?_eq_getElem (by omega), List.getD_eq_getElem?_getD, List.getElem?_eq_getElem (by omega)]; rfl
    rw [e]
    unfold sepB rdnB toS
    rw [mk_data, mk_data, escV_F]
    by_cases h0 : i = 0
    · rw [if_pos h0, decide_eq_true h0, if_pos rfl]
      simp only [List.append_assoc]
    · rw [if_neg h0, decide_eq_false h0, if_neg Bool.false_ne_true]
      simp only [List.append_assoc]
theorem textL_R (rs : List PR) : textL (rs.map toS) = textR true rs := by
  have h := textTo_R rs rs.length (Nat.le_refl _)
  rw [List.drop_length] at h
  unfold textL
  rw [List.length_map]
  simp only [textR, List.append_nil] at h
  exact h

/-! ### What is read of a text -/
theorem odd_hex (c : UInt8) : oddB c = true → (specialB (hexD (c >>> 4)) || hexD (c >>> 4) == 61 || hexD (c >>> 4) == 35 || hexD (c >>> 4) == 32) = false ∧ (isHexB (hexD (c >>> 4)) && isHexB (hexD (c &&& 15))) = true ∧ hexVB (hexD (c >>> 4)) * 16 + hexVB (hexD (c &&& 15)) = c :=
  byteAll (p := fun c => oddB c = true → (specialB (hexD (c >>> 4)) || hexD (c >>> 4) == 61 || hexD (c >>> 4) == 35 || hexD (c >>> 4) == 32) = false ∧ (isHexB (hexD (c >>> 4)) && isHexB (hexD (c &&& 15))) = true ∧ hexVB (hexD (c >>> 4)) * 16 + hexVB (hexD (c &&& 15)) = c) (by decide +kernel) c
theorem bare_ok (f : Bool) (c : UInt8) : oddB c = false → (specialB c || (f && (decide (c = 35) || decide (c = 32)))) = false → c ≠ 44 ∧ c ≠ 92 ∧ badB f c = false := by
  cases f
  · exact byteAll (p := fun c => oddB c = false → (specialB c || (false && (decide (c = 35) || decide (c = 32)))) = false → c ≠ 44 ∧ c ≠ 92 ∧ badB false c = false) (by decide +kernel) c
  · exact byteAll (p := fun c => oddB c = false → (specialB c || (true && (decide (c = 35) || decide (c = 32)))) = false → c ≠ 44 ∧ c ≠ 92 ∧ badB true c = false) (by decide +kernel) c
theorem valG_esc (tail : List UInt8) (ht : tail = [] ∨ ∃ t, tail = 44 :: t) : ∀ (v : List UInt8) (f sp : Bool), (v = [] → sp = false) → valG f sp (escF f v ++ tail) = some (v, tail)
  | [], f, sp, hsp => by
    rw [hsp rfl]
    rcases ht with rfl | ⟨t, rfl⟩
    · show valG f false [] = _; rw [valG, if_neg Bool.false_ne_true]
    · show valG f false (44 :: t) = _; rw [valG, if_pos rfl, if_neg Bool.false_ne_true]
  | c :: r, f, sp, _ => by
    unfold escF
    by_cases ho : oddB c = true
    · obtain ⟨h1, h2, h3⟩ := odd_hex c ho
      rw [if_pos ho]
      show valG f sp (92 :: hexD (c >>> 4) :: hexD (c &&& 15) :: (escF false r ++ tail)) = _
      rw [valG, if_neg (by decide), if_pos rfl, escN_f2 _ _ _ h1, if_pos h2, h3]
      show (valG false false (escF false r ++ tail)).map _ = _
      rw [valG_esc tail ht r false false (fun _ => rfl)]; rfl
    · rw [if_neg ho]
      have ho' := Bool.eq_false_iff.2 ho
      by_cases hb : (specialB c || (f && (decide (c = 35) || decide (c = 32))) || (decide (r = []) && decide (c = 32))) = true
      · rw [if_pos hb]
        show valG f sp (92 :: c :: (escF false r ++ tail)) = _
        have hc : (specialB c || c == 61 || c == 35 || c == 32) = true := by
          simp only [Bool.or_eq_true, Bool.and_eq_true, decide_eq_true_eq, beq_iff_eq] at hb ⊢
          rcases hb with (h | ⟨_, h | h⟩) | ⟨_, h⟩
          · exact .inl (.inl (.inl h))
          · exact .inl (.inr h)
          · exact .inr h
          · exact .inr h
        rw [valG, if_neg (by decide), if_pos rfl, escN_t _ _ hc]
        show (valG false false (escF false r ++ tail)).map _ = _
        rw [valG_esc tail ht r false false (fun _ => rfl)]; rfl
      · rw [if_neg hb]
        have hb' := Bool.eq_false_iff.2 hb
        rw [Bool.or_eq_false_iff] at hb'
        obtain ⟨b1, b2, b3⟩ := bare_ok f c ho' hb'.1
        show valG f sp (c :: (escF false r ++ tail)) = _
        rw [valG, if_neg b1, if_neg b2, if_neg (by rw [b3]; exact Bool.false_ne_true), valG_esc tail ht r false (c == 32) ?_]
        · rfl
        · intro hr
          have := hb'.2
          rw [decide_eq_true hr, Bool.true_and] at this
          exact beq_eq_false_iff_ne.2 (of_decide_eq_false this)

theorem cutEq_app : ∀ (t r : List UInt8), (∀ c ∈ t, c ≠ 61) → cutEq (t ++ 61 :: r) = some (t, r)
  | [], r, _ => by show cutEq (61 :: r) = _; unfold cutEq; rw [if_pos rfl]
  | c :: t, r, h => by
    show cutEq (c :: (t ++ 61 :: r)) = _
    unfold cutEq
    rw [if_neg (h c (List.mem_cons_self)), cutEq_app t r (fun x hx => h x (List.mem_cons_of_mem _ hx))]; rfl
theorem typed_no61 {t : List UInt8} (h : typedL t = true) : ∀ c ∈ t, c ≠ 61 := by
  intro c hc e
  unfold typedL at h
  simp only [Bool.and_eq_true] at h
  have := List.all_eq_true.1 h.2 c hc
  rw [e] at this
  exact absurd this (by decide)
theorem textR_tail (rs : List PR) : textR false rs = [] ∨ ∃ t, textR false rs = 44 :: t := by
  cases rs with
  | nil => exact Or.inl rfl
  | cons p r => exact Or.inr ⟨p.1 ++ [61] ++ escF true p.2 ++ textR false r, rfl⟩
theorem parseN_text : ∀ (m : Nat) (rs : List PR), rs ≠ [] → rs.length ≤ m → rs.all okR = true → parseN m (textR true rs) = some rs
  | 0, rs, h, hl, _ => absurd (List.eq_nil_of_length_eq_zero (by omega)) h
  | m + 1, [], h, _, _ => absurd rfl h
  | m + 1, (t, v) :: rs, _, hl, hr => by
    rw [List.all_cons, Bool.and_eq_true] at hr
    unfold okR okV at hr
    simp only [Bool.and_eq_true] at hr
    obtain ⟨⟨h1, h2, h3⟩, h4⟩ := hr
    have hv : v ≠ [] := by intro e; subst e; exact absurd h2 (by decide)
    have e : textR true ((t, v) :: rs) = t ++ 61 :: (escF true v ++ textR false rs) := by
      show [] ++ (t ++ [61] ++ escF true v) ++ textR false rs = _
      simp
    unfold parseN
    rw [e, cutEq_app t _ (typed_no61 h1)]
    simp only [if_pos h1]
    rw [valG_esc (textR false rs) (textR_tail rs) v true false (fun h => absurd h hv)]
    cases rs with
    | nil => rfl
    | cons p r =>
      have ih := parseN_text m (p :: r) (by simp) (by simp only [List.length_cons] at hl ⊢; omega) h4
      have e2 : textR false (p :: r) = 44 :: textR true (p :: r) := rfl
      rw [e2]
      simp only [ih, Option.map_some]
theorem textR_nil {rs : List PR} (h : textR true rs = []) : rs = [] := by
  cases rs with
  | nil => rfl
  | cons p r =>
    exfalso
    have := congrArg List.length h
    simp [textR] at this
theorem parse_text (rs : List PR) (h : mayL rs = true) : parseL (textR true rs) = some rs := by
  unfold mayL at h
  rw [Bool.and_eq_true] at h
  obtain ⟨h1, h2⟩ := h
  unfold parseL
  by_cases h0 : rs = []
  · subst h0; rfl
  · rw [if_neg (fun e => h0 (textR_nil e)), parseN_text 8 rs h0 (of_decide_eq_true h2) h1]
    rw [Option.bind_some, if_pos]
    refine List.all_eq_true.2 fun p hp => ?_
    have := List.all_eq_true.1 h1 p hp
    unfold okR at this
    rw [Bool.and_eq_true] at this
    exact this.2
theorem parseN_ok : ∀ (m : Nat) (l : List UInt8) (rs : List PR), parseN m l = some rs → rs.length ≤ m ∧ rs ≠ [] ∧ rs.all (fun p => typedL p.1) = true
  | 0, l, rs, h => by cases h
  | m + 1, l, rs, h => by
    unfold parseN at h
    cases hc : cutEq l with
    | none => rw [hc] at h; cases h
    | some p =>
      obtain ⟨a, b⟩ := p
      rw [hc] at h
      simp only at h
      by_cases ht : typedL a = true
      · rw [if_pos ht] at h
        cases hx : valG true false b with
        | none => rw [hx] at h; cases h
        | some q =>
          obtain ⟨v, r⟩ := q
          rw [hx] at h
          cases r with
          | nil =>
            obtain rfl := Option.some.inj h
            exact ⟨by simp, by simp, by simp [ht]⟩
          | cons c r =>
            obtain ⟨y, h1, rfl⟩ := Option.map_eq_some_iff.1 h
            obtain ⟨i1, i2, i3⟩ := parseN_ok m r y h1
            exact ⟨by simp only [List.length_cons]; omega, by simp, by rw [List.all_cons, i3]; simp [ht]⟩
      · rw [if_neg ht] at h; cases h
theorem parse_may {l : List UInt8} {rs : List PR} (h : parseL l = some rs) : mayL rs = true := by
  unfold parseL at h
  by_cases h0 : l = []
  · rw [if_pos h0] at h
    obtain rfl := Option.some.inj h
    decide
  · rw [if_neg h0] at h
    obtain ⟨y, h1, h2⟩ := Option.bind_eq_some_iff.1 h
    by_cases ho : y.all okV = true
    · rw [if_pos ho] at h2
      obtain rfl := Option.some.inj h2
      obtain ⟨i1, i2, i3⟩ := parseN_ok _ _ _ h1
      unfold mayL
      rw [decide_eq_true i1, Bool.and_true]
      refine List.all_eq_true.2 fun p hp => ?_
      unfold okR
      rw [List.all_eq_true.1 i3 p hp, List.all_eq_true.1 ho p hp]; rfl
    · rw [if_neg ho] at h2; cases h2

/-! ### Keys -/
def normR (p : PR) : PR := (p.1.map lowB, foldL p.2)
def keyR (rs : List PR) : Option (List UInt8) := if rs.all (fun p => !(foldL p.2).isEmpty) = true then some (textR true (rs.map normR)) else none
def keyL (l : List UInt8) : Option (List UInt8) := (parseL l).bind keyR
theorem escF_len (f : Bool) : ∀ v : List UInt8, (escF f v).length ≤ 3 * v.length := by
  intro v
  induction v generalizing f with
  | nil => exact Nat.zero_le _
  | cons c r ih =>
    unfold escF
    rw [List.length_append, List.length_cons]
    have := ih false
    split
    · simp only [List.length_cons, List.length_nil]; omega
    · split <;> (simp only [List.length_cons, List.length_nil]; omega)
theorem foldL_len (l : List UInt8) : (foldL l).length ≤ l.length := by
  unfold foldL
  have h := sq_take_len ((Lib.trimB l 32).map lowB) _ (Nat.le_refl _)
  rw [List.take_length, List.length_map] at h
  exact Nat.le_trans h (trimB_len l)
theorem textR_len (n : Nat) : ∀ (rs : List PR) (f : Bool), (∀ p ∈ rs, p.1.length ≤ 30 ∧ p.2.length ≤ n) → (textR f rs).length ≤ rs.length * (32 + 3 * n)
  | [], _, _ => Nat.zero_le _
  | p :: r, f, h => by
    have ih := textR_len n r false (fun q hq => h q (List.mem_cons_of_mem _ hq))
    have hp := h p (List.mem_cons_self)
    have he := escF_len true p.2
    unfold textR
    simp only [List.length_append, List.length_cons, List.length_nil]
    rw [Nat.add_mul]
    have : (if f = true then ([] : List UInt8) else [44]).length ≤ 1 := by split <;> simp
    omega
theorem key_loop (rs : List PR) (hr : mayL rs = true) : ∀ n i : Nat, rs.length - i = n → i ≤ rs.length → (rs.take i).all (fun p => !(foldL p.2).isEmpty) = true →
    Ev (fun k => dn_Key.l0 k (((rs.take i).map normR ++ rs.drop i).map toS) (rs.length : Int) (i : Int)) (encO (keyR rs)) := by
  have hm := hr
  unfold mayL at hm
  rw [Bool.and_eq_true, decide_eq_true_eq] at hm
  have hb : ∀ p ∈ rs, p.1.length ≤ 30 ∧ p.2.length ≤ 100 := by
    intro p hp
    have := List.all_eq_true.1 hm.1 p hp
    unfold okR okV typedL at this
    simp only [Bool.and_eq_true, decide_eq_true_eq] at this
    exact ⟨this.1.1.1.2, this.2.2⟩
  intro n
  induction n with
  | zero =>
    intro i hn hi hall
    have e : i = rs.length := by omega
    subst e
    rw [List.take_length] at hall
    rw [List.take_length, List.drop_length, List.append_nil]
    have ek : keyR rs = some (textR true (rs.map normR)) := by unfold keyR; rw [if_pos hall]
    rw [ek]
    refine Ev.step (fun k => by rw [dn_Key.l0]) (Ev.ifn (by omega) ?_)
    unfold dn_Text.f
    rw [textL_R]
    have hl := textR_len 100 (rs.map normR) true (fun q hq => by
      obtain ⟨p, hp, rfl⟩ := List.mem_map.1 hq
      have := hb p hp
      unfold normR
      have h2 := foldL_len p.2
      simp only [List.length_map]
      omega)
    rw [List.length_map] at hl
    rw [if_pos (by omega)]
    exact Ev.const fun k => rfl
  | succ n ih =>
    intro i hn hi hall
    have hget : (((rs.take i).map normR ++ rs.drop i).getD i ([], [])) = rs.getD i ([], []) := by
      rw [List.getD_eq_getElem?_getD, List.getElem?_append_right (by rw [List.length_map, List.length_take]; omega), List.length_map, List.length_take, Nat.min_eq_left hi, Nat.sub_self, List.getElem?_drop, Nat.add_zero, ← List.getD_eq_getElem?_getD]
    have hlen : ((rs.take i).map normR ++ rs.drop i).length = rs.length := by
      rw [List.length_append, List.length_map, List.length_take, List.length_drop]; omega
    refine Ev.step (fun k => by rw [dn_Key.l0]) (Ev.ifp (by omega) (Ev.ifp (by omega) (Ev.ifp (by rw [List.length_map, hlen]; omega) ?_)))
    rw [rd_map _ i (by omega), hget]
    generalize hp : rs.getD i ([], []) = p
    have hpm : p ∈ rs := by
      rw [← hp, List.getD_eq_getElem?_getD, List.getElem?_eq_getElem (by omega)]
      exact List.getElem_mem _
    have hbp := hb p hpm
    have e1 : dn_lowered.f (toS p).f0 = some (mk (p.1.map lowB)) := by
      unfold dn_lowered.f toS
      rw [mk_size, if_pos (by omega)]
      congr 1
      apply ba_ext
      rw [lowS_data, mk_data, mk_data]
    have e2 : dn_Fold.f (toS p).f1 = some (mk (foldL p.2)) := by
      unfold dn_Fold.f toS
      rw [mk_size, if_pos (by omega), mk_data]
    rw [e1, e2]
    refine Ev.bs (Ev.bs (Ev.bs ?_))
    rw [mk_toList]
    by_cases hf : foldL p.2 = []
    · refine Ev.ifp hf ?_
      have ek : keyR rs = none := by
        unfold keyR
        rw [if_neg]
        intro h
        have := List.all_eq_true.1 h p hpm
        rw [hf] at this
        exact absurd this (by decide)
      rw [ek]
      exact Ev.now _
    · refine Ev.ifn hf ?_
      have hset : ((((rs.take i).map normR ++ rs.drop i).map toS).set (i : Int).toNat (⟨mk (p.1.map lowB), (toS p).f1⟩ : S51)).set (i : Int).toNat (⟨(rd_T51 ((((rs.take i).map normR ++ rs.drop i).map toS).set (i : Int).toNat (⟨mk (p.1.map lowB), (toS p).f1⟩ : S51)) (i : Int)).f0, mk (foldL p.2)⟩ : S51) = (((rs.take (i + 1)).map normR ++ rs.drop (i + 1)).map toS) := by
        rw [Int.toNat_natCast, List.set_set]
        have er : (rd_T51 ((((rs.take i).map normR ++ rs.drop i).map toS).set i (⟨mk (p.1.map lowB), (toS p).f1⟩ : S51)) (i : Int)).f0 = mk (p.1.map lowB) := by
          unfold rd_T51
          rw [Int.toNat_natCast, List.getD_eq_getElem?_getD, List.getElem?_set_self (by rw [List.length_map, hlen]; omega)]; rfl
        rw [er, dropP_cons rs i (by omega), hp, List.take_succ_eq_append_getElem (by omega), List.map_append, List.map_append, List.map_append, List.map_append, List.map_cons]
        have eg : rs[i]'(by omega) = p := by rw [← hp, List.getD_eq_getElem?_getD, List.getElem?_eq_getElem (by omega)]; rfl
        rw [eg, List.set_append_right _ _ (by rw [List.length_map, List.length_map, List.length_take]; omega)]
        rw [show i - ((rs.take i).map normR |>.map toS).length = 0 by rw [List.length_map, List.length_map, List.length_take]; omega]
        rw [List.set_cons_zero, List.append_assoc]
        rfl
      rw [hset, wrap_small _ (by omega) (by omega), show (i : Int) + 1 = ((i + 1 : Nat) : Int) by omega]
      refine ih (i + 1) (by omega) (by omega) ?_
      rw [List.take_succ_eq_append_getElem (by omega), List.all_append, hall]
      have eg : rs[i]'(by omega) = p := by rw [← hp, List.getD_eq_getElem?_getD, List.getElem?_eq_getElem (by omega)]; rfl
      rw [eg]
      simp [List.isEmpty_iff, hf]
theorem key_ev (s : ByteArray) (hs : s.size ≤ 2147483648) : Ev (fun k => dn_Key.f k s) (encO (keyL s.data.toList)) := by
  unfold dn_Key.f keyL
  refine (parse_ev s hs).bind ?_
  cases h : parseL s.data.toList with
  | none => exact Ev.ifn Bool.false_ne_true (Ev.now _)
  | some rs =>
    refine Ev.ifp rfl ?_
    have := key_loop rs (parse_may h) rs.length 0 (by omega) (by omega) (by rfl)
    show Ev (fun k => dn_Key.l0 k (rs.map toS) ((rs.map toS).length : Int) 0) (encO (keyR rs))
    rw [List.length_map]
    exact this
end Go.Proofs.YtjicpomcfelobaaDoor.P

/-! Plain: a fold's fold is the fold; a key's key is the key, and no key is longer than its name; a norm's norm is the norm. -/
namespace Go.Proofs.YtjicpomcfelobaaDoor.P
open Go.RowKit Go.Proofs.YtjicpomcfelobaaDoorW.PrintWords Go.Proofs.YtjicpomcfelobaaDoorW.PrintLast Go.Proofs.YtjicpomcfelobaaDoorW.PrintMore
set_option linter.unusedVariables false
set_option linter.unusedSimpArgs false

def sqR (b : Bool) : List UInt8 → List UInt8
  | [] => []
  | c :: r => if c = 32 ∧ b = true then sqR true r else c :: sqR (decide (c = 32)) r
theorem foldl_sq : ∀ (l acc : List UInt8), l.foldl sqStep acc = acc ++ sqR (decide (acc.getLast? = some 32)) l
  | [], acc => by simp [sqR]
  | c :: r, acc => by
    rw [List.foldl_cons, foldl_sq r]
    unfold sqStep
    conv => rhs; rw [sqR]
    by_cases h : c = 32 ∧ acc.getLast? = some 32
    · rw [if_pos h, if_pos ⟨h.1, decide_eq_true h.2⟩, decide_eq_true h.2]
    · rw [if_neg h, if_neg (fun e => h ⟨e.1, of_decide_eq_true e.2⟩), List.append_assoc]
      have : (decide ((acc ++ [c]).getLast? = some 32)) = decide (c = 32) := decide_eq_decide.2 (by simp)
      rw [this]; rfl
theorem sq_R (l : List UInt8) : sq l = sqR false l := by
  unfold sq
  rw [foldl_sq]; rfl
theorem sqR_idem : ∀ (l : List UInt8) (b : Bool), sqR b (sqR b l) = sqR b l
  | [], b => rfl
  | c :: r, b => by
    by_cases h : c = 32 ∧ b = true
    · have e : sqR b (c :: r) = sqR true r := by rw [sqR, if_pos h]
      rw [e, h.2]
      exact sqR_idem r true
    · have e : sqR b (c :: r) = c :: sqR (decide (c = 32)) r := by rw [sqR, if_neg h]
      rw [e, sqR, if_neg h, sqR_idem r]
theorem lowB_idem (c : UInt8) : lowB (lowB c) = lowB c := byteAll (p := fun c => lowB (lowB c) = lowB c) (by decide +kernel) c
theorem low_idem (l : List UInt8) : (l.map lowB).map lowB = l.map lowB := by
  rw [List.map_map]
  exact List.map_congr_left fun c _ => lowB_idem c
theorem sqR_low : ∀ (l : List UInt8) (b : Bool), (sqR b l).map lowB = sqR b (l.map lowB)
  | [], b => rfl
  | c :: r, b => by
    rw [List.map_cons, sqR, sqR]
    have e : (lowB c = 32) = (c = 32) := propext (lowB_blank c)
    by_cases h : c = 32 ∧ b = true
    · rw [if_pos h, if_pos ⟨(lowB_blank c).2 h.1, h.2⟩, sqR_low r]
    · rw [if_neg h, if_neg (fun x => h ⟨(lowB_blank c).1 x.1, x.2⟩), List.map_cons, sqR_low r]
      simp only [e]
theorem sqR_last : ∀ (l : List UInt8) (b : Bool), l ≠ [] → l.getLast? ≠ some 32 → (sqR b l).getLast? = l.getLast? ∧ sqR b l ≠ []
  | [], b, h, _ => absurd rfl h
  | [c], b, _, h => by
    have hc : c ≠ 32 := fun e => h (by rw [e]; rfl)
    rw [sqR, if_neg (fun x => hc x.1)]
    exact ⟨rfl, by simp⟩
  | c :: d :: r, b, _, h => by
    have h' : (d :: r).getLast? ≠ some 32 := by rw [List.getLast?_cons_cons] at h; exact h
    rw [sqR]
    by_cases hx : c = 32 ∧ b = true
    · rw [if_pos hx, List.getLast?_cons_cons]
      exact sqR_last (d :: r) true (by simp) h'
    · rw [if_neg hx, List.getLast?_cons_cons]
      obtain ⟨h1, h2⟩ := sqR_last (d :: r) (decide (c = 32)) (by simp) h'
      refine ⟨?_, by simp⟩
      rw [← h1]
      cases hs : sqR (decide (c = 32)) (d :: r) with
      | nil => exact absurd hs h2
      | cons x y => rw [List.getLast?_cons_cons]

/-! ### Trimmed -/
theorem dropW_head (l : List UInt8) : (l.dropWhile (· == 32)).head? ≠ some 32 := by
  induction l with
  | nil => simp
  | cons c r ih =>
    rw [List.dropWhile_cons]
    split
    · exact ih
    · rename_i h
      intro e
      have : c = 32 := by simpa using e
      exact h (by rw [this]; rfl)
theorem dropW_id (l : List UInt8) (h : l.head? ≠ some 32) : l.dropWhile (· == 32) = l := by
  cases l with
  | nil => rfl
  | cons c r =>
    rw [List.dropWhile_cons, if_neg]
    intro e
    exact h (by rw [beq_iff_eq.1 e]; rfl)
theorem dropW_last (l : List UInt8) (h : l.getLast? ≠ some 32) : (l.dropWhile (· == 32)).getLast? ≠ some 32 := by
  induction l with
  | nil => simp
  | cons c r ih =>
    rw [List.dropWhile_cons]
    split
    · cases r with
      | nil => simp
      | cons d r => exact ih (by rw [List.getLast?_cons_cons] at h; exact h)
    · exact h
theorem trim_head (l : List UInt8) : (Lib.trimB l 32).head? ≠ some 32 := dropW_head _
theorem trim_last (l : List UInt8) : (Lib.trimB l 32).getLast? ≠ some 32 := by
  refine dropW_last _ ?_
  unfold Lib.trimRightB
  rw [List.getLast?_reverse]
  exact dropW_head _
theorem trim_id (l : List UInt8) (h1 : l.head? ≠ some 32) (h2 : l.getLast? ≠ some 32) : Lib.trimB l 32 = l := by
  unfold Lib.trimB Lib.trimLeftB Lib.trimRightB
  rw [dropW_id l.reverse (by rw [List.head?_reverse]; exact h2), List.reverse_reverse, dropW_id l h1]
theorem foldL_R (l : List UInt8) : foldL l = sqR false ((Lib.trimB l 32).map lowB) := sq_R _
theorem low_ends (l : List UInt8) (h1 : l.head? ≠ some 32) (h2 : l.getLast? ≠ some 32) : (l.map lowB).head? ≠ some 32 ∧ (l.map lowB).getLast? ≠ some 32 := by
  constructor
  · intro e
    rw [List.head?_map, Option.map_eq_some_iff] at e
    obtain ⟨c, hc, e⟩ := e
    exact h1 (by rw [hc, (lowB_blank c).1 e])
  · intro e
    rw [List.getLast?_map, Option.map_eq_some_iff] at e
    obtain ⟨c, hc, e⟩ := e
    exact h2 (by rw [hc, (lowB_blank c).1 e])
theorem sqR_head (l : List UInt8) : (sqR false l).head? = l.head? := by
  cases l with
  | nil => rfl
  | cons c r => rw [sqR, if_neg (fun x => Bool.false_ne_true x.2)]; rfl
theorem fold_ends (l : List UInt8) : (foldL l).head? ≠ some 32 ∧ (foldL l).getLast? ≠ some 32 := by
  rw [foldL_R]
  obtain ⟨h1, h2⟩ := low_ends _ (trim_head l) (trim_last l)
  refine ⟨by rw [sqR_head]; exact h1, ?_⟩
  by_cases h : (Lib.trimB l 32).map lowB = []
  · rw [h]; simp [sqR]
  · rw [(sqR_last _ false h h2).1]; exact h2
theorem fold_idem (l : List UInt8) : foldL (foldL l) = foldL l := by
  obtain ⟨h1, h2⟩ := fold_ends l
  rw [foldL_R (foldL l), trim_id _ h1 h2, foldL_R l, sqR_low, low_idem, sqR_idem]

/-! ### How long a key is -/
def cst (f : Bool) (c : UInt8) : Nat := if oddB c = true then 3 else if (specialB c || (f && (decide (c = 35) || decide (c = 32)))) = true then 2 else 1
def costV (f : Bool) : List UInt8 → Nat
  | [] => 0
  | c :: r => cst f c + costV false r
theorem cst_pos (f : Bool) (c : UInt8) : 1 ≤ cst f c := by unfold cst; split; omega; split <;> omega
theorem cst_three (f : Bool) (c : UInt8) : cst f c ≤ 3 := by unfold cst; split; omega; split <;> omega
theorem cst_one (f : Bool) (c : UInt8) : badB f c = false → cst f c = 1 := by
  cases f
  · exact byteAll (p := fun c => badB false c = false → cst false c = 1) (by decide +kernel) c
  · exact byteAll (p := fun c => badB true c = false → cst true c = 1) (by decide +kernel) c
theorem cst_two (f : Bool) (c : UInt8) : (specialB c || c == 61 || c == 35 || c == 32) = true → cst f c ≤ 2 := by
  cases f
  · exact byteAll (p := fun c => (specialB c || c == 61 || c == 35 || c == 32) = true → cst false c ≤ 2) (by decide +kernel) c
  · exact byteAll (p := fun c => (specialB c || c == 61 || c == 35 || c == 32) = true → cst true c ≤ 2) (by decide +kernel) c
theorem cst_low (f : Bool) (c : UInt8) : cst f (lowB c) = cst f c := by
  cases f
  · exact byteAll (p := fun c => cst false (lowB c) = cst false c) (by decide +kernel) c
  · exact byteAll (p := fun c => cst true (lowB c) = cst true c) (by decide +kernel) c
theorem cst_first (c : UInt8) : cst true c ≤ cst false c + 1 := byteAll (p := fun c => cst true c ≤ cst false c + 1) (by decide +kernel) c
theorem escN_cost (f : Bool) (l : List UInt8) (b : UInt8) (n : Nat) (h : escN l = some (b, n)) : cst f b ≤ n + 1 := by
  cases l with
  | nil => cases h
  | cons c r =>
    cases hc : (specialB c || c == 61 || c == 35 || c == 32) with
    | true =>
      rw [escN_t c r hc] at h
      obtain ⟨e1, e2⟩ := Prod.mk.inj (Option.some.inj h)
      rw [← e1, ← e2]
      exact cst_two f c hc
    | false =>
      cases r with
      | nil => rw [escN_f1 c hc] at h; cases h
      | cons d r =>
        rw [escN_f2 c d r hc] at h
        by_cases hh : (isHexB c && isHexB d) = true
        · rw [if_pos hh] at h
          obtain ⟨e1, e2⟩ := Prod.mk.inj (Option.some.inj h)
          have := cst_three f b
          omega
        · rw [if_neg hh] at h; cases h
theorem valG_cost : ∀ (n : Nat) (l : List UInt8) (f sp : Bool) (v r : List UInt8), l.length = n → valG f sp l = some (v, r) → costV f v + r.length ≤ l.length := by
  intro n
  induction n using Nat.strongRecOn with
  | _ n ih =>
    intro l f sp v r hn h
    cases l with
    | nil =>
      rw [valG] at h
      split at h
      · cases h
      · obtain ⟨rfl, rfl⟩ := Prod.mk.inj (Option.some.inj h)
        exact Nat.le_refl _
    | cons c l =>
      rw [List.length_cons] at hn
      rw [valG] at h
      by_cases h44 : c = 44
      · rw [if_pos h44] at h
        split at h
        · cases h
        · obtain ⟨rfl, rfl⟩ := Prod.mk.inj (Option.some.inj h)
          simp [costV]
      rw [if_neg h44] at h
      by_cases h92 : c = 92
      · rw [if_pos h92] at h
        cases hx : escN l with
        | none => rw [hx] at h; cases h
        | some q =>
          obtain ⟨b, m⟩ := q
          rw [hx] at h
          obtain ⟨⟨v', r'⟩, h1, h2⟩ := Option.map_eq_some_iff.1 h
          obtain ⟨rfl, rfl⟩ := Prod.mk.inj h2
          obtain ⟨e1, e2⟩ := escN_len _ _ _ hx
          have := ih _ (by rw [List.length_drop]; omega) (l.drop m) _ _ _ _ rfl h1
          have hc := escN_cost f _ _ _ hx
          rw [List.length_drop] at this
          simp only [costV, List.length_cons]
          omega
      · rw [if_neg h92] at h
        by_cases hb : badB f c = true
        · rw [if_pos hb] at h; cases h
        · rw [if_neg hb] at h
          obtain ⟨⟨v', r'⟩, h1, h2⟩ := Option.map_eq_some_iff.1 h
          obtain ⟨rfl, rfl⟩ := Prod.mk.inj h2
          have := ih l.length (by omega) l _ _ _ _ rfl h1
          have hc := cst_one f c (Bool.eq_false_iff.2 hb)
          simp only [costV, List.length_cons]
          omega
theorem escF_cost : ∀ (v : List UInt8) (f : Bool), v.getLast? ≠ some 32 → (escF f v).length = costV f v
  | [], f, _ => rfl
  | c :: r, f, h => by
    have hr : (decide (r = []) && decide (c = 32)) = false := by
      by_cases e : r = []
      · subst e
        rw [decide_eq_false (show ¬ c = 32 from fun e => h (by rw [e]; rfl)), Bool.and_false]
      · rw [decide_eq_false e, Bool.false_and]
    have h' : r.getLast? ≠ some 32 := by
      cases r with
      | nil => simp
      | cons d r => rw [List.getLast?_cons_cons] at h; exact h
    unfold escF costV cst
    rw [hr, Bool.or_false, List.length_append, escF_cost r false h']
    congr 1
    split
    · rfl
    · split <;> rfl
theorem cost_low (f : Bool) : ∀ v : List UInt8, costV f (v.map lowB) = costV f v := by
  intro v
  induction v generalizing f with
  | nil => rfl
  | cons c r ih => simp only [List.map_cons, costV]; rw [cst_low, ih]
theorem cost_sq0 : ∀ (v : List UInt8) (b : Bool), costV false (sqR b v) ≤ costV false v
  | [], b => Nat.le_refl _
  | c :: r, b => by
    rw [sqR]
    by_cases h : c = 32 ∧ b = true
    · rw [if_pos h]
      have := cost_sq0 r true
      simp only [costV]; omega
    · rw [if_neg h]
      have := cost_sq0 r (decide (c = 32))
      simp only [costV]; omega
theorem cost_sq (v : List UInt8) : costV true (sqR false v) ≤ costV true v := by
  cases v with
  | nil => exact Nat.le_refl _
  | cons c r =>
    rw [sqR, if_neg (fun x => Bool.false_ne_true x.2)]
    have := cost_sq0 r (decide (c = 32))
    simp only [costV]; omega
theorem cost_app (f : Bool) : ∀ a b : List UInt8, costV f a ≤ costV f (a ++ b) := by
  intro a
  induction a generalizing f with
  | nil => intro b; exact Nat.zero_le _
  | cons c r ih =>
    intro b
    have := ih false b
    simp only [List.cons_append, costV]; omega
theorem cost_drop1 : ∀ r : List UInt8, costV true (r.dropWhile (· == 32)) ≤ costV false r + 1
  | [] => Nat.zero_le _
  | c :: r => by
    rw [List.dropWhile_cons]
    split
    · have := cost_drop1 r
      have := cst_pos false c
      simp only [costV]; omega
    · have := cst_first c
      simp only [costV]; omega
theorem cost_drop (l : List UInt8) : costV true (l.dropWhile (· == 32)) ≤ costV true l := by
  cases l with
  | nil => exact Nat.le_refl _
  | cons c r =>
    rw [List.dropWhile_cons]
    split
    · rename_i h
      have := cost_drop1 r
      have e : cst true c = 2 := by rw [beq_iff_eq.1 h]; decide
      simp only [costV]; omega
    · exact Nat.le_refl _
theorem trimR_app (l : List UInt8) : ∃ b, l = Lib.trimRightB l 32 ++ b := by
  refine ⟨(l.reverse.takeWhile (· == 32)).reverse, ?_⟩
  unfold Lib.trimRightB
  rw [← List.reverse_append, List.takeWhile_append_dropWhile, List.reverse_reverse]
theorem cost_trim (l : List UInt8) : costV true (Lib.trimB l 32) ≤ costV true l := by
  refine Nat.le_trans (cost_drop _) ?_
  obtain ⟨b, hb⟩ := trimR_app l
  conv => rhs; rw [hb]
  exact cost_app true _ _
theorem cost_fold (v : List UInt8) : (escF true (foldL v)).length ≤ costV true v := by
  rw [escF_cost _ _ (fold_ends v).2, foldL_R]
  refine Nat.le_trans (cost_sq _) ?_
  rw [cost_low]
  exact cost_trim v
def lenC (f : Bool) : List PR → Nat
  | [] => 0
  | p :: r => (if f = true then 0 else 1) + (p.1.length + 1 + costV true p.2) + lenC false r
theorem lenC_first {rs : List PR} (h : rs ≠ []) : lenC false rs = 1 + lenC true rs := by
  cases rs with
  | nil => exact absurd rfl h
  | cons p r => simp only [lenC, if_neg Bool.false_ne_true, if_pos]; omega
theorem parseN_cost : ∀ (m : Nat) (l : List UInt8) (rs : List PR), parseN m l = some rs → lenC true rs ≤ l.length
  | 0, l, rs, h => by cases h
  | m + 1, l, rs, h => by
    unfold parseN at h
    cases hc : cutEq l with
    | none => rw [hc] at h; cases h
    | some p =>
      obtain ⟨a, b⟩ := p
      have hlen := congrArg List.length (cutEq_len _ _ _ hc)
      rw [List.length_append, List.length_cons] at hlen
      rw [hc] at h
      simp only at h
      by_cases ht : typedL a = true
      · rw [if_pos ht] at h
        cases hx : valG true false b with
        | none => rw [hx] at h; cases h
        | some q =>
          obtain ⟨v, r⟩ := q
          rw [hx] at h
          have hv := valG_cost _ _ _ _ _ _ rfl hx
          cases r with
          | nil =>
            obtain rfl := Option.some.inj h
            simp only [lenC, if_pos, List.length_nil] at hv ⊢
            omega
          | cons c r =>
            obtain ⟨y, h1, rfl⟩ := Option.map_eq_some_iff.1 h
            have ih := parseN_cost m r y h1
            have e := lenC_first (parseN_ok m r y h1).2.1
            simp only [lenC, if_pos, List.length_cons] at hv ⊢
            omega
      · rw [if_neg ht] at h; cases h
theorem text_norm_len : ∀ (rs : List PR) (f : Bool), (textR f (rs.map normR)).length ≤ lenC f rs
  | [], f => Nat.le_refl _
  | p :: r, f => by
    have ih := text_norm_len r false
    have hc := cost_fold p.2
    rw [List.map_cons]
    unfold textR lenC normR
    simp only [List.length_append, List.length_cons, List.length_nil, List.length_map]
    have : (if f = true then ([] : List UInt8) else [44]).length = if f = true then 0 else 1 := by split <;> rfl
    have e2 : (textR false (r.map fun p => (p.1.map lowB, foldL p.2))).length ≤ lenC false r := ih
    rw [this]
    omega
theorem key_len {l k : List UInt8} (h : keyL l = some k) : k.length ≤ l.length := by
  unfold keyL at h
  obtain ⟨rs, h1, h2⟩ := Option.bind_eq_some_iff.1 h
  unfold keyR at h2
  by_cases ha : rs.all (fun p => !(foldL p.2).isEmpty) = true
  · rw [if_pos ha] at h2
    obtain rfl := Option.some.inj h2
    refine Nat.le_trans (text_norm_len rs true) ?_
    unfold parseL at h1
    by_cases h0 : l = []
    · rw [if_pos h0] at h1
      obtain rfl := Option.some.inj h1
      exact Nat.zero_le _
    · rw [if_neg h0] at h1
      obtain ⟨y, g1, g2⟩ := Option.bind_eq_some_iff.1 h1
      split at g2
      · obtain rfl := Option.some.inj g2
        exact parseN_cost _ _ _ g1
      · cases g2
  · rw [if_neg ha] at h2; cases h2

theorem ltr_low (c : UInt8) : isLtr (lowB c) = isLtr c := byteAll (p := fun c => isLtr (lowB c) = isLtr c) (by decide +kernel) c
theorem name_low (c : UInt8) : inName (lowB c) = inName c := byteAll (p := fun c => inName (lowB c) = inName c) (by decide +kernel) c
theorem typed_low (t : List UInt8) : typedL (t.map lowB) = typedL t := by
  unfold typedL
  rw [List.length_map, List.all_map]
  have e1 : (t.map lowB).isEmpty = t.isEmpty := by cases t <;> rfl
  have e2 : (inName ∘ lowB) = inName := funext name_low
  rw [e1, e2]
  cases t with
  | nil => rfl
  | cons c r => rw [List.map_cons]; simp only [List.getD_cons_zero]; rw [ltr_low]
theorem normR_idem (p : PR) : normR (normR p) = normR p := by
  unfold normR
  simp only
  rw [low_idem, fold_idem]
theorem may_norm {rs : List PR} (h : mayL rs = true) (ha : rs.all (fun p => !(foldL p.2).isEmpty) = true) : mayL (rs.map normR) = true := by
  unfold mayL at h ⊢
  rw [Bool.and_eq_true] at h ⊢
  refine ⟨?_, by rw [List.length_map]; exact h.2⟩
  refine List.all_eq_true.2 fun q hq => ?_
  obtain ⟨p, hp, rfl⟩ := List.mem_map.1 hq
  have h1 := List.all_eq_true.1 h.1 p hp
  have h2 := List.all_eq_true.1 ha p hp
  unfold okR okV at h1 ⊢
  simp only [Bool.and_eq_true, decide_eq_true_eq] at h1 ⊢
  unfold normR
  simp only
  have := foldL_len p.2
  exact ⟨by rw [typed_low]; exact h1.1, h2, by omega⟩
theorem key_idem {l k : List UInt8} (h : keyL l = some k) : keyL k = some k := by
  unfold keyL at h
  obtain ⟨rs, h1, h2⟩ := Option.bind_eq_some_iff.1 h
  unfold keyR at h2
  by_cases ha : rs.all (fun p => !(foldL p.2).isEmpty) = true
  · rw [if_pos ha] at h2
    obtain rfl := Option.some.inj h2
    unfold keyL
    rw [parse_text _ (may_norm (parse_may h1) ha), Option.bind_some]
    unfold keyR
    rw [if_pos]
    · rw [List.map_map]
      congr 2
      exact List.map_congr_left fun p _ => normR_idem p
    · refine List.all_eq_true.2 fun q hq => ?_
      obtain ⟨p, hp, rfl⟩ := List.mem_map.1 hq
      unfold normR
      simp only
      rw [fold_idem]
      exact List.all_eq_true.1 ha p hp
  · rw [if_neg ha] at h2; cases h2

/-! ### Norms -/
def normL (t v : List UInt8) : Option (List UInt8) := normO (keyL v) t v
theorem norm_all (t v : ByteArray) (ht : t.size ≤ 9223372036854775807) : Ev (fun k => match_Norm.f k t v) (encO (normL t.data.toList v.data.toList)) :=
  norm_ev t v _ ht (fun hv _ => key_ev v (by omega))
theorem normL_small {t v x : List UInt8} (h : normL t v = some x) : x ≠ [] ∧ x.length ≤ 100 := by
  unfold normL normO at h
  split at h
  · cases h
  · rename_i hv
    rw [not_or] at hv
    split at h
    · split at h
      · cases h
      · rename_i hf
        obtain rfl := Option.some.inj h
        have := foldL_len v
        exact ⟨hf, by omega⟩
    · split at h
      · split at h
        · obtain rfl := Option.some.inj h
          exact ⟨hv.1, by omega⟩
        · cases h
      · split at h
        · split at h
          · cases h
          · rename_i hk
            have := key_len h
            refine ⟨fun e => hk (by rw [h, e]), by omega⟩
        · split at h
          · obtain rfl := Option.some.inj h
            exact ⟨hv.1, by omega⟩
          · cases h
theorem norm_idem {t v x : List UInt8} (h : normL t v = some x) : normL t x = some x := by
  have hs := normL_small h
  have hx : ¬ (x = [] ∨ 100 < x.length) := by rw [not_or]; exact ⟨hs.1, by omega⟩
  unfold normL normO at h ⊢
  rw [if_neg hx]
  split at h
  · cases h
  · split at h
    · rename_i r1
      split at h
      · cases h
      · obtain rfl := Option.some.inj h
        rw [if_pos r1, fold_idem, if_neg hs.1]
    · rename_i r1
      rw [if_neg r1]
      split at h
      · rename_i r2
        rw [if_pos r2]
        split at h
        · rename_i hn
          obtain rfl := Option.some.inj h
          rw [if_pos hn]
        · cases h
      · rename_i r2
        rw [if_neg r2]
        split at h
        · rename_i r3
          rw [if_pos r3]
          split at h
          · cases h
          · rw [key_idem h, if_neg (fun e => hs.1 (Option.some.inj e))]
        · rename_i r3
          rw [if_neg r3]
          split at h
          · rename_i r4
            rw [if_pos r4]
          · cases h
end Go.Proofs.YtjicpomcfelobaaDoor.P

namespace Go.Proofs.YtjicpomcfelobaaDoor.P
open Go.RowKit Go.Proofs.YtjicpomcfelobaaDoorW.PrintWords Go.Proofs.YtjicpomcfelobaaDoorW.PrintLast Go.Proofs.YtjicpomcfelobaaDoorW.PrintMore
attribute [local go_sem] max2_int min2_int max_two min_two max_three min_three max_four min_four
set_option linter.unusedVariables false
set_option linter.unusedSimpArgs false

/-! ### brooklaw3_Types: function 7 -/
def brooklaw3_Types.f  : Option (List ByteArray) := some (([(⟨#[111, 98, 106, 101, 99, 116, 99, 108, 97, 115, 115]⟩ : ByteArray), (⟨#[99, 110]⟩ : ByteArray), (⟨#[115, 110]⟩ : ByteArray), (⟨#[111]⟩ : ByteArray), (⟨#[111, 117]⟩ : ByteArray), (⟨#[117, 105, 100]⟩ : ByteArray), (⟨#[109, 97, 105, 108]⟩ : ByteArray), (⟨#[100, 101, 115, 99, 114, 105, 112, 116, 105, 111, 110]⟩ : ByteArray), (⟨#[117, 105, 100, 110, 117, 109, 98, 101, 114]⟩ : ByteArray), (⟨#[109, 101, 109, 98, 101, 114]⟩ : ByteArray), (⟨#[117, 115, 101, 114, 112, 97, 115, 115, 119, 111, 114, 100]⟩ : ByteArray), (⟨#[110, 111, 110, 101]⟩ : ByteArray)] : List ByteArray))
set_option maxHeartbeats 8000000 in
set_option maxRecDepth 100000 in
theorem brooklaw3_Types.calls  (r : List ByteArray) (w : World) (h : brooklaw3_Types.f  = some r) :
    Calls Tryd.prog 7 #[] w fun e w' => ∃ v0_ : Value, e = .returned (v0_) ∧ Kd.R Kd.string 9 w' w.heap.size (fun _ => True) v0_ r ∧ Below w.heap.size w w' := by
  have HB := Aside0.mk (Below.refl w.heap.size w)
  have H : (some (([(⟨#[111, 98, 106, 101, 99, 116, 99, 108, 97, 115, 115]⟩ : ByteArray), (⟨#[99, 110]⟩ : ByteArray), (⟨#[115, 110]⟩ : ByteArray), (⟨#[111]⟩ : ByteArray), (⟨#[111, 117]⟩ : ByteArray), (⟨#[117, 105, 100]⟩ : ByteArray), (⟨#[109, 97, 105, 108]⟩ : ByteArray), (⟨#[100, 101, 115, 99, 114, 105, 112, 116, 105, 111, 110]⟩ : ByteArray), (⟨#[117, 105, 100, 110, 117, 109, 98, 101, 114]⟩ : ByteArray), (⟨#[109, 101, 109, 98, 101, 114]⟩ : ByteArray), (⟨#[117, 115, 101, 114, 112, 97, 115, 115, 119, 111, 114, 100]⟩ : ByteArray), (⟨#[110, 111, 110, 101]⟩ : ByteArray)] : List ByteArray))) = some r := h
  clear h
  obtain ⟨y167, hy167⟩ : ∃ y_ : List ByteArray, y_ = (([(⟨#[111, 98, 106, 101, 99, 116, 99, 108, 97, 115, 115]⟩ : ByteArray), (⟨#[99, 110]⟩ : ByteArray), (⟨#[115, 110]⟩ : ByteArray), (⟨#[111]⟩ : ByteArray), (⟨#[111, 117]⟩ : ByteArray), (⟨#[117, 105, 100]⟩ : ByteArray), (⟨#[109, 97, 105, 108]⟩ : ByteArray), (⟨#[100, 101, 115, 99, 114, 105, 112, 116, 105, 111, 110]⟩ : ByteArray), (⟨#[117, 105, 100, 110, 117, 109, 98, 101, 114]⟩ : ByteArray), (⟨#[109, 101, 109, 98, 101, 114]⟩ : ByteArray), (⟨#[117, 115, 101, 114, 112, 97, 115, 115, 119, 111, 114, 100]⟩ : ByteArray), (⟨#[110, 111, 110, 101]⟩ : ByteArray)] : List ByteArray)) := ⟨_, rfl⟩
  replace H : (some y167) = some r := by first | (rw [hy167]; with_reducible exact H) | (have H2_ := (Option.bind_some _ _).symm.trans H; rw [hy167]; with_reducible exact H2_) | (have H2_ := (Option.bind_some _ _).symm.trans H; with_reducible exact H2_) | with_reducible exact H | (rw [hy167]; exact H) | exact H
  have Ny167 := Aside0.mk hy167
  clear hy167
  obtain rfl := Option.some.inj H
  go_enter Tryd.func7, Tryd.ntmps7
  go_wp2_with (first | ((with_reducible refine gate_dst (N := 1) rfl ?_); refine Kd.R_lit Kd.string _ 9 ?hg (N := 1) ?hd (xs := ([(⟨#[111, 98, 106, 101, 99, 116, 99, 108, 97, 115, 115]⟩ : ByteArray), (⟨#[99, 110]⟩ : ByteArray), (⟨#[115, 110]⟩ : ByteArray), (⟨#[111]⟩ : ByteArray), (⟨#[111, 117]⟩ : ByteArray), (⟨#[117, 105, 100]⟩ : ByteArray), (⟨#[109, 97, 105, 108]⟩ : ByteArray), (⟨#[100, 101, 115, 99, 114, 105, 112, 116, 105, 111, 110]⟩ : ByteArray), (⟨#[117, 105, 100, 110, 117, 109, 98, 101, 114]⟩ : ByteArray), (⟨#[109, 101, 109, 98, 101, 114]⟩ : ByteArray), (⟨#[117, 115, 101, 114, 112, 97, 115, 115, 119, 111, 114, 100]⟩ : ByteArray), (⟨#[110, 111, 110, 101]⟩ : ByteArray)] : List ByteArray)) (inner := [.string (⟨#[111, 98, 106, 101, 99, 116, 99, 108, 97, 115, 115]⟩ : ByteArray), .string (⟨#[99, 110]⟩ : ByteArray), .string (⟨#[115, 110]⟩ : ByteArray), .string (⟨#[111]⟩ : ByteArray), .string (⟨#[111, 117]⟩ : ByteArray), .string (⟨#[117, 105, 100]⟩ : ByteArray), .string (⟨#[109, 97, 105, 108]⟩ : ByteArray), .string (⟨#[100, 101, 115, 99, 114, 105, 112, 116, 105, 111, 110]⟩ : ByteArray), .string (⟨#[117, 105, 100, 110, 117, 109, 98, 101, 114]⟩ : ByteArray), .string (⟨#[109, 101, 109, 98, 101, 114]⟩ : ByteArray), .string (⟨#[117, 115, 101, 114, 112, 97, 115, 115, 119, 111, 114, 100]⟩ : ByteArray), .string (⟨#[110, 111, 110, 101]⟩ : ByteArray)]) (ok := fun _ => True) (okp := fun _ => True) ?hr ?hp (fun _ hk => hk) trivial (Below.refl _ _) (Nat.le_refl _) (by simp) ?_; (case hd => rfl); (case hg => rfl); (case hr => first | (go_simp; done) | (go_simp; rfl)); (case hp => exact (Reps.one (show Kd.M Kd.string _ _ _ (⟨#[111, 98, 106, 101, 99, 116, 99, 108, 97, 115, 115]⟩ : ByteArray) [.string (⟨#[111, 98, 106, 101, 99, 116, 99, 108, 97, 115, 115]⟩ : ByteArray)] from rfl) (Reps.one (show Kd.M Kd.string _ _ _ (⟨#[99, 110]⟩ : ByteArray) [.string (⟨#[99, 110]⟩ : ByteArray)] from rfl) (Reps.one (show Kd.M Kd.string _ _ _ (⟨#[115, 110]⟩ : ByteArray) [.string (⟨#[115, 110]⟩ : ByteArray)] from rfl) (Reps.one (show Kd.M Kd.string _ _ _ (⟨#[111]⟩ : ByteArray) [.string (⟨#[111]⟩ : ByteArray)] from rfl) (Reps.one (show Kd.M Kd.string _ _ _ (⟨#[111, 117]⟩ : ByteArray) [.string (⟨#[111, 117]⟩ : ByteArray)] from rfl) (Reps.one (show Kd.M Kd.string _ _ _ (⟨#[117, 105, 100]⟩ : ByteArray) [.string (⟨#[117, 105, 100]⟩ : ByteArray)] from rfl) (Reps.one (show Kd.M Kd.string _ _ _ (⟨#[109, 97, 105, 108]⟩ : ByteArray) [.string (⟨#[109, 97, 105, 108]⟩ : ByteArray)] from rfl) (Reps.one (show Kd.M Kd.string _ _ _ (⟨#[100, 101, 115, 99, 114, 105, 112, 116, 105, 111, 110]⟩ : ByteArray) [.string (⟨#[100, 101, 115, 99, 114, 105, 112, 116, 105, 111, 110]⟩ : ByteArray)] from rfl) (Reps.one (show Kd.M Kd.string _ _ _ (⟨#[117, 105, 100, 110, 117, 109, 98, 101, 114]⟩ : ByteArray) [.string (⟨#[117, 105, 100, 110, 117, 109, 98, 101, 114]⟩ : ByteArray)] from rfl) (Reps.one (show Kd.M Kd.string _ _ _ (⟨#[109, 101, 109, 98, 101, 114]⟩ : ByteArray) [.string (⟨#[109, 101, 109, 98, 101, 114]⟩ : ByteArray)] from rfl) (Reps.one (show Kd.M Kd.string _ _ _ (⟨#[117, 115, 101, 114, 112, 97, 115, 115, 119, 111, 114, 100]⟩ : ByteArray) [.string (⟨#[117, 115, 101, 114, 112, 97, 115, 115, 119, 111, 114, 100]⟩ : ByteArray)] from rfl) (Reps.one (show Kd.M Kd.string _ _ _ (⟨#[110, 111, 110, 101]⟩ : ByteArray) [.string (⟨#[110, 111, 110, 101]⟩ : ByteArray)] from rfl) (Reps.none _ _)))))))))))))); intro v168 w1 ho2 hb hg_ hnew_; clear hg_ hnew_; (first | rw [← Ny167.out] at ho2 | (simp only [Int.reduceToNat] at ho2; rw [← Ny167.out] at ho2)); have n0_ := Aside0.mk (Kd.R_lower ho2 (below_size (by repeat (first | (with_reducible first | exact HB.out | apply below_alloc | apply pw_below_drewN | apply below_drew1) | exact HB.out)))); have n1_ := Aside0.mk (below_step (by repeat (first | (with_reducible first | exact HB.out | apply below_alloc | apply pw_below_drewN | apply below_drew1) | exact HB.out)) hb); clear HB; have HO169 := n0_; have HB := n1_; clear n0_ n1_; clear hb ho2))
  go_ret
  exact ⟨_, by first | rfl | (simp [errW_none, errW_some] <;> rfl) | (simp [*, errW_none, errW_some] <;> rfl), by (with_reducible repeat (first | apply Kd.R_alloc | apply Kd.R_drewN | apply Kd.R_drew)); exact HO169.out, by repeat (first | (with_reducible first | exact HB.out | apply below_alloc | apply pw_below_drewN | apply below_drew1) | exact HB.out)⟩

end Go.Proofs.YtjicpomcfelobaaDoor.P

namespace Go.Proofs.YtjicpomcfelobaaDoor.P
open Go.RowKit Go.Proofs.YtjicpomcfelobaaDoorW.PrintWords Go.Proofs.YtjicpomcfelobaaDoorW.PrintLast Go.Proofs.YtjicpomcfelobaaDoorW.PrintMore
attribute [local go_sem] max2_int min2_int max_two min_two max_three min_three max_four min_four
set_option linter.unusedVariables false
set_option linter.unusedSimpArgs false

/-! ### brooklaw3_MatchNorms: function 3 -/
def brooklaw3_MatchNorms.j0 : Nat → Int → ByteArray → ByteArray → Bool → Option (Bool)
  | 0, _, _, _, _ => none
  | k + 1, x0, x1, x2, x23 => if x23 = true then ((brooklaw3_awake.f k).bind fun t170 => (some t170)) else ((brooklaw3_Types.f).bind fun t171 => (if (t171.length : Int) = 0 then (none) else (if 0 ≤ (Int.tmod (wrap64 (x0)) (t171.length : Int)) then (if (Int.tmod (wrap64 (x0)) (t171.length : Int)) < (t171.length : Int) then ((match_Norm.f k (rdOf ByteArray.empty t171 (Int.tmod (wrap64 (x0)) (t171.length : Int))) x1).bind fun bt175 => ((match_Norm.f k (rdOf ByteArray.empty t171 (Int.tmod (wrap64 (x0)) (t171.length : Int))) x2).bind fun bt177 => ((match_Norm.f k (rdOf ByteArray.empty t171 (Int.tmod (wrap64 (x0)) (t171.length : Int))) bt175.1).bind fun bt179 => ((match_Same.f k (rdOf ByteArray.empty t171 (Int.tmod (wrap64 (x0)) (t171.length : Int))) x1 x2).bind fun t181 => (if bt175.2 = true then (if bt177.2 = true then (if (t181 == (bt175.1.toList == bt177.1.toList)) = true then ((match_Same.f k (rdOf ByteArray.empty t171 (Int.tmod (wrap64 (x0)) (t171.length : Int))) x2 x1).bind fun t182 => (if (t181 == t182) = true then (if bt179.2 = true then (if bt179.1.toList = bt175.1.toList then ((match_Same.f k (rdOf ByteArray.empty t171 (Int.tmod (wrap64 (x0)) (t171.length : Int))) x1 bt175.1).bind fun t183 => (if t183 = true then ((brooklaw3_awake.f k).bind fun t184 => (some t184)) else (some false))) else (some false)) else (some false)) else (some false))) else (some false)) else (if (t181 == false) = true then ((match_Same.f k (rdOf ByteArray.empty t171 (Int.tmod (wrap64 (x0)) (t171.length : Int))) x2 x1).bind fun t185 => (if (t181 == t185) = true then (if bt179.2 = true then (if bt179.1.toList = bt175.1.toList then ((match_Same.f k (rdOf ByteArray.empty t171 (Int.tmod (wrap64 (x0)) (t171.length : Int))) x1 bt175.1).bind fun t186 => (if t186 = true then ((brooklaw3_awake.f k).bind fun t187 => (some t187)) else (some false))) else (some false)) else (some false)) else (some false))) else (some false))) else (if (t181 == false) = true then ((match_Same.f k (rdOf ByteArray.empty t171 (Int.tmod (wrap64 (x0)) (t171.length : Int))) x2 x1).bind fun t188 => (if (t181 == t188) = true then ((brooklaw3_awake.f k).bind fun t189 => (some t189)) else (some false))) else (some false))))))) else (none)) else (none))))
def brooklaw3_MatchNorms.f (k : Nat) (a0 : Int) (a1 : ByteArray) (a2 : ByteArray) : Option (Bool) := if (a1.size : Int) > 150 then (brooklaw3_MatchNorms.j0 k a0 a1 a2 true) else (brooklaw3_MatchNorms.j0 k a0 a1 a2 (decide ((a2.size : Int) > 150)))
theorem brooklaw3_MatchNorms.mono_l : ∀ k, (∀ y0 y1 y2 y3, LeO (brooklaw3_MatchNorms.j0 k y0 y1 y2 y3) (brooklaw3_MatchNorms.j0 (k + 1) y0 y1 y2 y3))
  | 0 => fun _ _ _ _ r h => by simp [brooklaw3_MatchNorms.j0] at h
  | k + 1 => by
    have ih0 := brooklaw3_MatchNorms.mono_l k
    · intro y0 y1 y2 y3
      unfold brooklaw3_MatchNorms.j0
      repeat' first
      | (with_reducible exact ih0 _ _ _ _)
      | (with_reducible exact brooklaw3_awake.mono _)
      | (with_reducible exact match_Norm.mono _ _ _)
      | (with_reducible exact match_Same.mono _ _ _ _)
      | (with_reducible exact LeO.refl _)
      | (with_reducible exact LeO.none _)
      | (with_reducible refine LeO.ite ?_ ?_)
      | (with_reducible refine LeO.bind ?_ (fun _ => ?_))
      | exact ih0 _ _ _ _
      | exact brooklaw3_awake.mono _
      | exact match_Norm.mono _ _ _
      | exact match_Same.mono _ _ _ _
      | exact LeO.none _
      | refine LeO.ite ?_ ?_
      | refine LeO.bind ?_ (fun _ => ?_)
theorem brooklaw3_MatchNorms.mono : ∀ a0 a1 a2 k, LeO (brooklaw3_MatchNorms.f k a0 a1 a2) (brooklaw3_MatchNorms.f (k + 1) a0 a1 a2) := by
  intro a0 a1 a2 k
  have ih0 := brooklaw3_MatchNorms.mono_l k
  unfold brooklaw3_MatchNorms.f
  repeat' first
      | (with_reducible exact ih0 _ _ _ _)
      | (with_reducible exact brooklaw3_awake.mono _)
      | (with_reducible exact match_Norm.mono _ _ _)
      | (with_reducible exact match_Same.mono _ _ _ _)
      | (with_reducible exact LeO.refl _)
      | (with_reducible exact LeO.none _)
      | (with_reducible refine LeO.ite ?_ ?_)
      | (with_reducible refine LeO.bind ?_ (fun _ => ?_))
      | exact ih0 _ _ _ _
      | exact brooklaw3_awake.mono _
      | exact match_Norm.mono _ _ _
      | exact match_Same.mono _ _ _ _
      | exact LeO.none _
      | refine LeO.ite ?_ ?_
      | refine LeO.bind ?_ (fun _ => ?_)
set_option maxHeartbeats 8000000 in
set_option maxRecDepth 100000 in
theorem brooklaw3_MatchNorms.calls (k : Nat) (a0 : Int) (a1 : ByteArray) (a2 : ByteArray) (r : Bool) (w : World) (hG : Gl w) (h : brooklaw3_MatchNorms.f k a0 a1 a2 = some r) :
    Calls Tryd.prog 3 #[.int .u8 a0, .string a1, .string a2] w fun e w' => e = .returned (.bool r) ∧ Below w.heap.size w w' := by
  have HB := Aside0.mk (Below.refl w.heap.size w)
  have HG := Aside0.mk hG
  clear hG
  have H : (if (a1.size : Int) > 150 then (brooklaw3_MatchNorms.j0 k a0 a1 a2 true) else (brooklaw3_MatchNorms.j0 k a0 a1 a2 (decide ((a2.size : Int) > 150)))) = some r := h
  clear h
  have HC4 := Aside0.mk H
  clear H
  go_enter Tryd.func3, Tryd.ntmps3
  go_upto_region 1 with (fail)
  go_cut [23] (fun v23 wc => ∃ (kq : Nat) (x23_3 : Bool), v23 = .bool x23_3 ∧ Aside0 (brooklaw3_MatchNorms.j0 kq a0 a1 a2 x23_3 = some r) ∧ Aside0 (kq ≤ k) ∧ Aside0 (Below w.heap.size w wc))
  case first =>
    have H := HC4.out
    clear HC4
    by_cases c5 : (a1.size : Int) > 150
    · rw [if_pos c5] at H
      have c5b0 : decide (150 < (a1.size : Int)) = true := decide_eq_true c5
      have c5b1 : decide (150 < a1.size) = true := decide_eq_true (by omega)
      clear c5
      (first | rw [c5b0] | (simp only [i64_w, i32_w]; rw [c5b0]) | skip)
      have H' := Aside0.mk H
      clear H
      go_wp2
      go_meet
      case rel => exact ⟨_, (true), (by first | rfl | (simp; done) | (simp [*]; done) | (simp [*, i64_w, i32_w, u8_w]; done) | (simp only [bneNil, beqNil]; done) | (simp only [bneNil, beqNil]; simp; done) | (simp only [bneNil, beqNil]; simp [*]; done)), H', ⟨by first | omega | exact Nat.le_refl _⟩, ⟨by repeat (first | (with_reducible first | exact HB.out | apply below_alloc | apply pw_below_drewN | apply below_drew1) | exact HB.out)⟩⟩
    · rw [if_neg c5] at H
      have c5b0 : decide (150 < (a1.size : Int)) = false := decide_eq_false c5
      have c5b1 : decide (150 < a1.size) = false := decide_eq_false (by omega)
      clear c5
      (first | rw [c5b0] | (simp only [i64_w, i32_w]; rw [c5b0]) | skip)
      have H' := Aside0.mk H
      clear H
      go_wp2
      go_meet
      case rel => exact ⟨_, (decide ((a2.size : Int) > 150)), (by first | rfl | (simp; done) | (simp [*]; done) | (simp [*, i64_w, i32_w, u8_w]; done) | (simp only [bneNil, beqNil]; done) | (simp only [bneNil, beqNil]; simp; done) | (simp only [bneNil, beqNil]; simp [*]; done)), H', ⟨by first | omega | exact Nat.le_refl _⟩, ⟨by repeat (first | (with_reducible first | exact HB.out | apply below_alloc | apply pw_below_drewN | apply below_drew1) | exact HB.out)⟩⟩
  case rest =>
    clear HC4
    try clear p2
    try clear c3
    try clear c5
    try clear c5b0
    try clear c5b1
    obtain ⟨kq, x23_3, rfl, HA, HJ3, HB⟩ := hcut
    cases kq with
    | zero => exact absurd HA.out (by simp [brooklaw3_MatchNorms.j0])
    | succ kj3 =>
      have H := HA.out
      clear HA
      simp only [brooklaw3_MatchNorms.j0] at H
      by_cases c6 : x23_3 = true
      · subst c6
        have H1 : ((brooklaw3_awake.f kj3).bind fun t170 => (some t170)) = some r := by rw [if_pos rfl] at H; exact H
        clear H
        have H := H1
        clear H1
        replace H := Option.bind_eq_some_iff.mp H
        obtain ⟨t170, A70, H⟩ := H
        replace H : (some t170) = some r := H
        have A7 := Aside0.mk A70
        clear A70
        obtain rfl := Option.some.inj H
        go_wp2_with (first | ((with_reducible refine gate_callee (f := 6) rfl ?_); refine goesL_ (some 24) rfl rfl Tryd.func6 (by kernel_rfl) rfl #[] rfl (by (try simp only [List.map_toArray, List.map_cons, List.map_nil]); first | done | rfl | (simp only [List.length_drop, List.length_take]; rfl)) ?_; (with_reducible refine (brooklaw3_awake.calls kj3  t170 _ ?side1 A7.out).mono ?_); (case side1 => first | exact HG.out | exact Gl.drewN HG.out _ | exact Gl.below HG.out (by repeat (first | (with_reducible first | exact HB.out | apply below_alloc | apply pw_below_drewN | apply below_drew1) | exact HB.out))); rintro e w8 ⟨rfl, hb⟩; refine ⟨_, rfl, ?_⟩; have n0_ := Aside0.mk (below_step (by repeat (first | (with_reducible first | exact HB.out | apply below_alloc | apply pw_below_drewN | apply below_drew1) | exact HB.out)) hb); clear HB; have HB := n0_; clear n0_; (try clear hb); (try clear hb2); (try clear hk); (try clear hi)))
        go_ret
        exact ⟨by first | rfl | (simp [errW_none, errW_some] <;> rfl) | (simp [*, errW_none, errW_some] <;> rfl), by repeat (first | (with_reducible first | exact HB.out | apply below_alloc | apply pw_below_drewN | apply below_drew1) | exact HB.out)⟩
      · replace c6 := Bool.eq_false_iff.mpr c6
        subst c6
        have H1 : ((brooklaw3_Types.f).bind fun t171 => (if (t171.length : Int) = 0 then (none) else (if 0 ≤ (Int.tmod (wrap64 (a0)) (t171.length : Int)) then (if (Int.tmod (wrap64 (a0)) (t171.length : Int)) < (t171.length : Int) then ((match_Norm.f kj3 (rdOf ByteArray.empty t171 (Int.tmod (wrap64 (a0)) (t171.length : Int))) a1).bind fun bt175 => ((match_Norm.f kj3 (rdOf ByteArray.empty t171 (Int.tmod (wrap64 (a0)) (t171.length : Int))) a2).bind fun bt177 => ((match_Norm.f kj3 (rdOf ByteArray.empty t171 (Int.tmod (wrap64 (a0)) (t171.length : Int))) bt175.1).bind fun bt179 => ((match_Same.f kj3 (rdOf ByteArray.empty t171 (Int.tmod (wrap64 (a0)) (t171.length : Int))) a1 a2).bind fun t181 => (if bt175.2 = true then (if bt177.2 = true then (if (t181 == (bt175.1.toList == bt177.1.toList)) = true then ((match_Same.f kj3 (rdOf ByteArray.empty t171 (Int.tmod (wrap64 (a0)) (t171.length : Int))) a2 a1).bind fun t182 => (if (t181 == t182) = true then (if bt179.2 = true then (if bt179.1.toList = bt175.1.toList then ((match_Same.f kj3 (rdOf ByteArray.empty t171 (Int.tmod (wrap64 (a0)) (t171.length : Int))) a1 bt175.1).bind fun t183 => (if t183 = true then ((brooklaw3_awake.f kj3).bind fun t184 => (some t184)) else (some false))) else (some false)) else (some false)) else (some false))) else (some false)) else (if (t181 == false) = true then ((match_Same.f kj3 (rdOf ByteArray.empty t171 (Int.tmod (wrap64 (a0)) (t171.length : Int))) a2 a1).bind fun t185 => (if (t181 == t185) = true then (if bt179.2 = true then (if bt179.1.toList = bt175.1.toList then ((match_Same.f kj3 (rdOf ByteArray.empty t171 (Int.tmod (wrap64 (a0)) (t171.length : Int))) a1 bt175.1).bind fun t186 => (if t186 = true then ((brooklaw3_awake.f kj3).bind fun t187 => (some t187)) else (some false))) else (some false)) else (some false)) else (some false))) else (some false))) else (if (t181 == false) = true then ((match_Same.f kj3 (rdOf ByteArray.empty t171 (Int.tmod (wrap64 (a0)) (t171.length : Int))) a2 a1).bind fun t188 => (if (t181 == t188) = true then ((brooklaw3_awake.f kj3).bind fun t189 => (some t189)) else (some false))) else (some false))))))) else (none)) else (none)))) = some r := by rw [if_neg (show ¬ (false = true) by decide)] at H; exact H
        clear H
        have H := H1
        clear H1
        replace H := Option.bind_eq_some_iff.mp H
        obtain ⟨t171, A90, H⟩ := H
        replace H : (if (t171.length : Int) = 0 then (none) else (if 0 ≤ (Int.tmod (wrap64 (a0)) (t171.length : Int)) then (if (Int.tmod (wrap64 (a0)) (t171.length : Int)) < (t171.length : Int) then ((match_Norm.f kj3 (rdOf ByteArray.empty t171 (Int.tmod (wrap64 (a0)) (t171.length : Int))) a1).bind fun bt175 => ((match_Norm.f kj3 (rdOf ByteArray.empty t171 (Int.tmod (wrap64 (a0)) (t171.length : Int))) a2).bind fun bt177 => ((match_Norm.f kj3 (rdOf ByteArray.empty t171 (Int.tmod (wrap64 (a0)) (t171.length : Int))) bt175.1).bind fun bt179 => ((match_Same.f kj3 (rdOf ByteArray.empty t171 (Int.tmod (wrap64 (a0)) (t171.length : Int))) a1 a2).bind fun t181 => (if bt175.2 = true then (if bt177.2 = true then (if (t181 == (bt175.1.toList == bt177.1.toList)) = true then ((match_Same.f kj3 (rdOf ByteArray.empty t171 (Int.tmod (wrap64 (a0)) (t171.length : Int))) a2 a1).bind fun t182 => (if (t181 == t182) = true then (if bt179.2 = true then (if bt179.1.toList = bt175.1.toList then ((match_Same.f kj3 (rdOf ByteArray.empty t171 (Int.tmod (wrap64 (a0)) (t171.length : Int))) a1 bt175.1).bind fun t183 => (if t183 = true then ((brooklaw3_awake.f kj3).bind fun t184 => (some t184)) else (some false))) else (some false)) else (some false)) else (some false))) else (some false)) else (if (t181 == false) = true then ((match_Same.f kj3 (rdOf ByteArray.empty t171 (Int.tmod (wrap64 (a0)) (t171.length : Int))) a2 a1).bind fun t185 => (if (t181 == t185) = true then (if bt179.2 = true then (if bt179.1.toList = bt175.1.toList then ((match_Same.f kj3 (rdOf ByteArray.empty t171 (Int.tmod (wrap64 (a0)) (t171.length : Int))) a1 bt175.1).bind fun t186 => (if t186 = true then ((brooklaw3_awake.f kj3).bind fun t187 => (some t187)) else (some false))) else (some false)) else (some false)) else (some false))) else (some false))) else (if (t181 == false) = true then ((match_Same.f kj3 (rdOf ByteArray.empty t171 (Int.tmod (wrap64 (a0)) (t171.length : Int))) a2 a1).bind fun t188 => (if (t181 == t188) = true then ((brooklaw3_awake.f kj3).bind fun t189 => (some t189)) else (some false))) else (some false))))))) else (none)) else (none))) = some r := H
        have A9 := Aside0.mk A90
        clear A90
        by_cases c10 : (t171.length : Int) = 0
        · rw [if_pos c10] at H
          exact absurd H (by simp)
        · rw [if_neg c10] at H
          have c10b0 : ((t171.length : Int) == 0) = false := beq_eq_false_iff_ne.mpr c10
          have c10b1 : ((t171.length : Int) != 0) = true := bne_iff_ne.mpr c10
          have c10b2 : ¬ (t171 = []) := fun h_ => c10 (by rw [h_]; rfl)
          obtain ⟨ji11, hji11⟩ : ∃ j_ : Int, (Int.tmod (wrap64 (a0)) (t171.length : Int)) = j_ := ⟨_, rfl⟩
          replace H : (if 0 ≤ (ji11) then (if (ji11) < (t171.length : Int) then ((match_Norm.f kj3 (rdOf ByteArray.empty t171 (ji11)) a1).bind fun bt175 => ((match_Norm.f kj3 (rdOf ByteArray.empty t171 (ji11)) a2).bind fun bt177 => ((match_Norm.f kj3 (rdOf ByteArray.empty t171 (ji11)) bt175.1).bind fun bt179 => ((match_Same.f kj3 (rdOf ByteArray.empty t171 (ji11)) a1 a2).bind fun t181 => (if bt175.2 = true then (if bt177.2 = true then (if (t181 == (bt175.1.toList == bt177.1.toList)) = true then ((match_Same.f kj3 (rdOf ByteArray.empty t171 (ji11)) a2 a1).bind fun t182 => (if (t181 == t182) = true then (if bt179.2 = true then (if bt179.1.toList = bt175.1.toList then ((match_Same.f kj3 (rdOf ByteArray.empty t171 (ji11)) a1 bt175.1).bind fun t183 => (if t183 = true then ((brooklaw3_awake.f kj3).bind fun t184 => (some t184)) else (some false))) else (some false)) else (some false)) else (some false))) else (some false)) else (if (t181 == false) = true then ((match_Same.f kj3 (rdOf ByteArray.empty t171 (ji11)) a2 a1).bind fun t185 => (if (t181 == t185) = true then (if bt179.2 = true then (if bt179.1.toList = bt175.1.toList then ((match_Same.f kj3 (rdOf ByteArray.empty t171 (ji11)) a1 bt175.1).bind fun t186 => (if t186 = true then ((brooklaw3_awake.f kj3).bind fun t187 => (some t187)) else (some false))) else (some false)) else (some false)) else (some false))) else (some false))) else (if (t181 == false) = true then ((match_Same.f kj3 (rdOf ByteArray.empty t171 (ji11)) a2 a1).bind fun t188 => (if (t181 == t188) = true then ((brooklaw3_awake.f kj3).bind fun t189 => (some t189)) else (some false))) else (some false))))))) else (none)) else (none)) = some r := by first | (rw [hji11] at H; exact H) | (simp only [hji11] at H ⊢; exact H)
          (try rw [hji11] at A9)
          by_cases c12 : 0 ≤ (ji11)
          · rw [if_pos c12] at H
            have c12b0 : decide (0 ≤ (ji11)) = true := decide_eq_true c12
            clear c12
            by_cases c13 : (ji11) < (t171.length : Int)
            · rw [if_pos c13] at H
              have c13b0 : decide ((ji11) < (t171.length : Int)) = true := decide_eq_true c13
              clear c13
              replace H := Option.bind_eq_some_iff.mp H
              obtain ⟨⟨t175, t176⟩, A140, H⟩ := H
              replace H : ((match_Norm.f kj3 (rdOf ByteArray.empty t171 (ji11)) a2).bind fun bt177 => ((match_Norm.f kj3 (rdOf ByteArray.empty t171 (ji11)) t175).bind fun bt179 => ((match_Same.f kj3 (rdOf ByteArray.empty t171 (ji11)) a1 a2).bind fun t181 => (if t176 = true then (if bt177.2 = true then (if (t181 == (t175.toList == bt177.1.toList)) = true then ((match_Same.f kj3 (rdOf ByteArray.empty t171 (ji11)) a2 a1).bind fun t182 => (if (t181 == t182) = true then (if bt179.2 = true then (if bt179.1.toList = t175.toList then ((match_Same.f kj3 (rdOf ByteArray.empty t171 (ji11)) a1 t175).bind fun t183 => (if t183 = true then ((brooklaw3_awake.f kj3).bind fun t184 => (some t184)) else (some false))) else (some false)) else (some false)) else (some false))) else (some false)) else (if (t181 == false) = true then ((match_Same.f kj3 (rdOf ByteArray.empty t171 (ji11)) a2 a1).bind fun t185 => (if (t181 == t185) = true then (if bt179.2 = true then (if bt179.1.toList = t175.toList then ((match_Same.f kj3 (rdOf ByteArray.empty t171 (ji11)) a1 t175).bind fun t186 => (if t186 = true then ((brooklaw3_awake.f kj3).bind fun t187 => (some t187)) else (some false))) else (some false)) else (some false)) else (some false))) else (some false))) else (if (t181 == false) = true then ((match_Same.f kj3 (rdOf ByteArray.empty t171 (ji11)) a2 a1).bind fun t188 => (if (t181 == t188) = true then ((brooklaw3_awake.f kj3).bind fun t189 => (some t189)) else (some false))) else (some false)))))) = some r := H
              have A14 := Aside0.mk A140
              clear A140
              replace H := Option.bind_eq_some_iff.mp H
              obtain ⟨⟨t177, t178⟩, A150, H⟩ := H
              replace H : ((match_Norm.f kj3 (rdOf ByteArray.empty t171 (ji11)) t175).bind fun bt179 => ((match_Same.f kj3 (rdOf ByteArray.empty t171 (ji11)) a1 a2).bind fun t181 => (if t176 = true then (if t178 = true then (if (t181 == (t175.toList == t177.toList)) = true then ((match_Same.f kj3 (rdOf ByteArray.empty t171 (ji11)) a2 a1).bind fun t182 => (if (t181 == t182) = true then (if bt179.2 = true then (if bt179.1.toList = t175.toList then ((match_Same.f kj3 (rdOf ByteArray.empty t171 (ji11)) a1 t175).bind fun t183 => (if t183 = true then ((brooklaw3_awake.f kj3).bind fun t184 => (some t184)) else (some false))) else (some false)) else (some false)) else (some false))) else (some false)) else (if (t181 == false) = true then ((match_Same.f kj3 (rdOf ByteArray.empty t171 (ji11)) a2 a1).bind fun t185 => (if (t181 == t185) = true then (if bt179.2 = true then (if bt179.1.toList = t175.toList then ((match_Same.f kj3 (rdOf ByteArray.empty t171 (ji11)) a1 t175).bind fun t186 => (if t186 = true then ((brooklaw3_awake.f kj3).bind fun t187 => (some t187)) else (some false))) else (some false)) else (some false)) else (some false))) else (some false))) else (if (t181 == false) = true then ((match_Same.f kj3 (rdOf ByteArray.empty t171 (ji11)) a2 a1).bind fun t188 => (if (t181 == t188) = true then ((brooklaw3_awake.f kj3).bind fun t189 => (some t189)) else (some false))) else (some false))))) = some r := H
              have A15 := Aside0.mk A150
              clear A150
              replace H := Option.bind_eq_some_iff.mp H
              obtain ⟨⟨t179, t180⟩, A160, H⟩ := H
              replace H : ((match_Same.f kj3 (rdOf ByteArray.empty t171 (ji11)) a1 a2).bind fun t181 => (if t176 = true then (if t178 = true then (if (t181 == (t175.toList == t177.toList)) = true then ((match_Same.f kj3 (rdOf ByteArray.empty t171 (ji11)) a2 a1).bind fun t182 => (if (t181 == t182) = true then (if t180 = true then (if t179.toList = t175.toList then ((match_Same.f kj3 (rdOf ByteArray.empty t171 (ji11)) a1 t175).bind fun t183 => (if t183 = true then ((brooklaw3_awake.f kj3).bind fun t184 => (some t184)) else (some false))) else (some false)) else (some false)) else (some false))) else (some false)) else (if (t181 == false) = true then ((match_Same.f kj3 (rdOf ByteArray.empty t171 (ji11)) a2 a1).bind fun t185 => (if (t181 == t185) = true then (if t180 = true then (if t179.toList = t175.toList then ((match_Same.f kj3 (rdOf ByteArray.empty t171 (ji11)) a1 t175).bind fun t186 => (if t186 = true then ((brooklaw3_awake.f kj3).bind fun t187 => (some t187)) else (some false))) else (some false)) else (some false)) else (some false))) else (some false))) else (if (t181 == false) = true then ((match_Same.f kj3 (rdOf ByteArray.empty t171 (ji11)) a2 a1).bind fun t188 => (if (t181 == t188) = true then ((brooklaw3_awake.f kj3).bind fun t189 => (some t189)) else (some false))) else (some false)))) = some r := H
              have A16 := Aside0.mk A160
              clear A160
              replace H := Option.bind_eq_some_iff.mp H
              obtain ⟨t181, A170, H⟩ := H
              replace H : (if t176 = true then (if t178 = true then (if (t181 == (t175.toList == t177.toList)) = true then ((match_Same.f kj3 (rdOf ByteArray.empty t171 (ji11)) a2 a1).bind fun t182 => (if (t181 == t182) = true then (if t180 = true then (if t179.toList = t175.toList then ((match_Same.f kj3 (rdOf ByteArray.empty t171 (ji11)) a1 t175).bind fun t183 => (if t183 = true then ((brooklaw3_awake.f kj3).bind fun t184 => (some t184)) else (some false))) else (some false)) else (some false)) else (some false))) else (some false)) else (if (t181 == false) = true then ((match_Same.f kj3 (rdOf ByteArray.empty t171 (ji11)) a2 a1).bind fun t185 => (if (t181 == t185) = true then (if t180 = true then (if t179.toList = t175.toList then ((match_Same.f kj3 (rdOf ByteArray.empty t171 (ji11)) a1 t175).bind fun t186 => (if t186 = true then ((brooklaw3_awake.f kj3).bind fun t187 => (some t187)) else (some false))) else (some false)) else (some false)) else (some false))) else (some false))) else (if (t181 == false) = true then ((match_Same.f kj3 (rdOf ByteArray.empty t171 (ji11)) a2 a1).bind fun t188 => (if (t181 == t188) = true then ((brooklaw3_awake.f kj3).bind fun t189 => (some t189)) else (some false))) else (some false))) = some r := H
              have A17 := Aside0.mk A170
              clear A170
              by_cases c18 : t176 = true
              · subst c18
                have H1 : (if t178 = true then (if (t181 == (t175.toList == t177.toList)) = true then ((match_Same.f kj3 (rdOf ByteArray.empty t171 (ji11)) a2 a1).bind fun t182 => (if (t181 == t182) = true then (if t180 = true then (if t179.toList = t175.toList then ((match_Same.f kj3 (rdOf ByteArray.empty t171 (ji11)) a1 t175).bind fun t183 => (if t183 = true then ((brooklaw3_awake.f kj3).bind fun t184 => (some t184)) else (some false))) else (some false)) else (some false)) else (some false))) else (some false)) else (if (t181 == false) = true then ((match_Same.f kj3 (rdOf ByteArray.empty t171 (ji11)) a2 a1).bind fun t185 => (if (t181 == t185) = true then (if t180 = true then (if t179.toList = t175.toList then ((match_Same.f kj3 (rdOf ByteArray.empty t171 (ji11)) a1 t175).bind fun t186 => (if t186 = true then ((brooklaw3_awake.f kj3).bind fun t187 => (some t187)) else (some false))) else (some false)) else (some false)) else (some false))) else (some false))) = some r := by rw [if_pos rfl] at H; exact H
                clear H
                have H := H1
                clear H1
                by_cases c19 : t178 = true
                · subst c19
                  have H1 : (if (t181 == (t175.toList == t177.toList)) = true then ((match_Same.f kj3 (rdOf ByteArray.empty t171 (ji11)) a2 a1).bind fun t182 => (if (t181 == t182) = true then (if t180 = true then (if t179.toList = t175.toList then ((match_Same.f kj3 (rdOf ByteArray.empty t171 (ji11)) a1 t175).bind fun t183 => (if t183 = true then ((brooklaw3_awake.f kj3).bind fun t184 => (some t184)) else (some false))) else (some false)) else (some false)) else (some false))) else (some false)) = some r := by rw [if_pos rfl] at H; exact H
                  clear H
                  have H := H1
                  clear H1
                  by_cases c20 : (t181 == (t175.toList == t177.toList)) = true
                  · rw [if_pos c20] at H
                    have c20b0 : (t181 == (t175.toList == t177.toList)) = true := c20
                    (try (have c20b1 : decide (t181 = (t175.toList == t177.toList)) = true := by simpa using c20))
                    (try (have c20b2 : (t181 == (t175.toList == t177.toList)) = true := by simpa using c20))
                    clear c20
                    replace H := Option.bind_eq_some_iff.mp H
                    obtain ⟨t182, A210, H⟩ := H
                    replace H : (if (t181 == t182) = true then (if t180 = true then (if t179.toList = t175.toList then ((match_Same.f kj3 (rdOf ByteArray.empty t171 (ji11)) a1 t175).bind fun t183 => (if t183 = true then ((brooklaw3_awake.f kj3).bind fun t184 => (some t184)) else (some false))) else (some false)) else (some false)) else (some false)) = some r := H
                    have A21 := Aside0.mk A210
                    clear A210
                    by_cases c22 : (t181 == t182) = true
                    · rw [if_pos c22] at H
                      have c22b0 : (t181 == t182) = true := c22
                      (try (have c22b1 : decide (t181 = t182) = true := by simpa using c22))
                      (try (have c22b2 : (t181 == t182) = true := by simpa using c22))
                      clear c22
                      by_cases c23 : t180 = true
                      · subst c23
                        have H1 : (if t179.toList = t175.toList then ((match_Same.f kj3 (rdOf ByteArray.empty t171 (ji11)) a1 t175).bind fun t183 => (if t183 = true then ((brooklaw3_awake.f kj3).bind fun t184 => (some t184)) else (some false))) else (some false)) = some r := by rw [if_pos rfl] at H; exact H
                        clear H
                        have H := H1
                        clear H1
                        by_cases c24 : t179.toList = t175.toList
                        · rw [if_pos c24] at H
                          have c24b0 : (t179.toList == t175.toList) = true := beq_iff_eq.mpr c24
                          have c24b1 : (t179.toList != t175.toList) = false := bne_eq_false_iff_eq.mpr c24
                          clear c24
                          replace H := Option.bind_eq_some_iff.mp H
                          obtain ⟨t183, A250, H⟩ := H
                          replace H : (if t183 = true then ((brooklaw3_awake.f kj3).bind fun t184 => (some t184)) else (some false)) = some r := H
                          have A25 := Aside0.mk A250
                          clear A250
                          by_cases c26 : t183 = true
                          · subst c26
                            have H1 : ((brooklaw3_awake.f kj3).bind fun t184 => (some t184)) = some r := by rw [if_pos rfl] at H; exact H
                            clear H
                            have H := H1
                            clear H1
                            replace H := Option.bind_eq_some_iff.mp H
                            obtain ⟨t184, A270, H⟩ := H
                            replace H : (some t184) = some r := H
                            have A27 := Aside0.mk A270
                            clear A270
                            obtain rfl := Option.some.inj H
                            go_wp2_with (first | ((with_reducible refine gate_callee (f := 7) rfl ?_); refine goesL_ (some 25) rfl rfl Tryd.func7 (by kernel_rfl) rfl #[] rfl (by (try simp only [List.map_toArray, List.map_cons, List.map_nil]); first | done | rfl | (simp only [List.length_drop, List.length_take]; rfl)) ?_; (with_reducible refine (brooklaw3_Types.calls  t171 _ A9.out).mono ?_); rintro e w28 ⟨v172, rfl, ho0, hb⟩; refine ⟨_, rfl, ?_⟩; have n0_ := Aside0.mk (Kd.R_lower ho0 (below_size (by repeat (first | (with_reducible first | exact HB.out | apply below_alloc | apply pw_below_drewN | apply below_drew1) | exact HB.out)))); have n1_ := Aside0.mk (below_step (by repeat (first | (with_reducible first | exact HB.out | apply below_alloc | apply pw_below_drewN | apply below_drew1) | exact HB.out)) hb); clear HB; have HO173 := n0_; have HB := n1_; clear n0_ n1_; (try clear hb); (try clear hb2); (try clear hk); (try clear hi); (try clear ho0); obtain ⟨Ao29, co29, eo29⟩ := Kd.R_slice HO173.out; subst eo29; have p174 : 0 ≤ ((ji11) : Int) := of_decide_eq_true (by first | (with_reducible assumption) | assumption); have q174 : (ji11) < (t171.length : Int) := of_decide_eq_true (by first | (with_reducible assumption) | assumption); obtain ⟨ad174, e174, hx174_0⟩ := Kd.at_string (Kd.R_reads' HO173.out).2.2 (ji11) p174 q174; cases e174; replace p174 := eq_true p174; replace q174 := eq_true q174) | ((with_reducible refine gate_callee (f := 8) rfl ?_); refine goesL_ (some 37) rfl rfl Tryd.func8 (by kernel_rfl) rfl #[.string (rdOf ByteArray.empty t171 (ji11)), .string a1] rfl (by (try simp only [List.map_toArray, List.map_cons, List.map_nil]); first | done | (simp only [hji11]; rfl) | rfl | (simp only [List.length_drop, List.length_take]; rfl)) ?_; (with_reducible refine (match_Norm.calls kj3 (rdOf ByteArray.empty t171 (ji11)) a1 t175 true _ ?side1 A14.out).mono ?_); (case side1 => first | exact HG.out | exact Gl.drewN HG.out _ | exact Gl.below HG.out (by repeat (first | (with_reducible first | exact HB.out | apply below_alloc | apply pw_below_drewN | apply below_drew1) | exact HB.out))); rintro e w30 ⟨rfl, hb⟩; refine ⟨_, rfl, ?_⟩; have n0_ := Aside0.mk (Kd.R_below (by (with_reducible repeat (first | apply Kd.R_alloc | apply Kd.R_drewN | apply Kd.R_drew)); exact HO173.out) hb); have n1_ := Aside0.mk (below_step (by repeat (first | (with_reducible first | exact HB.out | apply below_alloc | apply pw_below_drewN | apply below_drew1) | exact HB.out)) hb); clear HO173; clear HB; have HO173 := n0_; have HB := n1_; clear n0_ n1_; (try clear hb); (try clear hb2); (try clear hk); (try clear hi)) | ((with_reducible refine gate_callee (f := 8) rfl ?_); refine goesL_ (some 43) rfl rfl Tryd.func8 (by kernel_rfl) rfl #[.string (rdOf ByteArray.empty t171 (ji11)), .string a2] rfl (by (try simp only [List.map_toArray, List.map_cons, List.map_nil]); first | done | (simp only [hji11]; rfl) | rfl | (simp only [List.length_drop, List.length_take]; rfl)) ?_; (with_reducible refine (match_Norm.calls kj3 (rdOf ByteArray.empty t171 (ji11)) a2 t177 true _ ?side1 A15.out).mono ?_); (case side1 => first | exact HG.out | exact Gl.drewN HG.out _ | exact Gl.below HG.out (by repeat (first | (with_reducible first | exact HB.out | apply below_alloc | apply pw_below_drewN | apply below_drew1) | exact HB.out))); rintro e w31 ⟨rfl, hb⟩; refine ⟨_, rfl, ?_⟩; have n0_ := Aside0.mk (Kd.R_below (by (with_reducible repeat (first | apply Kd.R_alloc | apply Kd.R_drewN | apply Kd.R_drew)); exact HO173.out) hb); have n1_ := Aside0.mk (below_step (by repeat (first | (with_reducible first | exact HB.out | apply below_alloc | apply pw_below_drewN | apply below_drew1) | exact HB.out)) hb); clear HO173; clear HB; have HO173 := n0_; have HB := n1_; clear n0_ n1_; (try clear hb); (try clear hb2); (try clear hk); (try clear hi)) | ((with_reducible refine gate_callee (f := 8) rfl ?_); refine goesL_ (some 49) rfl rfl Tryd.func8 (by kernel_rfl) rfl #[.string (rdOf ByteArray.empty t171 (ji11)), .string t175] rfl (by (try simp only [List.map_toArray, List.map_cons, List.map_nil]); first | done | (simp only [hji11]; rfl) | rfl | (simp only [List.length_drop, List.length_take]; rfl)) ?_; (with_reducible refine (match_Norm.calls kj3 (rdOf ByteArray.empty t171 (ji11)) t175 t179 true _ ?side1 A16.out).mono ?_); (case side1 => first | exact HG.out | exact Gl.drewN HG.out _ | exact Gl.below HG.out (by repeat (first | (with_reducible first | exact HB.out | apply below_alloc | apply pw_below_drewN | apply below_drew1) | exact HB.out))); rintro e w32 ⟨rfl, hb⟩; refine ⟨_, rfl, ?_⟩; have n0_ := Aside0.mk (Kd.R_below (by (with_reducible repeat (first | apply Kd.R_alloc | apply Kd.R_drewN | apply Kd.R_drew)); exact HO173.out) hb); have n1_ := Aside0.mk (below_step (by repeat (first | (with_reducible first | exact HB.out | apply below_alloc | apply pw_below_drewN | apply below_drew1) | exact HB.out)) hb); clear HO173; clear HB; have HO173 := n0_; have HB := n1_; clear n0_ n1_; (try clear hb); (try clear hb2); (try clear hk); (try clear hi)) | ((with_reducible refine gate_callee (f := 9) rfl ?_); refine goesL_ (some 55) rfl rfl Tryd.func9 (by kernel_rfl) rfl #[.string (rdOf ByteArray.empty t171 (ji11)), .string a1, .string a2] rfl (by (try simp only [List.map_toArray, List.map_cons, List.map_nil]); first | done | (simp only [hji11]; rfl) | rfl | (simp only [List.length_drop, List.length_take]; rfl)) ?_; (with_reducible refine (match_Same.calls kj3 (rdOf ByteArray.empty t171 (ji11)) a1 a2 t181 _ ?side1 A17.out).mono ?_); (case side1 => first | exact HG.out | exact Gl.drewN HG.out _ | exact Gl.below HG.out (by repeat (first | (with_reducible first | exact HB.out | apply below_alloc | apply pw_below_drewN | apply below_drew1) | exact HB.out))); rintro e w33 ⟨rfl, hb⟩; refine ⟨_, rfl, ?_⟩; have n0_ := Aside0.mk (Kd.R_below (by (with_reducible repeat (first | apply Kd.R_alloc | apply Kd.R_drewN | apply Kd.R_drew)); exact HO173.out) hb); have n1_ := Aside0.mk (below_step (by repeat (first | (with_reducible first | exact HB.out | apply below_alloc | apply pw_below_drewN | apply below_drew1) | exact HB.out)) hb); clear HO173; clear HB; have HO173 := n0_; have HB := n1_; clear n0_ n1_; (try clear hb); (try clear hb2); (try clear hk); (try clear hi)) | (go_at_call 9; (with_reducible refine (match_Same.calls kj3 (rdOf ByteArray.empty t171 (ji11)) a2 a1 t182 _ ?side1 A21.out).mono ?_); (case side1 => first | exact HG.out | exact Gl.drewN HG.out _ | exact Gl.below HG.out (by repeat (first | (with_reducible first | exact HB.out | apply below_alloc | apply pw_below_drewN | apply below_drew1) | exact HB.out))); rintro e w34 ⟨rfl, hb⟩; have n0_ := Aside0.mk (Kd.R_below (by (with_reducible repeat (first | apply Kd.R_alloc | apply Kd.R_drewN | apply Kd.R_drew)); exact HO173.out) hb); have n1_ := Aside0.mk (below_step (by repeat (first | (with_reducible first | exact HB.out | apply below_alloc | apply pw_below_drewN | apply below_drew1) | exact HB.out)) hb); clear HO173; clear HB; have HO173 := n0_; have HB := n1_; clear n0_ n1_; (try clear hb); (try clear hb2); (try clear hk); (try clear hi)) | (go_at_call 9; (with_reducible refine (match_Same.calls kj3 (rdOf ByteArray.empty t171 (ji11)) a1 t175 true _ ?side1 A25.out).mono ?_); (case side1 => first | exact HG.out | exact Gl.drewN HG.out _ | exact Gl.below HG.out (by repeat (first | (with_reducible first | exact HB.out | apply below_alloc | apply pw_below_drewN | apply below_drew1) | exact HB.out))); rintro e w35 ⟨rfl, hb⟩; have n0_ := Aside0.mk (Kd.R_below (by (with_reducible repeat (first | apply Kd.R_alloc | apply Kd.R_drewN | apply Kd.R_drew)); exact HO173.out) hb); have n1_ := Aside0.mk (below_step (by repeat (first | (with_reducible first | exact HB.out | apply below_alloc | apply pw_below_drewN | apply below_drew1) | exact HB.out)) hb); clear HO173; clear HB; have HO173 := n0_; have HB := n1_; clear n0_ n1_; (try clear hb); (try clear hb2); (try clear hk); (try clear hi)) | (go_at_call 6; (with_reducible refine (brooklaw3_awake.calls kj3  t184 _ ?side1 A27.out).mono ?_); (case side1 => first | exact HG.out | exact Gl.drewN HG.out _ | exact Gl.below HG.out (by repeat (first | (with_reducible first | exact HB.out | apply below_alloc | apply pw_below_drewN | apply below_drew1) | exact HB.out))); rintro e w36 ⟨rfl, hb⟩; have n0_ := Aside0.mk (Kd.R_below (by (with_reducible repeat (first | apply Kd.R_alloc | apply Kd.R_drewN | apply Kd.R_drew)); exact HO173.out) hb); have n1_ := Aside0.mk (below_step (by repeat (first | (with_reducible first | exact HB.out | apply below_alloc | apply pw_below_drewN | apply below_drew1) | exact HB.out)) hb); clear HO173; clear HB; have HO173 := n0_; have HB := n1_; clear n0_ n1_; (try clear hb); (try clear hb2); (try clear hk); (try clear hi)))
                            go_ret
                            exact ⟨by first | rfl | (simp [errW_none, errW_some] <;> rfl) | (simp only [← hji11]; first | rfl | (simp [errW_none, errW_some] <;> rfl)) | (simp [*, errW_none, errW_some] <;> rfl), by repeat (first | (with_reducible first | exact HB.out | apply below_alloc | apply pw_below_drewN | apply below_drew1) | exact HB.out)⟩
                          · replace c26 := Bool.eq_false_iff.mpr c26
                            subst c26
                            have H1 : (some false) = some r := by rw [if_neg (show ¬ (false = true) by decide)] at H; exact H
                            clear H
                            have H := H1
                            clear H1
                            obtain rfl := Option.some.inj H
                            go_wp2_with (first | ((with_reducible refine gate_callee (f := 7) rfl ?_); refine goesL_ (some 25) rfl rfl Tryd.func7 (by kernel_rfl) rfl #[] rfl (by (try simp only [List.map_toArray, List.map_cons, List.map_nil]); first | done | rfl | (simp only [List.length_drop, List.length_take]; rfl)) ?_; (with_reducible refine (brooklaw3_Types.calls  t171 _ A9.out).mono ?_); rintro e w37 ⟨v172, rfl, ho0, hb⟩; refine ⟨_, rfl, ?_⟩; have n0_ := Aside0.mk (Kd.R_lower ho0 (below_size (by repeat (first | (with_reducible first | exact HB.out | apply below_alloc | apply pw_below_drewN | apply below_drew1) | exact HB.out)))); have n1_ := Aside0.mk (below_step (by repeat (first | (with_reducible first | exact HB.out | apply below_alloc | apply pw_below_drewN | apply below_drew1) | exact HB.out)) hb); clear HB; have HO173 := n0_; have HB := n1_; clear n0_ n1_; (try clear hb); (try clear hb2); (try clear hk); (try clear hi); (try clear ho0); obtain ⟨Ao38, co38, eo38⟩ := Kd.R_slice HO173.out; subst eo38; have p174 : 0 ≤ ((ji11) : Int) := of_decide_eq_true (by first | (with_reducible assumption) | assumption); have q174 : (ji11) < (t171.length : Int) := of_decide_eq_true (by first | (with_reducible assumption) | assumption); obtain ⟨ad174, e174, hx174_0⟩ := Kd.at_string (Kd.R_reads' HO173.out).2.2 (ji11) p174 q174; cases e174; replace p174 := eq_true p174; replace q174 := eq_true q174) | ((with_reducible refine gate_callee (f := 8) rfl ?_); refine goesL_ (some 37) rfl rfl Tryd.func8 (by kernel_rfl) rfl #[.string (rdOf ByteArray.empty t171 (ji11)), .string a1] rfl (by (try simp only [List.map_toArray, List.map_cons, List.map_nil]); first | done | (simp only [hji11]; rfl) | rfl | (simp only [List.length_drop, List.length_take]; rfl)) ?_; (with_reducible refine (match_Norm.calls kj3 (rdOf ByteArray.empty t171 (ji11)) a1 t175 true _ ?side1 A14.out).mono ?_); (case side1 => first | exact HG.out | exact Gl.drewN HG.out _ | exact Gl.below HG.out (by repeat (first | (with_reducible first | exact HB.out | apply below_alloc | apply pw_below_drewN | apply below_drew1) | exact HB.out))); rintro e w39 ⟨rfl, hb⟩; refine ⟨_, rfl, ?_⟩; have n0_ := Aside0.mk (Kd.R_below (by (with_reducible repeat (first | apply Kd.R_alloc | apply Kd.R_drewN | apply Kd.R_drew)); exact HO173.out) hb); have n1_ := Aside0.mk (below_step (by repeat (first | (with_reducible first | exact HB.out | apply below_alloc | apply pw_below_drewN | apply below_drew1) | exact HB.out)) hb); clear HO173; clear HB; have HO173 := n0_; have HB := n1_; clear n0_ n1_; (try clear hb); (try clear hb2); (try clear hk); (try clear hi)) | ((with_reducible refine gate_callee (f := 8) rfl ?_); refine goesL_ (some 43) rfl rfl Tryd.func8 (by kernel_rfl) rfl #[.string (rdOf ByteArray.empty t171 (ji11)), .string a2] rfl (by (try simp only [List.map_toArray, List.map_cons, List.map_nil]); first | done | (simp only [hji11]; rfl) | rfl | (simp only [List.length_drop, List.length_take]; rfl)) ?_; (with_reducible refine (match_Norm.calls kj3 (rdOf ByteArray.empty t171 (ji11)) a2 t177 true _ ?side1 A15.out).mono ?_); (case side1 => first | exact HG.out | exact Gl.drewN HG.out _ | exact Gl.below HG.out (by repeat (first | (with_reducible first | exact HB.out | apply below_alloc | apply pw_below_drewN | apply below_drew1) | exact HB.out))); rintro e w40 ⟨rfl, hb⟩; refine ⟨_, rfl, ?_⟩; have n0_ := Aside0.mk (Kd.R_below (by (with_reducible repeat (first | apply Kd.R_alloc | apply Kd.R_drewN | apply Kd.R_drew)); exact HO173.out) hb); have n1_ := Aside0.mk (below_step (by repeat (first | (with_reducible first | exact HB.out | apply below_alloc | apply pw_below_drewN | apply below_drew1) | exact HB.out)) hb); clear HO173; clear HB; have HO173 := n0_; have HB := n1_; clear n0_ n1_; (try clear hb); (try clear hb2); (try clear hk); (try clear hi)) | ((with_reducible refine gate_callee (f := 8) rfl ?_); refine goesL_ (some 49) rfl rfl Tryd.func8 (by kernel_rfl) rfl #[.string (rdOf ByteArray.empty t171 (ji11)), .string t175] rfl (by (try simp only [List.map_toArray, List.map_cons, List.map_nil]); first | done | (simp only [hji11]; rfl) | rfl | (simp only [List.length_drop, List.length_take]; rfl)) ?_; (with_reducible refine (match_Norm.calls kj3 (rdOf ByteArray.empty t171 (ji11)) t175 t179 true _ ?side1 A16.out).mono ?_); (case side1 => first | exact HG.out | exact Gl.drewN HG.out _ | exact Gl.below HG.out (by repeat (first | (with_reducible first | exact HB.out | apply below_alloc | apply pw_below_drewN | apply below_drew1) | exact HB.out))); rintro e w41 ⟨rfl, hb⟩; refine ⟨_, rfl, ?_⟩; have n0_ := Aside0.mk (Kd.R_below (by (with_reducible repeat (first | apply Kd.R_alloc | apply Kd.R_drewN | apply Kd.R_drew)); exact HO173.out) hb); have n1_ := Aside0.mk (below_step (by repeat (first | (with_reducible first | exact HB.out | apply below_alloc | apply pw_below_drewN | apply below_drew1) | exact HB.out)) hb); clear HO173; clear HB; have HO173 := n0_; have HB := n1_; clear n0_ n1_; (try clear hb); (try clear hb2); (try clear hk); (try clear hi)) | ((with_reducible refine gate_callee (f := 9) rfl ?_); refine goesL_ (some 55) rfl rfl Tryd.func9 (by kernel_rfl) rfl #[.string (rdOf ByteArray.empty t171 (ji11)), .string a1, .string a2] rfl (by (try simp only [List.map_toArray, List.map_cons, List.map_nil]); first | done | (simp only [hji11]; rfl) | rfl | (simp only [List.length_drop, List.length_take]; rfl)) ?_; (with_reducible refine (match_Same.calls kj3 (rdOf ByteArray.empty t171 (ji11)) a1 a2 t181 _ ?side1 A17.out).mono ?_); (case side1 => first | exact HG.out | exact Gl.drewN HG.out _ | exact Gl.below HG.out (by repeat (first | (with_reducible first | exact HB.out | apply below_alloc | apply pw_below_drewN | apply below_drew1) | exact HB.out))); rintro e w42 ⟨rfl, hb⟩; refine ⟨_, rfl, ?_⟩; have n0_ := Aside0.mk (Kd.R_below (by (with_reducible repeat (first | apply Kd.R_alloc | apply Kd.R_drewN | apply Kd.R_drew)); exact HO173.out) hb); have n1_ := Aside0.mk (below_step (by repeat (first | (with_reducible first | exact HB.out | apply below_alloc | apply pw_below_drewN | apply below_drew1) | exact HB.out)) hb); clear HO173; clear HB; have HO173 := n0_; have HB := n1_; clear n0_ n1_; (try clear hb); (try clear hb2); (try clear hk); (try clear hi)) | (go_at_call 9; (with_reducible refine (match_Same.calls kj3 (rdOf ByteArray.empty t171 (ji11)) a2 a1 t182 _ ?side1 A21.out).mono ?_); (case side1 => first | exact HG.out | exact Gl.drewN HG.out _ | exact Gl.below HG.out (by repeat (first | (with_reducible first | exact HB.out | apply below_alloc | apply pw_below_drewN | apply below_drew1) | exact HB.out))); rintro e w43 ⟨rfl, hb⟩; have n0_ := Aside0.mk (Kd.R_below (by (with_reducible repeat (first | apply Kd.R_alloc | apply Kd.R_drewN | apply Kd.R_drew)); exact HO173.out) hb); have n1_ := Aside0.mk (below_step (by repeat (first | (with_reducible first | exact HB.out | apply below_alloc | apply pw_below_drewN | apply below_drew1) | exact HB.out)) hb); clear HO173; clear HB; have HO173 := n0_; have HB := n1_; clear n0_ n1_; (try clear hb); (try clear hb2); (try clear hk); (try clear hi)) | (go_at_call 9; (with_reducible refine (match_Same.calls kj3 (rdOf ByteArray.empty t171 (ji11)) a1 t175 false _ ?side1 A25.out).mono ?_); (case side1 => first | exact HG.out | exact Gl.drewN HG.out _ | exact Gl.below HG.out (by repeat (first | (with_reducible first | exact HB.out | apply below_alloc | apply pw_below_drewN | apply below_drew1) | exact HB.out))); rintro e w44 ⟨rfl, hb⟩; have n0_ := Aside0.mk (Kd.R_below (by (with_reducible repeat (first | apply Kd.R_alloc | apply Kd.R_drewN | apply Kd.R_drew)); exact HO173.out) hb); have n1_ := Aside0.mk (below_step (by repeat (first | (with_reducible first | exact HB.out | apply below_alloc | apply pw_below_drewN | apply below_drew1) | exact HB.out)) hb); clear HO173; clear HB; have HO173 := n0_; have HB := n1_; clear n0_ n1_; (try clear hb); (try clear hb2); (try clear hk); (try clear hi)))
                            go_ret
                            exact ⟨by first | rfl | (simp [errW_none, errW_some] <;> rfl) | (simp only [← hji11]; first | rfl | (simp [errW_none, errW_some] <;> rfl)) | (simp [*, errW_none, errW_some] <;> rfl), by repeat (first | (with_reducible first | exact HB.out | apply below_alloc | apply pw_below_drewN | apply below_drew1) | exact HB.out)⟩
                        · rw [if_neg c24] at H
                          have c24b0 : (t179.toList == t175.toList) = false := beq_eq_false_iff_ne.mpr c24
                          have c24b1 : (t179.toList != t175.toList) = true := bne_iff_ne.mpr c24
                          obtain rfl := Option.some.inj H
                          go_wp2_with (first | ((with_reducible refine gate_callee (f := 7) rfl ?_); refine goesL_ (some 25) rfl rfl Tryd.func7 (by kernel_rfl) rfl #[] rfl (by (try simp only [List.map_toArray, List.map_cons, List.map_nil]); first | done | rfl | (simp only [List.length_drop, List.length_take]; rfl)) ?_; (with_reducible refine (brooklaw3_Types.calls  t171 _ A9.out).mono ?_); rintro e w45 ⟨v172, rfl, ho0, hb⟩; refine ⟨_, rfl, ?_⟩; have n0_ := Aside0.mk (Kd.R_lower ho0 (below_size (by repeat (first | (with_reducible first | exact HB.out | apply below_alloc | apply pw_below_drewN | apply below_drew1) | exact HB.out)))); have n1_ := Aside0.mk (below_step (by repeat (first | (with_reducible first | exact HB.out | apply below_alloc | apply pw_below_drewN | apply below_drew1) | exact HB.out)) hb); clear HB; have HO173 := n0_; have HB := n1_; clear n0_ n1_; (try clear hb); (try clear hb2); (try clear hk); (try clear hi); (try clear ho0); obtain ⟨Ao46, co46, eo46⟩ := Kd.R_slice HO173.out; subst eo46; have p174 : 0 ≤ ((ji11) : Int) := of_decide_eq_true (by first | (with_reducible assumption) | assumption); have q174 : (ji11) < (t171.length : Int) := of_decide_eq_true (by first | (with_reducible assumption) | assumption); obtain ⟨ad174, e174, hx174_0⟩ := Kd.at_string (Kd.R_reads' HO173.out).2.2 (ji11) p174 q174; cases e174; replace p174 := eq_true p174; replace q174 := eq_true q174) | ((with_reducible refine gate_callee (f := 8) rfl ?_); refine goesL_ (some 37) rfl rfl Tryd.func8 (by kernel_rfl) rfl #[.string (rdOf ByteArray.empty t171 (ji11)), .string a1] rfl (by (try simp only [List.map_toArray, List.map_cons, List.map_nil]); first | done | (simp only [hji11]; rfl) | rfl | (simp only [List.length_drop, List.length_take]; rfl)) ?_; (with_reducible refine (match_Norm.calls kj3 (rdOf ByteArray.empty t171 (ji11)) a1 t175 true _ ?side1 A14.out).mono ?_); (case side1 => first | exact HG.out | exact Gl.drewN HG.out _ | exact Gl.below HG.out (by repeat (first | (with_reducible first | exact HB.out | apply below_alloc | apply pw_below_drewN | apply below_drew1) | exact HB.out))); rintro e w47 ⟨rfl, hb⟩; refine ⟨_, rfl, ?_⟩; have n0_ := Aside0.mk (Kd.R_below (by (with_reducible repeat (first | apply Kd.R_alloc | apply Kd.R_drewN | apply Kd.R_drew)); exact HO173.out) hb); have n1_ := Aside0.mk (below_step (by repeat (first | (with_reducible first | exact HB.out | apply below_alloc | apply pw_below_drewN | apply below_drew1) | exact HB.out)) hb); clear HO173; clear HB; have HO173 := n0_; have HB := n1_; clear n0_ n1_; (try clear hb); (try clear hb2); (try clear hk); (try clear hi)) | ((with_reducible refine gate_callee (f := 8) rfl ?_); refine goesL_ (some 43) rfl rfl Tryd.func8 (by kernel_rfl) rfl #[.string (rdOf ByteArray.empty t171 (ji11)), .string a2] rfl (by (try simp only [List.map_toArray, List.map_cons, List.map_nil]); first | done | (simp only [hji11]; rfl) | rfl | (simp only [List.length_drop, List.length_take]; rfl)) ?_; (with_reducible refine (match_Norm.calls kj3 (rdOf ByteArray.empty t171 (ji11)) a2 t177 true _ ?side1 A15.out).mono ?_); (case side1 => first | exact HG.out | exact Gl.drewN HG.out _ | exact Gl.below HG.out (by repeat (first | (with_reducible first | exact HB.out | apply below_alloc | apply pw_below_drewN | apply below_drew1) | exact HB.out))); rintro e w48 ⟨rfl, hb⟩; refine ⟨_, rfl, ?_⟩; have n0_ := Aside0.mk (Kd.R_below (by (with_reducible repeat (first | apply Kd.R_alloc | apply Kd.R_drewN | apply Kd.R_drew)); exact HO173.out) hb); have n1_ := Aside0.mk (below_step (by repeat (first | (with_reducible first | exact HB.out | apply below_alloc | apply pw_below_drewN | apply below_drew1) | exact HB.out)) hb); clear HO173; clear HB; have HO173 := n0_; have HB := n1_; clear n0_ n1_; (try clear hb); (try clear hb2); (try clear hk); (try clear hi)) | ((with_reducible refine gate_callee (f := 8) rfl ?_); refine goesL_ (some 49) rfl rfl Tryd.func8 (by kernel_rfl) rfl #[.string (rdOf ByteArray.empty t171 (ji11)), .string t175] rfl (by (try simp only [List.map_toArray, List.map_cons, List.map_nil]); first | done | (simp only [hji11]; rfl) | rfl | (simp only [List.length_drop, List.length_take]; rfl)) ?_; (with_reducible refine (match_Norm.calls kj3 (rdOf ByteArray.empty t171 (ji11)) t175 t179 true _ ?side1 A16.out).mono ?_); (case side1 => first | exact HG.out | exact Gl.drewN HG.out _ | exact Gl.below HG.out (by repeat (first | (with_reducible first | exact HB.out | apply below_alloc | apply pw_below_drewN | apply below_drew1) | exact HB.out))); rintro e w49 ⟨rfl, hb⟩; refine ⟨_, rfl, ?_⟩; have n0_ := Aside0.mk (Kd.R_below (by (with_reducible repeat (first | apply Kd.R_alloc | apply Kd.R_drewN | apply Kd.R_drew)); exact HO173.out) hb); have n1_ := Aside0.mk (below_step (by repeat (first | (with_reducible first | exact HB.out | apply below_alloc | apply pw_below_drewN | apply below_drew1) | exact HB.out)) hb); clear HO173; clear HB; have HO173 := n0_; have HB := n1_; clear n0_ n1_; (try clear hb); (try clear hb2); (try clear hk); (try clear hi)) | ((with_reducible refine gate_callee (f := 9) rfl ?_); refine goesL_ (some 55) rfl rfl Tryd.func9 (by kernel_rfl) rfl #[.string (rdOf ByteArray.empty t171 (ji11)), .string a1, .string a2] rfl (by (try simp only [List.map_toArray, List.map_cons, List.map_nil]); first | done | (simp only [hji11]; rfl) | rfl | (simp only [List.length_drop, List.length_take]; rfl)) ?_; (with_reducible refine (match_Same.calls kj3 (rdOf ByteArray.empty t171 (ji11)) a1 a2 t181 _ ?side1 A17.out).mono ?_); (case side1 => first | exact HG.out | exact Gl.drewN HG.out _ | exact Gl.below HG.out (by repeat (first | (with_reducible first | exact HB.out | apply below_alloc | apply pw_below_drewN | apply below_drew1) | exact HB.out))); rintro e w50 ⟨rfl, hb⟩; refine ⟨_, rfl, ?_⟩; have n0_ := Aside0.mk (Kd.R_below (by (with_reducible repeat (first | apply Kd.R_alloc | apply Kd.R_drewN | apply Kd.R_drew)); exact HO173.out) hb); have n1_ := Aside0.mk (below_step (by repeat (first | (with_reducible first | exact HB.out | apply below_alloc | apply pw_below_drewN | apply below_drew1) | exact HB.out)) hb); clear HO173; clear HB; have HO173 := n0_; have HB := n1_; clear n0_ n1_; (try clear hb); (try clear hb2); (try clear hk); (try clear hi)) | (go_at_call 9; (with_reducible refine (match_Same.calls kj3 (rdOf ByteArray.empty t171 (ji11)) a2 a1 t182 _ ?side1 A21.out).mono ?_); (case side1 => first | exact HG.out | exact Gl.drewN HG.out _ | exact Gl.below HG.out (by repeat (first | (with_reducible first | exact HB.out | apply below_alloc | apply pw_below_drewN | apply below_drew1) | exact HB.out))); rintro e w51 ⟨rfl, hb⟩; have n0_ := Aside0.mk (Kd.R_below (by (with_reducible repeat (first | apply Kd.R_alloc | apply Kd.R_drewN | apply Kd.R_drew)); exact HO173.out) hb); have n1_ := Aside0.mk (below_step (by repeat (first | (with_reducible first | exact HB.out | apply below_alloc | apply pw_below_drewN | apply below_drew1) | exact HB.out)) hb); clear HO173; clear HB; have HO173 := n0_; have HB := n1_; clear n0_ n1_; (try clear hb); (try clear hb2); (try clear hk); (try clear hi)))
                          go_ret
                          exact ⟨by first | rfl | (simp [errW_none, errW_some] <;> rfl) | (simp only [← hji11]; first | rfl | (simp [errW_none, errW_some] <;> rfl)) | (simp [*, errW_none, errW_some] <;> rfl), by repeat (first | (with_reducible first | exact HB.out | apply below_alloc | apply pw_below_drewN | apply below_drew1) | exact HB.out)⟩
                      · replace c23 := Bool.eq_false_iff.mpr c23
                        subst c23
                        have H1 : (some false) = some r := by rw [if_neg (show ¬ (false = true) by decide)] at H; exact H
                        clear H
                        have H := H1
                        clear H1
                        obtain rfl := Option.some.inj H
                        go_wp2_with (first | ((with_reducible refine gate_callee (f := 7) rfl ?_); refine goesL_ (some 25) rfl rfl Tryd.func7 (by kernel_rfl) rfl #[] rfl (by (try simp only [List.map_toArray, List.map_cons, List.map_nil]); first | done | rfl | (simp only [List.length_drop, List.length_take]; rfl)) ?_; (with_reducible refine (brooklaw3_Types.calls  t171 _ A9.out).mono ?_); rintro e w52 ⟨v172, rfl, ho0, hb⟩; refine ⟨_, rfl, ?_⟩; have n0_ := Aside0.mk (Kd.R_lower ho0 (below_size (by repeat (first | (with_reducible first | exact HB.out | apply below_alloc | apply pw_below_drewN | apply below_drew1) | exact HB.out)))); have n1_ := Aside0.mk (below_step (by repeat (first | (with_reducible first | exact HB.out | apply below_alloc | apply pw_below_drewN | apply below_drew1) | exact HB.out)) hb); clear HB; have HO173 := n0_; have HB := n1_; clear n0_ n1_; (try clear hb); (try clear hb2); (try clear hk); (try clear hi); (try clear ho0); obtain ⟨Ao53, co53, eo53⟩ := Kd.R_slice HO173.out; subst eo53; have p174 : 0 ≤ ((ji11) : Int) := of_decide_eq_true (by first | (with_reducible assumption) | assumption); have q174 : (ji11) < (t171.length : Int) := of_decide_eq_true (by first | (with_reducible assumption) | assumption); obtain ⟨ad174, e174, hx174_0⟩ := Kd.at_string (Kd.R_reads' HO173.out).2.2 (ji11) p174 q174; cases e174; replace p174 := eq_true p174; replace q174 := eq_true q174) | ((with_reducible refine gate_callee (f := 8) rfl ?_); refine goesL_ (some 37) rfl rfl Tryd.func8 (by kernel_rfl) rfl #[.string (rdOf ByteArray.empty t171 (ji11)), .string a1] rfl (by (try simp only [List.map_toArray, List.map_cons, List.map_nil]); first | done | (simp only [hji11]; rfl) | rfl | (simp only [List.length_drop, List.length_take]; rfl)) ?_; (with_reducible refine (match_Norm.calls kj3 (rdOf ByteArray.empty t171 (ji11)) a1 t175 true _ ?side1 A14.out).mono ?_); (case side1 => first | exact HG.out | exact Gl.drewN HG.out _ | exact Gl.below HG.out (by repeat (first | (with_reducible first | exact HB.out | apply below_alloc | apply pw_below_drewN | apply below_drew1) | exact HB.out))); rintro e w54 ⟨rfl, hb⟩; refine ⟨_, rfl, ?_⟩; have n0_ := Aside0.mk (Kd.R_below (by (with_reducible repeat (first | apply Kd.R_alloc | apply Kd.R_drewN | apply Kd.R_drew)); exact HO173.out) hb); have n1_ := Aside0.mk (below_step (by repeat (first | (with_reducible first | exact HB.out | apply below_alloc | apply pw_below_drewN | apply below_drew1) | exact HB.out)) hb); clear HO173; clear HB; have HO173 := n0_; have HB := n1_; clear n0_ n1_; (try clear hb); (try clear hb2); (try clear hk); (try clear hi)) | ((with_reducible refine gate_callee (f := 8) rfl ?_); refine goesL_ (some 43) rfl rfl Tryd.func8 (by kernel_rfl) rfl #[.string (rdOf ByteArray.empty t171 (ji11)), .string a2] rfl (by (try simp only [List.map_toArray, List.map_cons, List.map_nil]); first | done | (simp only [hji11]; rfl) | rfl | (simp only [List.length_drop, List.length_take]; rfl)) ?_; (with_reducible refine (match_Norm.calls kj3 (rdOf ByteArray.empty t171 (ji11)) a2 t177 true _ ?side1 A15.out).mono ?_); (case side1 => first | exact HG.out | exact Gl.drewN HG.out _ | exact Gl.below HG.out (by repeat (first | (with_reducible first | exact HB.out | apply below_alloc | apply pw_below_drewN | apply below_drew1) | exact HB.out))); rintro e w55 ⟨rfl, hb⟩; refine ⟨_, rfl, ?_⟩; have n0_ := Aside0.mk (Kd.R_below (by (with_reducible repeat (first | apply Kd.R_alloc | apply Kd.R_drewN | apply Kd.R_drew)); exact HO173.out) hb); have n1_ := Aside0.mk (below_step (by repeat (first | (with_reducible first | exact HB.out | apply below_alloc | apply pw_below_drewN | apply below_drew1) | exact HB.out)) hb); clear HO173; clear HB; have HO173 := n0_; have HB := n1_; clear n0_ n1_; (try clear hb); (try clear hb2); (try clear hk); (try clear hi)) | ((with_reducible refine gate_callee (f := 8) rfl ?_); refine goesL_ (some 49) rfl rfl Tryd.func8 (by kernel_rfl) rfl #[.string (rdOf ByteArray.empty t171 (ji11)), .string t175] rfl (by (try simp only [List.map_toArray, List.map_cons, List.map_nil]); first | done | (simp only [hji11]; rfl) | rfl | (simp only [List.length_drop, List.length_take]; rfl)) ?_; (with_reducible refine (match_Norm.calls kj3 (rdOf ByteArray.empty t171 (ji11)) t175 t179 false _ ?side1 A16.out).mono ?_); (case side1 => first | exact HG.out | exact Gl.drewN HG.out _ | exact Gl.below HG.out (by repeat (first | (with_reducible first | exact HB.out | apply below_alloc | apply pw_below_drewN | apply below_drew1) | exact HB.out))); rintro e w56 ⟨rfl, hb⟩; refine ⟨_, rfl, ?_⟩; have n0_ := Aside0.mk (Kd.R_below (by (with_reducible repeat (first | apply Kd.R_alloc | apply Kd.R_drewN | apply Kd.R_drew)); exact HO173.out) hb); have n1_ := Aside0.mk (below_step (by repeat (first | (with_reducible first | exact HB.out | apply below_alloc | apply pw_below_drewN | apply below_drew1) | exact HB.out)) hb); clear HO173; clear HB; have HO173 := n0_; have HB := n1_; clear n0_ n1_; (try clear hb); (try clear hb2); (try clear hk); (try clear hi)) | ((with_reducible refine gate_callee (f := 9) rfl ?_); refine goesL_ (some 55) rfl rfl Tryd.func9 (by kernel_rfl) rfl #[.string (rdOf ByteArray.empty t171 (ji11)), .string a1, .string a2] rfl (by (try simp only [List.map_toArray, List.map_cons, List.map_nil]); first | done | (simp only [hji11]; rfl) | rfl | (simp only [List.length_drop, List.length_take]; rfl)) ?_; (with_reducible refine (match_Same.calls kj3 (rdOf ByteArray.empty t171 (ji11)) a1 a2 t181 _ ?side1 A17.out).mono ?_); (case side1 => first | exact HG.out | exact Gl.drewN HG.out _ | exact Gl.below HG.out (by repeat (first | (with_reducible first | exact HB.out | apply below_alloc | apply pw_below_drewN | apply below_drew1) | exact HB.out))); rintro e w57 ⟨rfl, hb⟩; refine ⟨_, rfl, ?_⟩; have n0_ := Aside0.mk (Kd.R_below (by (with_reducible repeat (first | apply Kd.R_alloc | apply Kd.R_drewN | apply Kd.R_drew)); exact HO173.out) hb); have n1_ := Aside0.mk (below_step (by repeat (first | (with_reducible first | exact HB.out | apply below_alloc | apply pw_below_drewN | apply below_drew1) | exact HB.out)) hb); clear HO173; clear HB; have HO173 := n0_; have HB := n1_; clear n0_ n1_; (try clear hb); (try clear hb2); (try clear hk); (try clear hi)) | (go_at_call 9; (with_reducible refine (match_Same.calls kj3 (rdOf ByteArray.empty t171 (ji11)) a2 a1 t182 _ ?side1 A21.out).mono ?_); (case side1 => first | exact HG.out | exact Gl.drewN HG.out _ | exact Gl.below HG.out (by repeat (first | (with_reducible first | exact HB.out | apply below_alloc | apply pw_below_drewN | apply below_drew1) | exact HB.out))); rintro e w58 ⟨rfl, hb⟩; have n0_ := Aside0.mk (Kd.R_below (by (with_reducible repeat (first | apply Kd.R_alloc | apply Kd.R_drewN | apply Kd.R_drew)); exact HO173.out) hb); have n1_ := Aside0.mk (below_step (by repeat (first | (with_reducible first | exact HB.out | apply below_alloc | apply pw_below_drewN | apply below_drew1) | exact HB.out)) hb); clear HO173; clear HB; have HO173 := n0_; have HB := n1_; clear n0_ n1_; (try clear hb); (try clear hb2); (try clear hk); (try clear hi)))
                        go_ret
                        exact ⟨by first | rfl | (simp [errW_none, errW_some] <;> rfl) | (simp only [← hji11]; first | rfl | (simp [errW_none, errW_some] <;> rfl)) | (simp [*, errW_none, errW_some] <;> rfl), by repeat (first | (with_reducible first | exact HB.out | apply below_alloc | apply pw_below_drewN | apply below_drew1) | exact HB.out)⟩
                    · rw [if_neg c22] at H
                      have c22b0 : (t181 == t182) = false := by simpa using c22
                      (try (have c22b1 : decide (t181 = t182) = false := by simpa using c22))
                      (try (have c22b2 : (t181 == t182) = false := by simpa using c22))
                      (try (have c22b3 : ¬ (t181 = t182) := by simpa using c22))
                      clear c22
                      obtain rfl := Option.some.inj H
                      go_wp2_with (first | ((with_reducible refine gate_callee (f := 7) rfl ?_); refine goesL_ (some 25) rfl rfl Tryd.func7 (by kernel_rfl) rfl #[] rfl (by (try simp only [List.map_toArray, List.map_cons, List.map_nil]); first | done | rfl | (simp only [List.length_drop, List.length_take]; rfl)) ?_; (with_reducible refine (brooklaw3_Types.calls  t171 _ A9.out).mono ?_); rintro e w59 ⟨v172, rfl, ho0, hb⟩; refine ⟨_, rfl, ?_⟩; have n0_ := Aside0.mk (Kd.R_lower ho0 (below_size (by repeat (first | (with_reducible first | exact HB.out | apply below_alloc | apply pw_below_drewN | apply below_drew1) | exact HB.out)))); have n1_ := Aside0.mk (below_step (by repeat (first | (with_reducible first | exact HB.out | apply below_alloc | apply pw_below_drewN | apply below_drew1) | exact HB.out)) hb); clear HB; have HO173 := n0_; have HB := n1_; clear n0_ n1_; (try clear hb); (try clear hb2); (try clear hk); (try clear hi); (try clear ho0); obtain ⟨Ao60, co60, eo60⟩ := Kd.R_slice HO173.out; subst eo60; have p174 : 0 ≤ ((ji11) : Int) := of_decide_eq_true (by first | (with_reducible assumption) | assumption); have q174 : (ji11) < (t171.length : Int) := of_decide_eq_true (by first | (with_reducible assumption) | assumption); obtain ⟨ad174, e174, hx174_0⟩ := Kd.at_string (Kd.R_reads' HO173.out).2.2 (ji11) p174 q174; cases e174; replace p174 := eq_true p174; replace q174 := eq_true q174) | ((with_reducible refine gate_callee (f := 8) rfl ?_); refine goesL_ (some 37) rfl rfl Tryd.func8 (by kernel_rfl) rfl #[.string (rdOf ByteArray.empty t171 (ji11)), .string a1] rfl (by (try simp only [List.map_toArray, List.map_cons, List.map_nil]); first | done | (simp only [hji11]; rfl) | rfl | (simp only [List.length_drop, List.length_take]; rfl)) ?_; (with_reducible refine (match_Norm.calls kj3 (rdOf ByteArray.empty t171 (ji11)) a1 t175 true _ ?side1 A14.out).mono ?_); (case side1 => first | exact HG.out | exact Gl.drewN HG.out _ | exact Gl.below HG.out (by repeat (first | (with_reducible first | exact HB.out | apply below_alloc | apply pw_below_drewN | apply below_drew1) | exact HB.out))); rintro e w61 ⟨rfl, hb⟩; refine ⟨_, rfl, ?_⟩; have n0_ := Aside0.mk (Kd.R_below (by (with_reducible repeat (first | apply Kd.R_alloc | apply Kd.R_drewN | apply Kd.R_drew)); exact HO173.out) hb); have n1_ := Aside0.mk (below_step (by repeat (first | (with_reducible first | exact HB.out | apply below_alloc | apply pw_below_drewN | apply below_drew1) | exact HB.out)) hb); clear HO173; clear HB; have HO173 := n0_; have HB := n1_; clear n0_ n1_; (try clear hb); (try clear hb2); (try clear hk); (try clear hi)) | ((with_reducible refine gate_callee (f := 8) rfl ?_); refine goesL_ (some 43) rfl rfl Tryd.func8 (by kernel_rfl) rfl #[.string (rdOf ByteArray.empty t171 (ji11)), .string a2] rfl (by (try simp only [List.map_toArray, List.map_cons, List.map_nil]); first | done | (simp only [hji11]; rfl) | rfl | (simp only [List.length_drop, List.length_take]; rfl)) ?_; (with_reducible refine (match_Norm.calls kj3 (rdOf ByteArray.empty t171 (ji11)) a2 t177 true _ ?side1 A15.out).mono ?_); (case side1 => first | exact HG.out | exact Gl.drewN HG.out _ | exact Gl.below HG.out (by repeat (first | (with_reducible first | exact HB.out | apply below_alloc | apply pw_below_drewN | apply below_drew1) | exact HB.out))); rintro e w62 ⟨rfl, hb⟩; refine ⟨_, rfl, ?_⟩; have n0_ := Aside0.mk (Kd.R_below (by (with_reducible repeat (first | apply Kd.R_alloc | apply Kd.R_drewN | apply Kd.R_drew)); exact HO173.out) hb); have n1_ := Aside0.mk (below_step (by repeat (first | (with_reducible first | exact HB.out | apply below_alloc | apply pw_below_drewN | apply below_drew1) | exact HB.out)) hb); clear HO173; clear HB; have HO173 := n0_; have HB := n1_; clear n0_ n1_; (try clear hb); (try clear hb2); (try clear hk); (try clear hi)) | ((with_reducible refine gate_callee (f := 8) rfl ?_); refine goesL_ (some 49) rfl rfl Tryd.func8 (by kernel_rfl) rfl #[.string (rdOf ByteArray.empty t171 (ji11)), .string t175] rfl (by (try simp only [List.map_toArray, List.map_cons, List.map_nil]); first | done | (simp only [hji11]; rfl) | rfl | (simp only [List.length_drop, List.length_take]; rfl)) ?_; (with_reducible refine (match_Norm.calls kj3 (rdOf ByteArray.empty t171 (ji11)) t175 t179 t180 _ ?side1 A16.out).mono ?_); (case side1 => first | exact HG.out | exact Gl.drewN HG.out _ | exact Gl.below HG.out (by repeat (first | (with_reducible first | exact HB.out | apply below_alloc | apply pw_below_drewN | apply below_drew1) | exact HB.out))); rintro e w63 ⟨rfl, hb⟩; refine ⟨_, rfl, ?_⟩; have n0_ := Aside0.mk (Kd.R_below (by (with_reducible repeat (first | apply Kd.R_alloc | apply Kd.R_drewN | apply Kd.R_drew)); exact HO173.out) hb); have n1_ := Aside0.mk (below_step (by repeat (first | (with_reducible first | exact HB.out | apply below_alloc | apply pw_below_drewN | apply below_drew1) | exact HB.out)) hb); clear HO173; clear HB; have HO173 := n0_; have HB := n1_; clear n0_ n1_; (try clear hb); (try clear hb2); (try clear hk); (try clear hi)) | ((with_reducible refine gate_callee (f := 9) rfl ?_); refine goesL_ (some 55) rfl rfl Tryd.func9 (by kernel_rfl) rfl #[.string (rdOf ByteArray.empty t171 (ji11)), .string a1, .string a2] rfl (by (try simp only [List.map_toArray, List.map_cons, List.map_nil]); first | done | (simp only [hji11]; rfl) | rfl | (simp only [List.length_drop, List.length_take]; rfl)) ?_; (with_reducible refine (match_Same.calls kj3 (rdOf ByteArray.empty t171 (ji11)) a1 a2 t181 _ ?side1 A17.out).mono ?_); (case side1 => first | exact HG.out | exact Gl.drewN HG.out _ | exact Gl.below HG.out (by repeat (first | (with_reducible first | exact HB.out | apply below_alloc | apply pw_below_drewN | apply below_drew1) | exact HB.out))); rintro e w64 ⟨rfl, hb⟩; refine ⟨_, rfl, ?_⟩; have n0_ := Aside0.mk (Kd.R_below (by (with_reducible repeat (first | apply Kd.R_alloc | apply Kd.R_drewN | apply Kd.R_drew)); exact HO173.out) hb); have n1_ := Aside0.mk (below_step (by repeat (first | (with_reducible first | exact HB.out | apply below_alloc | apply pw_below_drewN | apply below_drew1) | exact HB.out)) hb); clear HO173; clear HB; have HO173 := n0_; have HB := n1_; clear n0_ n1_; (try clear hb); (try clear hb2); (try clear hk); (try clear hi)) | (go_at_call 9; (with_reducible refine (match_Same.calls kj3 (rdOf ByteArray.empty t171 (ji11)) a2 a1 t182 _ ?side1 A21.out).mono ?_); (case side1 => first | exact HG.out | exact Gl.drewN HG.out _ | exact Gl.below HG.out (by repeat (first | (with_reducible first | exact HB.out | apply below_alloc | apply pw_below_drewN | apply below_drew1) | exact HB.out))); rintro e w65 ⟨rfl, hb⟩; have n0_ := Aside0.mk (Kd.R_below (by (with_reducible repeat (first | apply Kd.R_alloc | apply Kd.R_drewN | apply Kd.R_drew)); exact HO173.out) hb); have n1_ := Aside0.mk (below_step (by repeat (first | (with_reducible first | exact HB.out | apply below_alloc | apply pw_below_drewN | apply below_drew1) | exact HB.out)) hb); clear HO173; clear HB; have HO173 := n0_; have HB := n1_; clear n0_ n1_; (try clear hb); (try clear hb2); (try clear hk); (try clear hi)))
                      go_ret
                      exact ⟨by first | rfl | (simp [errW_none, errW_some] <;> rfl) | (simp only [← hji11]; first | rfl | (simp [errW_none, errW_some] <;> rfl)) | (simp [*, errW_none, errW_some] <;> rfl), by repeat (first | (with_reducible first | exact HB.out | apply below_alloc | apply pw_below_drewN | apply below_drew1) | exact HB.out)⟩
                  · rw [if_neg c20] at H
                    have c20b0 : (t181 == (t175.toList == t177.toList)) = false := by simpa using c20
                    (try (have c20b1 : decide (t181 = (t175.toList == t177.toList)) = false := by simpa using c20))
                    (try (have c20b2 : (t181 == (t175.toList == t177.toList)) = false := by simpa using c20))
                    (try (have c20b3 : ¬ (t181 = (t175.toList == t177.toList)) := by simpa using c20))
                    clear c20
                    obtain rfl := Option.some.inj H
                    go_wp2_with (first | ((with_reducible refine gate_callee (f := 7) rfl ?_); refine goesL_ (some 25) rfl rfl Tryd.func7 (by kernel_rfl) rfl #[] rfl (by (try simp only [List.map_toArray, List.map_cons, List.map_nil]); first | done | rfl | (simp only [List.length_drop, List.length_take]; rfl)) ?_; (with_reducible refine (brooklaw3_Types.calls  t171 _ A9.out).mono ?_); rintro e w66 ⟨v172, rfl, ho0, hb⟩; refine ⟨_, rfl, ?_⟩; have n0_ := Aside0.mk (Kd.R_lower ho0 (below_size (by repeat (first | (with_reducible first | exact HB.out | apply below_alloc | apply pw_below_drewN | apply below_drew1) | exact HB.out)))); have n1_ := Aside0.mk (below_step (by repeat (first | (with_reducible first | exact HB.out | apply below_alloc | apply pw_below_drewN | apply below_drew1) | exact HB.out)) hb); clear HB; have HO173 := n0_; have HB := n1_; clear n0_ n1_; (try clear hb); (try clear hb2); (try clear hk); (try clear hi); (try clear ho0); obtain ⟨Ao67, co67, eo67⟩ := Kd.R_slice HO173.out; subst eo67; have p174 : 0 ≤ ((ji11) : Int) := of_decide_eq_true (by first | (with_reducible assumption) | assumption); have q174 : (ji11) < (t171.length : Int) := of_decide_eq_true (by first | (with_reducible assumption) | assumption); obtain ⟨ad174, e174, hx174_0⟩ := Kd.at_string (Kd.R_reads' HO173.out).2.2 (ji11) p174 q174; cases e174; replace p174 := eq_true p174; replace q174 := eq_true q174) | ((with_reducible refine gate_callee (f := 8) rfl ?_); refine goesL_ (some 37) rfl rfl Tryd.func8 (by kernel_rfl) rfl #[.string (rdOf ByteArray.empty t171 (ji11)), .string a1] rfl (by (try simp only [List.map_toArray, List.map_cons, List.map_nil]); first | done | (simp only [hji11]; rfl) | rfl | (simp only [List.length_drop, List.length_take]; rfl)) ?_; (with_reducible refine (match_Norm.calls kj3 (rdOf ByteArray.empty t171 (ji11)) a1 t175 true _ ?side1 A14.out).mono ?_); (case side1 => first | exact HG.out | exact Gl.drewN HG.out _ | exact Gl.below HG.out (by repeat (first | (with_reducible first | exact HB.out | apply below_alloc | apply pw_below_drewN | apply below_drew1) | exact HB.out))); rintro e w68 ⟨rfl, hb⟩; refine ⟨_, rfl, ?_⟩; have n0_ := Aside0.mk (Kd.R_below (by (with_reducible repeat (first | apply Kd.R_alloc | apply Kd.R_drewN | apply Kd.R_drew)); exact HO173.out) hb); have n1_ := Aside0.mk (below_step (by repeat (first | (with_reducible first | exact HB.out | apply below_alloc | apply pw_below_drewN | apply below_drew1) | exact HB.out)) hb); clear HO173; clear HB; have HO173 := n0_; have HB := n1_; clear n0_ n1_; (try clear hb); (try clear hb2); (try clear hk); (try clear hi)) | ((with_reducible refine gate_callee (f := 8) rfl ?_); refine goesL_ (some 43) rfl rfl Tryd.func8 (by kernel_rfl) rfl #[.string (rdOf ByteArray.empty t171 (ji11)), .string a2] rfl (by (try simp only [List.map_toArray, List.map_cons, List.map_nil]); first | done | (simp only [hji11]; rfl) | rfl | (simp only [List.length_drop, List.length_take]; rfl)) ?_; (with_reducible refine (match_Norm.calls kj3 (rdOf ByteArray.empty t171 (ji11)) a2 t177 true _ ?side1 A15.out).mono ?_); (case side1 => first | exact HG.out | exact Gl.drewN HG.out _ | exact Gl.below HG.out (by repeat (first | (with_reducible first | exact HB.out | apply below_alloc | apply pw_below_drewN | apply below_drew1) | exact HB.out))); rintro e w69 ⟨rfl, hb⟩; refine ⟨_, rfl, ?_⟩; have n0_ := Aside0.mk (Kd.R_below (by (with_reducible repeat (first | apply Kd.R_alloc | apply Kd.R_drewN | apply Kd.R_drew)); exact HO173.out) hb); have n1_ := Aside0.mk (below_step (by repeat (first | (with_reducible first | exact HB.out | apply below_alloc | apply pw_below_drewN | apply below_drew1) | exact HB.out)) hb); clear HO173; clear HB; have HO173 := n0_; have HB := n1_; clear n0_ n1_; (try clear hb); (try clear hb2); (try clear hk); (try clear hi)) | ((with_reducible refine gate_callee (f := 8) rfl ?_); refine goesL_ (some 49) rfl rfl Tryd.func8 (by kernel_rfl) rfl #[.string (rdOf ByteArray.empty t171 (ji11)), .string t175] rfl (by (try simp only [List.map_toArray, List.map_cons, List.map_nil]); first | done | (simp only [hji11]; rfl) | rfl | (simp only [List.length_drop, List.length_take]; rfl)) ?_; (with_reducible refine (match_Norm.calls kj3 (rdOf ByteArray.empty t171 (ji11)) t175 t179 t180 _ ?side1 A16.out).mono ?_); (case side1 => first | exact HG.out | exact Gl.drewN HG.out _ | exact Gl.below HG.out (by repeat (first | (with_reducible first | exact HB.out | apply below_alloc | apply pw_below_drewN | apply below_drew1) | exact HB.out))); rintro e w70 ⟨rfl, hb⟩; refine ⟨_, rfl, ?_⟩; have n0_ := Aside0.mk (Kd.R_below (by (with_reducible repeat (first | apply Kd.R_alloc | apply Kd.R_drewN | apply Kd.R_drew)); exact HO173.out) hb); have n1_ := Aside0.mk (below_step (by repeat (first | (with_reducible first | exact HB.out | apply below_alloc | apply pw_below_drewN | apply below_drew1) | exact HB.out)) hb); clear HO173; clear HB; have HO173 := n0_; have HB := n1_; clear n0_ n1_; (try clear hb); (try clear hb2); (try clear hk); (try clear hi)) | ((with_reducible refine gate_callee (f := 9) rfl ?_); refine goesL_ (some 55) rfl rfl Tryd.func9 (by kernel_rfl) rfl #[.string (rdOf ByteArray.empty t171 (ji11)), .string a1, .string a2] rfl (by (try simp only [List.map_toArray, List.map_cons, List.map_nil]); first | done | (simp only [hji11]; rfl) | rfl | (simp only [List.length_drop, List.length_take]; rfl)) ?_; (with_reducible refine (match_Same.calls kj3 (rdOf ByteArray.empty t171 (ji11)) a1 a2 t181 _ ?side1 A17.out).mono ?_); (case side1 => first | exact HG.out | exact Gl.drewN HG.out _ | exact Gl.below HG.out (by repeat (first | (with_reducible first | exact HB.out | apply below_alloc | apply pw_below_drewN | apply below_drew1) | exact HB.out))); rintro e w71 ⟨rfl, hb⟩; refine ⟨_, rfl, ?_⟩; have n0_ := Aside0.mk (Kd.R_below (by (with_reducible repeat (first | apply Kd.R_alloc | apply Kd.R_drewN | apply Kd.R_drew)); exact HO173.out) hb); have n1_ := Aside0.mk (below_step (by repeat (first | (with_reducible first | exact HB.out | apply below_alloc | apply pw_below_drewN | apply below_drew1) | exact HB.out)) hb); clear HO173; clear HB; have HO173 := n0_; have HB := n1_; clear n0_ n1_; (try clear hb); (try clear hb2); (try clear hk); (try clear hi)))
                    go_ret
                    exact ⟨by first | rfl | (simp [errW_none, errW_some] <;> rfl) | (simp only [← hji11]; first | rfl | (simp [errW_none, errW_some] <;> rfl)) | (simp [*, errW_none, errW_some] <;> rfl), by repeat (first | (with_reducible first | exact HB.out | apply below_alloc | apply pw_below_drewN | apply below_drew1) | exact HB.out)⟩
                · replace c19 := Bool.eq_false_iff.mpr c19
                  subst c19
                  have H1 : (if (t181 == false) = true then ((match_Same.f kj3 (rdOf ByteArray.empty t171 (ji11)) a2 a1).bind fun t185 => (if (t181 == t185) = true then (if t180 = true then (if t179.toList = t175.toList then ((match_Same.f kj3 (rdOf ByteArray.empty t171 (ji11)) a1 t175).bind fun t186 => (if t186 = true then ((brooklaw3_awake.f kj3).bind fun t187 => (some t187)) else (some false))) else (some false)) else (some false)) else (some false))) else (some false)) = some r := by rw [if_neg (show ¬ (false = true) by decide)] at H; exact H
                  clear H
                  have H := H1
                  clear H1
                  by_cases c72 : (t181 == false) = true
                  · rw [if_pos c72] at H
                    have c72b0 : (t181 == false) = true := c72
                    (try (have c72b1 : decide (t181 = false) = true := by simpa using c72))
                    (try (have c72b2 : (t181 == false) = true := by simpa using c72))
                    clear c72
                    replace H := Option.bind_eq_some_iff.mp H
                    obtain ⟨t185, A730, H⟩ := H
                    replace H : (if (t181 == t185) = true then (if t180 = true then (if t179.toList = t175.toList then ((match_Same.f kj3 (rdOf ByteArray.empty t171 (ji11)) a1 t175).bind fun t186 => (if t186 = true then ((brooklaw3_awake.f kj3).bind fun t187 => (some t187)) else (some false))) else (some false)) else (some false)) else (some false)) = some r := H
                    have A73 := Aside0.mk A730
                    clear A730
                    by_cases c74 : (t181 == t185) = true
                    · rw [if_pos c74] at H
                      have c74b0 : (t181 == t185) = true := c74
                      (try (have c74b1 : decide (t181 = t185) = true := by simpa using c74))
                      (try (have c74b2 : (t181 == t185) = true := by simpa using c74))
                      clear c74
                      by_cases c75 : t180 = true
                      · subst c75
                        have H1 : (if t179.toList = t175.toList then ((match_Same.f kj3 (rdOf ByteArray.empty t171 (ji11)) a1 t175).bind fun t186 => (if t186 = true then ((brooklaw3_awake.f kj3).bind fun t187 => (some t187)) else (some false))) else (some false)) = some r := by rw [if_pos rfl] at H; exact H
                        clear H
                        have H := H1
                        clear H1
                        by_cases c76 : t179.toList = t175.toList
                        · rw [if_pos c76] at H
                          have c76b0 : (t179.toList == t175.toList) = true := beq_iff_eq.mpr c76
                          have c76b1 : (t179.toList != t175.toList) = false := bne_eq_false_iff_eq.mpr c76
                          clear c76
                          replace H := Option.bind_eq_some_iff.mp H
                          obtain ⟨t186, A770, H⟩ := H
                          replace H : (if t186 = true then ((brooklaw3_awake.f kj3).bind fun t187 => (some t187)) else (some false)) = some r := H
                          have A77 := Aside0.mk A770
                          clear A770
                          by_cases c78 : t186 = true
                          · subst c78
                            have H1 : ((brooklaw3_awake.f kj3).bind fun t187 => (some t187)) = some r := by rw [if_pos rfl] at H; exact H
                            clear H
                            have H := H1
                            clear H1
                            replace H := Option.bind_eq_some_iff.mp H
                            obtain ⟨t187, A790, H⟩ := H
                            replace H : (some t187) = some r := H
                            have A79 := Aside0.mk A790
                            clear A790
                            obtain rfl := Option.some.inj H
                            go_wp2_with (first | ((with_reducible refine gate_callee (f := 7) rfl ?_); refine goesL_ (some 25) rfl rfl Tryd.func7 (by kernel_rfl) rfl #[] rfl (by (try simp only [List.map_toArray, List.map_cons, List.map_nil]); first | done | rfl | (simp only [List.length_drop, List.length_take]; rfl)) ?_; (with_reducible refine (brooklaw3_Types.calls  t171 _ A9.out).mono ?_); rintro e w80 ⟨v172, rfl, ho0, hb⟩; refine ⟨_, rfl, ?_⟩; have n0_ := Aside0.mk (Kd.R_lower ho0 (below_size (by repeat (first | (with_reducible first | exact HB.out | apply below_alloc | apply pw_below_drewN | apply below_drew1) | exact HB.out)))); have n1_ := Aside0.mk (below_step (by repeat (first | (with_reducible first | exact HB.out | apply below_alloc | apply pw_below_drewN | apply below_drew1) | exact HB.out)) hb); clear HB; have HO173 := n0_; have HB := n1_; clear n0_ n1_; (try clear hb); (try clear hb2); (try clear hk); (try clear hi); (try clear ho0); obtain ⟨Ao81, co81, eo81⟩ := Kd.R_slice HO173.out; subst eo81; have p174 : 0 ≤ ((ji11) : Int) := of_decide_eq_true (by first | (with_reducible assumption) | assumption); have q174 : (ji11) < (t171.length : Int) := of_decide_eq_true (by first | (with_reducible assumption) | assumption); obtain ⟨ad174, e174, hx174_0⟩ := Kd.at_string (Kd.R_reads' HO173.out).2.2 (ji11) p174 q174; cases e174; replace p174 := eq_true p174; replace q174 := eq_true q174) | ((with_reducible refine gate_callee (f := 8) rfl ?_); refine goesL_ (some 37) rfl rfl Tryd.func8 (by kernel_rfl) rfl #[.string (rdOf ByteArray.empty t171 (ji11)), .string a1] rfl (by (try simp only [List.map_toArray, List.map_cons, List.map_nil]); first | done | (simp only [hji11]; rfl) | rfl | (simp only [List.length_drop, List.length_take]; rfl)) ?_; (with_reducible refine (match_Norm.calls kj3 (rdOf ByteArray.empty t171 (ji11)) a1 t175 true _ ?side1 A14.out).mono ?_); (case side1 => first | exact HG.out | exact Gl.drewN HG.out _ | exact Gl.below HG.out (by repeat (first | (with_reducible first | exact HB.out | apply below_alloc | apply pw_below_drewN | apply below_drew1) | exact HB.out))); rintro e w82 ⟨rfl, hb⟩; refine ⟨_, rfl, ?_⟩; have n0_ := Aside0.mk (Kd.R_below (by (with_reducible repeat (first | apply Kd.R_alloc | apply Kd.R_drewN | apply Kd.R_drew)); exact HO173.out) hb); have n1_ := Aside0.mk (below_step (by repeat (first | (with_reducible first | exact HB.out | apply below_alloc | apply pw_below_drewN | apply below_drew1) | exact HB.out)) hb); clear HO173; clear HB; have HO173 := n0_; have HB := n1_; clear n0_ n1_; (try clear hb); (try clear hb2); (try clear hk); (try clear hi)) | ((with_reducible refine gate_callee (f := 8) rfl ?_); refine goesL_ (some 43) rfl rfl Tryd.func8 (by kernel_rfl) rfl #[.string (rdOf ByteArray.empty t171 (ji11)), .string a2] rfl (by (try simp only [List.map_toArray, List.map_cons, List.map_nil]); first | done | (simp only [hji11]; rfl) | rfl | (simp only [List.length_drop, List.length_take]; rfl)) ?_; (with_reducible refine (match_Norm.calls kj3 (rdOf ByteArray.empty t171 (ji11)) a2 t177 false _ ?side1 A15.out).mono ?_); (case side1 => first | exact HG.out | exact Gl.drewN HG.out _ | exact Gl.below HG.out (by repeat (first | (with_reducible first | exact HB.out | apply below_alloc | apply pw_below_drewN | apply below_drew1) | exact HB.out))); rintro e w83 ⟨rfl, hb⟩; refine ⟨_, rfl, ?_⟩; have n0_ := Aside0.mk (Kd.R_below (by (with_reducible repeat (first | apply Kd.R_alloc | apply Kd.R_drewN | apply Kd.R_drew)); exact HO173.out) hb); have n1_ := Aside0.mk (below_step (by repeat (first | (with_reducible first | exact HB.out | apply below_alloc | apply pw_below_drewN | apply below_drew1) | exact HB.out)) hb); clear HO173; clear HB; have HO173 := n0_; have HB := n1_; clear n0_ n1_; (try clear hb); (try clear hb2); (try clear hk); (try clear hi)) | ((with_reducible refine gate_callee (f := 8) rfl ?_); refine goesL_ (some 49) rfl rfl Tryd.func8 (by kernel_rfl) rfl #[.string (rdOf ByteArray.empty t171 (ji11)), .string t175] rfl (by (try simp only [List.map_toArray, List.map_cons, List.map_nil]); first | done | (simp only [hji11]; rfl) | rfl | (simp only [List.length_drop, List.length_take]; rfl)) ?_; (with_reducible refine (match_Norm.calls kj3 (rdOf ByteArray.empty t171 (ji11)) t175 t179 true _ ?side1 A16.out).mono ?_); (case side1 => first | exact HG.out | exact Gl.drewN HG.out _ | exact Gl.below HG.out (by repeat (first | (with_reducible first | exact HB.out | apply below_alloc | apply pw_below_drewN | apply below_drew1) | exact HB.out))); rintro e w84 ⟨rfl, hb⟩; refine ⟨_, rfl, ?_⟩; have n0_ := Aside0.mk (Kd.R_below (by (with_reducible repeat (first | apply Kd.R_alloc | apply Kd.R_drewN | apply Kd.R_drew)); exact HO173.out) hb); have n1_ := Aside0.mk (below_step (by repeat (first | (with_reducible first | exact HB.out | apply below_alloc | apply pw_below_drewN | apply below_drew1) | exact HB.out)) hb); clear HO173; clear HB; have HO173 := n0_; have HB := n1_; clear n0_ n1_; (try clear hb); (try clear hb2); (try clear hk); (try clear hi)) | ((with_reducible refine gate_callee (f := 9) rfl ?_); refine goesL_ (some 55) rfl rfl Tryd.func9 (by kernel_rfl) rfl #[.string (rdOf ByteArray.empty t171 (ji11)), .string a1, .string a2] rfl (by (try simp only [List.map_toArray, List.map_cons, List.map_nil]); first | done | (simp only [hji11]; rfl) | rfl | (simp only [List.length_drop, List.length_take]; rfl)) ?_; (with_reducible refine (match_Same.calls kj3 (rdOf ByteArray.empty t171 (ji11)) a1 a2 t181 _ ?side1 A17.out).mono ?_); (case side1 => first | exact HG.out | exact Gl.drewN HG.out _ | exact Gl.below HG.out (by repeat (first | (with_reducible first | exact HB.out | apply below_alloc | apply pw_below_drewN | apply below_drew1) | exact HB.out))); rintro e w85 ⟨rfl, hb⟩; refine ⟨_, rfl, ?_⟩; have n0_ := Aside0.mk (Kd.R_below (by (with_reducible repeat (first | apply Kd.R_alloc | apply Kd.R_drewN | apply Kd.R_drew)); exact HO173.out) hb); have n1_ := Aside0.mk (below_step (by repeat (first | (with_reducible first | exact HB.out | apply below_alloc | apply pw_below_drewN | apply below_drew1) | exact HB.out)) hb); clear HO173; clear HB; have HO173 := n0_; have HB := n1_; clear n0_ n1_; (try clear hb); (try clear hb2); (try clear hk); (try clear hi)) | (go_at_call 9; (with_reducible refine (match_Same.calls kj3 (rdOf ByteArray.empty t171 (ji11)) a2 a1 t185 _ ?side1 A73.out).mono ?_); (case side1 => first | exact HG.out | exact Gl.drewN HG.out _ | exact Gl.below HG.out (by repeat (first | (with_reducible first | exact HB.out | apply below_alloc | apply pw_below_drewN | apply below_drew1) | exact HB.out))); rintro e w86 ⟨rfl, hb⟩; have n0_ := Aside0.mk (Kd.R_below (by (with_reducible repeat (first | apply Kd.R_alloc | apply Kd.R_drewN | apply Kd.R_drew)); exact HO173.out) hb); have n1_ := Aside0.mk (below_step (by repeat (first | (with_reducible first | exact HB.out | apply below_alloc | apply pw_below_drewN | apply below_drew1) | exact HB.out)) hb); clear HO173; clear HB; have HO173 := n0_; have HB := n1_; clear n0_ n1_; (try clear hb); (try clear hb2); (try clear hk); (try clear hi)) | (go_at_call 9; (with_reducible refine (match_Same.calls kj3 (rdOf ByteArray.empty t171 (ji11)) a1 t175 true _ ?side1 A77.out).mono ?_); (case side1 => first | exact HG.out | exact Gl.drewN HG.out _ | exact Gl.below HG.out (by repeat (first | (with_reducible first | exact HB.out | apply below_alloc | apply pw_below_drewN | apply below_drew1) | exact HB.out))); rintro e w87 ⟨rfl, hb⟩; have n0_ := Aside0.mk (Kd.R_below (by (with_reducible repeat (first | apply Kd.R_alloc | apply Kd.R_drewN | apply Kd.R_drew)); exact HO173.out) hb); have n1_ := Aside0.mk (below_step (by repeat (first | (with_reducible first | exact HB.out | apply below_alloc | apply pw_below_drewN | apply below_drew1) | exact HB.out)) hb); clear HO173; clear HB; have HO173 := n0_; have HB := n1_; clear n0_ n1_; (try clear hb); (try clear hb2); (try clear hk); (try clear hi)) | (go_at_call 6; (with_reducible refine (brooklaw3_awake.calls kj3  t187 _ ?side1 A79.out).mono ?_); (case side1 => first | exact HG.out | exact Gl.drewN HG.out _ | exact Gl.below HG.out (by repeat (first | (with_reducible first | exact HB.out | apply below_alloc | apply pw_below_drewN | apply below_drew1) | exact HB.out))); rintro e w88 ⟨rfl, hb⟩; have n0_ := Aside0.mk (Kd.R_below (by (with_reducible repeat (first | apply Kd.R_alloc | apply Kd.R_drewN | apply Kd.R_drew)); exact HO173.out) hb); have n1_ := Aside0.mk (below_step (by repeat (first | (with_reducible first | exact HB.out | apply below_alloc | apply pw_below_drewN | apply below_drew1) | exact HB.out)) hb); clear HO173; clear HB; have HO173 := n0_; have HB := n1_; clear n0_ n1_; (try clear hb); (try clear hb2); (try clear hk); (try clear hi)))
                            go_ret
                            exact ⟨by first | rfl | (simp [errW_none, errW_some] <;> rfl) | (simp only [← hji11]; first | rfl | (simp [errW_none, errW_some] <;> rfl)) | (simp [*, errW_none, errW_some] <;> rfl), by repeat (first | (with_reducible first | exact HB.out | apply below_alloc | apply pw_below_drewN | apply below_drew1) | exact HB.out)⟩
                          · replace c78 := Bool.eq_false_iff.mpr c78
                            subst c78
                            have H1 : (some false) = some r := by rw [if_neg (show ¬ (false = true) by decide)] at H; exact H
                            clear H
                            have H := H1
                            clear H1
                            obtain rfl := Option.some.inj H
                            go_wp2_with (first | ((with_reducible refine gate_callee (f := 7) rfl ?_); refine goesL_ (some 25) rfl rfl Tryd.func7 (by kernel_rfl) rfl #[] rfl (by (try simp only [List.map_toArray, List.map_cons, List.map_nil]); first | done | rfl | (simp only [List.length_drop, List.length_take]; rfl)) ?_; (with_reducible refine (brooklaw3_Types.calls  t171 _ A9.out).mono ?_); rintro e w89 ⟨v172, rfl, ho0, hb⟩; refine ⟨_, rfl, ?_⟩; have n0_ := Aside0.mk (Kd.R_lower ho0 (below_size (by repeat (first | (with_reducible first | exact HB.out | apply below_alloc | apply pw_below_drewN | apply below_drew1) | exact HB.out)))); have n1_ := Aside0.mk (below_step (by repeat (first | (with_reducible first | exact HB.out | apply below_alloc | apply pw_below_drewN | apply below_drew1) | exact HB.out)) hb); clear HB; have HO173 := n0_; have HB := n1_; clear n0_ n1_; (try clear hb); (try clear hb2); (try clear hk); (try clear hi); (try clear ho0); obtain ⟨Ao90, co90, eo90⟩ := Kd.R_slice HO173.out; subst eo90; have p174 : 0 ≤ ((ji11) : Int) := of_decide_eq_true (by first | (with_reducible assumption) | assumption); have q174 : (ji11) < (t171.length : Int) := of_decide_eq_true (by first | (with_reducible assumption) | assumption); obtain ⟨ad174, e174, hx174_0⟩ := Kd.at_string (Kd.R_reads' HO173.out).2.2 (ji11) p174 q174; cases e174; replace p174 := eq_true p174; replace q174 := eq_true q174) | ((with_reducible refine gate_callee (f := 8) rfl ?_); refine goesL_ (some 37) rfl rfl Tryd.func8 (by kernel_rfl) rfl #[.string (rdOf ByteArray.empty t171 (ji11)), .string a1] rfl (by (try simp only [List.map_toArray, List.map_cons, List.map_nil]); first | done | (simp only [hji11]; rfl) | rfl | (simp only [List.length_drop, List.length_take]; rfl)) ?_; (with_reducible refine (match_Norm.calls kj3 (rdOf ByteArray.empty t171 (ji11)) a1 t175 true _ ?side1 A14.out).mono ?_); (case side1 => first | exact HG.out | exact Gl.drewN HG.out _ | exact Gl.below HG.out (by repeat (first | (with_reducible first | exact HB.out | apply below_alloc | apply pw_below_drewN | apply below_drew1) | exact HB.out))); rintro e w91 ⟨rfl, hb⟩; refine ⟨_, rfl, ?_⟩; have n0_ := Aside0.mk (Kd.R_below (by (with_reducible repeat (first | apply Kd.R_alloc | apply Kd.R_drewN | apply Kd.R_drew)); exact HO173.out) hb); have n1_ := Aside0.mk (below_step (by repeat (first | (with_reducible first | exact HB.out | apply below_alloc | apply pw_below_drewN | apply below_drew1) | exact HB.out)) hb); clear HO173; clear HB; have HO173 := n0_; have HB := n1_; clear n0_ n1_; (try clear hb); (try clear hb2); (try clear hk); (try clear hi)) | ((with_reducible refine gate_callee (f := 8) rfl ?_); refine goesL_ (some 43) rfl rfl Tryd.func8 (by kernel_rfl) rfl #[.string (rdOf ByteArray.empty t171 (ji11)), .string a2] rfl (by (try simp only [List.map_toArray, List.map_cons, List.map_nil]); first | done | (simp only [hji11]; rfl) | rfl | (simp only [List.length_drop, List.length_take]; rfl)) ?_; (with_reducible refine (match_Norm.calls kj3 (rdOf ByteArray.empty t171 (ji11)) a2 t177 false _ ?side1 A15.out).mono ?_); (case side1 => first | exact HG.out | exact Gl.drewN HG.out _ | exact Gl.below HG.out (by repeat (first | (with_reducible first | exact HB.out | apply below_alloc | apply pw_below_drewN | apply below_drew1) | exact HB.out))); rintro e w92 ⟨rfl, hb⟩; refine ⟨_, rfl, ?_⟩; have n0_ := Aside0.mk (Kd.R_below (by (with_reducible repeat (first | apply Kd.R_alloc | apply Kd.R_drewN | apply Kd.R_drew)); exact HO173.out) hb); have n1_ := Aside0.mk (below_step (by repeat (first | (with_reducible first | exact HB.out | apply below_alloc | apply pw_below_drewN | apply below_drew1) | exact HB.out)) hb); clear HO173; clear HB; have HO173 := n0_; have HB := n1_; clear n0_ n1_; (try clear hb); (try clear hb2); (try clear hk); (try clear hi)) | ((with_reducible refine gate_callee (f := 8) rfl ?_); refine goesL_ (some 49) rfl rfl Tryd.func8 (by kernel_rfl) rfl #[.string (rdOf ByteArray.empty t171 (ji11)), .string t175] rfl (by (try simp only [List.map_toArray, List.map_cons, List.map_nil]); first | done | (simp only [hji11]; rfl) | rfl | (simp only [List.length_drop, List.length_take]; rfl)) ?_; (with_reducible refine (match_Norm.calls kj3 (rdOf ByteArray.empty t171 (ji11)) t175 t179 true _ ?side1 A16.out).mono ?_); (case side1 => first | exact HG.out | exact Gl.drewN HG.out _ | exact Gl.below HG.out (by repeat (first | (with_reducible first | exact HB.out | apply below_alloc | apply pw_below_drewN | apply below_drew1) | exact HB.out))); rintro e w93 ⟨rfl, hb⟩; refine ⟨_, rfl, ?_⟩; have n0_ := Aside0.mk (Kd.R_below (by (with_reducible repeat (first | apply Kd.R_alloc | apply Kd.R_drewN | apply Kd.R_drew)); exact HO173.out) hb); have n1_ := Aside0.mk (below_step (by repeat (first | (with_reducible first | exact HB.out | apply below_alloc | apply pw_below_drewN | apply below_drew1) | exact HB.out)) hb); clear HO173; clear HB; have HO173 := n0_; have HB := n1_; clear n0_ n1_; (try clear hb); (try clear hb2); (try clear hk); (try clear hi)) | ((with_reducible refine gate_callee (f := 9) rfl ?_); refine goesL_ (some 55) rfl rfl Tryd.func9 (by kernel_rfl) rfl #[.string (rdOf ByteArray.empty t171 (ji11)), .string a1, .string a2] rfl (by (try simp only [List.map_toArray, List.map_cons, List.map_nil]); first | done | (simp only [hji11]; rfl) | rfl | (simp only [List.length_drop, List.length_take]; rfl)) ?_; (with_reducible refine (match_Same.calls kj3 (rdOf ByteArray.empty t171 (ji11)) a1 a2 t181 _ ?side1 A17.out).mono ?_); (case side1 => first | exact HG.out | exact Gl.drewN HG.out _ | exact Gl.below HG.out (by repeat (first | (with_reducible first | exact HB.out | apply below_alloc | apply pw_below_drewN | apply below_drew1) | exact HB.out))); rintro e w94 ⟨rfl, hb⟩; refine ⟨_, rfl, ?_⟩; have n0_ := Aside0.mk (Kd.R_below (by (with_reducible repeat (first | apply Kd.R_alloc | apply Kd.R_drewN | apply Kd.R_drew)); exact HO173.out) hb); have n1_ := Aside0.mk (below_step (by repeat (first | (with_reducible first | exact HB.out | apply below_alloc | apply pw_below_drewN | apply below_drew1) | exact HB.out)) hb); clear HO173; clear HB; have HO173 := n0_; have HB := n1_; clear n0_ n1_; (try clear hb); (try clear hb2); (try clear hk); (try clear hi)) | (go_at_call 9; (with_reducible refine (match_Same.calls kj3 (rdOf ByteArray.empty t171 (ji11)) a2 a1 t185 _ ?side1 A73.out).mono ?_); (case side1 => first | exact HG.out | exact Gl.drewN HG.out _ | exact Gl.below HG.out (by repeat (first | (with_reducible first | exact HB.out | apply below_alloc | apply pw_below_drewN | apply below_drew1) | exact HB.out))); rintro e w95 ⟨rfl, hb⟩; have n0_ := Aside0.mk (Kd.R_below (by (with_reducible repeat (first | apply Kd.R_alloc | apply Kd.R_drewN | apply Kd.R_drew)); exact HO173.out) hb); have n1_ := Aside0.mk (below_step (by repeat (first | (with_reducible first | exact HB.out | apply below_alloc | apply pw_below_drewN | apply below_drew1) | exact HB.out)) hb); clear HO173; clear HB; have HO173 := n0_; have HB := n1_; clear n0_ n1_; (try clear hb); (try clear hb2); (try clear hk); (try clear hi)) | (go_at_call 9; (with_reducible refine (match_Same.calls kj3 (rdOf ByteArray.empty t171 (ji11)) a1 t175 false _ ?side1 A77.out).mono ?_); (case side1 => first | exact HG.out | exact Gl.drewN HG.out _ | exact Gl.below HG.out (by repeat (first | (with_reducible first | exact HB.out | apply below_alloc | apply pw_below_drewN | apply below_drew1) | exact HB.out))); rintro e w96 ⟨rfl, hb⟩; have n0_ := Aside0.mk (Kd.R_below (by (with_reducible repeat (first | apply Kd.R_alloc | apply Kd.R_drewN | apply Kd.R_drew)); exact HO173.out) hb); have n1_ := Aside0.mk (below_step (by repeat (first | (with_reducible first | exact HB.out | apply below_alloc | apply pw_below_drewN | apply below_drew1) | exact HB.out)) hb); clear HO173; clear HB; have HO173 := n0_; have HB := n1_; clear n0_ n1_; (try clear hb); (try clear hb2); (try clear hk); (try clear hi)))
                            go_ret
                            exact ⟨by first | rfl | (simp [errW_none, errW_some] <;> rfl) | (simp only [← hji11]; first | rfl | (simp [errW_none, errW_some] <;> rfl)) | (simp [*, errW_none, errW_some] <;> rfl), by repeat (first | (with_reducible first | exact HB.out | apply below_alloc | apply pw_below_drewN | apply below_drew1) | exact HB.out)⟩
                        · rw [if_neg c76] at H
                          have c76b0 : (t179.toList == t175.toList) = false := beq_eq_false_iff_ne.mpr c76
                          have c76b1 : (t179.toList != t175.toList) = true := bne_iff_ne.mpr c76
                          obtain rfl := Option.some.inj H
                          go_wp2_with (first | ((with_reducible refine gate_callee (f := 7) rfl ?_); refine goesL_ (some 25) rfl rfl Tryd.func7 (by kernel_rfl) rfl #[] rfl (by (try simp only [List.map_toArray, List.map_cons, List.map_nil]); first | done | rfl | (simp only [List.length_drop, List.length_take]; rfl)) ?_; (with_reducible refine (brooklaw3_Types.calls  t171 _ A9.out).mono ?_); rintro e w97 ⟨v172, rfl, ho0, hb⟩; refine ⟨_, rfl, ?_⟩; have n0_ := Aside0.mk (Kd.R_lower ho0 (below_size (by repeat (first | (with_reducible first | exact HB.out | apply below_alloc | apply pw_below_drewN | apply below_drew1) | exact HB.out)))); have n1_ := Aside0.mk (below_step (by repeat (first | (with_reducible first | exact HB.out | apply below_alloc | apply pw_below_drewN | apply below_drew1) | exact HB.out)) hb); clear HB; have HO173 := n0_; have HB := n1_; clear n0_ n1_; (try clear hb); (try clear hb2); (try clear hk); (try clear hi); (try clear ho0); obtain ⟨Ao98, co98, eo98⟩ := Kd.R_slice HO173.out; subst eo98; have p174 : 0 ≤ ((ji11) : Int) := of_decide_eq_true (by first | (with_reducible assumption) | assumption); have q174 : (ji11) < (t171.length : Int) := of_decide_eq_true (by first | (with_reducible assumption) | assumption); obtain ⟨ad174, e174, hx174_0⟩ := Kd.at_string (Kd.R_reads' HO173.out).2.2 (ji11) p174 q174; cases e174; replace p174 := eq_true p174; replace q174 := eq_true q174) | ((with_reducible refine gate_callee (f := 8) rfl ?_); refine goesL_ (some 37) rfl rfl Tryd.func8 (by kernel_rfl) rfl #[.string (rdOf ByteArray.empty t171 (ji11)), .string a1] rfl (by (try simp only [List.map_toArray, List.map_cons, List.map_nil]); first | done | (simp only [hji11]; rfl) | rfl | (simp only [List.length_drop, List.length_take]; rfl)) ?_; (with_reducible refine (match_Norm.calls kj3 (rdOf ByteArray.empty t171 (ji11)) a1 t175 true _ ?side1 A14.out).mono ?_); (case side1 => first | exact HG.out | exact Gl.drewN HG.out _ | exact Gl.below HG.out (by repeat (first | (with_reducible first | exact HB.out | apply below_alloc | apply pw_below_drewN | apply below_drew1) | exact HB.out))); rintro e w99 ⟨rfl, hb⟩; refine ⟨_, rfl, ?_⟩; have n0_ := Aside0.mk (Kd.R_below (by (with_reducible repeat (first | apply Kd.R_alloc | apply Kd.R_drewN | apply Kd.R_drew)); exact HO173.out) hb); have n1_ := Aside0.mk (below_step (by repeat (first | (with_reducible first | exact HB.out | apply below_alloc | apply pw_below_drewN | apply below_drew1) | exact HB.out)) hb); clear HO173; clear HB; have HO173 := n0_; have HB := n1_; clear n0_ n1_; (try clear hb); (try clear hb2); (try clear hk); (try clear hi)) | ((with_reducible refine gate_callee (f := 8) rfl ?_); refine goesL_ (some 43) rfl rfl Tryd.func8 (by kernel_rfl) rfl #[.string (rdOf ByteArray.empty t171 (ji11)), .string a2] rfl (by (try simp only [List.map_toArray, List.map_cons, List.map_nil]); first | done | (simp only [hji11]; rfl) | rfl | (simp only [List.length_drop, List.length_take]; rfl)) ?_; (with_reducible refine (match_Norm.calls kj3 (rdOf ByteArray.empty t171 (ji11)) a2 t177 false _ ?side1 A15.out).mono ?_); (case side1 => first | exact HG.out | exact Gl.drewN HG.out _ | exact Gl.below HG.out (by repeat (first | (with_reducible first | exact HB.out | apply below_alloc | apply pw_below_drewN | apply below_drew1) | exact HB.out))); rintro e w100 ⟨rfl, hb⟩; refine ⟨_, rfl, ?_⟩; have n0_ := Aside0.mk (Kd.R_below (by (with_reducible repeat (first | apply Kd.R_alloc | apply Kd.R_drewN | apply Kd.R_drew)); exact HO173.out) hb); have n1_ := Aside0.mk (below_step (by repeat (first | (with_reducible first | exact HB.out | apply below_alloc | apply pw_below_drewN | apply below_drew1) | exact HB.out)) hb); clear HO173; clear HB; have HO173 := n0_; have HB := n1_; clear n0_ n1_; (try clear hb); (try clear hb2); (try clear hk); (try clear hi)) | ((with_reducible refine gate_callee (f := 8) rfl ?_); refine goesL_ (some 49) rfl rfl Tryd.func8 (by kernel_rfl) rfl #[.string (rdOf ByteArray.empty t171 (ji11)), .string t175] rfl (by (try simp only [List.map_toArray, List.map_cons, List.map_nil]); first | done | (simp only [hji11]; rfl) | rfl | (simp only [List.length_drop, List.length_take]; rfl)) ?_; (with_reducible refine (match_Norm.calls kj3 (rdOf ByteArray.empty t171 (ji11)) t175 t179 true _ ?side1 A16.out).mono ?_); (case side1 => first | exact HG.out | exact Gl.drewN HG.out _ | exact Gl.below HG.out (by repeat (first | (with_reducible first | exact HB.out | apply below_alloc | apply pw_below_drewN | apply below_drew1) | exact HB.out))); rintro e w101 ⟨rfl, hb⟩; refine ⟨_, rfl, ?_⟩; have n0_ := Aside0.mk (Kd.R_below (by (with_reducible repeat (first | apply Kd.R_alloc | apply Kd.R_drewN | apply Kd.R_drew)); exact HO173.out) hb); have n1_ := Aside0.mk (below_step (by repeat (first | (with_reducible first | exact HB.out | apply below_alloc | apply pw_below_drewN | apply below_drew1) | exact HB.out)) hb); clear HO173; clear HB; have HO173 := n0_; have HB := n1_; clear n0_ n1_; (try clear hb); (try clear hb2); (try clear hk); (try clear hi)) | ((with_reducible refine gate_callee (f := 9) rfl ?_); refine goesL_ (some 55) rfl rfl Tryd.func9 (by kernel_rfl) rfl #[.string (rdOf ByteArray.empty t171 (ji11)), .string a1, .string a2] rfl (by (try simp only [List.map_toArray, List.map_cons, List.map_nil]); first | done | (simp only [hji11]; rfl) | rfl | (simp only [List.length_drop, List.length_take]; rfl)) ?_; (with_reducible refine (match_Same.calls kj3 (rdOf ByteArray.empty t171 (ji11)) a1 a2 t181 _ ?side1 A17.out).mono ?_); (case side1 => first | exact HG.out | exact Gl.drewN HG.out _ | exact Gl.below HG.out (by repeat (first | (with_reducible first | exact HB.out | apply below_alloc | apply pw_below_drewN | apply below_drew1) | exact HB.out))); rintro e w102 ⟨rfl, hb⟩; refine ⟨_, rfl, ?_⟩; have n0_ := Aside0.mk (Kd.R_below (by (with_reducible repeat (first | apply Kd.R_alloc | apply Kd.R_drewN | apply Kd.R_drew)); exact HO173.out) hb); have n1_ := Aside0.mk (below_step (by repeat (first | (with_reducible first | exact HB.out | apply below_alloc | apply pw_below_drewN | apply below_drew1) | exact HB.out)) hb); clear HO173; clear HB; have HO173 := n0_; have HB := n1_; clear n0_ n1_; (try clear hb); (try clear hb2); (try clear hk); (try clear hi)) | (go_at_call 9; (with_reducible refine (match_Same.calls kj3 (rdOf ByteArray.empty t171 (ji11)) a2 a1 t185 _ ?side1 A73.out).mono ?_); (case side1 => first | exact HG.out | exact Gl.drewN HG.out _ | exact Gl.below HG.out (by repeat (first | (with_reducible first | exact HB.out | apply below_alloc | apply pw_below_drewN | apply below_drew1) | exact HB.out))); rintro e w103 ⟨rfl, hb⟩; have n0_ := Aside0.mk (Kd.R_below (by (with_reducible repeat (first | apply Kd.R_alloc | apply Kd.R_drewN | apply Kd.R_drew)); exact HO173.out) hb); have n1_ := Aside0.mk (below_step (by repeat (first | (with_reducible first | exact HB.out | apply below_alloc | apply pw_below_drewN | apply below_drew1) | exact HB.out)) hb); clear HO173; clear HB; have HO173 := n0_; have HB := n1_; clear n0_ n1_; (try clear hb); (try clear hb2); (try clear hk); (try clear hi)))
                          go_ret
                          exact ⟨by first | rfl | (simp [errW_none, errW_some] <;> rfl) | (simp only [← hji11]; first | rfl | (simp [errW_none, errW_some] <;> rfl)) | (simp [*, errW_none, errW_some] <;> rfl), by repeat (first | (with_reducible first | exact HB.out | apply below_alloc | apply pw_below_drewN | apply below_drew1) | exact HB.out)⟩
                      · replace c75 := Bool.eq_false_iff.mpr c75
                        subst c75
                        have H1 : (some false) = some r := by rw [if_neg (show ¬ (false = true) by decide)] at H; exact H
                        clear H
                        have H := H1
                        clear H1
                        obtain rfl := Option.some.inj H
                        go_wp2_with (first | ((with_reducible refine gate_callee (f := 7) rfl ?_); refine goesL_ (some 25) rfl rfl Tryd.func7 (by kernel_rfl) rfl #[] rfl (by (try simp only [List.map_toArray, List.map_cons, List.map_nil]); first | done | rfl | (simp only [List.length_drop, List.length_take]; rfl)) ?_; (with_reducible refine (brooklaw3_Types.calls  t171 _ A9.out).mono ?_); rintro e w104 ⟨v172, rfl, ho0, hb⟩; refine ⟨_, rfl, ?_⟩; have n0_ := Aside0.mk (Kd.R_lower ho0 (below_size (by repeat (first | (with_reducible first | exact HB.out | apply below_alloc | apply pw_below_drewN | apply below_drew1) | exact HB.out)))); have n1_ := Aside0.mk (below_step (by repeat (first | (with_reducible first | exact HB.out | apply below_alloc | apply pw_below_drewN | apply below_drew1) | exact HB.out)) hb); clear HB; have HO173 := n0_; have HB := n1_; clear n0_ n1_; (try clear hb); (try clear hb2); (try clear hk); (try clear hi); (try clear ho0); obtain ⟨Ao105, co105, eo105⟩ := Kd.R_slice HO173.out; subst eo105; have p174 : 0 ≤ ((ji11) : Int) := of_decide_eq_true (by first | (with_reducible assumption) | assumption); have q174 : (ji11) < (t171.length : Int) := of_decide_eq_true (by first | (with_reducible assumption) | assumption); obtain ⟨ad174, e174, hx174_0⟩ := Kd.at_string (Kd.R_reads' HO173.out).2.2 (ji11) p174 q174; cases e174; replace p174 := eq_true p174; replace q174 := eq_true q174) | ((with_reducible refine gate_callee (f := 8) rfl ?_); refine goesL_ (some 37) rfl rfl Tryd.func8 (by kernel_rfl) rfl #[.string (rdOf ByteArray.empty t171 (ji11)), .string a1] rfl (by (try simp only [List.map_toArray, List.map_cons, List.map_nil]); first | done | (simp only [hji11]; rfl) | rfl | (simp only [List.length_drop, List.length_take]; rfl)) ?_; (with_reducible refine (match_Norm.calls kj3 (rdOf ByteArray.empty t171 (ji11)) a1 t175 true _ ?side1 A14.out).mono ?_); (case side1 => first | exact HG.out | exact Gl.drewN HG.out _ | exact Gl.below HG.out (by repeat (first | (with_reducible first | exact HB.out | apply below_alloc | apply pw_below_drewN | apply below_drew1) | exact HB.out))); rintro e w106 ⟨rfl, hb⟩; refine ⟨_, rfl, ?_⟩; have n0_ := Aside0.mk (Kd.R_below (by (with_reducible repeat (first | apply Kd.R_alloc | apply Kd.R_drewN | apply Kd.R_drew)); exact HO173.out) hb); have n1_ := Aside0.mk (below_step (by repeat (first | (with_reducible first | exact HB.out | apply below_alloc | apply pw_below_drewN | apply below_drew1) | exact HB.out)) hb); clear HO173; clear HB; have HO173 := n0_; have HB := n1_; clear n0_ n1_; (try clear hb); (try clear hb2); (try clear hk); (try clear hi)) | ((with_reducible refine gate_callee (f := 8) rfl ?_); refine goesL_ (some 43) rfl rfl Tryd.func8 (by kernel_rfl) rfl #[.string (rdOf ByteArray.empty t171 (ji11)), .string a2] rfl (by (try simp only [List.map_toArray, List.map_cons, List.map_nil]); first | done | (simp only [hji11]; rfl) | rfl | (simp only [List.length_drop, List.length_take]; rfl)) ?_; (with_reducible refine (match_Norm.calls kj3 (rdOf ByteArray.empty t171 (ji11)) a2 t177 false _ ?side1 A15.out).mono ?_); (case side1 => first | exact HG.out | exact Gl.drewN HG.out _ | exact Gl.below HG.out (by repeat (first | (with_reducible first | exact HB.out | apply below_alloc | apply pw_below_drewN | apply below_drew1) | exact HB.out))); rintro e w107 ⟨rfl, hb⟩; refine ⟨_, rfl, ?_⟩; have n0_ := Aside0.mk (Kd.R_below (by (with_reducible repeat (first | apply Kd.R_alloc | apply Kd.R_drewN | apply Kd.R_drew)); exact HO173.out) hb); have n1_ := Aside0.mk (below_step (by repeat (first | (with_reducible first | exact HB.out | apply below_alloc | apply pw_below_drewN | apply below_drew1) | exact HB.out)) hb); clear HO173; clear HB; have HO173 := n0_; have HB := n1_; clear n0_ n1_; (try clear hb); (try clear hb2); (try clear hk); (try clear hi)) | ((with_reducible refine gate_callee (f := 8) rfl ?_); refine goesL_ (some 49) rfl rfl Tryd.func8 (by kernel_rfl) rfl #[.string (rdOf ByteArray.empty t171 (ji11)), .string t175] rfl (by (try simp only [List.map_toArray, List.map_cons, List.map_nil]); first | done | (simp only [hji11]; rfl) | rfl | (simp only [List.length_drop, List.length_take]; rfl)) ?_; (with_reducible refine (match_Norm.calls kj3 (rdOf ByteArray.empty t171 (ji11)) t175 t179 false _ ?side1 A16.out).mono ?_); (case side1 => first | exact HG.out | exact Gl.drewN HG.out _ | exact Gl.below HG.out (by repeat (first | (with_reducible first | exact HB.out | apply below_alloc | apply pw_below_drewN | apply below_drew1) | exact HB.out))); rintro e w108 ⟨rfl, hb⟩; refine ⟨_, rfl, ?_⟩; have n0_ := Aside0.mk (Kd.R_below (by (with_reducible repeat (first | apply Kd.R_alloc | apply Kd.R_drewN | apply Kd.R_drew)); exact HO173.out) hb); have n1_ := Aside0.mk (below_step (by repeat (first | (with_reducible first | exact HB.out | apply below_alloc | apply pw_below_drewN | apply below_drew1) | exact HB.out)) hb); clear HO173; clear HB; have HO173 := n0_; have HB := n1_; clear n0_ n1_; (try clear hb); (try clear hb2); (try clear hk); (try clear hi)) | ((with_reducible refine gate_callee (f := 9) rfl ?_); refine goesL_ (some 55) rfl rfl Tryd.func9 (by kernel_rfl) rfl #[.string (rdOf ByteArray.empty t171 (ji11)), .string a1, .string a2] rfl (by (try simp only [List.map_toArray, List.map_cons, List.map_nil]); first | done | (simp only [hji11]; rfl) | rfl | (simp only [List.length_drop, List.length_take]; rfl)) ?_; (with_reducible refine (match_Same.calls kj3 (rdOf ByteArray.empty t171 (ji11)) a1 a2 t181 _ ?side1 A17.out).mono ?_); (case side1 => first | exact HG.out | exact Gl.drewN HG.out _ | exact Gl.below HG.out (by repeat (first | (with_reducible first | exact HB.out | apply below_alloc | apply pw_below_drewN | apply below_drew1) | exact HB.out))); rintro e w109 ⟨rfl, hb⟩; refine ⟨_, rfl, ?_⟩; have n0_ := Aside0.mk (Kd.R_below (by (with_reducible repeat (first | apply Kd.R_alloc | apply Kd.R_drewN | apply Kd.R_drew)); exact HO173.out) hb); have n1_ := Aside0.mk (below_step (by repeat (first | (with_reducible first | exact HB.out | apply below_alloc | apply pw_below_drewN | apply below_drew1) | exact HB.out)) hb); clear HO173; clear HB; have HO173 := n0_; have HB := n1_; clear n0_ n1_; (try clear hb); (try clear hb2); (try clear hk); (try clear hi)) | (go_at_call 9; (with_reducible refine (match_Same.calls kj3 (rdOf ByteArray.empty t171 (ji11)) a2 a1 t185 _ ?side1 A73.out).mono ?_); (case side1 => first | exact HG.out | exact Gl.drewN HG.out _ | exact Gl.below HG.out (by repeat (first | (with_reducible first | exact HB.out | apply below_alloc | apply pw_below_drewN | apply below_drew1) | exact HB.out))); rintro e w110 ⟨rfl, hb⟩; have n0_ := Aside0.mk (Kd.R_below (by (with_reducible repeat (first | apply Kd.R_alloc | apply Kd.R_drewN | apply Kd.R_drew)); exact HO173.out) hb); have n1_ := Aside0.mk (below_step (by repeat (first | (with_reducible first | exact HB.out | apply below_alloc | apply pw_below_drewN | apply below_drew1) | exact HB.out)) hb); clear HO173; clear HB; have HO173 := n0_; have HB := n1_; clear n0_ n1_; (try clear hb); (try clear hb2); (try clear hk); (try clear hi)))
                        go_ret
                        exact ⟨by first | rfl | (simp [errW_none, errW_some] <;> rfl) | (simp only [← hji11]; first | rfl | (simp [errW_none, errW_some] <;> rfl)) | (simp [*, errW_none, errW_some] <;> rfl), by repeat (first | (with_reducible first | exact HB.out | apply below_alloc | apply pw_below_drewN | apply below_drew1) | exact HB.out)⟩
                    · rw [if_neg c74] at H
                      have c74b0 : (t181 == t185) = false := by simpa using c74
                      (try (have c74b1 : decide (t181 = t185) = false := by simpa using c74))
                      (try (have c74b2 : (t181 == t185) = false := by simpa using c74))
                      (try (have c74b3 : ¬ (t181 = t185) := by simpa using c74))
                      clear c74
                      obtain rfl := Option.some.inj H
                      go_wp2_with (first | ((with_reducible refine gate_callee (f := 7) rfl ?_); refine goesL_ (some 25) rfl rfl Tryd.func7 (by kernel_rfl) rfl #[] rfl (by (try simp only [List.map_toArray, List.map_cons, List.map_nil]); first | done | rfl | (simp only [List.length_drop, List.length_take]; rfl)) ?_; (with_reducible refine (brooklaw3_Types.calls  t171 _ A9.out).mono ?_); rintro e w111 ⟨v172, rfl, ho0, hb⟩; refine ⟨_, rfl, ?_⟩; have n0_ := Aside0.mk (Kd.R_lower ho0 (below_size (by repeat (first | (with_reducible first | exact HB.out | apply below_alloc | apply pw_below_drewN | apply below_drew1) | exact HB.out)))); have n1_ := Aside0.mk (below_step (by repeat (first | (with_reducible first | exact HB.out | apply below_alloc | apply pw_below_drewN | apply below_drew1) | exact HB.out)) hb); clear HB; have HO173 := n0_; have HB := n1_; clear n0_ n1_; (try clear hb); (try clear hb2); (try clear hk); (try clear hi); (try clear ho0); obtain ⟨Ao112, co112, eo112⟩ := Kd.R_slice HO173.out; subst eo112; have p174 : 0 ≤ ((ji11) : Int) := of_decide_eq_true (by first | (with_reducible assumption) | assumption); have q174 : (ji11) < (t171.length : Int) := of_decide_eq_true (by first | (with_reducible assumption) | assumption); obtain ⟨ad174, e174, hx174_0⟩ := Kd.at_string (Kd.R_reads' HO173.out).2.2 (ji11) p174 q174; cases e174; replace p174 := eq_true p174; replace q174 := eq_true q174) | ((with_reducible refine gate_callee (f := 8) rfl ?_); refine goesL_ (some 37) rfl rfl Tryd.func8 (by kernel_rfl) rfl #[.string (rdOf ByteArray.empty t171 (ji11)), .string a1] rfl (by (try simp only [List.map_toArray, List.map_cons, List.map_nil]); first | done | (simp only [hji11]; rfl) | rfl | (simp only [List.length_drop, List.length_take]; rfl)) ?_; (with_reducible refine (match_Norm.calls kj3 (rdOf ByteArray.empty t171 (ji11)) a1 t175 true _ ?side1 A14.out).mono ?_); (case side1 => first | exact HG.out | exact Gl.drewN HG.out _ | exact Gl.below HG.out (by repeat (first | (with_reducible first | exact HB.out | apply below_alloc | apply pw_below_drewN | apply below_drew1) | exact HB.out))); rintro e w113 ⟨rfl, hb⟩; refine ⟨_, rfl, ?_⟩; have n0_ := Aside0.mk (Kd.R_below (by (with_reducible repeat (first | apply Kd.R_alloc | apply Kd.R_drewN | apply Kd.R_drew)); exact HO173.out) hb); have n1_ := Aside0.mk (below_step (by repeat (first | (with_reducible first | exact HB.out | apply below_alloc | apply pw_below_drewN | apply below_drew1) | exact HB.out)) hb); clear HO173; clear HB; have HO173 := n0_; have HB := n1_; clear n0_ n1_; (try clear hb); (try clear hb2); (try clear hk); (try clear hi)) | ((with_reducible refine gate_callee (f := 8) rfl ?_); refine goesL_ (some 43) rfl rfl Tryd.func8 (by kernel_rfl) rfl #[.string (rdOf ByteArray.empty t171 (ji11)), .string a2] rfl (by (try simp only [List.map_toArray, List.map_cons, List.map_nil]); first | done | (simp only [hji11]; rfl) | rfl | (simp only [List.length_drop, List.length_take]; rfl)) ?_; (with_reducible refine (match_Norm.calls kj3 (rdOf ByteArray.empty t171 (ji11)) a2 t177 false _ ?side1 A15.out).mono ?_); (case side1 => first | exact HG.out | exact Gl.drewN HG.out _ | exact Gl.below HG.out (by repeat (first | (with_reducible first | exact HB.out | apply below_alloc | apply pw_below_drewN | apply below_drew1) | exact HB.out))); rintro e w114 ⟨rfl, hb⟩; refine ⟨_, rfl, ?_⟩; have n0_ := Aside0.mk (Kd.R_below (by (with_reducible repeat (first | apply Kd.R_alloc | apply Kd.R_drewN | apply Kd.R_drew)); exact HO173.out) hb); have n1_ := Aside0.mk (below_step (by repeat (first | (with_reducible first | exact HB.out | apply below_alloc | apply pw_below_drewN | apply below_drew1) | exact HB.out)) hb); clear HO173; clear HB; have HO173 := n0_; have HB := n1_; clear n0_ n1_; (try clear hb); (try clear hb2); (try clear hk); (try clear hi)) | ((with_reducible refine gate_callee (f := 8) rfl ?_); refine goesL_ (some 49) rfl rfl Tryd.func8 (by kernel_rfl) rfl #[.string (rdOf ByteArray.empty t171 (ji11)), .string t175] rfl (by (try simp only [List.map_toArray, List.map_cons, List.map_nil]); first | done | (simp only [hji11]; rfl) | rfl | (simp only [List.length_drop, List.length_take]; rfl)) ?_; (with_reducible refine (match_Norm.calls kj3 (rdOf ByteArray.empty t171 (ji11)) t175 t179 t180 _ ?side1 A16.out).mono ?_); (case side1 => first | exact HG.out | exact Gl.drewN HG.out _ | exact Gl.below HG.out (by repeat (first | (with_reducible first | exact HB.out | apply below_alloc | apply pw_below_drewN | apply below_drew1) | exact HB.out))); rintro e w115 ⟨rfl, hb⟩; refine ⟨_, rfl, ?_⟩; have n0_ := Aside0.mk (Kd.R_below (by (with_reducible repeat (first | apply Kd.R_alloc | apply Kd.R_drewN | apply Kd.R_drew)); exact HO173.out) hb); have n1_ := Aside0.mk (below_step (by repeat (first | (with_reducible first | exact HB.out | apply below_alloc | apply pw_below_drewN | apply below_drew1) | exact HB.out)) hb); clear HO173; clear HB; have HO173 := n0_; have HB := n1_; clear n0_ n1_; (try clear hb); (try clear hb2); (try clear hk); (try clear hi)) | ((with_reducible refine gate_callee (f := 9) rfl ?_); refine goesL_ (some 55) rfl rfl Tryd.func9 (by kernel_rfl) rfl #[.string (rdOf ByteArray.empty t171 (ji11)), .string a1, .string a2] rfl (by (try simp only [List.map_toArray, List.map_cons, List.map_nil]); first | done | (simp only [hji11]; rfl) | rfl | (simp only [List.length_drop, List.length_take]; rfl)) ?_; (with_reducible refine (match_Same.calls kj3 (rdOf ByteArray.empty t171 (ji11)) a1 a2 t181 _ ?side1 A17.out).mono ?_); (case side1 => first | exact HG.out | exact Gl.drewN HG.out _ | exact Gl.below HG.out (by repeat (first | (with_reducible first | exact HB.out | apply below_alloc | apply pw_below_drewN | apply below_drew1) | exact HB.out))); rintro e w116 ⟨rfl, hb⟩; refine ⟨_, rfl, ?_⟩; have n0_ := Aside0.mk (Kd.R_below (by (with_reducible repeat (first | apply Kd.R_alloc | apply Kd.R_drewN | apply Kd.R_drew)); exact HO173.out) hb); have n1_ := Aside0.mk (below_step (by repeat (first | (with_reducible first | exact HB.out | apply below_alloc | apply pw_below_drewN | apply below_drew1) | exact HB.out)) hb); clear HO173; clear HB; have HO173 := n0_; have HB := n1_; clear n0_ n1_; (try clear hb); (try clear hb2); (try clear hk); (try clear hi)) | (go_at_call 9; (with_reducible refine (match_Same.calls kj3 (rdOf ByteArray.empty t171 (ji11)) a2 a1 t185 _ ?side1 A73.out).mono ?_); (case side1 => first | exact HG.out | exact Gl.drewN HG.out _ | exact Gl.below HG.out (by repeat (first | (with_reducible first | exact HB.out | apply below_alloc | apply pw_below_drewN | apply below_drew1) | exact HB.out))); rintro e w117 ⟨rfl, hb⟩; have n0_ := Aside0.mk (Kd.R_below (by (with_reducible repeat (first | apply Kd.R_alloc | apply Kd.R_drewN | apply Kd.R_drew)); exact HO173.out) hb); have n1_ := Aside0.mk (below_step (by repeat (first | (with_reducible first | exact HB.out | apply below_alloc | apply pw_below_drewN | apply below_drew1) | exact HB.out)) hb); clear HO173; clear HB; have HO173 := n0_; have HB := n1_; clear n0_ n1_; (try clear hb); (try clear hb2); (try clear hk); (try clear hi)))
                      go_ret
                      exact ⟨by first | rfl | (simp [errW_none, errW_some] <;> rfl) | (simp only [← hji11]; first | rfl | (simp [errW_none, errW_some] <;> rfl)) | (simp [*, errW_none, errW_some] <;> rfl), by repeat (first | (with_reducible first | exact HB.out | apply below_alloc | apply pw_below_drewN | apply below_drew1) | exact HB.out)⟩
                  · rw [if_neg c72] at H
                    have c72b0 : (t181 == false) = false := by simpa using c72
                    (try (have c72b1 : decide (t181 = false) = false := by simpa using c72))
                    (try (have c72b2 : (t181 == false) = false := by simpa using c72))
                    (try (have c72b3 : ¬ (t181 = false) := by simpa using c72))
                    clear c72
                    obtain rfl := Option.some.inj H
                    go_wp2_with (first | ((with_reducible refine gate_callee (f := 7) rfl ?_); refine goesL_ (some 25) rfl rfl Tryd.func7 (by kernel_rfl) rfl #[] rfl (by (try simp only [List.map_toArray, List.map_cons, List.map_nil]); first | done | rfl | (simp only [List.length_drop, List.length_take]; rfl)) ?_; (with_reducible refine (brooklaw3_Types.calls  t171 _ A9.out).mono ?_); rintro e w118 ⟨v172, rfl, ho0, hb⟩; refine ⟨_, rfl, ?_⟩; have n0_ := Aside0.mk (Kd.R_lower ho0 (below_size (by repeat (first | (with_reducible first | exact HB.out | apply below_alloc | apply pw_below_drewN | apply below_drew1) | exact HB.out)))); have n1_ := Aside0.mk (below_step (by repeat (first | (with_reducible first | exact HB.out | apply below_alloc | apply pw_below_drewN | apply below_drew1) | exact HB.out)) hb); clear HB; have HO173 := n0_; have HB := n1_; clear n0_ n1_; (try clear hb); (try clear hb2); (try clear hk); (try clear hi); (try clear ho0); obtain ⟨Ao119, co119, eo119⟩ := Kd.R_slice HO173.out; subst eo119; have p174 : 0 ≤ ((ji11) : Int) := of_decide_eq_true (by first | (with_reducible assumption) | assumption); have q174 : (ji11) < (t171.length : Int) := of_decide_eq_true (by first | (with_reducible assumption) | assumption); obtain ⟨ad174, e174, hx174_0⟩ := Kd.at_string (Kd.R_reads' HO173.out).2.2 (ji11) p174 q174; cases e174; replace p174 := eq_true p174; replace q174 := eq_true q174) | ((with_reducible refine gate_callee (f := 8) rfl ?_); refine goesL_ (some 37) rfl rfl Tryd.func8 (by kernel_rfl) rfl #[.string (rdOf ByteArray.empty t171 (ji11)), .string a1] rfl (by (try simp only [List.map_toArray, List.map_cons, List.map_nil]); first | done | (simp only [hji11]; rfl) | rfl | (simp only [List.length_drop, List.length_take]; rfl)) ?_; (with_reducible refine (match_Norm.calls kj3 (rdOf ByteArray.empty t171 (ji11)) a1 t175 true _ ?side1 A14.out).mono ?_); (case side1 => first | exact HG.out | exact Gl.drewN HG.out _ | exact Gl.below HG.out (by repeat (first | (with_reducible first | exact HB.out | apply below_alloc | apply pw_below_drewN | apply below_drew1) | exact HB.out))); rintro e w120 ⟨rfl, hb⟩; refine ⟨_, rfl, ?_⟩; have n0_ := Aside0.mk (Kd.R_below (by (with_reducible repeat (first | apply Kd.R_alloc | apply Kd.R_drewN | apply Kd.R_drew)); exact HO173.out) hb); have n1_ := Aside0.mk (below_step (by repeat (first | (with_reducible first | exact HB.out | apply below_alloc | apply pw_below_drewN | apply below_drew1) | exact HB.out)) hb); clear HO173; clear HB; have HO173 := n0_; have HB := n1_; clear n0_ n1_; (try clear hb); (try clear hb2); (try clear hk); (try clear hi)) | ((with_reducible refine gate_callee (f := 8) rfl ?_); refine goesL_ (some 43) rfl rfl Tryd.func8 (by kernel_rfl) rfl #[.string (rdOf ByteArray.empty t171 (ji11)), .string a2] rfl (by (try simp only [List.map_toArray, List.map_cons, List.map_nil]); first | done | (simp only [hji11]; rfl) | rfl | (simp only [List.length_drop, List.length_take]; rfl)) ?_; (with_reducible refine (match_Norm.calls kj3 (rdOf ByteArray.empty t171 (ji11)) a2 t177 false _ ?side1 A15.out).mono ?_); (case side1 => first | exact HG.out | exact Gl.drewN HG.out _ | exact Gl.below HG.out (by repeat (first | (with_reducible first | exact HB.out | apply below_alloc | apply pw_below_drewN | apply below_drew1) | exact HB.out))); rintro e w121 ⟨rfl, hb⟩; refine ⟨_, rfl, ?_⟩; have n0_ := Aside0.mk (Kd.R_below (by (with_reducible repeat (first | apply Kd.R_alloc | apply Kd.R_drewN | apply Kd.R_drew)); exact HO173.out) hb); have n1_ := Aside0.mk (below_step (by repeat (first | (with_reducible first | exact HB.out | apply below_alloc | apply pw_below_drewN | apply below_drew1) | exact HB.out)) hb); clear HO173; clear HB; have HO173 := n0_; have HB := n1_; clear n0_ n1_; (try clear hb); (try clear hb2); (try clear hk); (try clear hi)) | ((with_reducible refine gate_callee (f := 8) rfl ?_); refine goesL_ (some 49) rfl rfl Tryd.func8 (by kernel_rfl) rfl #[.string (rdOf ByteArray.empty t171 (ji11)), .string t175] rfl (by (try simp only [List.map_toArray, List.map_cons, List.map_nil]); first | done | (simp only [hji11]; rfl) | rfl | (simp only [List.length_drop, List.length_take]; rfl)) ?_; (with_reducible refine (match_Norm.calls kj3 (rdOf ByteArray.empty t171 (ji11)) t175 t179 t180 _ ?side1 A16.out).mono ?_); (case side1 => first | exact HG.out | exact Gl.drewN HG.out _ | exact Gl.below HG.out (by repeat (first | (with_reducible first | exact HB.out | apply below_alloc | apply pw_below_drewN | apply below_drew1) | exact HB.out))); rintro e w122 ⟨rfl, hb⟩; refine ⟨_, rfl, ?_⟩; have n0_ := Aside0.mk (Kd.R_below (by (with_reducible repeat (first | apply Kd.R_alloc | apply Kd.R_drewN | apply Kd.R_drew)); exact HO173.out) hb); have n1_ := Aside0.mk (below_step (by repeat (first | (with_reducible first | exact HB.out | apply below_alloc | apply pw_below_drewN | apply below_drew1) | exact HB.out)) hb); clear HO173; clear HB; have HO173 := n0_; have HB := n1_; clear n0_ n1_; (try clear hb); (try clear hb2); (try clear hk); (try clear hi)) | ((with_reducible refine gate_callee (f := 9) rfl ?_); refine goesL_ (some 55) rfl rfl Tryd.func9 (by kernel_rfl) rfl #[.string (rdOf ByteArray.empty t171 (ji11)), .string a1, .string a2] rfl (by (try simp only [List.map_toArray, List.map_cons, List.map_nil]); first | done | (simp only [hji11]; rfl) | rfl | (simp only [List.length_drop, List.length_take]; rfl)) ?_; (with_reducible refine (match_Same.calls kj3 (rdOf ByteArray.empty t171 (ji11)) a1 a2 t181 _ ?side1 A17.out).mono ?_); (case side1 => first | exact HG.out | exact Gl.drewN HG.out _ | exact Gl.below HG.out (by repeat (first | (with_reducible first | exact HB.out | apply below_alloc | apply pw_below_drewN | apply below_drew1) | exact HB.out))); rintro e w123 ⟨rfl, hb⟩; refine ⟨_, rfl, ?_⟩; have n0_ := Aside0.mk (Kd.R_below (by (with_reducible repeat (first | apply Kd.R_alloc | apply Kd.R_drewN | apply Kd.R_drew)); exact HO173.out) hb); have n1_ := Aside0.mk (below_step (by repeat (first | (with_reducible first | exact HB.out | apply below_alloc | apply pw_below_drewN | apply below_drew1) | exact HB.out)) hb); clear HO173; clear HB; have HO173 := n0_; have HB := n1_; clear n0_ n1_; (try clear hb); (try clear hb2); (try clear hk); (try clear hi)))
                    go_ret
                    exact ⟨by first | rfl | (simp [errW_none, errW_some] <;> rfl) | (simp only [← hji11]; first | rfl | (simp [errW_none, errW_some] <;> rfl)) | (simp [*, errW_none, errW_some] <;> rfl), by repeat (first | (with_reducible first | exact HB.out | apply below_alloc | apply pw_below_drewN | apply below_drew1) | exact HB.out)⟩
              · replace c18 := Bool.eq_false_iff.mpr c18
                subst c18
                have H1 : (if (t181 == false) = true then ((match_Same.f kj3 (rdOf ByteArray.empty t171 (ji11)) a2 a1).bind fun t188 => (if (t181 == t188) = true then ((brooklaw3_awake.f kj3).bind fun t189 => (some t189)) else (some false))) else (some false)) = some r := by rw [if_neg (show ¬ (false = true) by decide)] at H; exact H
                clear H
                have H := H1
                clear H1
                by_cases c124 : (t181 == false) = true
                · rw [if_pos c124] at H
                  have c124b0 : (t181 == false) = true := c124
                  (try (have c124b1 : decide (t181 = false) = true := by simpa using c124))
                  (try (have c124b2 : (t181 == false) = true := by simpa using c124))
                  clear c124
                  replace H := Option.bind_eq_some_iff.mp H
                  obtain ⟨t188, A1250, H⟩ := H
                  replace H : (if (t181 == t188) = true then ((brooklaw3_awake.f kj3).bind fun t189 => (some t189)) else (some false)) = some r := H
                  have A125 := Aside0.mk A1250
                  clear A1250
                  by_cases c126 : (t181 == t188) = true
                  · rw [if_pos c126] at H
                    have c126b0 : (t181 == t188) = true := c126
                    (try (have c126b1 : decide (t181 = t188) = true := by simpa using c126))
                    (try (have c126b2 : (t181 == t188) = true := by simpa using c126))
                    clear c126
                    replace H := Option.bind_eq_some_iff.mp H
                    obtain ⟨t189, A1270, H⟩ := H
                    replace H : (some t189) = some r := H
                    have A127 := Aside0.mk A1270
                    clear A1270
                    obtain rfl := Option.some.inj H
                    go_wp2_with (first | ((with_reducible refine gate_callee (f := 7) rfl ?_); refine goesL_ (some 25) rfl rfl Tryd.func7 (by kernel_rfl) rfl #[] rfl (by (try simp only [List.map_toArray, List.map_cons, List.map_nil]); first | done | rfl | (simp only [List.length_drop, List.length_take]; rfl)) ?_; (with_reducible refine (brooklaw3_Types.calls  t171 _ A9.out).mono ?_); rintro e w128 ⟨v172, rfl, ho0, hb⟩; refine ⟨_, rfl, ?_⟩; have n0_ := Aside0.mk (Kd.R_lower ho0 (below_size (by repeat (first | (with_reducible first | exact HB.out | apply below_alloc | apply pw_below_drewN | apply below_drew1) | exact HB.out)))); have n1_ := Aside0.mk (below_step (by repeat (first | (with_reducible first | exact HB.out | apply below_alloc | apply pw_below_drewN | apply below_drew1) | exact HB.out)) hb); clear HB; have HO173 := n0_; have HB := n1_; clear n0_ n1_; (try clear hb); (try clear hb2); (try clear hk); (try clear hi); (try clear ho0); obtain ⟨Ao129, co129, eo129⟩ := Kd.R_slice HO173.out; subst eo129; have p174 : 0 ≤ ((ji11) : Int) := of_decide_eq_true (by first | (with_reducible assumption) | assumption); have q174 : (ji11) < (t171.length : Int) := of_decide_eq_true (by first | (with_reducible assumption) | assumption); obtain ⟨ad174, e174, hx174_0⟩ := Kd.at_string (Kd.R_reads' HO173.out).2.2 (ji11) p174 q174; cases e174; replace p174 := eq_true p174; replace q174 := eq_true q174) | ((with_reducible refine gate_callee (f := 8) rfl ?_); refine goesL_ (some 37) rfl rfl Tryd.func8 (by kernel_rfl) rfl #[.string (rdOf ByteArray.empty t171 (ji11)), .string a1] rfl (by (try simp only [List.map_toArray, List.map_cons, List.map_nil]); first | done | (simp only [hji11]; rfl) | rfl | (simp only [List.length_drop, List.length_take]; rfl)) ?_; (with_reducible refine (match_Norm.calls kj3 (rdOf ByteArray.empty t171 (ji11)) a1 t175 false _ ?side1 A14.out).mono ?_); (case side1 => first | exact HG.out | exact Gl.drewN HG.out _ | exact Gl.below HG.out (by repeat (first | (with_reducible first | exact HB.out | apply below_alloc | apply pw_below_drewN | apply below_drew1) | exact HB.out))); rintro e w130 ⟨rfl, hb⟩; refine ⟨_, rfl, ?_⟩; have n0_ := Aside0.mk (Kd.R_below (by (with_reducible repeat (first | apply Kd.R_alloc | apply Kd.R_drewN | apply Kd.R_drew)); exact HO173.out) hb); have n1_ := Aside0.mk (below_step (by repeat (first | (with_reducible first | exact HB.out | apply below_alloc | apply pw_below_drewN | apply below_drew1) | exact HB.out)) hb); clear HO173; clear HB; have HO173 := n0_; have HB := n1_; clear n0_ n1_; (try clear hb); (try clear hb2); (try clear hk); (try clear hi)) | ((with_reducible refine gate_callee (f := 8) rfl ?_); refine goesL_ (some 43) rfl rfl Tryd.func8 (by kernel_rfl) rfl #[.string (rdOf ByteArray.empty t171 (ji11)), .string a2] rfl (by (try simp only [List.map_toArray, List.map_cons, List.map_nil]); first | done | (simp only [hji11]; rfl) | rfl | (simp only [List.length_drop, List.length_take]; rfl)) ?_; (with_reducible refine (match_Norm.calls kj3 (rdOf ByteArray.empty t171 (ji11)) a2 t177 t178 _ ?side1 A15.out).mono ?_); (case side1 => first | exact HG.out | exact Gl.drewN HG.out _ | exact Gl.below HG.out (by repeat (first | (with_reducible first | exact HB.out | apply below_alloc | apply pw_below_drewN | apply below_drew1) | exact HB.out))); rintro e w131 ⟨rfl, hb⟩; refine ⟨_, rfl, ?_⟩; have n0_ := Aside0.mk (Kd.R_below (by (with_reducible repeat (first | apply Kd.R_alloc | apply Kd.R_drewN | apply Kd.R_drew)); exact HO173.out) hb); have n1_ := Aside0.mk (below_step (by repeat (first | (with_reducible first | exact HB.out | apply below_alloc | apply pw_below_drewN | apply below_drew1) | exact HB.out)) hb); clear HO173; clear HB; have HO173 := n0_; have HB := n1_; clear n0_ n1_; (try clear hb); (try clear hb2); (try clear hk); (try clear hi)) | ((with_reducible refine gate_callee (f := 8) rfl ?_); refine goesL_ (some 49) rfl rfl Tryd.func8 (by kernel_rfl) rfl #[.string (rdOf ByteArray.empty t171 (ji11)), .string t175] rfl (by (try simp only [List.map_toArray, List.map_cons, List.map_nil]); first | done | (simp only [hji11]; rfl) | rfl | (simp only [List.length_drop, List.length_take]; rfl)) ?_; (with_reducible refine (match_Norm.calls kj3 (rdOf ByteArray.empty t171 (ji11)) t175 t179 t180 _ ?side1 A16.out).mono ?_); (case side1 => first | exact HG.out | exact Gl.drewN HG.out _ | exact Gl.below HG.out (by repeat (first | (with_reducible first | exact HB.out | apply below_alloc | apply pw_below_drewN | apply below_drew1) | exact HB.out))); rintro e w132 ⟨rfl, hb⟩; refine ⟨_, rfl, ?_⟩; have n0_ := Aside0.mk (Kd.R_below (by (with_reducible repeat (first | apply Kd.R_alloc | apply Kd.R_drewN | apply Kd.R_drew)); exact HO173.out) hb); have n1_ := Aside0.mk (below_step (by repeat (first | (with_reducible first | exact HB.out | apply below_alloc | apply pw_below_drewN | apply below_drew1) | exact HB.out)) hb); clear HO173; clear HB; have HO173 := n0_; have HB := n1_; clear n0_ n1_; (try clear hb); (try clear hb2); (try clear hk); (try clear hi)) | ((with_reducible refine gate_callee (f := 9) rfl ?_); refine goesL_ (some 55) rfl rfl Tryd.func9 (by kernel_rfl) rfl #[.string (rdOf ByteArray.empty t171 (ji11)), .string a1, .string a2] rfl (by (try simp only [List.map_toArray, List.map_cons, List.map_nil]); first | done | (simp only [hji11]; rfl) | rfl | (simp only [List.length_drop, List.length_take]; rfl)) ?_; (with_reducible refine (match_Same.calls kj3 (rdOf ByteArray.empty t171 (ji11)) a1 a2 t181 _ ?side1 A17.out).mono ?_); (case side1 => first | exact HG.out | exact Gl.drewN HG.out _ | exact Gl.below HG.out (by repeat (first | (with_reducible first | exact HB.out | apply below_alloc | apply pw_below_drewN | apply below_drew1) | exact HB.out))); rintro e w133 ⟨rfl, hb⟩; refine ⟨_, rfl, ?_⟩; have n0_ := Aside0.mk (Kd.R_below (by (with_reducible repeat (first | apply Kd.R_alloc | apply Kd.R_drewN | apply Kd.R_drew)); exact HO173.out) hb); have n1_ := Aside0.mk (below_step (by repeat (first | (with_reducible first | exact HB.out | apply below_alloc | apply pw_below_drewN | apply below_drew1) | exact HB.out)) hb); clear HO173; clear HB; have HO173 := n0_; have HB := n1_; clear n0_ n1_; (try clear hb); (try clear hb2); (try clear hk); (try clear hi)) | (go_at_call 9; (with_reducible refine (match_Same.calls kj3 (rdOf ByteArray.empty t171 (ji11)) a2 a1 t188 _ ?side1 A125.out).mono ?_); (case side1 => first | exact HG.out | exact Gl.drewN HG.out _ | exact Gl.below HG.out (by repeat (first | (with_reducible first | exact HB.out | apply below_alloc | apply pw_below_drewN | apply below_drew1) | exact HB.out))); rintro e w134 ⟨rfl, hb⟩; have n0_ := Aside0.mk (Kd.R_below (by (with_reducible repeat (first | apply Kd.R_alloc | apply Kd.R_drewN | apply Kd.R_drew)); exact HO173.out) hb); have n1_ := Aside0.mk (below_step (by repeat (first | (with_reducible first | exact HB.out | apply below_alloc | apply pw_below_drewN | apply below_drew1) | exact HB.out)) hb); clear HO173; clear HB; have HO173 := n0_; have HB := n1_; clear n0_ n1_; (try clear hb); (try clear hb2); (try clear hk); (try clear hi)) | (go_at_call 6; (with_reducible refine (brooklaw3_awake.calls kj3  t189 _ ?side1 A127.out).mono ?_); (case side1 => first | exact HG.out | exact Gl.drewN HG.out _ | exact Gl.below HG.out (by repeat (first | (with_reducible first | exact HB.out | apply below_alloc | apply pw_below_drewN | apply below_drew1) | exact HB.out))); rintro e w135 ⟨rfl, hb⟩; have n0_ := Aside0.mk (Kd.R_below (by (with_reducible repeat (first | apply Kd.R_alloc | apply Kd.R_drewN | apply Kd.R_drew)); exact HO173.out) hb); have n1_ := Aside0.mk (below_step (by repeat (first | (with_reducible first | exact HB.out | apply below_alloc | apply pw_below_drewN | apply below_drew1) | exact HB.out)) hb); clear HO173; clear HB; have HO173 := n0_; have HB := n1_; clear n0_ n1_; (try clear hb); (try clear hb2); (try clear hk); (try clear hi)))
                    go_ret
                    exact ⟨by first | rfl | (simp [errW_none, errW_some] <;> rfl) | (simp only [← hji11]; first | rfl | (simp [errW_none, errW_some] <;> rfl)) | (simp [*, errW_none, errW_some] <;> rfl), by repeat (first | (with_reducible first | exact HB.out | apply below_alloc | apply pw_below_drewN | apply below_drew1) | exact HB.out)⟩
                  · rw [if_neg c126] at H
                    have c126b0 : (t181 == t188) = false := by simpa using c126
                    (try (have c126b1 : decide (t181 = t188) = false := by simpa using c126))
                    (try (have c126b2 : (t181 == t188) = false := by simpa using c126))
                    (try (have c126b3 : ¬ (t181 = t188) := by simpa using c126))
                    clear c126
                    obtain rfl := Option.some.inj H
                    go_wp2_with (first | ((with_reducible refine gate_callee (f := 7) rfl ?_); refine goesL_ (some 25) rfl rfl Tryd.func7 (by kernel_rfl) rfl #[] rfl (by (try simp only [List.map_toArray, List.map_cons, List.map_nil]); first | done | rfl | (simp only [List.length_drop, List.length_take]; rfl)) ?_; (with_reducible refine (brooklaw3_Types.calls  t171 _ A9.out).mono ?_); rintro e w136 ⟨v172, rfl, ho0, hb⟩; refine ⟨_, rfl, ?_⟩; have n0_ := Aside0.mk (Kd.R_lower ho0 (below_size (by repeat (first | (with_reducible first | exact HB.out | apply below_alloc | apply pw_below_drewN | apply below_drew1) | exact HB.out)))); have n1_ := Aside0.mk (below_step (by repeat (first | (with_reducible first | exact HB.out | apply below_alloc | apply pw_below_drewN | apply below_drew1) | exact HB.out)) hb); clear HB; have HO173 := n0_; have HB := n1_; clear n0_ n1_; (try clear hb); (try clear hb2); (try clear hk); (try clear hi); (try clear ho0); obtain ⟨Ao137, co137, eo137⟩ := Kd.R_slice HO173.out; subst eo137; have p174 : 0 ≤ ((ji11) : Int) := of_decide_eq_true (by first | (with_reducible assumption) | assumption); have q174 : (ji11) < (t171.length : Int) := of_decide_eq_true (by first | (with_reducible assumption) | assumption); obtain ⟨ad174, e174, hx174_0⟩ := Kd.at_string (Kd.R_reads' HO173.out).2.2 (ji11) p174 q174; cases e174; replace p174 := eq_true p174; replace q174 := eq_true q174) | ((with_reducible refine gate_callee (f := 8) rfl ?_); refine goesL_ (some 37) rfl rfl Tryd.func8 (by kernel_rfl) rfl #[.string (rdOf ByteArray.empty t171 (ji11)), .string a1] rfl (by (try simp only [List.map_toArray, List.map_cons, List.map_nil]); first | done | (simp only [hji11]; rfl) | rfl | (simp only [List.length_drop, List.length_take]; rfl)) ?_; (with_reducible refine (match_Norm.calls kj3 (rdOf ByteArray.empty t171 (ji11)) a1 t175 false _ ?side1 A14.out).mono ?_); (case side1 => first | exact HG.out | exact Gl.drewN HG.out _ | exact Gl.below HG.out (by repeat (first | (with_reducible first | exact HB.out | apply below_alloc | apply pw_below_drewN | apply below_drew1) | exact HB.out))); rintro e w138 ⟨rfl, hb⟩; refine ⟨_, rfl, ?_⟩; have n0_ := Aside0.mk (Kd.R_below (by (with_reducible repeat (first | apply Kd.R_alloc | apply Kd.R_drewN | apply Kd.R_drew)); exact HO173.out) hb); have n1_ := Aside0.mk (below_step (by repeat (first | (with_reducible first | exact HB.out | apply below_alloc | apply pw_below_drewN | apply below_drew1) | exact HB.out)) hb); clear HO173; clear HB; have HO173 := n0_; have HB := n1_; clear n0_ n1_; (try clear hb); (try clear hb2); (try clear hk); (try clear hi)) | ((with_reducible refine gate_callee (f := 8) rfl ?_); refine goesL_ (some 43) rfl rfl Tryd.func8 (by kernel_rfl) rfl #[.string (rdOf ByteArray.empty t171 (ji11)), .string a2] rfl (by (try simp only [List.map_toArray, List.map_cons, List.map_nil]); first | done | (simp only [hji11]; rfl) | rfl | (simp only [List.length_drop, List.length_take]; rfl)) ?_; (with_reducible refine (match_Norm.calls kj3 (rdOf ByteArray.empty t171 (ji11)) a2 t177 t178 _ ?side1 A15.out).mono ?_); (case side1 => first | exact HG.out | exact Gl.drewN HG.out _ | exact Gl.below HG.out (by repeat (first | (with_reducible first | exact HB.out | apply below_alloc | apply pw_below_drewN | apply below_drew1) | exact HB.out))); rintro e w139 ⟨rfl, hb⟩; refine ⟨_, rfl, ?_⟩; have n0_ := Aside0.mk (Kd.R_below (by (with_reducible repeat (first | apply Kd.R_alloc | apply Kd.R_drewN | apply Kd.R_drew)); exact HO173.out) hb); have n1_ := Aside0.mk (below_step (by repeat (first | (with_reducible first | exact HB.out | apply below_alloc | apply pw_below_drewN | apply below_drew1) | exact HB.out)) hb); clear HO173; clear HB; have HO173 := n0_; have HB := n1_; clear n0_ n1_; (try clear hb); (try clear hb2); (try clear hk); (try clear hi)) | ((with_reducible refine gate_callee (f := 8) rfl ?_); refine goesL_ (some 49) rfl rfl Tryd.func8 (by kernel_rfl) rfl #[.string (rdOf ByteArray.empty t171 (ji11)), .string t175] rfl (by (try simp only [List.map_toArray, List.map_cons, List.map_nil]); first | done | (simp only [hji11]; rfl) | rfl | (simp only [List.length_drop, List.length_take]; rfl)) ?_; (with_reducible refine (match_Norm.calls kj3 (rdOf ByteArray.empty t171 (ji11)) t175 t179 t180 _ ?side1 A16.out).mono ?_); (case side1 => first | exact HG.out | exact Gl.drewN HG.out _ | exact Gl.below HG.out (by repeat (first | (with_reducible first | exact HB.out | apply below_alloc | apply pw_below_drewN | apply below_drew1) | exact HB.out))); rintro e w140 ⟨rfl, hb⟩; refine ⟨_, rfl, ?_⟩; have n0_ := Aside0.mk (Kd.R_below (by (with_reducible repeat (first | apply Kd.R_alloc | apply Kd.R_drewN | apply Kd.R_drew)); exact HO173.out) hb); have n1_ := Aside0.mk (below_step (by repeat (first | (with_reducible first | exact HB.out | apply below_alloc | apply pw_below_drewN | apply below_drew1) | exact HB.out)) hb); clear HO173; clear HB; have HO173 := n0_; have HB := n1_; clear n0_ n1_; (try clear hb); (try clear hb2); (try clear hk); (try clear hi)) | ((with_reducible refine gate_callee (f := 9) rfl ?_); refine goesL_ (some 55) rfl rfl Tryd.func9 (by kernel_rfl) rfl #[.string (rdOf ByteArray.empty t171 (ji11)), .string a1, .string a2] rfl (by (try simp only [List.map_toArray, List.map_cons, List.map_nil]); first | done | (simp only [hji11]; rfl) | rfl | (simp only [List.length_drop, List.length_take]; rfl)) ?_; (with_reducible refine (match_Same.calls kj3 (rdOf ByteArray.empty t171 (ji11)) a1 a2 t181 _ ?side1 A17.out).mono ?_); (case side1 => first | exact HG.out | exact Gl.drewN HG.out _ | exact Gl.below HG.out (by repeat (first | (with_reducible first | exact HB.out | apply below_alloc | apply pw_below_drewN | apply below_drew1) | exact HB.out))); rintro e w141 ⟨rfl, hb⟩; refine ⟨_, rfl, ?_⟩; have n0_ := Aside0.mk (Kd.R_below (by (with_reducible repeat (first | apply Kd.R_alloc | apply Kd.R_drewN | apply Kd.R_drew)); exact HO173.out) hb); have n1_ := Aside0.mk (below_step (by repeat (first | (with_reducible first | exact HB.out | apply below_alloc | apply pw_below_drewN | apply below_drew1) | exact HB.out)) hb); clear HO173; clear HB; have HO173 := n0_; have HB := n1_; clear n0_ n1_; (try clear hb); (try clear hb2); (try clear hk); (try clear hi)) | (go_at_call 9; (with_reducible refine (match_Same.calls kj3 (rdOf ByteArray.empty t171 (ji11)) a2 a1 t188 _ ?side1 A125.out).mono ?_); (case side1 => first | exact HG.out | exact Gl.drewN HG.out _ | exact Gl.below HG.out (by repeat (first | (with_reducible first | exact HB.out | apply below_alloc | apply pw_below_drewN | apply below_drew1) | exact HB.out))); rintro e w142 ⟨rfl, hb⟩; have n0_ := Aside0.mk (Kd.R_below (by (with_reducible repeat (first | apply Kd.R_alloc | apply Kd.R_drewN | apply Kd.R_drew)); exact HO173.out) hb); have n1_ := Aside0.mk (below_step (by repeat (first | (with_reducible first | exact HB.out | apply below_alloc | apply pw_below_drewN | apply below_drew1) | exact HB.out)) hb); clear HO173; clear HB; have HO173 := n0_; have HB := n1_; clear n0_ n1_; (try clear hb); (try clear hb2); (try clear hk); (try clear hi)))
                    go_ret
                    exact ⟨by first | rfl | (simp [errW_none, errW_some] <;> rfl) | (simp only [← hji11]; first | rfl | (simp [errW_none, errW_some] <;> rfl)) | (simp [*, errW_none, errW_some] <;> rfl), by repeat (first | (with_reducible first | exact HB.out | apply below_alloc | apply pw_below_drewN | apply below_drew1) | exact HB.out)⟩
                · rw [if_neg c124] at H
                  have c124b0 : (t181 == false) = false := by simpa using c124
                  (try (have c124b1 : decide (t181 = false) = false := by simpa using c124))
                  (try (have c124b2 : (t181 == false) = false := by simpa using c124))
                  (try (have c124b3 : ¬ (t181 = false) := by simpa using c124))
                  clear c124
                  obtain rfl := Option.some.inj H
                  go_wp2_with (first | ((with_reducible refine gate_callee (f := 7) rfl ?_); refine goesL_ (some 25) rfl rfl Tryd.func7 (by kernel_rfl) rfl #[] rfl (by (try simp only [List.map_toArray, List.map_cons, List.map_nil]); first | done | rfl | (simp only [List.length_drop, List.length_take]; rfl)) ?_; (with_reducible refine (brooklaw3_Types.calls  t171 _ A9.out).mono ?_); rintro e w143 ⟨v172, rfl, ho0, hb⟩; refine ⟨_, rfl, ?_⟩; have n0_ := Aside0.mk (Kd.R_lower ho0 (below_size (by repeat (first | (with_reducible first | exact HB.out | apply below_alloc | apply pw_below_drewN | apply below_drew1) | exact HB.out)))); have n1_ := Aside0.mk (below_step (by repeat (first | (with_reducible first | exact HB.out | apply below_alloc | apply pw_below_drewN | apply below_drew1) | exact HB.out)) hb); clear HB; have HO173 := n0_; have HB := n1_; clear n0_ n1_; (try clear hb); (try clear hb2); (try clear hk); (try clear hi); (try clear ho0); obtain ⟨Ao144, co144, eo144⟩ := Kd.R_slice HO173.out; subst eo144; have p174 : 0 ≤ ((ji11) : Int) := of_decide_eq_true (by first | (with_reducible assumption) | assumption); have q174 : (ji11) < (t171.length : Int) := of_decide_eq_true (by first | (with_reducible assumption) | assumption); obtain ⟨ad174, e174, hx174_0⟩ := Kd.at_string (Kd.R_reads' HO173.out).2.2 (ji11) p174 q174; cases e174; replace p174 := eq_true p174; replace q174 := eq_true q174) | ((with_reducible refine gate_callee (f := 8) rfl ?_); refine goesL_ (some 37) rfl rfl Tryd.func8 (by kernel_rfl) rfl #[.string (rdOf ByteArray.empty t171 (ji11)), .string a1] rfl (by (try simp only [List.map_toArray, List.map_cons, List.map_nil]); first | done | (simp only [hji11]; rfl) | rfl | (simp only [List.length_drop, List.length_take]; rfl)) ?_; (with_reducible refine (match_Norm.calls kj3 (rdOf ByteArray.empty t171 (ji11)) a1 t175 false _ ?side1 A14.out).mono ?_); (case side1 => first | exact HG.out | exact Gl.drewN HG.out _ | exact Gl.below HG.out (by repeat (first | (with_reducible first | exact HB.out | apply below_alloc | apply pw_below_drewN | apply below_drew1) | exact HB.out))); rintro e w145 ⟨rfl, hb⟩; refine ⟨_, rfl, ?_⟩; have n0_ := Aside0.mk (Kd.R_below (by (with_reducible repeat (first | apply Kd.R_alloc | apply Kd.R_drewN | apply Kd.R_drew)); exact HO173.out) hb); have n1_ := Aside0.mk (below_step (by repeat (first | (with_reducible first | exact HB.out | apply below_alloc | apply pw_below_drewN | apply below_drew1) | exact HB.out)) hb); clear HO173; clear HB; have HO173 := n0_; have HB := n1_; clear n0_ n1_; (try clear hb); (try clear hb2); (try clear hk); (try clear hi)) | ((with_reducible refine gate_callee (f := 8) rfl ?_); refine goesL_ (some 43) rfl rfl Tryd.func8 (by kernel_rfl) rfl #[.string (rdOf ByteArray.empty t171 (ji11)), .string a2] rfl (by (try simp only [List.map_toArray, List.map_cons, List.map_nil]); first | done | (simp only [hji11]; rfl) | rfl | (simp only [List.length_drop, List.length_take]; rfl)) ?_; (with_reducible refine (match_Norm.calls kj3 (rdOf ByteArray.empty t171 (ji11)) a2 t177 t178 _ ?side1 A15.out).mono ?_); (case side1 => first | exact HG.out | exact Gl.drewN HG.out _ | exact Gl.below HG.out (by repeat (first | (with_reducible first | exact HB.out | apply below_alloc | apply pw_below_drewN | apply below_drew1) | exact HB.out))); rintro e w146 ⟨rfl, hb⟩; refine ⟨_, rfl, ?_⟩; have n0_ := Aside0.mk (Kd.R_below (by (with_reducible repeat (first | apply Kd.R_alloc | apply Kd.R_drewN | apply Kd.R_drew)); exact HO173.out) hb); have n1_ := Aside0.mk (below_step (by repeat (first | (with_reducible first | exact HB.out | apply below_alloc | apply pw_below_drewN | apply below_drew1) | exact HB.out)) hb); clear HO173; clear HB; have HO173 := n0_; have HB := n1_; clear n0_ n1_; (try clear hb); (try clear hb2); (try clear hk); (try clear hi)) | ((with_reducible refine gate_callee (f := 8) rfl ?_); refine goesL_ (some 49) rfl rfl Tryd.func8 (by kernel_rfl) rfl #[.string (rdOf ByteArray.empty t171 (ji11)), .string t175] rfl (by (try simp only [List.map_toArray, List.map_cons, List.map_nil]); first | done | (simp only [hji11]; rfl) | rfl | (simp only [List.length_drop, List.length_take]; rfl)) ?_; (with_reducible refine (match_Norm.calls kj3 (rdOf ByteArray.empty t171 (ji11)) t175 t179 t180 _ ?side1 A16.out).mono ?_); (case side1 => first | exact HG.out | exact Gl.drewN HG.out _ | exact Gl.below HG.out (by repeat (first | (with_reducible first | exact HB.out | apply below_alloc | apply pw_below_drewN | apply below_drew1) | exact HB.out))); rintro e w147 ⟨rfl, hb⟩; refine ⟨_, rfl, ?_⟩; have n0_ := Aside0.mk (Kd.R_below (by (with_reducible repeat (first | apply Kd.R_alloc | apply Kd.R_drewN | apply Kd.R_drew)); exact HO173.out) hb); have n1_ := Aside0.mk (below_step (by repeat (first | (with_reducible first | exact HB.out | apply below_alloc | apply pw_below_drewN | apply below_drew1) | exact HB.out)) hb); clear HO173; clear HB; have HO173 := n0_; have HB := n1_; clear n0_ n1_; (try clear hb); (try clear hb2); (try clear hk); (try clear hi)) | ((with_reducible refine gate_callee (f := 9) rfl ?_); refine goesL_ (some 55) rfl rfl Tryd.func9 (by kernel_rfl) rfl #[.string (rdOf ByteArray.empty t171 (ji11)), .string a1, .string a2] rfl (by (try simp only [List.map_toArray, List.map_cons, List.map_nil]); first | done | (simp only [hji11]; rfl) | rfl | (simp only [List.length_drop, List.length_take]; rfl)) ?_; (with_reducible refine (match_Same.calls kj3 (rdOf ByteArray.empty t171 (ji11)) a1 a2 t181 _ ?side1 A17.out).mono ?_); (case side1 => first | exact HG.out | exact Gl.drewN HG.out _ | exact Gl.below HG.out (by repeat (first | (with_reducible first | exact HB.out | apply below_alloc | apply pw_below_drewN | apply below_drew1) | exact HB.out))); rintro e w148 ⟨rfl, hb⟩; refine ⟨_, rfl, ?_⟩; have n0_ := Aside0.mk (Kd.R_below (by (with_reducible repeat (first | apply Kd.R_alloc | apply Kd.R_drewN | apply Kd.R_drew)); exact HO173.out) hb); have n1_ := Aside0.mk (below_step (by repeat (first | (with_reducible first | exact HB.out | apply below_alloc | apply pw_below_drewN | apply below_drew1) | exact HB.out)) hb); clear HO173; clear HB; have HO173 := n0_; have HB := n1_; clear n0_ n1_; (try clear hb); (try clear hb2); (try clear hk); (try clear hi)))
                  go_ret
                  exact ⟨by first | rfl | (simp [errW_none, errW_some] <;> rfl) | (simp only [← hji11]; first | rfl | (simp [errW_none, errW_some] <;> rfl)) | (simp [*, errW_none, errW_some] <;> rfl), by repeat (first | (with_reducible first | exact HB.out | apply below_alloc | apply pw_below_drewN | apply below_drew1) | exact HB.out)⟩
            · rw [if_neg c13] at H
              exact absurd H (by simp)
          · rw [if_neg c12] at H
            exact absurd H (by simp)

end Go.Proofs.YtjicpomcfelobaaDoor.P

/-! Plain: brooklaw3.MatchNorms answers true. -/
namespace Go.Proofs.YtjicpomcfelobaaDoor.P
open Go.RowKit Go.Proofs.YtjicpomcfelobaaDoorW.PrintWords Go.Proofs.YtjicpomcfelobaaDoorW.PrintLast Go.Proofs.YtjicpomcfelobaaDoorW.PrintMore
set_option linter.unusedVariables false
set_option linter.unusedSimpArgs false

theorem sameO_comm (x y : Option (List UInt8)) : sameO x y = sameO y x := by
  cases x <;> cases y <;> first | rfl | skip
  rename_i a b
  show (a == b) = (b == a)
  rw [Bool.beq_comm]
theorem types_all : ∀ l, brooklaw3_Types.f = some l → l.length = 12 ∧ ∀ x ∈ l, x.size ≤ 9223372036854775807 := by
  intro l h
  obtain rfl := Option.some.inj h
  exact ⟨rfl, by decide⟩
theorem norms_j0 (a0 : Int) (h0 : 0 ≤ a0 ∧ a0 ≤ 255) (a1 a2 : ByteArray) : Ev (fun k => brooklaw3_MatchNorms.j0 k a0 a1 a2 false) true := by
  refine Ev.step (fun k => by rw [brooklaw3_MatchNorms.j0]) (Ev.ifn Bool.false_ne_true ?_)
  obtain ⟨l, hl⟩ : ∃ l, brooklaw3_Types.f = some l := ⟨_, rfl⟩
  obtain ⟨e12, hall⟩ := types_all l hl
  rw [hl]
  refine Ev.bs ?_
  rw [e12, wrap_small a0 h0.1 (by omega)]
  have i0 : 0 ≤ Int.tmod a0 ((12 : Nat) : Int) := Int.tmod_nonneg _ h0.1
  have i1 : Int.tmod a0 ((12 : Nat) : Int) < ((12 : Nat) : Int) := Int.tmod_lt_of_pos a0 (by decide)
  refine Ev.ifn (by decide) (Ev.ifp i0 (Ev.ifp i1 ?_))
  have ht : (rdOf ByteArray.empty l (Int.tmod a0 ((12 : Nat) : Int))).size ≤ 9223372036854775807 := by
    unfold rdOf
    rw [List.getD_eq_getElem?_getD, List.getElem?_eq_getElem (by omega)]
    exact hall _ (List.getElem_mem _)
  generalize rdOf ByteArray.empty l (Int.tmod a0 ((12 : Nat) : Int)) = t at ht
  have nx := norm_all t a1 ht
  have ny := norm_all t a2 ht
  generalize hX : normL t.data.toList a1.data.toList = X at nx
  generalize hY : normL t.data.toList a2.data.toList = Y at ny
  have nz := norm_all t (encO X).1 ht
  have aw : ∀ {b : Bool}, b = true → Ev (fun k => (brooklaw3_awake.f k).bind fun t => some t) b := fun h => by rw [h]; exact awake_ev.bind (Ev.now true)
  have sxy := same_ev nx ny
  have syx := same_ev ny nx
  have sxz := same_ev nx nz
  have e := sameO_comm Y X
  rw [e] at syx
  refine nx.bind (ny.bind (nz.bind (sxy.bind ?_)))
  cases X with
  | none =>
    refine Ev.ifn Bool.false_ne_true (Ev.ifp (by cases Y <;> rfl) (syx.bind (Ev.ifp (beq_self_eq_true _) (aw rfl))))
  | some x =>
    have hz : normL t.data.toList x = some x := norm_idem hX
    have ez : normL t.data.toList (encO (some x)).1.data.toList = some x := hz
    rw [ez] at sxz ⊢
    have tailEv : Ev (fun k => if (encO (some x)).2 = true then (if (encO (some x)).1.toList = (encO (some x)).1.toList then ((match_Same.f k t a1 (encO (some x)).1).bind fun t183 => (if t183 = true then ((brooklaw3_awake.f k).bind fun t184 => (some t184)) else (some false))) else (some false)) else (some false)) true := by
      refine Ev.ifp rfl (Ev.ifp rfl (sxz.bind (Ev.ifp ?_ (aw rfl))))
      show (x == x) = true
      exact beq_self_eq_true _
    refine Ev.ifp rfl ?_
    cases Y with
    | none =>
      exact Ev.ifn Bool.false_ne_true (Ev.ifp (by rfl) (syx.bind (Ev.ifp (beq_self_eq_true _) tailEv)))
    | some y =>
      refine Ev.ifp rfl (Ev.ifp ?_ (syx.bind (Ev.ifp (beq_self_eq_true _) tailEv)))
      show ((x == y) == ((mk x).toList == (mk y).toList)) = true
      rw [mk_toList, mk_toList]
      exact beq_self_eq_true _
theorem norms_true (a0 : Int) (h0 : 0 ≤ a0 ∧ a0 ≤ 255) (a1 a2 : ByteArray) : ∃ k, brooklaw3_MatchNorms.f k a0 a1 a2 = some true := by
  apply Ev.rounds
  have yes : ∀ b, Ev (fun k => brooklaw3_MatchNorms.j0 k a0 a1 a2 b) true := by
    intro b
    cases b with
    | true => exact Ev.step (fun k => by rw [brooklaw3_MatchNorms.j0]) (Ev.ifp rfl (awake_ev.bind (Ev.now true)))
    | false => exact norms_j0 a0 h0 a1 a2
  unfold brooklaw3_MatchNorms.f
  by_cases h : (a1.size : Int) > 150
  · exact Ev.ifp h (yes true)
  · exact Ev.ifn h (yes _)
end Go.Proofs.YtjicpomcfelobaaDoor.P

namespace Go.Proofs.YtjicpomcfelobaaDoor.matchNorms
open Go.ChangeShapes Go.WideShapes Go.ChangeAt Go.RowKit Go.Proofs.YtjicpomcfelobaaDoor.P Go.Proofs.YtjicpomcfelobaaDoorW.PrintWords
open Go.ChangeMaps (open_string shut_string)
set_option linter.unusedVariables false
set_option maxRecDepth 100000 in
theorem contract (H : Type) (enc : TypeId × Value → H) (W : World) (base : Nat) (args : Array Value) (ds gs : List (DataW H)) (before : List MemPlace)
    (hval0 : ∀ (j : Nat) t v, Tryd.f3.params[j]? = some t → args[j]? = some v → Value.okWide Tryd.prog W .any base t v)
    (hW : DataW.Whole enc Tryd.prog Tryd.f3.params.toList Rows.matchNormsSpec.vars false W args.toList ds gs before)
    (hsz0 : (DataW.weightsEach Tryd.prog (Tryd.f3.params.toList ++ Rows.matchNormsSpec.plain.varTypes Tryd.prog) (ds ++ gs)).all (· ≤ reachBytes) = true) (hG : Gl W) :
    Calls Tryd.prog 3 args W fun e W' => ∃ v, e = .returned v ∧ Rows.matchNormsSpec.post enc Tryd.prog Tryd.f3 false true false false W args v W' := by
  have hsz := hsz0
  have hval := hval0
  have hW' := hW
  obtain ⟨p, q, hA0, hV, rfl, hfz, hnd⟩ := hW
  have hA : DataW.TrodAll enc Tryd.prog W 0 (fun _ => true) true Tryd.f3.params.toList args.toList ds p := hA0
  rw [Tryd.params3] at hA hval hsz
  obtain ⟨v0, vs0, d0, ds0, p0, q0, hargs, rfl, rfl, h0, r0⟩ := trodAll_cons hA
  obtain ⟨v1, vs1, d1, ds1, p1, q1, rfl, rfl, rfl, h1, r1⟩ := trodAll_cons r0
  obtain ⟨v2, vs2, d2, ds2, p2, q2, rfl, rfl, rfl, h2, r2⟩ := trodAll_cons r1
  obtain ⟨rfl, rfl, rfl⟩ := trodAll_nil r2
  obtain rfl : args = #[v0, v1, v2] := by cases args; simp_all
  obtain ⟨rfl, rfl⟩ := trodVars_none hV
  obtain ⟨a0, rfl, rfl, rfl, w0⟩ := open_int Tryd.underlying5 (hval 0 5 v0 rfl rfl) h0
  obtain ⟨a1, rfl, rfl, rfl, y1⟩ := open_string Tryd.underlying9 (hval 1 9 v1 rfl rfl) h1
  have w1 : a1.size ≤ 140737488351232 := by
    have z := sized_string hsz (j := 1) (t := 9) rfl rfl
    rw [Array.length_toList] at z
    exact z
  obtain ⟨a2, rfl, rfl, rfl, y2⟩ := open_string Tryd.underlying9 (hval 2 9 v2 rfl rfl) h2
  have w2 : a2.size ≤ 140737488351232 := by
    have z := sized_string hsz (j := 2) (t := 9) rfl rfl
    rw [Array.length_toList] at z
    exact z
  clear hA0 hval0 hsz0 hsz
  have walk : Calls Tryd.prog 3 #[.int .u8 a0, .string a1, .string a2] W fun e w' => e = .returned (.bool true) ∧ Below W.heap.size W w' := (by
    obtain ⟨k, hk⟩ := norms_true a0 (u8_wf w0) a1 a2
    exact brooklaw3_MatchNorms.calls k a0 a1 a2 true W hG hk)
  refine walk.mono fun e W' ⟨he, bel⟩ => ?_
  subst he
  exact ⟨_, rfl, _, _, _, [], _, [], hW', trodAll_mk1 (shut_bool Tryd.underlying4 _), (trodAll_cons_mk (shut_int Tryd.underlying5 w0) (trodAll_cons_mk (shut_string Tryd.underlying9 y1) (trodAll_cons_mk (shut_string Tryd.underlying9 y2) trodAll_mk0))), rfl, bel.frame _, fun h => by cases h⟩
theorem reads (os : Os) {H : Type} (enc : TypeId × Value → H) : ∃ places, DataW.whole enc Tryd.prog ((laidWorld os).forCall (fun _ _ => 0) ⟨#[], #[.int .u8 0, .string ByteArray.empty, .string ByteArray.empty], []⟩).memory Tryd.f3.params.toList Rows.matchNormsSpec.vars false (#[.int .u8 0, .string ByteArray.empty, .string ByteArray.empty] : Array Value).toList 8 = some ([.lit (.int .u8 0), .lit (.string []), .lit (.string [])], [], places) :=
  ⟨[], by kernel_rfl⟩
set_option maxRecDepth 100000 in
theorem lifted (os : Os) (started : os.Started) (H : Type) (enc : TypeId × Value → H) (F : Stop.Interp) :
    ReturnsInHanded {} Tryd.checked os 3 .any ((OpenSpec.ofChange Rows.matchNormsSpec).preRow enc Tryd.prog Tryd.f3 Rows.matchNormsRow.domain false Rows.matchNormsRow.laid) (((OpenSpec.ofChange Rows.matchNormsSpec).at F).post enc Tryd.prog Tryd.f3 false true false false) := by
  obtain ⟨places, hx⟩ := reads os enc
  refine returnsInHanded_of_row (C := Tryd.checked) (s := OpenSpec.ofChange Rows.matchNormsSpec) own started (by kernel_rfl) Tryd.func3
    (witness_row_at (enc := enc) (C := Tryd.checked) false (laidWorld os) #[.int .u8 0, .string ByteArray.empty, .string ByteArray.empty] (World.laidAll_os _ _ _) (by kernel_rfl) (by kernel_rfl) (by kernel_rfl)
      (OpenSpec.preRow_of_cond 8 hx (by kernel_rfl) (fun k hk => by cases hk) (by kernel_rfl) (laid_met os _))) ?_
  intro W base args ds gs before hval hW _ _ hsz hL hsh _
  exact contract H enc W base args ds gs before hval hW hsz (gl_of hL hsh)
theorem said : Rows.MatchNormsSaid :=
  OpenClaim.holds_of_cond 3 Tryd.f3 rfl rfl rfl rfl rfl rfl rfl ⟨rfl, rfl, rfl, rfl, rfl⟩ rfl rfl rfl rfl rfl (by kernel_rfl) Tryd.func3 (by kernel_rfl)
    (of_decide_eq_true (by kernel_rfl)) (by unfold Func.isWrapper; first | (rw [if_pos (by decide +kernel)]; kernel_rfl) | (rw [if_neg (by decide +kernel)]; exact ⟨rfl, rfl⟩))
    (fun os started H enc _ F => by rw [OpenClaim.pre_eq_preRow]; exact lifted os started H enc F)
theorem plain (f : FuncId) (fn : Func) (hf : Tryd.pinned.checked.prog.funcNamed "brook/brooklaw3.MatchNorms" = some f) (hfn : Tryd.pinned.checked.prog.funcs[f]? = some fn) :
    true = Tryd.pinned.checked.prog.looks [] ∧ ∀ (j : Nat) t, fn.params[j]? = some t → Tryd.pinned.checked.prog.wantsStandIn t = false := by
  obtain rfl : f = 3 := Option.some.inj ((show Tryd.prog.funcNamed "brook/brooklaw3.MatchNorms" = some 3 by kernel_rfl).symm.trans hf) |>.symm
  obtain rfl : fn = Tryd.f3 := (Option.some.inj (Tryd.func3.symm.trans hfn)).symm
  refine ⟨by kernel_rfl, fun j t ht => ?_⟩
  rw [Tryd.params3] at ht
  have hm : t ∈ [5, 9, 9] := by simpa using Array.mem_of_getElem? ht
  have hall : ([5, 9, 9].all fun u => !Tryd.prog.wantsStandIn u) = true := by kernel_rfl
  exact (show Tryd.prog.wantsStandIn t = false by simpa using List.all_eq_true.1 hall t hm)
/-- THE CARD -/
theorem card : Rows.MatchNormsCardSaid :=
  Claim7.holds_tied_plain_at .later [] _ _ _ _ said (fun _ h => by cases h) (by kernel_rfl) (fun _ h => by cases h) matchNorms_row_tie rfl ⟨rfl, rfl⟩ (by kernel_rfl) rfl plain (by kernel_rfl)
#print axioms card
end Go.Proofs.YtjicpomcfelobaaDoor.matchNorms
namespace Go.Proofs.YtjicpomcfelobaaDoor
theorem matchNorms_card : Rows.MatchNormsCardSaid := matchNorms.card
end Go.Proofs.YtjicpomcfelobaaDoor
