/- Letters in whatever case, blanks around and in rows, make no difference to texts, but to bytes. Conditions: those of the card's own row. -/
import Derived.Test.YthfpaoacjpjnfaaDoorMMCases2
import Derived.Test.YthfpaoacjpjnfaaDoorMMCases3
import Derived.Test.YthfpaoacjpjnfaaDoorCards
import Derived.Test.YthfpaoacjpjnfaaDoorTie
import Derived.WalkKit
import Derived.ProofKit
import Derived.OpenShut
import Derived.ShutString
import Derived.ChangeOld
import Derived.ChangeSame
import Derived.Below
import Derived.SizedLaws
import Derived.Deep.DeepHandedRow
import Derived.JoinedCond
import Derived.SevenTiedAt
import Derived.Lay

namespace Go.Proofs.YthfpaoacjpjnfaaDoor.P
open Go.RowKit Go.Proofs.YthfpaoacjpjnfaaDoorW.PrintWords Go.Proofs.YthfpaoacjpjnfaaDoorW.PrintLast Go.Proofs.YthfpaoacjpjnfaaDoorW.PrintMore
set_option linter.unusedVariables false
set_option linter.unusedSimpArgs false
def isHexB (c : UInt8) : Bool := (decide (48 ≤ c) && decide (c ≤ 57)) || (decide (97 ≤ c) && decide (c ≤ 102)) || (decide (65 ≤ c) && decide (c ≤ 70))
def hexVB (c : UInt8) : UInt8 := if c ≤ 57 then c - 48 else if c ≤ 70 then c - 55 else c - 87
def escN : List UInt8 → Option (UInt8 × Nat)
  | [] => none
  | c :: r => if (specialB c || c == 61 || c == 35 || c == 32) = true then some (c, 1) else
    match r with
    | [] => none
    | d :: _ => if (isHexB c && isHexB d) = true then some (hexVB c * 16 + hexVB d, 2) else none
def badB (first : Bool) (c : UInt8) : Bool := decide (c < 32) || decide (126 < c) || specialB c || (first && (c == 35 || c == 32))
def valG (first sp : Bool) : List UInt8 → Option (List UInt8 × List UInt8)
  | [] => if sp = true then none else some ([], [])
  | c :: r => if c = 44 then (if sp = true then none else some ([], c :: r)) else
    if c = 92 then (match escN r with | none => none | some (b, n) => (valG false false (r.drop n)).map fun p => (b :: p.1, p.2)) else
    if badB first c = true then none else (valG false (c == 32) r).map fun p => (c :: p.1, p.2)
termination_by l => l.length
decreasing_by all_goals (simp only [List.length_drop, List.length_cons]; omega)
theorem u8i (u v : UInt8) : ((u.toNat : Int) = (v.toNat : Int)) ↔ u = v :=
  ⟨fun h => UInt8.toNat_inj.1 (by omega), fun h => by rw [h]⟩
theorem dn_digit_eq (c : UInt8) : dn_digit.f (c.toNat : Int) = some (if isHexB c = true then ((hexVB c).toNat : Int) else -1) :=
  byteAll (p := fun c => dn_digit.f (c.toNat : Int) = some (if isHexB c = true then ((hexVB c).toNat : Int) else -1)) (by decide +kernel) c
theorem hexVB_lt (c : UInt8) : isHexB c = true → (hexVB c).toNat < 16 := byteAll (p := fun c => isHexB c = true → (hexVB c).toNat < 16) (by decide +kernel) c
theorem or16 : ∀ a b : Fin 16, (Go.bits .or .i64 (wrap64 ((a.val : Int) * 16)) (b.val : Int)) % 256 = ((UInt8.ofNat a.val * 16 + UInt8.ofNat b.val).toNat : Int) := by decide +kernel
theorem hex_two (c d : UInt8) (hc : isHexB c = true) (hd : isHexB d = true) : (Go.bits .or .i64 (wrap64 (((hexVB c).toNat : Int) * 16)) ((hexVB d).toNat : Int)) % 256 = ((hexVB c * 16 + hexVB d).toNat : Int) := by
  have h := or16 ⟨(hexVB c).toNat, hexVB_lt c hc⟩ ⟨(hexVB d).toNat, hexVB_lt d hd⟩
  simpa using h
theorem bt_mk0 (c : UInt8) (r : List UInt8) : bt (mk (c :: r)) 0 = (c.toNat : Int) := by rw [bt_eq]; rfl
theorem bt_mk1 (c d : UInt8) (r : List UInt8) : bt (mk (c :: d :: r)) 1 = (d.toNat : Int) := by rw [bt_eq]; rfl
theorem escN_t (c : UInt8) (r : List UInt8) (h : (specialB c || c == 61 || c == 35 || c == 32) = true) : escN (c :: r) = some (c, 1) := by simp only [escN]; rw [if_pos h]
theorem escN_f1 (c : UInt8) (h : (specialB c || c == 61 || c == 35 || c == 32) = false) : escN [c] = none := by simp only [escN]; rw [if_neg (by rw [h]; exact Bool.false_ne_true)]
theorem escN_f2 (c d : UInt8) (r : List UInt8) (h : (specialB c || c == 61 || c == 35 || c == 32) = false) : escN (c :: d :: r) = if (isHexB c && isHexB d) = true then some (hexVB c * 16 + hexVB d, 2) else none := by
  simp only [escN]; rw [if_neg (by rw [h]; exact Bool.false_ne_true)]
theorem escN_len (l : List UInt8) (b : UInt8) (n : Nat) (h : escN l = some (b, n)) : (n = 1 ∨ n = 2) ∧ n ≤ l.length := by
  cases l with
  | nil => cases h
  | cons c r =>
    cases hc : (specialB c || c == 61 || c == 35 || c == 32) with
    | true =>
      rw [escN_t c r hc] at h
      have := (Prod.mk.inj (Option.some.inj h)).2
      rw [List.length_cons]; omega
    | false =>
      cases r with
      | nil => rw [escN_f1 c hc] at h; cases h
      | cons d r =>
        rw [escN_f2 c d r hc] at h
        by_cases hh : (isHexB c && isHexB d) = true
        · rw [if_pos hh] at h
          have := (Prod.mk.inj (Option.some.inj h)).2
          rw [List.length_cons, List.length_cons]; omega
        · rw [if_neg hh] at h; cases h
def escP (l : List UInt8) : Int × Int := match escN l with | none => (0, 0) | some (b, n) => ((b.toNat : Int), (n : Int))
theorem escaped_j1 (c d : UInt8) (r : List UInt8) (b : Bool) (hb : b = true → isHexB c = true ∧ isHexB d = true) :
    Ev (fun k => dn_escaped.j1 k (mk (c :: d :: r)) b) (if b = true then (((hexVB c * 16 + hexVB d).toNat : Int), 2) else (0, 0)) := by
  refine Ev.step (fun k => by rw [dn_escaped.j1]) ?_
  cases b with
  | false => exact Ev.ifn Bool.false_ne_true (Ev.now _)
  | true =>
    obtain ⟨hc, hd⟩ := hb rfl
    refine Ev.const fun k => ?_
    rw [if_pos rfl, if_pos rfl, if_pos (by rw [mk_size]; simp only [List.length_cons]; omega), bt_mk0, bt_mk1, dn_digit_eq, dn_digit_eq, if_pos hc, if_pos hd, Option.bind_some, if_pos (by rw [mk_size]; simp only [List.length_cons]; omega), Option.bind_some, hex_two c d hc hd]
theorem escaped_j0 (c : UInt8) (r : List UInt8) (b : Bool) (hb : b = (specialB c || c == 61 || c == 35 || c == 32)) :
    Ev (fun k => dn_escaped.j0 k (mk (c :: r)) b) (escP (c :: r)) := by
  refine Ev.step (fun k => by rw [dn_escaped.j0]) ?_
  unfold escP
  cases b with
  | true =>
    rw [escN_t c r hb.symm]
    refine Ev.const fun k => ?_
    rw [if_pos rfl, if_pos (by rw [mk_size]; simp only [List.length_cons]; omega), bt_mk0]
    rfl
  | false =>
    refine Ev.ifn Bool.false_ne_true ?_
    cases r with
    | nil =>
      rw [escN_f1 c hb.symm]
      exact Ev.ifn (by rw [mk_size]; simp only [List.length_cons, List.length_nil]; omega) (Ev.step (fun k => by rw [dn_escaped.j1]) (Ev.const fun k => by rw [if_neg Bool.false_ne_true]))
    | cons d r =>
      rw [escN_f2 c d r hb.symm]
      refine Ev.ifp (by rw [mk_size]; simp only [List.length_cons]; omega) (Ev.ifp (by rw [mk_size]; simp only [List.length_cons]; omega) ?_)
      rw [bt_mk0, dn_digit_eq]
      refine Ev.bs ?_
      by_cases hc : isHexB c = true
      · rw [if_pos hc]
        refine Ev.ifp (by omega) (Ev.ifp (by rw [mk_size]; simp only [List.length_cons]; omega) ?_)
        rw [bt_mk1, dn_digit_eq]
        refine Ev.bs ?_
        by_cases hd : isHexB d = true
        · rw [if_pos hd, hc, hd, decide_eq_true (by omega)]
          exact escaped_j1 c d r true (fun _ => ⟨hc, hd⟩)
        · rw [if_neg hd, Bool.eq_false_iff.2 hd, Bool.and_false, decide_eq_false (by omega)]
          exact escaped_j1 c d r false (fun h => by cases h)
      · rw [if_neg hc, Bool.eq_false_iff.2 hc, Bool.false_and]
        exact Ev.ifn (by omega) (escaped_j1 c d r false (fun h => by cases h))
theorem escaped_ev (s : ByteArray) : Ev (fun k => dn_escaped.f k s) (escP s.data.toList) := by
  rw [← mk_of s]
  generalize s.data.toList = l
  unfold dn_escaped.f
  rw [mk_toList]
  cases l with
  | nil => exact Ev.ifp rfl (Ev.now _)
  | cons c r =>
    refine Ev.ifn (by simp) (Ev.ifp (by rw [mk_size]; simp only [List.length_cons]; omega) ?_)
    rw [bt_mk0, dn_special_eq]
    refine Ev.bs ?_
    by_cases h1 : specialB c = true
    · exact Ev.ifp h1 (escaped_j0 c r true (by rw [h1]; rfl))
    have h1' := Bool.eq_false_iff.2 h1
    refine Ev.ifn h1 ?_
    by_cases h2 : c = 61
    · exact Ev.ifp ((u8i c 61).2 h2) (escaped_j0 c r true (by rw [h2]; rfl))
    refine Ev.ifn (fun h => h2 ((u8i c 61).1 h)) ?_
    by_cases h3 : c = 35
    · exact Ev.ifp ((u8i c 35).2 h3) (escaped_j0 c r true (by rw [h3]; rfl))
    refine Ev.ifn (fun h => h3 ((u8i c 35).1 h)) ?_
    refine escaped_j0 c r _ ?_
    rw [h1', beq_eq_false_iff_ne.2 h2, beq_eq_false_iff_ne.2 h3, Bool.false_or, Bool.false_or, Bool.false_or]
    by_cases h4 : c = 32
    · rw [h4]; rfl
    · rw [beq_eq_false_iff_ne.2 h4, show (((c.toNat : Int)) == 32) = false from beq_eq_false_iff_ne.2 (fun h => h4 ((u8i c 32).1 h))]
theorem drop_cons (l : List UInt8) (i : Nat) (h : i < l.length) : l.drop i = l.getD i 0 :: l.drop (i + 1) := by
  rw [List.drop_eq_getElem_cons h, List.getD_eq_getElem?_getD, List.getElem?_eq_getElem h]; rfl
theorem extract_tail (s : ByteArray) (i : Nat) : s.extract i s.size = mk (s.data.toList.drop i) := by
  apply ba_ext
  have e : (s.data.toList.drop i).length = s.size - i := by rw [List.length_drop, ← size_len]
  rw [extract_data, mk_data, List.take_of_length_le (Nat.le_of_eq e)]
theorem wrap_small (n : Int) (h0 : 0 ≤ n) (h1 : n ≤ 9223372036854775807) : wrap64 n = n := by
  first
    | exact wrap64_small n (by omega) (by omega)
    | (unfold wrap64; simp only [Int.emod_def]; omega)
def ValIs (o : List UInt8) (x : Option (List UInt8 × List UInt8)) (p : ByteArray × ByteArray × Bool) : Prop :=
  match x with
  | some (v, r) => p = (mk (o ++ v), mk r, true)
  | none => p.2.2 = false
theorem ValIs.push {o : List UInt8} {b : UInt8} {x : Option (List UInt8 × List UInt8)} {p : ByteArray × ByteArray × Bool} (h : ValIs (o ++ [b]) x p) : ValIs o (x.map fun q => (b :: q.1, q.2)) p := by
  cases x with
  | none => exact h
  | some q =>
    obtain ⟨v, r⟩ := q
    unfold ValIs at h ⊢
    simp only [Option.map_some]
    rw [h, List.append_assoc]; rfl
theorem value_loop (s : ByteArray) (hs : s.size ≤ 70368744177664) : ∀ (n i : Nat) (o : List UInt8) (sp : Bool), s.size - i = n → i ≤ s.size → o.length ≤ i →
    ∃ p, Ev (fun k => dn_value.l0 k s (numsB o) sp (i : Int)) p ∧ ValIs o (valG (decide (i = 0)) sp (s.data.toList.drop i)) p := by
  intro n
  induction n using Nat.strongRecOn with
  | _ n ih =>
    intro i o sp hn hi ho
    have hlen : s.data.toList.length = s.size := (size_len s).symm
    have stop : ∀ (x20 : Bool), x20 = false → (s.data.toList.drop i = [] ∨ ∃ r, s.data.toList.drop i = 44 :: r) →
        ∃ p, Ev (fun k => dn_value.j1 k s (numsB o) sp (i : Int) x20) p ∧ ValIs o (valG (decide (i = 0)) sp (s.data.toList.drop i)) p := by
      intro x20 hx hr
      subst hx
      refine ⟨(strOfNums (numsB o), s.extract i s.size, !sp), Ev.step (fun k => by rw [dn_value.j1]) (Ev.ifn Bool.false_ne_true (Ev.ifp (by omega) (Ev.ifp (by omega) (Ev.const fun k => by rw [Int.toNat_natCast])))), ?_⟩
      rw [strOf_numsB, extract_tail]
      cases sp with
      | true =>
        have : valG (decide (i = 0)) true (s.data.toList.drop i) = none := by
          rcases hr with hr | ⟨r, hr⟩
          · rw [hr, valG, if_pos rfl]
          · rw [hr, valG, if_pos rfl, if_pos rfl]
        rw [this]
        rfl
      | false =>
        have : valG (decide (i = 0)) false (s.data.toList.drop i) = some ([], s.data.toList.drop i) := by
          rcases hr with hr | ⟨r, hr⟩
          · rw [hr, valG, if_neg Bool.false_ne_true]
          · rw [hr, valG, if_pos rfl, if_neg Bool.false_ne_true]
        rw [this]
        show _ = _
        rw [List.append_nil]; rfl
    by_cases hlt : i < s.size
    · have hd := drop_cons s.data.toList i (by omega)
      generalize hc : s.data.toList.getD i 0 = c at hd
      have hb : bt s (i : Int) = (c.toNat : Int) := by rw [bt_nat, hc]
      by_cases h44 : c = 44
      · obtain ⟨p, hp, hv⟩ := stop ((bt s (i : Int)) != 44) (by rw [hb, h44]; rfl) (Or.inr ⟨_, by rw [hd, h44]⟩)
        exact ⟨p, Ev.step (fun k => by rw [dn_value.l0]) (Ev.ifp (by omega) (Ev.ifp (by omega) hp)), hv⟩
      · have hne : ((bt s (i : Int)) != 44) = true := by rw [hb, bne_iff_ne]; exact fun h => h44 ((u8i c 44).1 h)
        have body : ∃ p, Ev (fun k => dn_value.j1 k s (numsB o) sp (i : Int) true) p ∧ ValIs o (valG (decide (i = 0)) sp (s.data.toList.drop i)) p := by
          rw [hd, valG, if_neg h44]
          have w1 : wrap64 ((i : Int) + 1) = ((i + 1 : Nat) : Int) := by rw [wrap_small _ (by omega) (by omega)]; omega
          by_cases h92 : c = 92
          · rw [if_pos h92]
            have he := escaped_ev (s.extract (i + 1) s.size)
            rw [extract_tail, mk_data] at he
            have pre : ∀ {p : ByteArray × ByteArray × Bool}, Ev (fun k => if (escP (s.data.toList.drop (i + 1))).2 = 0 then some ((⟨#[]⟩ : ByteArray), (⟨#[]⟩ : ByteArray), false) else (if (numsB o).length < 140737488355328 then (dn_value.l0 k s (numsB o ++ [(escP (s.data.toList.drop (i + 1))).1]) ((bt s (i : Int)) == 32) (wrap64 ((wrap64 ((i : Int) + (escP (s.data.toList.drop (i + 1))).2)) + 1))) else none)) p →
                Ev (fun k => dn_value.j1 k s (numsB o) sp (i : Int) true) p := by
              intro p hp
              refine Ev.step (fun k => by rw [dn_value.j1]) (Ev.ifp rfl (Ev.ifp (by omega) (Ev.ifp (by omega) (Ev.ifp (by rw [hb, h92]; rfl) ?_))))
              rw [w1]
              refine Ev.ifp (by omega) (Ev.ifp (by omega) ?_)
              rw [Int.toNat_natCast, extract_tail]
              exact he.bind hp
            unfold escP at pre
            cases hx : escN (s.data.toList.drop (i + 1)) with
            | none =>
              rw [hx] at pre
              exact ⟨_, pre (Ev.ifp rfl (Ev.now _)), rfl⟩
            | some q =>
              obtain ⟨b, m⟩ := q
              rw [hx] at pre
              have hm : (m = 1 ∨ m = 2) ∧ i + 1 + m ≤ s.size := by
                obtain ⟨e1, e2⟩ := escN_len _ _ _ hx
                rw [List.length_drop] at e2
                omega
              obtain ⟨p, hp, hv⟩ := ih (s.size - (i + 1 + m)) (by omega) (i + 1 + m) (o ++ [b]) false rfl hm.2 (by rw [List.length_append, List.length_singleton]; omega)
              rw [show decide (i + 1 + m = 0) = false from decide_eq_false (by omega)] at hv
              refine ⟨p, pre (Ev.ifn (by simp only; omega) (Ev.ifp (by rw [numsB_len]; omega) ?_)), ?_⟩
              · rw [← numsB_snoc, show ((bt s (i : Int)) == 32) = false by rw [hb, h92]; rfl]
                rw [wrap_small ((i : Int) + (m : Int)) (by omega) (by omega), wrap_small _ (by omega) (by omega), show (i : Int) + (m : Int) + 1 = ((i + 1 + m : Nat) : Int) by omega]
                exact hp
              · rw [← List.drop_drop] at hv
                exact hv.push
          · rw [if_neg h92]
            have go : ∀ {p : ByteArray × ByteArray × Bool} (h32 : 32 ≤ c) (h126 : c ≤ 126) (hsp : specialB c = false) (hf : i = 0 → c ≠ 35 ∧ c ≠ 32), Ev (fun k => dn_value.l0 k s (numsB o ++ [bt s (i : Int)]) ((bt s (i : Int)) == 32) (wrap64 ((i : Int) + 1))) p → Ev (fun k => dn_value.j1 k s (numsB o) sp (i : Int) true) p := by
              intro p h32 h126 hsp hf hp
              have g1 : ¬ bt s (i : Int) < 32 := by rw [hb]; have : (32 : UInt8).toNat ≤ c.toNat := h32; have e : (32 : UInt8).toNat = 32 := rfl; omega
              have g2 : ¬ bt s (i : Int) > 126 := by rw [hb]; have : c.toNat ≤ (126 : UInt8).toNat := h126; have e : (126 : UInt8).toNat = 126 := rfl; omega
              refine Ev.step (fun k => by rw [dn_value.j1]) (Ev.ifp rfl (Ev.ifp (by omega) (Ev.ifp (by omega) (Ev.ifn (by rw [hb]; exact fun h => h92 ((u8i c 92).1 h)) (Ev.ifn g1 (Ev.ifn g2 ?_))))))
              rw [hb, dn_special_eq, ← hb]
              refine Ev.bs (Ev.ifn (by rw [hsp]; exact Bool.false_ne_true) ?_)
              by_cases hi0 : i = 0
              · obtain ⟨f1, f2⟩ := hf hi0
                exact Ev.ifp (by omega) (Ev.ifn (by rw [hb]; exact fun h => f1 ((u8i c 35).1 h)) (Ev.ifn (by rw [hb]; exact fun h => f2 ((u8i c 32).1 h)) (Ev.ifp (by rw [numsB_len]; omega) hp)))
              · exact Ev.ifn (by omega) (Ev.ifp (by rw [numsB_len]; omega) hp)
            by_cases hbad : badB (decide (i = 0)) c = true
            · rw [if_pos hbad]
              refine ⟨((⟨#[]⟩ : ByteArray), (⟨#[]⟩ : ByteArray), false), ?_, rfl⟩
              refine Ev.step (fun k => by rw [dn_value.j1]) (Ev.ifp rfl (Ev.ifp (by omega) (Ev.ifp (by omega) (Ev.ifn (by rw [hb]; exact fun h => h92 ((u8i c 92).1 h)) ?_))))
              by_cases g1 : bt s (i : Int) < 32
              · exact Ev.ifp g1 (Ev.now _)
              refine Ev.ifn g1 ?_
              by_cases g2 : bt s (i : Int) > 126
              · exact Ev.ifp g2 (Ev.now _)
              refine Ev.ifn g2 ?_
              have g1' : ¬ c < 32 := by rw [hb] at g1; intro h; have : c.toNat < (32 : UInt8).toNat := h; have e : (32 : UInt8).toNat = 32 := rfl; omega
              have g2' : ¬ 126 < c := by rw [hb] at g2; intro h; have : (126 : UInt8).toNat < c.toNat := h; have e : (126 : UInt8).toNat = 126 := rfl; omega
              rw [hb, dn_special_eq, ← hb]
              refine Ev.bs ?_
              by_cases hsp : specialB c = true
              · exact Ev.ifp hsp (Ev.now _)
              refine Ev.ifn hsp ?_
              unfold badB at hbad
              rw [decide_eq_false g1', decide_eq_false g2', Bool.eq_false_iff.2 hsp] at hbad
              simp only [Bool.false_or, Bool.and_eq_true, decide_eq_true_eq, Bool.or_eq_true, beq_iff_eq] at hbad
              obtain ⟨hi0, h⟩ := hbad
              refine Ev.ifp (by omega) ?_
              rcases h with h | h
              · exact Ev.ifp (by rw [hb]; exact (u8i c 35).2 h) (Ev.now _)
              · exact Ev.ifn (by rw [hb, h]; decide) (Ev.ifp (by rw [hb]; exact (u8i c 32).2 h) (Ev.now _))
            · rw [if_neg hbad]
              have hbad' := Bool.eq_false_iff.2 hbad
              unfold badB at hbad'
              simp only [Bool.or_eq_false_iff, decide_eq_false_iff_not, Bool.and_eq_false_iff, beq_eq_false_iff_ne] at hbad'
              obtain ⟨⟨⟨b1, b2⟩, b3⟩, b4⟩ := hbad'
              obtain ⟨p, hp, hv⟩ := ih (s.size - (i + 1)) (by omega) (i + 1) (o ++ [c]) (c == 32) rfl (by omega) (by rw [List.length_append, List.length_singleton]; omega)
              rw [show decide (i + 1 = 0) = false from decide_eq_false (by omega)] at hv
              refine ⟨p, go (UInt8.not_lt.1 b1) (UInt8.not_lt.1 b2) b3 (fun h => ?_) ?_, hv.push⟩
              · rcases b4 with b4 | b4
                · exact absurd h b4
                · exact b4
              · rw [w1, hb, ← numsB_snoc]
                have : (((c.toNat : Int)) == 32) = (c == 32) := by
                  by_cases h : c = 32
                  · rw [h]; rfl
                  · rw [beq_eq_false_iff_ne.2 h, show (((c.toNat : Int)) == 32) = false from beq_eq_false_iff_ne.2 (fun e => h ((u8i c 32).1 e))]
                rw [this]
                exact hp
        obtain ⟨p, hp, hv⟩ := body
        refine ⟨p, Ev.step (fun k => by rw [dn_value.l0]) (Ev.ifp (by omega) (Ev.ifp (by omega) ?_)), hv⟩
        rw [hne]
        exact hp
    · obtain ⟨p, hp, hv⟩ := stop false rfl (Or.inl (List.drop_eq_nil_of_le (by omega)))
      exact ⟨p, Ev.step (fun k => by rw [dn_value.l0]) (Ev.ifn (by omega) hp), hv⟩
theorem value_ev (s : ByteArray) (hs : s.size ≤ 70368744177664) : ∃ p, Ev (fun k => dn_value.f k s) p ∧ ValIs [] (valG true false s.data.toList) p := by
  have h := value_loop s hs s.size 0 [] false (by omega) (by omega) (Nat.le_refl _)
  exact h
end Go.Proofs.YthfpaoacjpjnfaaDoor.P


namespace Go.Proofs.YthfpaoacjpjnfaaDoor.P
open Go.RowKit Go.Proofs.YthfpaoacjpjnfaaDoorW.PrintWords Go.Proofs.YthfpaoacjpjnfaaDoorW.PrintLast Go.Proofs.YthfpaoacjpjnfaaDoorW.PrintMore
set_option linter.unusedVariables false
set_option linter.unusedSimpArgs false
abbrev PR := List UInt8 × List UInt8
def cutEq : List UInt8 → Option (List UInt8 × List UInt8)
  | [] => none
  | c :: r => if c = 61 then some ([], r) else (cutEq r).map fun p => (c :: p.1, p.2)
theorem cut_idx : ∀ (l : List UInt8), match cutEq l with
    | none => Lib.indexByte l 61 = -1
    | some (a, b) => ∃ n : Nat, Lib.indexByte l 61 = n ∧ l.take n = a ∧ l.drop (n + 1) = b
  | [] => rfl
  | c :: r => by
    have ih := cut_idx r
    unfold cutEq
    by_cases hc : c = 61
    · rw [if_pos hc]
      exact ⟨0, by unfold Lib.indexByte; rw [if_pos (by rw [hc]; rfl)]; rfl, rfl, rfl⟩
    · rw [if_neg hc]
      cases h : cutEq r with
      | none =>
        rw [h] at ih
        show Lib.indexByte (c :: r) 61 = -1
        unfold Lib.indexByte
        rw [if_neg (by rw [beq_iff_eq]; exact hc), if_pos (by rw [show Lib.indexByte r 61 = -1 from ih]; rfl)]
      | some p =>
        obtain ⟨a, b⟩ := p
        rw [h] at ih
        obtain ⟨n, h1, h2, h3⟩ := ih
        refine ⟨n + 1, ?_, ?_, ?_⟩
        · unfold Lib.indexByte
          rw [if_neg (by rw [beq_iff_eq]; exact hc), h1, if_neg (by rw [beq_iff_eq]; omega)]
          omega
        · rw [List.take_succ_cons, h2]
        · rw [List.drop_succ_cons, h3]
theorem cut_eq (l : List UInt8) : Lib.cut l [61] = match cutEq l with | none => (l, [], false) | some (a, b) => (a, b, true) := by
  have h := cut_idx l
  unfold Lib.cut
  rw [Lib.index_one]
  cases hc : cutEq l with
  | none =>
    rw [hc] at h
    rw [show Lib.indexByte l 61 = -1 from h, if_neg (by decide)]
  | some p =>
    obtain ⟨a, b⟩ := p
    rw [hc] at h
    obtain ⟨n, h1, h2, h3⟩ := h
    rw [h1, if_pos (by omega), Int.toNat_natCast, List.length_singleton, h2, h3]
theorem cutEq_len : ∀ (l a b : List UInt8), cutEq l = some (a, b) → l = a ++ 61 :: b
  | [], a, b, h => by cases h
  | c :: r, a, b, h => by
    unfold cutEq at h
    by_cases hc : c = 61
    · rw [if_pos hc] at h
      obtain ⟨rfl, rfl⟩ := Prod.mk.inj (Option.some.inj h)
      rw [hc]; rfl
    · rw [if_neg hc] at h
      obtain ⟨⟨a', b'⟩, h1, h2⟩ := Option.map_eq_some_iff.1 h
      obtain ⟨rfl, rfl⟩ := Prod.mk.inj h2
      rw [cutEq_len r _ _ h1]; rfl
def parseN : Nat → List UInt8 → Option (List PR)
  | 0, _ => none
  | m + 1, l => match cutEq l with
    | none => none
    | some (t, v) => if typedL t = true then (match valG true false v with
      | none => none
      | some (x, []) => some [(t, x)]
      | some (x, _ :: r) => (parseN m r).map fun y => (t, x) :: y) else none
def okV (p : PR) : Bool := !p.2.isEmpty && decide (p.2.length ≤ 100)
def okR (p : PR) : Bool := typedL p.1 && okV p
def mayL (rs : List PR) : Bool := rs.all okR && decide (rs.length ≤ 8)
def parseL (l : List UInt8) : Option (List PR) := if l = [] then some [] else (parseN 8 l).bind fun rs => if rs.all okV = true then some rs else none
def toS (p : PR) : S53 := ⟨mk p.1, mk p.2⟩
theorem rd_map (rs : List PR) (i : Nat) (h : i < rs.length) : rd_T53 (rs.map toS) (i : Int) = toS (rs.getD i ([], [])) := by
  unfold rd_T53
  rw [Int.toNat_natCast, List.getD_eq_getElem?_getD, List.getElem?_map, List.getElem?_eq_getElem h, List.getD_eq_getElem?_getD, List.getElem?_eq_getElem h]; rfl
theorem dropP_cons (l : List PR) (i : Nat) (h : i < l.length) : l.drop i = l.getD i ([], []) :: l.drop (i + 1) := by
  rw [List.drop_eq_getElem_cons h, List.getD_eq_getElem?_getD, List.getElem?_eq_getElem h]; rfl
theorem may_loop (rs : List PR) (hr : rs.length ≤ 1000000000) : ∀ n i : Nat, rs.length - i = n → i ≤ rs.length →
    Ev (fun k => dn_May.l0 k (rs.map toS) (rs.map toS) (rs.length : Int) (i : Int)) ((rs.drop i).all okR && decide (rs.length ≤ 8)) := by
  intro n
  induction n with
  | zero =>
    intro i hn hi
    refine Ev.step (fun k => by rw [dn_May.l0]) (Ev.ifn (by omega) (Ev.const fun k => ?_))
    rw [List.drop_eq_nil_of_le (by omega), List.length_map]
    simp only [List.all_nil, Bool.true_and]
    congr 1
    exact decide_eq_decide.2 (by omega)
  | succ n ih =>
    intro i hn hi
    refine Ev.step (fun k => by rw [dn_May.l0]) (Ev.ifp (by omega) (Ev.ifp (by omega) (Ev.ifp (by rw [List.length_map]; omega) ?_)))
    rw [rd_map rs i (by omega), dropP_cons rs i (by omega)]
    generalize rs.getD i ([], []) = p
    unfold dn_typed.f
    refine Ev.bs ?_
    show Ev (fun k => if typedL p.1 = true then (if (mk p.2).toList = [] then some false else (if ((mk p.2).size : Int) > 100 then some false else _)) else some false) _
    rw [List.all_cons]
    by_cases h1 : typedL p.1 = true
    · refine Ev.ifp h1 ?_
      rw [mk_toList, mk_size]
      by_cases h2 : p.2 = []
      · refine Ev.ifp h2 (Ev.const fun k => ?_)
        unfold okR okV; rw [h2]; simp
      refine Ev.ifn h2 ?_
      by_cases h3 : (p.2.length : Int) > 100
      · refine Ev.ifp h3 (Ev.const fun k => ?_)
        unfold okR okV; rw [decide_eq_false (show ¬ p.2.length ≤ 100 by omega)]; simp
      refine Ev.ifn h3 ?_
      have hp : okR p = true := by unfold okR okV; rw [h1, decide_eq_true (by omega)]; simp [List.isEmpty_iff, h2]
      rw [hp, Bool.true_and, wrap_small _ (by omega) (by omega), show (i : Int) + 1 = ((i + 1 : Nat) : Int) by omega]
      exact ih (i + 1) (by omega) (by omega)
    · refine Ev.ifn h1 (Ev.const fun k => ?_)
      unfold okR; rw [Bool.eq_false_iff.2 h1]; simp
theorem may_ev (rs : List PR) (hr : rs.length ≤ 1000000000) : Ev (fun k => dn_May.f k (rs.map toS)) (mayL rs) := by
  have h := may_loop rs hr rs.length 0 (by omega) (by omega)
  unfold dn_May.f
  rw [List.length_map]
  exact h
theorem valG_len : ∀ (n : Nat) (l : List UInt8) (f sp : Bool) (v r : List UInt8), l.length = n → valG f sp l = some (v, r) → v.length + r.length ≤ l.length ∧ (r = [] ∨ ∃ r', r = 44 :: r') := by
  intro n
  induction n using Nat.strongRecOn with
  | _ n ih =>
    intro l f sp v r hn h
    cases l with
    | nil =>
      rw [valG] at h
      split at h
      · cases h
      · obtain ⟨rfl, rfl⟩ := Prod.mk.inj (Option.some.inj h)
        exact ⟨Nat.le_refl _, Or.inl rfl⟩
    | cons c l =>
      rw [List.length_cons] at hn
      rw [valG] at h
      by_cases h44 : c = 44
      · rw [if_pos h44] at h
        split at h
        · cases h
        · obtain ⟨rfl, rfl⟩ := Prod.mk.inj (Option.some.inj h)
          exact ⟨by simp, Or.inr ⟨l, by rw [h44]⟩⟩
      rw [if_neg h44] at h
      by_cases h92 : c = 92
      · rw [if_pos h92] at h
        cases hx : escN l with
        | none => rw [hx] at h; cases h
        | some q =>
          obtain ⟨b, m⟩ := q
          rw [hx] at h
          obtain ⟨⟨v', r'⟩, h1, h2⟩ := Option.map_eq_some_iff.1 h
          obtain ⟨rfl, rfl⟩ := Prod.mk.inj h2
          obtain ⟨e1, e2⟩ := escN_len _ _ _ hx
          have := ih _ (by rw [List.length_drop]; omega) (l.drop m) _ _ _ _ rfl h1
          rw [List.length_drop] at this
          simp only [List.length_cons]
          exact ⟨by omega, this.2⟩
      · rw [if_neg h92] at h
        split at h
        · cases h
        · obtain ⟨⟨v', r'⟩, h1, h2⟩ := Option.map_eq_some_iff.1 h
          obtain ⟨rfl, rfl⟩ := Prod.mk.inj h2
          have := ih l.length (by omega) l _ _ _ _ rfl h1
          simp only [List.length_cons]
          exact ⟨by omega, this.2⟩
theorem bne_nil (l : List UInt8) : ((mk l).toList != []) = !decide (l = []) := by
  rw [mk_toList]
  cases l <;> rfl
def parseEnd (x : Option (List PR)) : List S53 × Bool := match x with | some rs => (rs.map toS, true) | none => ([], false)
def parseGo (acc : List PR) (m : Nat) (l : List UInt8) : Option (List PR) := (parseN m l).bind fun rs => if (acc ++ rs).all okV = true then some (acc ++ rs) else none
theorem parse_stop (acc : List PR) (ht : acc.all (fun p => typedL p.1) = true) (hl : acc.length ≤ 8) (s : ByteArray) :
    Ev (fun k => dn_Parse.l0 k s (acc.map toS) false) (parseEnd (if acc.all okV = true then some acc else none)) := by
  refine Ev.step (fun k => by rw [dn_Parse.l0]) (Ev.ifn Bool.false_ne_true ((may_ev acc (by omega)).bind (Ev.const fun k => ?_)))
  have e : mayL acc = acc.all okV := by
    unfold mayL
    rw [decide_eq_true hl, Bool.and_true]
    clear hl
    induction acc with
    | nil => rfl
    | cons a r ih =>
      rw [List.all_cons, Bool.and_eq_true] at ht
      rw [List.all_cons, List.all_cons, ih ht.2]
      unfold okR; rw [ht.1, Bool.true_and]
  rw [e]
  split <;> rfl
theorem parse_loop : ∀ (m : Nat) (acc : List PR), 8 - acc.length = m → acc.length ≤ 8 → acc.all (fun p => typedL p.1) = true → ∀ l : List UInt8, l.length ≤ 2147483648 →
    Ev (fun k => dn_Parse.l0 k (mk l) (acc.map toS) true) (parseEnd (parseGo acc m l)) := by
  intro m
  induction m with
  | zero =>
    intro acc hm ha ht l hl
    have e : parseGo acc 0 l = none := rfl
    rw [e]
    have j : ∀ (t v : ByteArray), Ev (fun k => dn_Parse.j1 k (acc.map toS) t v true) (([] : List S53), false) := fun t v => Ev.step (fun k => by rw [dn_Parse.j1]) (Ev.ifp rfl (Ev.now _))
    refine Ev.step (fun k => by rw [dn_Parse.l0]) (Ev.ifp rfl ?_)
    unfold strings_Cut.f
    rw [mk_size, if_pos (by omega), mk_data, show (⟨#[61]⟩ : ByteArray).data.toList = [61] from rfl, cut_eq]
    cases hc : cutEq l with
    | none => exact Ev.bs (Ev.ifn Bool.false_ne_true (j _ _))
    | some p =>
      obtain ⟨a, b⟩ := p
      refine Ev.bs (Ev.ifp rfl ?_)
      unfold dn_typed.f
      refine Ev.bs ?_
      rw [List.length_map, show (((acc.length : Int)) == 8) = true from beq_iff_eq.2 (by omega)]
      by_cases h : typedL a = true
      · exact Ev.ifp h (j _ _)
      · exact Ev.ifn h (j _ _)
  | succ m ih =>
    intro acc hm ha ht l hl
    have j : ∀ (t v : ByteArray), Ev (fun k => dn_Parse.j1 k (acc.map toS) t v true) (([] : List S53), false) := fun t v => Ev.step (fun k => by rw [dn_Parse.j1]) (Ev.ifp rfl (Ev.now _))
    refine Ev.step (fun k => by rw [dn_Parse.l0]) (Ev.ifp rfl ?_)
    unfold strings_Cut.f
    rw [mk_size, if_pos (by omega), mk_data, show (⟨#[61]⟩ : ByteArray).data.toList = [61] from rfl, cut_eq]
    unfold parseGo parseN
    cases hc : cutEq l with
    | none => exact Ev.bs (Ev.ifn Bool.false_ne_true (j _ _))
    | some p =>
      obtain ⟨a, b⟩ := p
      have hlen := congrArg List.length (cutEq_len _ _ _ hc)
      rw [List.length_append, List.length_cons] at hlen
      refine Ev.bs (Ev.ifp rfl ?_)
      unfold dn_typed.f
      refine Ev.bs ?_
      rw [List.length_map, show (((acc.length : Int)) == 8) = false from beq_eq_false_iff_ne.2 (by omega)]
      by_cases h : typedL a = true
      · simp only [if_pos h]
        refine Ev.step (fun k => by rw [dn_Parse.j1]) (Ev.ifn Bool.false_ne_true ?_)
        obtain ⟨p, hp, hv⟩ := value_ev (mk b) (by rw [mk_size]; omega)
        rw [mk_data] at hv
        refine hp.bind ?_
        cases hx : valG true false b with
        | none =>
          rw [hx] at hv
          exact Ev.ifn (by rw [show p.2.2 = false from hv]; exact Bool.false_ne_true) (Ev.now _)
        | some q =>
          obtain ⟨v, r⟩ := q
          rw [hx] at hv
          rw [show p = (mk v, mk r, true) from hv]
          have hvl := valG_len _ _ _ _ _ _ rfl hx
          have ht' : (acc ++ [(a, v)]).all (fun p => typedL p.1) = true := by rw [List.all_append, ht]; simp [h]
          have hm' : (acc.map toS ++ [(⟨mk a, mk v⟩ : S53)]) = (acc ++ [(a, v)]).map toS := by rw [List.map_append]; rfl
          refine Ev.ifp rfl (Ev.ifp (by rw [List.length_map]; omega) (Ev.bs ?_))
          show Ev (fun k => if (mk r).toList = [] then dn_Parse.l0 k (mk r) (acc.map toS ++ [(⟨mk a, mk v⟩ : S53)]) ((mk r).toList != []) else _) _
          rw [hm', bne_nil, mk_toList]
          cases r with
          | nil =>
            refine Ev.ifp rfl ?_
            exact parse_stop (acc ++ [(a, v)]) ht' (by rw [List.length_append, List.length_singleton]; omega) _
          | cons c r =>
            refine Ev.ifn (by simp) (Ev.ifp (by rw [mk_size]; simp only [List.length_cons]; omega) ?_)
            rw [extract_tail, mk_data, List.drop_succ_cons, List.drop_zero]
            have hi := ih (acc ++ [(a, v)]) (by rw [List.length_append, List.length_singleton]; omega) (by rw [List.length_append, List.length_singleton]; omega) ht' r (by simp only [List.length_cons] at hvl; omega)
            have e : parseGo (acc ++ [(a, v)]) m r = ((parseN m r).map fun y => (a, v) :: y).bind fun rs => if (acc ++ rs).all okV = true then some (acc ++ rs) else none := by
              unfold parseGo
              cases parseN m r with
              | none => rfl
              | some y => simp only [Option.bind_some, Option.map_some, List.append_assoc, List.singleton_append]
            rw [e] at hi
            exact hi
      · simp only [if_neg h]
        exact j _ _
theorem parse_ev (s : ByteArray) (hs : s.size ≤ 2147483648) : Ev (fun k => dn_Parse.f k s) (parseEnd (parseL s.data.toList)) := by
  rw [← mk_of s]
  rw [size_len] at hs
  generalize s.data.toList = l at hs
  unfold dn_Parse.f parseL
  rw [bne_nil]
  by_cases h : l = []
  · rw [if_pos h, decide_eq_true h]
    exact parse_stop [] rfl (by decide) _
  · rw [if_neg h, decide_eq_false h]
    have := parse_loop 8 [] rfl (by decide) rfl l hs
    unfold parseGo at this
    simp only [List.nil_append] at this
    exact this
end Go.Proofs.YthfpaoacjpjnfaaDoor.P


namespace Go.Proofs.YthfpaoacjpjnfaaDoor.P
open Go.RowKit Go.Proofs.YthfpaoacjpjnfaaDoorW.PrintWords Go.Proofs.YthfpaoacjpjnfaaDoorW.PrintLast Go.Proofs.YthfpaoacjpjnfaaDoorW.PrintMore
set_option linter.unusedVariables false
set_option linter.unusedSimpArgs false
def escF (first : Bool) : List UInt8 → List UInt8
  | [] => []
  | c :: r => (if oddB c = true then [92, hexD (c >>> 4), hexD (c &&& 15)] else if (specialB c || (first && (decide (c = 35) || decide (c = 32))) || (decide (r = []) && decide (c = 32))) = true then [92, c] else [c]) ++ escF false r
theorem escTo_F (l : List UInt8) : ∀ i, i ≤ l.length → escTo l i ++ escF (decide (i = 0)) (l.drop i) = escF true l
  | 0, _ => by
    show escTo l 0 ++ escF true (l.drop 0) = escF true l
    rfl
  | i + 1, h => by
    have ih := escTo_F l i (by omega)
    rw [drop_cons l i (by omega), escF] at ih
    rw [escTo_succ, show decide (i + 1 = 0) = false from decide_eq_false (by omega), List.append_assoc, ← ih]
    congr 2
    unfold escB backB
    have e : decide (l.drop (i + 1) = []) = decide (i + 1 = l.length) := decide_eq_decide.2 (by rw [List.drop_eq_nil_iff]; omega)
    rw [e]
theorem escV_F (l : List UInt8) : escV l = escF true l := by
  have h := escTo_F l l.length (Nat.le_refl _)
  rw [List.drop_length] at h
  simp only [escF, List.append_nil] at h
  exact h
def textR (first : Bool) : List PR → List UInt8
  | [] => []
  | p :: r => (if first = true then [] else [44]) ++ (p.1 ++ [61] ++ escF true p.2) ++ textR false r
theorem textTo_R (rs : List PR) : ∀ i, i ≤ rs.length → textTo (rs.map toS) i ++ textR (decide (i = 0)) (rs.drop i) = textR true rs
  | 0, _ => by
    show textTo (rs.map toS) 0 ++ textR true (rs.drop 0) = textR true rs
    rfl
  | i + 1, h => by
    have ih := textTo_R rs i (by omega)
    rw [dropP_cons rs i (by omega), textR] at ih
    rw [textTo_succ, show decide (i + 1 = 0) = false from decide_eq_false (by omega), List.append_assoc, ← ih, List.append_assoc]
    have e : ((rs.map toS).getD i z53) = toS (rs.getD i ([], [])) := by
      rw [List.getD_eq_getElem?_getD, List.getElem?_map, List.getElem?_eq_getElem (by omega), List.getD_eq_getElem?_getD, List.getElem?_eq_getElem (by omega)]; rfl
    rw [e]
    unfold sepB rdnB toS
    rw [mk_data, mk_data, escV_F]
    by_cases h0 : i = 0
    · rw [if_pos h0, decide_eq_true h0, if_pos rfl]
      simp only [List.append_assoc]
    · rw [if_neg h0, decide_eq_false h0, if_neg Bool.false_ne_true]
      simp only [List.append_assoc]
theorem textL_R (rs : List PR) : textL (rs.map toS) = textR true rs := by
  have h := textTo_R rs rs.length (Nat.le_refl _)
  rw [List.drop_length] at h
  unfold textL
  rw [List.length_map]
  simp only [textR, List.append_nil] at h
  exact h
theorem parseN_ok : ∀ (m : Nat) (l : List UInt8) (rs : List PR), parseN m l = some rs → rs.length ≤ m ∧ rs ≠ [] ∧ rs.all (fun p => typedL p.1) = true
  | 0, l, rs, h => by cases h
  | m + 1, l, rs, h => by
    unfold parseN at h
    cases hc : cutEq l with
    | none => rw [hc] at h; cases h
    | some p =>
      obtain ⟨a, b⟩ := p
      rw [hc] at h
      simp only at h
      by_cases ht : typedL a = true
      · rw [if_pos ht] at h
        cases hx : valG true false b with
        | none => rw [hx] at h; cases h
        | some q =>
          obtain ⟨v, r⟩ := q
          rw [hx] at h
          cases r with
          | nil =>
            obtain rfl := Option.some.inj h
            exact ⟨by simp, by simp, by simp [ht]⟩
          | cons c r =>
            obtain ⟨y, h1, rfl⟩ := Option.map_eq_some_iff.1 h
            obtain ⟨i1, i2, i3⟩ := parseN_ok m r y h1
            exact ⟨by simp only [List.length_cons]; omega, by simp, by rw [List.all_cons, i3]; simp [ht]⟩
      · rw [if_neg ht] at h; cases h
theorem parse_may {l : List UInt8} {rs : List PR} (h : parseL l = some rs) : mayL rs = true := by
  unfold parseL at h
  by_cases h0 : l = []
  · rw [if_pos h0] at h
    obtain rfl := Option.some.inj h
    decide
  · rw [if_neg h0] at h
    obtain ⟨y, h1, h2⟩ := Option.bind_eq_some_iff.1 h
    by_cases ho : y.all okV = true
    · rw [if_pos ho] at h2
      obtain rfl := Option.some.inj h2
      obtain ⟨i1, i2, i3⟩ := parseN_ok _ _ _ h1
      unfold mayL
      rw [decide_eq_true i1, Bool.and_true]
      refine List.all_eq_true.2 fun p hp => ?_
      unfold okR
      rw [List.all_eq_true.1 i3 p hp, List.all_eq_true.1 ho p hp]; rfl
    · rw [if_neg ho] at h2; cases h2
def normR (p : PR) : PR := (p.1.map lowB, foldL p.2)
def keyR (rs : List PR) : Option (List UInt8) := if rs.all (fun p => !(foldL p.2).isEmpty) = true then some (textR true (rs.map normR)) else none
def keyL (l : List UInt8) : Option (List UInt8) := (parseL l).bind keyR
theorem escF_len (f : Bool) : ∀ v : List UInt8, (escF f v).length ≤ 3 * v.length := by
  intro v
  induction v generalizing f with
  | nil => exact Nat.zero_le _
  | cons c r ih =>
    unfold escF
    rw [List.length_append, List.length_cons]
    have := ih false
    split
    · simp only [List.length_cons, List.length_nil]; omega
    · split <;> (simp only [List.length_cons, List.length_nil]; omega)
theorem foldL_len (l : List UInt8) : (foldL l).length ≤ l.length := by
  unfold foldL
  have h := sq_take_len ((Lib.trimB l 32).map lowB) _ (Nat.le_refl _)
  rw [List.take_length, List.length_map] at h
  exact Nat.le_trans h (trimB_len l)
theorem textR_len (n : Nat) : ∀ (rs : List PR) (f : Bool), (∀ p ∈ rs, p.1.length ≤ 30 ∧ p.2.length ≤ n) → (textR f rs).length ≤ rs.length * (32 + 3 * n)
  | [], _, _ => Nat.zero_le _
  | p :: r, f, h => by
    have ih := textR_len n r false (fun q hq => h q (List.mem_cons_of_mem _ hq))
    have hp := h p (List.mem_cons_self)
    have he := escF_len true p.2
    unfold textR
    simp only [List.length_append, List.length_cons, List.length_nil]
    rw [Nat.add_mul]
    have : (if f = true then ([] : List UInt8) else [44]).length ≤ 1 := by split <;> simp
    omega
theorem key_loop (rs : List PR) (hr : mayL rs = true) : ∀ n i : Nat, rs.length - i = n → i ≤ rs.length → (rs.take i).all (fun p => !(foldL p.2).isEmpty) = true →
    Ev (fun k => dn_Key.l0 k (((rs.take i).map normR ++ rs.drop i).map toS) (rs.length : Int) (i : Int)) (encO (keyR rs)) := by
  have hm := hr
  unfold mayL at hm
  rw [Bool.and_eq_true, decide_eq_true_eq] at hm
  have hb : ∀ p ∈ rs, p.1.length ≤ 30 ∧ p.2.length ≤ 100 := by
    intro p hp
    have := List.all_eq_true.1 hm.1 p hp
    unfold okR okV typedL at this
    simp only [Bool.and_eq_true, decide_eq_true_eq] at this
    exact ⟨this.1.1.1.2, this.2.2⟩
  intro n
  induction n with
  | zero =>
    intro i hn hi hall
    have e : i = rs.length := by omega
    subst e
    rw [List.take_length] at hall
    rw [List.take_length, List.drop_length, List.append_nil]
    have ek : keyR rs = some (textR true (rs.map normR)) := by unfold keyR; rw [if_pos hall]
    rw [ek]
    refine Ev.step (fun k => by rw [dn_Key.l0]) (Ev.ifn (by omega) ?_)
    unfold dn_Text.f
    rw [textL_R]
    have hl := textR_len 100 (rs.map normR) true (fun q hq => by
      obtain ⟨p, hp, rfl⟩ := List.mem_map.1 hq
      have := hb p hp
      unfold normR
      have h2 := foldL_len p.2
      simp only [List.length_map]
      omega)
    rw [List.length_map] at hl
    rw [if_pos (by omega)]
    exact Ev.const fun k => rfl
  | succ n ih =>
    intro i hn hi hall
    have hget : (((rs.take i).map normR ++ rs.drop i).getD i ([], [])) = rs.getD i ([], []) := by
      rw [List.getD_eq_getElem?_getD, List.getElem?_append_right (by rw [List.length_map, List.length_take]; omega), List.length_map, List.length_take, Nat.min_eq_left hi, Nat.sub_self, List.getElem?_drop, Nat.add_zero, ← List.getD_eq_getElem?_getD]
    have hlen : ((rs.take i).map normR ++ rs.drop i).length = rs.length := by
      rw [List.length_append, List.length_map, List.length_take, List.length_drop]; omega
    refine Ev.step (fun k => by rw [dn_Key.l0]) (Ev.ifp (by omega) (Ev.ifp (by omega) (Ev.ifp (by rw [List.length_map, hlen]; omega) ?_)))
    rw [rd_map _ i (by omega), hget]
    generalize hp : rs.getD i ([], []) = p
    have hpm : p ∈ rs := by
      rw [← hp, List.getD_eq_getElem?_getD, List.getElem?_eq_getElem (by omega)]
      exact List.getElem_mem _
    have hbp := hb p hpm
    have e1 : dn_lowered.f (toS p).f0 = some (mk (p.1.map lowB)) := by
      unfold dn_lowered.f toS
      rw [mk_size, if_pos (by omega)]
      congr 1
      apply ba_ext
      rw [lowS_data, mk_data, mk_data]
    have e2 : dn_Fold.f (toS p).f1 = some (mk (foldL p.2)) := by
      unfold dn_Fold.f toS
      rw [mk_size, if_pos (by omega), mk_data]
    rw [e1, e2]
    refine Ev.bs (Ev.bs (Ev.bs ?_))
    rw [mk_toList]
    by_cases hf : foldL p.2 = []
    · refine Ev.ifp hf ?_
      have ek : keyR rs = none := by
        unfold keyR
        rw [if_neg]
        intro h
        have := List.all_eq_true.1 h p hpm
        rw [hf] at this
        exact absurd this (by decide)
      rw [ek]
      exact Ev.now _
    · refine Ev.ifn hf ?_
      have hset : ((((rs.take i).map normR ++ rs.drop i).map toS).set (i : Int).toNat (⟨mk (p.1.map lowB), (toS p).f1⟩ : S53)).set (i : Int).toNat (⟨(rd_T53 ((((rs.take i).map normR ++ rs.drop i).map toS).set (i : Int).toNat (⟨mk (p.1.map lowB), (toS p).f1⟩ : S53)) (i : Int)).f0, mk (foldL p.2)⟩ : S53) = (((rs.take (i + 1)).map normR ++ rs.drop (i + 1)).map toS) := by
        rw [Int.toNat_natCast, List.set_set]
        have er : (rd_T53 ((((rs.take i).map normR ++ rs.drop i).map toS).set i (⟨mk (p.1.map lowB), (toS p).f1⟩ : S53)) (i : Int)).f0 = mk (p.1.map lowB) := by
          unfold rd_T53
          rw [Int.toNat_natCast, List.getD_eq_getElem?_getD, List.getElem?_set_self (by rw [List.length_map, hlen]; omega)]; rfl
        rw [er, dropP_cons rs i (by omega), hp, List.take_succ_eq_append_getElem (by omega), List.map_append, List.map_append, List.map_append, List.map_append, List.map_cons]
        have eg : rs[i]'(by omega) = p := by rw [← hp, List.getD_eq_getElem?_getD, List.getElem?_eq_getElem (by omega)]; rfl
        rw [eg, List.set_append_right _ _ (by rw [List.length_map, List.length_map, List.length_take]; omega)]
        rw [show i - ((rs.take i).map normR |>.map toS).length = 0 by rw [List.length_map, List.length_map, List.length_take]; omega]
        rw [List.set_cons_zero, List.append_assoc]
        rfl
      rw [hset, wrap_small _ (by omega) (by omega), show (i : Int) + 1 = ((i + 1 : Nat) : Int) by omega]
      refine ih (i + 1) (by omega) (by omega) ?_
      rw [List.take_succ_eq_append_getElem (by omega), List.all_append, hall]
      have eg : rs[i]'(by omega) = p := by rw [← hp, List.getD_eq_getElem?_getD, List.getElem?_eq_getElem (by omega)]; rfl
      rw [eg]
      simp [List.isEmpty_iff, hf]
theorem key_ev (s : ByteArray) (hs : s.size ≤ 2147483648) : Ev (fun k => dn_Key.f k s) (encO (keyL s.data.toList)) := by
  unfold dn_Key.f keyL
  refine (parse_ev s hs).bind ?_
  cases h : parseL s.data.toList with
  | none => exact Ev.ifn Bool.false_ne_true (Ev.now _)
  | some rs =>
    refine Ev.ifp rfl ?_
    have := key_loop rs (parse_may h) rs.length 0 (by omega) (by omega) (by rfl)
    show Ev (fun k => dn_Key.l0 k (rs.map toS) ((rs.map toS).length : Int) 0) (encO (keyR rs))
    rw [List.length_map]
    exact this
end Go.Proofs.YthfpaoacjpjnfaaDoor.P


namespace Go.Proofs.YthfpaoacjpjnfaaDoor.P
open Go.RowKit Go.Proofs.YthfpaoacjpjnfaaDoorW.PrintWords Go.Proofs.YthfpaoacjpjnfaaDoorW.PrintLast Go.Proofs.YthfpaoacjpjnfaaDoorW.PrintMore
set_option linter.unusedVariables false
set_option linter.unusedSimpArgs false
def sqR (b : Bool) : List UInt8 → List UInt8
  | [] => []
  | c :: r => if c = 32 ∧ b = true then sqR true r else c :: sqR (decide (c = 32)) r
theorem foldl_sq : ∀ (l acc : List UInt8), l.foldl sqStep acc = acc ++ sqR (decide (acc.getLast? = some 32)) l
  | [], acc => by simp [sqR]
  | c :: r, acc => by
    rw [List.foldl_cons, foldl_sq r]
    unfold sqStep
    conv => rhs; rw [sqR]
    by_cases h : c = 32 ∧ acc.getLast? = some 32
    · rw [if_pos h, if_pos ⟨h.1, decide_eq_true h.2⟩, decide_eq_true h.2]
    · rw [if_neg h, if_neg (fun e => h ⟨e.1, of_decide_eq_true e.2⟩), List.append_assoc]
      have : (decide ((acc ++ [c]).getLast? = some 32)) = decide (c = 32) := decide_eq_decide.2 (by simp)
      rw [this]; rfl
theorem sq_R (l : List UInt8) : sq l = sqR false l := by
  unfold sq
  rw [foldl_sq]; rfl
theorem sqR_last : ∀ (l : List UInt8) (b : Bool), l ≠ [] → l.getLast? ≠ some 32 → (sqR b l).getLast? = l.getLast? ∧ sqR b l ≠ []
  | [], b, h, _ => absurd rfl h
  | [c], b, _, h => by
    have hc : c ≠ 32 := fun e => h (by rw [e]; rfl)
    rw [sqR, if_neg (fun x => hc x.1)]
    exact ⟨rfl, by simp⟩
  | c :: d :: r, b, _, h => by
    have h' : (d :: r).getLast? ≠ some 32 := by rw [List.getLast?_cons_cons] at h; exact h
    rw [sqR]
    by_cases hx : c = 32 ∧ b = true
    · rw [if_pos hx, List.getLast?_cons_cons]
      exact sqR_last (d :: r) true (by simp) h'
    · rw [if_neg hx, List.getLast?_cons_cons]
      obtain ⟨h1, h2⟩ := sqR_last (d :: r) (decide (c = 32)) (by simp) h'
      refine ⟨?_, by simp⟩
      rw [← h1]
      cases hs : sqR (decide (c = 32)) (d :: r) with
      | nil => exact absurd hs h2
      | cons x y => rw [List.getLast?_cons_cons]
theorem dropW_id (l : List UInt8) (h : l.head? ≠ some 32) : l.dropWhile (· == 32) = l := by
  cases l with
  | nil => rfl
  | cons c r =>
    rw [List.dropWhile_cons, if_neg]
    intro e
    exact h (by rw [beq_iff_eq.1 e]; rfl)
theorem trim_id (l : List UInt8) (h1 : l.head? ≠ some 32) (h2 : l.getLast? ≠ some 32) : Lib.trimB l 32 = l := by
  unfold Lib.trimB Lib.trimLeftB Lib.trimRightB
  rw [dropW_id l.reverse (by rw [List.head?_reverse]; exact h2), List.reverse_reverse, dropW_id l h1]
theorem foldL_R (l : List UInt8) : foldL l = sqR false ((Lib.trimB l 32).map lowB) := sq_R _
theorem low_ends (l : List UInt8) (h1 : l.head? ≠ some 32) (h2 : l.getLast? ≠ some 32) : (l.map lowB).head? ≠ some 32 ∧ (l.map lowB).getLast? ≠ some 32 := by
  constructor
  · intro e
    rw [List.head?_map, Option.map_eq_some_iff] at e
    obtain ⟨c, hc, e⟩ := e
    exact h1 (by rw [hc, (lowB_blank c).1 e])
  · intro e
    rw [List.getLast?_map, Option.map_eq_some_iff] at e
    obtain ⟨c, hc, e⟩ := e
    exact h2 (by rw [hc, (lowB_blank c).1 e])
def normL (t v : List UInt8) : Option (List UInt8) := normO (keyL v) t v
theorem norm_all (t v : ByteArray) (ht : t.size ≤ 9223372036854775807) : Ev (fun k => match_Norm.f k t v) (encO (normL t.data.toList v.data.toList)) :=
  norm_ev t v _ ht (fun hv _ => key_ev v (by omega))
end Go.Proofs.YthfpaoacjpjnfaaDoor.P


namespace Go.Proofs.YthfpaoacjpjnfaaDoor.P
open Go.RowKit Go.Proofs.YthfpaoacjpjnfaaDoorW.PrintWords Go.Proofs.YthfpaoacjpjnfaaDoorW.PrintLast Go.Proofs.YthfpaoacjpjnfaaDoorW.PrintMore
set_option linter.unusedVariables false
set_option linter.unusedSimpArgs false
def upB (c : UInt8) : UInt8 := if 97 ≤ c ∧ c ≤ 122 then c - 32 else c
theorem low_up (c : UInt8) : lowB (upB c) = lowB c := byteAll (p := fun c => lowB (upB c) = lowB c) (by decide +kernel) c
theorem low_ups (l : List UInt8) : (l.map upB).map lowB = l.map lowB := by
  rw [List.map_map]
  exact List.map_congr_left fun c _ => low_up c
theorem dropW_rep (n : Nat) (l : List UInt8) : (List.replicate n 32 ++ l).dropWhile (· == 32) = l.dropWhile (· == 32) := by
  induction n with
  | zero => rfl
  | succ n ih => rw [List.replicate_succ, List.cons_append, List.dropWhile_cons, if_pos (by decide), ih]
theorem trim_rep (n m : Nat) (l : List UInt8) (h1 : l.head? ≠ some 32) (h2 : l.getLast? ≠ some 32) : Lib.trimB (List.replicate n 32 ++ l ++ List.replicate m 32) 32 = l := by
  unfold Lib.trimB Lib.trimLeftB Lib.trimRightB
  rw [List.reverse_append, List.reverse_replicate, dropW_rep, List.reverse_append, List.reverse_replicate]
  by_cases hl : l = []
  · subst hl
    have e := dropW_rep n []
    rw [List.append_nil] at e
    rw [List.reverse_nil, List.nil_append, e]
    rfl
  · have hr : (l.reverse ++ List.replicate n 32).dropWhile (· == 32) = l.reverse ++ List.replicate n 32 := dropW_id _ (by
      rw [List.head?_append, List.head?_reverse]
      cases h : l.getLast? with
      | none => exact absurd (List.getLast?_eq_none_iff.1 h) hl
      | some x => rw [h] at h2; exact h2)
    rw [hr, List.reverse_append, List.reverse_reverse, List.reverse_replicate, dropW_rep, dropW_id l h1]
theorem sqStep_twice (s : List UInt8) : sqStep (sqStep s 32) 32 = sqStep s 32 := by
  have h : (sqStep s 32).getLast? = some 32 := by
    unfold sqStep
    split
    · rename_i h; exact h.2
    · simp
  have e : ∀ q : List UInt8, q.getLast? = some 32 → sqStep q 32 = q := by
    intro q hq
    unfold sqStep
    rw [if_pos ⟨rfl, hq⟩]
  exact e _ h
theorem fold_rep (s : List UInt8) : ∀ n, (List.replicate (n + 1) 32).foldl sqStep s = sqStep s 32
  | 0 => rfl
  | n + 1 => by
    rw [List.replicate_succ, List.foldl_cons, fold_rep (sqStep s 32) n, sqStep_twice]
theorem low_rep (n : Nat) : (List.replicate n (32 : UInt8)).map lowB = List.replicate n 32 := by
  rw [List.map_replicate]; rfl
theorem sq_run (A R : List UInt8) (n : Nat) : sq (A ++ List.replicate (n + 1) 32 ++ R) = sq (A ++ [32] ++ R) := by
  unfold sq
  rw [List.foldl_append, List.foldl_append, List.foldl_append, List.foldl_append, fold_rep]
  rfl
def xy (s : List UInt8) : List UInt8 := 120 :: s ++ [121]
def xyU (s : List UInt8) : List UInt8 := 88 :: s.map upB ++ [89]
theorem xy_up (s : List UInt8) : (xy s).map upB = xyU s := by simp [xy, xyU]; decide
theorem xyU_low (s : List UInt8) : (xyU s).map lowB = (xy s).map lowB := by rw [← xy_up, low_ups]
theorem xy_head (s : List UInt8) : (xy s).head? ≠ some 32 := by show some (120 : UInt8) ≠ some 32; decide
theorem xyU_head (s : List UInt8) : (xyU s).head? ≠ some 32 := by show some (88 : UInt8) ≠ some 32; decide
theorem xy_last (s : List UInt8) : (xy s).getLast? ≠ some 32 := by unfold xy; rw [List.getLast?_concat]; decide
theorem xyU_last (s : List UInt8) : (xyU s).getLast? ≠ some 32 := by unfold xyU; rw [List.getLast?_concat]; decide
theorem fold_xy (s : List UInt8) (n : Nat) : foldL (List.replicate n 32 ++ xyU s ++ List.replicate n 32) = foldL (xy s) := by
  unfold foldL
  rw [trim_rep n n _ (xyU_head s) (xyU_last s), trim_id _ (xy_head s) (xy_last s), xyU_low]
theorem fold_xy_ne (s : List UInt8) : foldL (xy s) ≠ [] := by
  rw [foldL_R, trim_id _ (xy_head s) (xy_last s)]
  exact (sqR_last _ false (by simp [xy]) (low_ends _ (xy_head s) (xy_last s)).2).2
theorem last_two (a b : UInt8) (l : List UInt8) : (l ++ [a, b]).getLast? = some b := by rw [show l ++ [a, b] = (l ++ [a]) ++ [b] by simp, List.getLast?_concat]
theorem fold_z (s : List UInt8) (n : Nat) : foldL ((List.replicate n 32 ++ xyU s ++ List.replicate n 32) ++ [32, 32, 90]) = foldL (xy s ++ [32, 122]) := by
  unfold foldL
  have e1 : (List.replicate n 32 ++ xyU s ++ List.replicate n 32) ++ [32, 32, 90] = List.replicate n 32 ++ (xyU s ++ List.replicate (n + 2) 32 ++ [90]) ++ List.replicate 0 32 := by
    have : (List.replicate (n + 2) (32 : UInt8)) = List.replicate n 32 ++ [32, 32] := by rw [← List.replicate_append_replicate]; rfl
    rw [this]; simp
  have h1 : (xyU s ++ List.replicate (n + 2) 32 ++ [90]).head? ≠ some 32 := by show some (88 : UInt8) ≠ some 32; decide
  have h2 : (xyU s ++ List.replicate (n + 2) 32 ++ [90]).getLast? ≠ some 32 := by rw [List.getLast?_concat]; decide
  have h3 : (xy s ++ [32, 122]).head? ≠ some 32 := by show some (120 : UInt8) ≠ some 32; decide
  have h4 : (xy s ++ [32, 122]).getLast? ≠ some 32 := by rw [last_two]; decide
  rw [e1, trim_rep n 0 _ h1 h2, trim_id _ h3 h4]
  simp only [List.map_append, xyU_low, low_rep]
  have e2 : [(90 : UInt8)].map lowB = [122] := by decide
  have e3 : [(32 : UInt8), 122].map lowB = [32, 122] := by decide
  rw [e2, e3, sq_run _ _ (n + 1)]
  simp
theorem fold_z_ne (s : List UInt8) : foldL (xy s ++ [32, 122]) ≠ [] := by
  have h3 : (xy s ++ [32, 122]).head? ≠ some 32 := by show some (120 : UInt8) ≠ some 32; decide
  have h4 : (xy s ++ [32, 122]).getLast? ≠ some 32 := by rw [last_two]; decide
  rw [foldL_R, trim_id _ h3 h4]
  exact (sqR_last _ false (by simp) (low_ends _ h3 h4).2).2
theorem norm_text {t v : List UInt8} (ht : ruleL t = 1) (hv : v ≠ []) (hl : v.length ≤ 100) (hf : foldL v ≠ []) : normL t v = some (foldL v) := by
  unfold normL normO
  rw [if_neg (by rw [not_or]; exact ⟨hv, by omega⟩), if_pos ht, if_neg hf]
theorem norm_bytes {t v : List UInt8} (ht : ruleL t = 4) (hv : v ≠ []) (hl : v.length ≤ 100) : normL t v = some v := by
  unfold normL normO
  rw [if_neg (by rw [not_or]; exact ⟨hv, by omega⟩), ht, if_neg (by decide), if_neg (by decide), if_neg (by decide), if_pos rfl]
theorem bytesLess_self : ∀ l : List UInt8, Op.bytesLess l l = false
  | [] => rfl
  | a :: r => by
    unfold Op.bytesLess
    rw [bytesLess_self r]
    simp
theorem sameO_eq (a b : List UInt8) : sameO (some a) (some b) = (a == b) := rfl
theorem cases_facts (t u : ByteArray) (s : List UInt8) (n : Nat) (hn : n ≤ 4) (hs : s.length ≤ 40) (ht : t.data.toList = xy s) (hu : u.data.toList = List.replicate n 32 ++ xyU s ++ List.replicate n 32) :
    ∃ K, match_Less.f K (⟨#[115, 110]⟩ : ByteArray) t u = some (false, true) ∧ match_Same.f K (⟨#[99, 110]⟩ : ByteArray) t u = some true ∧
      match_Same.f K (⟨#[109, 97, 105, 108]⟩ : ByteArray) (t ++ (⟨#[32, 122]⟩ : ByteArray)) (u ++ (⟨#[32, 32, 90]⟩ : ByteArray)) = some true ∧
      match_Same.f K (⟨#[117, 115, 101, 114, 80, 97, 115, 115, 119, 111, 114, 100]⟩ : ByteArray) t u = some (t.toList == u.toList) ∧ brooklaw3_awake.f K = some true := by
  have lt : (xy s).length ≤ 42 := by simp [xy]; omega
  have lu : (List.replicate n 32 ++ xyU s ++ List.replicate n 32).length ≤ 50 := by simp [xyU]; omega
  have nt : xy s ≠ [] := by simp [xy]
  have nu : List.replicate n 32 ++ xyU s ++ List.replicate n 32 ≠ [] := by simp [xyU]
  have sn : ruleL (⟨#[115, 110]⟩ : ByteArray).data.toList = 1 := by decide +kernel
  have cn : ruleL (⟨#[99, 110]⟩ : ByteArray).data.toList = 1 := by decide +kernel
  have ml : ruleL (⟨#[109, 97, 105, 108]⟩ : ByteArray).data.toList = 1 := by decide +kernel
  have pw : ruleL (⟨#[117, 115, 101, 114, 80, 97, 115, 115, 119, 111, 114, 100]⟩ : ByteArray).data.toList = 4 := by decide +kernel
  have tz : (t ++ (⟨#[32, 122]⟩ : ByteArray)).data.toList = xy s ++ [32, 122] := by rw [append_data, ht]
  have uz : (u ++ (⟨#[32, 32, 90]⟩ : ByteArray)).data.toList = (List.replicate n 32 ++ xyU s ++ List.replicate n 32) ++ [32, 32, 90] := by rw [append_data, hu]
  have a1 := norm_all (⟨#[115, 110]⟩ : ByteArray) t (by decide)
  have a2 := norm_all (⟨#[115, 110]⟩ : ByteArray) u (by decide)
  have b1 := norm_all (⟨#[99, 110]⟩ : ByteArray) t (by decide)
  have b2 := norm_all (⟨#[99, 110]⟩ : ByteArray) u (by decide)
  have c1 := norm_all (⟨#[109, 97, 105, 108]⟩ : ByteArray) (t ++ (⟨#[32, 122]⟩ : ByteArray)) (by decide)
  have c2 := norm_all (⟨#[109, 97, 105, 108]⟩ : ByteArray) (u ++ (⟨#[32, 32, 90]⟩ : ByteArray)) (by decide)
  have d1 := norm_all (⟨#[117, 115, 101, 114, 80, 97, 115, 115, 119, 111, 114, 100]⟩ : ByteArray) t (by decide)
  have d2 := norm_all (⟨#[117, 115, 101, 114, 80, 97, 115, 115, 119, 111, 114, 100]⟩ : ByteArray) u (by decide)
  rw [ht, norm_text sn nt (by omega) (fold_xy_ne s)] at a1
  rw [hu, norm_text sn nu (by omega) (by rw [fold_xy]; exact fold_xy_ne s), fold_xy] at a2
  rw [ht, norm_text cn nt (by omega) (fold_xy_ne s)] at b1
  rw [hu, norm_text cn nu (by omega) (by rw [fold_xy]; exact fold_xy_ne s), fold_xy] at b2
  rw [tz, norm_text ml (by simp) (by simp; omega) (fold_z_ne s)] at c1
  rw [uz, norm_text ml (by simp) (by simp at lu ⊢; omega) (by rw [fold_z]; exact fold_z_ne s), fold_z] at c2
  rw [ht, norm_bytes pw nt (by omega)] at d1
  rw [hu, norm_bytes pw nu (by omega)] at d2
  have hl := less_ev (p := (false, true)) (t := (⟨#[115, 110]⟩ : ByteArray)) (by decide) a1 a2 (by
    show lessBy (ruleL (⟨#[115, 110]⟩ : ByteArray).data.toList) (mk (foldL (xy s))) (mk (foldL (xy s))) = some (false, true)
    rw [sn]
    unfold lessBy
    rw [if_pos rfl, bytesLess_self])
  have hb := same_ev b1 b2
  have hc := same_ev c1 c2
  have hd := same_ev d1 d2
  rw [sameO_eq, beq_self_eq_true] at hb hc
  rw [sameO_eq] at hd
  obtain ⟨k1, e1⟩ := hl
  obtain ⟨k2, e2⟩ := hb
  obtain ⟨k3, e3⟩ := hc
  obtain ⟨k4, e4⟩ := hd
  obtain ⟨k5, e5⟩ := awake_ev
  refine ⟨k1 + k2 + k3 + k4 + k5, e1 _ (by omega), e2 _ (by omega), e3 _ (by omega), ?_, e5 _ (by omega)⟩
  rw [toList_data, toList_data, ht, hu]
  exact e4 _ (by omega)
def upI (c : Int) : Int := if 97 ≤ c ∧ c ≤ 122 then c - 32 else c
theorem upI_in {c : Int} (h1 : 97 ≤ c) (h2 : c ≤ 122) : upI c = c - 32 := by unfold upI; rw [if_pos ⟨h1, h2⟩]
theorem upI_out {c : Int} (h : ¬ (97 ≤ c ∧ c ≤ 122)) : upI c = c := by unfold upI; rw [if_neg h]
theorem upI_upB (c : UInt8) : upI (c.toNat : Int) = ((upB c).toNat : Int) := byteAll (p := fun c => upI (c.toNat : Int) = ((upB c).toNat : Int)) (by decide +kernel) c
def upsTo (s : ByteArray) (k : Nat) : Nat → Int := fun j => if j < k then upI ((s.data.toList.getD j 0).toNat : Int) else ((s.data.toList.getD j 0).toNat : Int)
theorem upsTo_zero (s : ByteArray) : upsTo s 0 = fun j => ((s.data.toList.getD j 0).toNat : Int) := by funext j; simp [upsTo]
theorem upsTo_here (s : ByteArray) (k : Nat) : upsTo s k k = ((s.data.toList.getD k 0).toNat : Int) := by simp [upsTo]
theorem strOf_ups (s : ByteArray) : strOfNums ((List.range s.size).map fun j => upI ((s.data.toList.getD j 0).toNat : Int)) = mk (s.data.toList.map upB) := by
  apply ba_ext
  rw [strOfNums_data, mk_data, List.map_map]
  apply List.ext_getElem
  · rw [List.length_map, List.length_map, List.length_range, size_len]
  · intro i h1 h2
    rw [List.length_map] at h2
    rw [List.getElem_map, List.getElem_map, List.getElem_range]
    show UInt8.ofNat (upI ((s.data.toList.getD i 0).toNat : Int)).toNat = _
    rw [upI_upB, List.getD_eq_getElem?_getD, List.getElem?_eq_getElem h2]
    simp
theorem upsTo_all (s : ByteArray) (k : Nat) (h : ¬ k < s.size) : strOfNums ((List.range s.size).map (upsTo s k)) = mk (s.data.toList.map upB) := by
  rw [← strOf_ups]
  congr 1
  refine List.map_congr_left fun j hj => ?_
  unfold upsTo
  rw [if_pos (by have := List.mem_range.1 hj; omega)]
theorem upsTo_set {w : World} {B : Nat} {s : ByteArray} {k : Nat} (h : BRow w B s.size (upsTo s k)) (hk : k < s.size) {c : Int} (hc : ((s.data.toList.getD k 0).toNat : Int) = c) : BRow (w.setCell ⟨B, k, none⟩ (.int .u8 (upI c))) B s.size (upsTo s (k + 1)) := by
  refine brow_congr (brow_set h k hk (upI c)) fun j hj => ?_
  unfold upsTo
  by_cases e1 : j = k
  · subst e1; rw [if_pos rfl, if_pos (by omega), hc]
  · rw [if_neg e1]
    by_cases e2 : j < k
    · rw [if_pos e2, if_pos (by omega)]
    · rw [if_neg e2, if_neg (by omega)]
theorem upsTo_skip {w : World} {B : Nat} {s : ByteArray} {k : Nat} (h : BRow w B s.size (upsTo s k)) {c : Int} (hc : ((s.data.toList.getD k 0).toNat : Int) = c) (hl : upI c = c) : BRow w B s.size (upsTo s (k + 1)) := by
  refine brow_congr h fun j hj => ?_
  unfold upsTo
  by_cases e1 : j = k
  · subst e1; rw [if_neg (by omega), if_pos (by omega), hc, hl]
  · by_cases e2 : j < k
    · rw [if_pos e2, if_pos (by omega)]
    · rw [if_neg e2, if_neg (by omega)]
end Go.Proofs.YthfpaoacjpjnfaaDoor.P


namespace Go.Proofs.YthfpaoacjpjnfaaDoor.P
open Go.RowKit Go.Proofs.YthfpaoacjpjnfaaDoorW.PrintWords Go.Proofs.YthfpaoacjpjnfaaDoorW.PrintLast Go.Proofs.YthfpaoacjpjnfaaDoorW.PrintMore
set_option linter.unusedVariables false
set_option linter.unusedSimpArgs false
theorem xy_app (a0 : ByteArray) : (((⟨#[120]⟩ : ByteArray) ++ a0) ++ (⟨#[121]⟩ : ByteArray)).data.toList = xy a0.data.toList := by
  rw [append_data, append_data]; rfl
theorem rep_app (k : Nat) : mk (List.replicate k 32) ++ (⟨#[32]⟩ : ByteArray) = mk (List.replicate (k + 1) 32) := by
  apply ba_ext
  rw [append_data, mk_data, mk_data, List.replicate_succ']
theorem wrap_app (n : Nat) (s : List UInt8) : ((mk (List.replicate n 32) ++ mk ((xy s).map upB)) ++ mk (List.replicate n 32)).data.toList = List.replicate n 32 ++ xyU s ++ List.replicate n 32 := by
  rw [append_data, append_data, mk_data, mk_data, xy_up]
set_option maxHeartbeats 4000000 in
set_option maxRecDepth 100000 in
theorem MatchCases.walk (a0 : ByteArray) (a1 : Int) (w : World) (hG : Gl w) (h0 : 0 ≤ a1 ∧ a1 ≤ 255) (h2 : a0.size ≤ 40) :
    Calls Tryd.prog 3 #[.string a0, .int .u8 a1] w fun e w' => e = .returned (.bool true) ∧ Below w.heap.size w w' := by
  have HB := Aside0.mk (Below.refl w.heap.size w)
  have HG := Aside0.mk hG
  clear hG
  obtain ⟨t, ht⟩ : ∃ t, ((⟨#[120]⟩ : ByteArray) ++ a0) ++ (⟨#[121]⟩ : ByteArray) = t := ⟨_, rfl⟩
  have hts : t.size ≤ 42 := by rw [← ht, ByteArray.size_append, ByteArray.size_append]; show 1 + a0.size + 1 ≤ 42; omega
  obtain ⟨n, hn⟩ : ∃ n : Nat, a1 % 5 = (n : Int) := ⟨(a1 % 5).toNat, by omega⟩
  have hn4 : n ≤ 4 := by omega
  have hxy : t.data.toList = xy a0.data.toList := by rw [← ht]; exact xy_app a0
  obtain ⟨K, f1, f2, f3, f4, f5⟩ := cases_facts t ((mk (List.replicate n 32) ++ mk (t.data.toList.map upB)) ++ mk (List.replicate n 32)) a0.data.toList n hn4 (by rw [← size_len]; exact h2) hxy (by rw [hxy]; exact wrap_app n _)
  obtain ⟨gS, hgS⟩ : ∃ g, mk (List.replicate n 32) = g := ⟨_, rfl⟩
  obtain ⟨bS, hbS⟩ : ∃ g, mk (t.data.toList.map upB) = g := ⟨_, rfl⟩
  have zg : gS.size ≤ 4 := by rw [← hgS, mk_size, List.length_replicate]; exact hn4
  have zb : bS.size ≤ 42 := by rw [← hbS, mk_size, List.length_map, ← size_len]; exact hts
  rw [hgS, hbS] at f1 f2 f3 f4
  have F1 := Aside0.mk f1
  have F2 := Aside0.mk f2
  have F3 := Aside0.mk f3
  have F4 := Aside0.mk f4
  have AW := Aside0.mk f5
  have HT := Lib.hid ht
  have HGS := Lib.hid hgS
  have HBS := Lib.hid hbS
  have HN := Lib.hid hn
  clear f1 f2 f3 f4 f5 hgS hbS hxy hn ht
  have d0 : decide (40 < (a0.size : Int)) = false := decide_eq_false (by omega)
  have d1 : decide (40 < a0.size) = false := decide_eq_false (by omega)
  have u1 : (9223372036854775807 < 1 + a0.size) = False := eq_false (by omega)
  have u2 : (9223372036854775807 < 1 + a0.size + 1) = False := eq_false (by omega)
  have p0 : 0 ≤ a1 := h0.1
  have p1 : a1 ≤ 255 := h0.2
  clear h0 h2
  go_enter Tryd.func3, Tryd.ntmps3
  go_upto_region 4 with (fail)
  rw [HT.out]
  clear u1 u2 d0 d1
  go_upto_region 5 with (fail)
  go_wp2
  go_loop [6, 7] (fun g i => ∃ k : Nat, k ≤ n ∧ i = .int .i64 k ∧ g = .string (mk (List.replicate k 32))) (fun _ i => n - (intOf i).toNat)
  case atStart => exact ⟨0, Nat.zero_le _, rfl, rfl⟩
  case round =>
    obtain ⟨k, hk, rfl, rfl⟩ := hrel
    have e5 := HN.out
    obtain ⟨gk, hgk⟩ : ∃ g, mk (List.replicate k 32) = g := ⟨_, rfl⟩
    have hgz : gk.size ≤ 4 := by rw [← hgk, mk_size, List.length_replicate]; omega
    have HK := Lib.hid hgk
    rw [hgk]
    clear hgk
    by_cases hlt : k < n
    · have c1 : decide ((k : Int) < (n : Int)) = true := decide_eq_true (by omega)
      have c2 : decide (k < n) = true := decide_eq_true hlt
      go_wp2
      go_round
      case rel => exact ⟨k + 1, by omega, by go_num, by rw [← HK.out, rep_app]⟩
      case measure => simp [intOf]; omega
    · obtain rfl : k = n := by omega
      have c1 : decide ((k : Int) < (k : Int)) = false := decide_eq_false (by omega)
      have c2 : decide (k < k) = false := decide_eq_false hlt
      have hgg : gk = gS := HK.out.symm.trans HGS.out
      subst hgg
      have hcv := fun W => Lib.run_convert_string_bytes (P := Tryd.prog) W 9 23 5 t (u := .string) Tryd.underlying9 Tryd.underlying23 Tryd.underlying5
      go_upto_region 10 with (fail)
      clear hcv e5 c1 c2
      have n1_ := Aside0.mk (below_step HB.out (Lib.bytesWorld_below w 5 t))
      have n2_ : Aside0 (BRow (Lib.bytesWorld w 5 t) w.heap.size t.size (upsTo t 0)) := ⟨by rw [upsTo_zero]; exact brow_conv w t⟩
      clear HB
      have HB := n1_
      have HR := n2_
      clear n1_ n2_
      go_wp2
      go_loopw [9] (fun i wr => ∃ j : Nat, j ≤ t.size ∧ i = .int .i64 j ∧ Aside0 (Below w.heap.size w wr) ∧ Aside0 (BRow wr w.heap.size t.size (upsTo t j))) (fun i _ => t.size - (intOf i).toNat)
      case atStart => exact ⟨0, Nat.zero_le _, rfl, HB, HR⟩
      case round =>
        clear HB HR
        obtain ⟨j, hj, rfl, HB, HR⟩ := hrel
        by_cases hjt : j < t.size
        · have hc := HR.out.cell j hjt
          have hz := HR.out.free j hjt
          rw [upsTo_here] at hc
          obtain ⟨c, hcc⟩ : ∃ c : Int, ((t.data.toList.getD j 0).toNat : Int) = c := ⟨_, rfl⟩
          rw [hcc] at hc
          have hcr : 0 ≤ c ∧ c ≤ 255 := by have := (t.data.toList.getD j 0).toNat_lt; omega
          have hc0 : 0 ≤ c := hcr.1
          have hc1 : c ≤ 255 := hcr.2
          clear hcr
          have HC := Lib.hid hcc
          clear hcc
          by_cases h1 : 97 ≤ c
          · by_cases h2 : c ≤ 122
            · have HL := Lib.hid (upI_in h1 h2)
              go_wp2
              refine ⟨⟨j + 1, by omega, by go_num, ⟨?_⟩, ⟨?_⟩⟩, by simp [intOf]; omega⟩
              · exact (HB.out).setCell (Nat.le_refl _) _
              · have := upsTo_set HR.out hjt HC.out
                rw [HL.out] at this
                first
                | exact this
                | (rw [show (c - 32) % 256 = c - 32 from by omega]; exact this)
            · have HL := Lib.hid (upI_out (c := c) (by omega))
              have d2 : decide (c ≤ 122) = false := by simpa using h2
              go_wp2
              refine ⟨⟨j + 1, by omega, by go_num, HB, ⟨upsTo_skip HR.out HC.out HL.out⟩⟩, by simp [intOf]; omega⟩
          · have HL := Lib.hid (upI_out (c := c) (by omega))
            have d1 : decide (97 ≤ c) = false := by simpa using h1
            go_wp2
            refine ⟨⟨j + 1, by omega, by go_num, HB, ⟨upsTo_skip HR.out HC.out HL.out⟩⟩, by simp [intOf]; omega⟩
        · have hge : ¬ (j : Int) < (t.size : Int) := by omega
          have hst := fun cap => brow_string (P := Tryd.prog) HR.out cap 23 5 9 Tryd.underlying23 Tryd.underlying5 Tryd.underlying9
          rw [upsTo_all t j hjt, HBS.out] at hst
          have g1 : (9223372036854775807 < gk.size + bS.size) = False := eq_false (by omega)
          have g2 : (9223372036854775807 < gk.size + bS.size + gk.size) = False := eq_false (by omega)
          have g3 : (9223372036854775807 < t.size + 2) = False := eq_false (by omega)
          have g4 : (9223372036854775807 < gk.size + bS.size + gk.size + 3) = False := eq_false (by omega)
          go_wp2_with (first | (go_at_call 5; (with_reducible refine (match_Less.calls K _ _ _ _ _ _ ?side1 F1.out).mono ?_); (case side1 => first | exact HG.out | exact Gl.drewN HG.out _ | exact Gl.below HG.out (by repeat (first | (with_reducible first | exact HB.out | apply below_alloc | apply pw_below_drewN | apply below_drew1) | exact HB.out))); rintro e wq ⟨rfl, hb⟩; have n1_ := Aside0.mk (below_step (by repeat (first | (with_reducible first | exact HB.out | apply below_alloc | apply pw_below_drewN | apply below_drew1) | exact HB.out)) hb); clear HB; have HB := n1_; clear n1_; (try clear hb)) | (go_at_call 6; (with_reducible refine (match_Same.calls K _ _ _ _ _ ?side1 F2.out).mono ?_); (case side1 => first | exact HG.out | exact Gl.drewN HG.out _ | exact Gl.below HG.out (by repeat (first | (with_reducible first | exact HB.out | apply below_alloc | apply pw_below_drewN | apply below_drew1) | exact HB.out))); rintro e wq ⟨rfl, hb⟩; have n1_ := Aside0.mk (below_step (by repeat (first | (with_reducible first | exact HB.out | apply below_alloc | apply pw_below_drewN | apply below_drew1) | exact HB.out)) hb); clear HB; have HB := n1_; clear n1_; (try clear hb)) | (go_at_call 6; (with_reducible refine (match_Same.calls K _ _ _ _ _ ?side1 F3.out).mono ?_); (case side1 => first | exact HG.out | exact Gl.drewN HG.out _ | exact Gl.below HG.out (by repeat (first | (with_reducible first | exact HB.out | apply below_alloc | apply pw_below_drewN | apply below_drew1) | exact HB.out))); rintro e wq ⟨rfl, hb⟩; have n1_ := Aside0.mk (below_step (by repeat (first | (with_reducible first | exact HB.out | apply below_alloc | apply pw_below_drewN | apply below_drew1) | exact HB.out)) hb); clear HB; have HB := n1_; clear n1_; (try clear hb)) | (go_at_call 6; (with_reducible refine (match_Same.calls K _ _ _ _ _ ?side1 F4.out).mono ?_); (case side1 => first | exact HG.out | exact Gl.drewN HG.out _ | exact Gl.below HG.out (by repeat (first | (with_reducible first | exact HB.out | apply below_alloc | apply pw_below_drewN | apply below_drew1) | exact HB.out))); rintro e wq ⟨rfl, hb⟩; have n1_ := Aside0.mk (below_step (by repeat (first | (with_reducible first | exact HB.out | apply below_alloc | apply pw_below_drewN | apply below_drew1) | exact HB.out)) hb); clear HB; have HB := n1_; clear n1_; (try clear hb)) | (go_at_call 4; (with_reducible refine (brooklaw3_awake.calls K true _ ?side1 AW.out).mono ?_); (case side1 => first | exact HG.out | exact Gl.drewN HG.out _ | exact Gl.below HG.out (by repeat (first | (with_reducible first | exact HB.out | apply below_alloc | apply pw_below_drewN | apply below_drew1) | exact HB.out))); rintro e wq ⟨rfl, hb⟩; have n1_ := Aside0.mk (below_step (by repeat (first | (with_reducible first | exact HB.out | apply below_alloc | apply pw_below_drewN | apply below_drew1) | exact HB.out)) hb); clear HB; have HB := n1_; clear n1_; (try clear hb)))
          all_goals (go_ret; exact ⟨by first | rfl | (simp; done) | (simp [*]; done), (by repeat (first | (with_reducible first | exact HB.out | apply below_alloc | apply pw_below_drewN | apply below_drew1) | exact HB.out))⟩)
set_option maxRecDepth 100000 in
theorem MatchCases.long (a0 : ByteArray) (a1 : Int) (w : World) (hG : Gl w) (h2 : 40 < a0.size) :
    Calls Tryd.prog 3 #[.string a0, .int .u8 a1] w fun e w' => e = .returned (.bool true) ∧ Below w.heap.size w w' := by
  have HB := Aside0.mk (Below.refl w.heap.size w)
  have HG := Aside0.mk hG
  clear hG
  obtain ⟨K, hk⟩ := Ev.rounds awake_ev
  have AW := Aside0.mk hk
  clear hk
  have d0 : decide (40 < (a0.size : Int)) = true := decide_eq_true (by omega)
  have d1 : decide (40 < a0.size) = true := decide_eq_true h2
  clear h2
  go_enter Tryd.func3, Tryd.ntmps3
  go_wp2_with ((go_at_call 4; (with_reducible refine (brooklaw3_awake.calls K true _ ?side1 AW.out).mono ?_); (case side1 => first | exact HG.out | exact Gl.drewN HG.out _ | exact Gl.below HG.out (by repeat (first | (with_reducible first | exact HB.out | apply below_alloc | apply pw_below_drewN | apply below_drew1) | exact HB.out))); rintro e wq ⟨rfl, hb⟩; have n1_ := Aside0.mk (below_step (by repeat (first | (with_reducible first | exact HB.out | apply below_alloc | apply pw_below_drewN | apply below_drew1) | exact HB.out)) hb); clear HB; have HB := n1_; clear n1_; (try clear hb)))
  go_ret
  exact ⟨rfl, (by repeat (first | (with_reducible first | exact HB.out | apply below_alloc | apply pw_below_drewN | apply below_drew1) | exact HB.out))⟩
theorem cases_calls (a0 : ByteArray) (a1 : Int) (w : World) (hG : Gl w) (h0 : 0 ≤ a1 ∧ a1 ≤ 255) :
    Calls Tryd.prog 3 #[.string a0, .int .u8 a1] w fun e w' => e = .returned (.bool true) ∧ Below w.heap.size w w' := by
  by_cases h : 40 < a0.size
  · exact MatchCases.long a0 a1 w hG h
  · exact MatchCases.walk a0 a1 w hG h0 (by omega)
end Go.Proofs.YthfpaoacjpjnfaaDoor.P

namespace Go.Proofs.YthfpaoacjpjnfaaDoor.matchCases
open Go.ChangeShapes Go.WideShapes Go.ChangeAt Go.RowKit Go.Proofs.YthfpaoacjpjnfaaDoor.P Go.Proofs.YthfpaoacjpjnfaaDoorW.PrintWords
open Go.ChangeMaps (open_string shut_string)
set_option linter.unusedVariables false
set_option maxRecDepth 100000 in
theorem contract (H : Type) (enc : TypeId × Value → H) (W : World) (base : Nat) (args : Array Value) (ds gs : List (DataW H)) (before : List MemPlace)
    (hval0 : ∀ (j : Nat) t v, Tryd.f3.params[j]? = some t → args[j]? = some v → Value.okWide Tryd.prog W .any base t v)
    (hW : DataW.Whole enc Tryd.prog Tryd.f3.params.toList Rows.matchCasesSpec.vars false W args.toList ds gs before)
    (hsz0 : (DataW.weightsEach Tryd.prog (Tryd.f3.params.toList ++ Rows.matchCasesSpec.plain.varTypes Tryd.prog) (ds ++ gs)).all (· ≤ reachBytes) = true) (hG : Gl W) :
    Calls Tryd.prog 3 args W fun e W' => ∃ v, e = .returned v ∧ Rows.matchCasesSpec.post enc Tryd.prog Tryd.f3 false true false false W args v W' := by
  have hsz := hsz0
  have hval := hval0
  have hW' := hW
  obtain ⟨p, q, hA0, hV, rfl, hfz, hnd⟩ := hW
  have hA : DataW.TrodAll enc Tryd.prog W 0 (fun _ => true) true Tryd.f3.params.toList args.toList ds p := hA0
  rw [Tryd.params3] at hA hval hsz
  obtain ⟨v0, vs0, d0, ds0, p0, q0, hargs, rfl, rfl, h0, r0⟩ := trodAll_cons hA
  obtain ⟨v1, vs1, d1, ds1, p1, q1, rfl, rfl, rfl, h1, r1⟩ := trodAll_cons r0
  obtain ⟨rfl, rfl, rfl⟩ := trodAll_nil r1
  obtain rfl : args = #[v0, v1] := by cases args; simp_all
  obtain ⟨rfl, rfl⟩ := trodVars_none hV
  obtain ⟨a0, rfl, rfl, rfl, y0⟩ := open_string Tryd.underlying9 (hval 0 9 v0 rfl rfl) h0
  have w0 : a0.size ≤ 140737488351232 := by
    have z := sized_string hsz (j := 0) (t := 9) rfl rfl
    rw [Array.length_toList] at z
    exact z
  obtain ⟨a1, rfl, rfl, rfl, w1⟩ := open_int Tryd.underlying5 (hval 1 5 v1 rfl rfl) h1
  clear hA0 hval0 hsz0 hsz
  have walk : Calls Tryd.prog 3 #[.string a0, .int .u8 a1] W fun e w' => e = .returned (.bool true) ∧ Below W.heap.size W w' := cases_calls a0 a1 W hG (u8_wf w1)
  refine walk.mono fun e W' ⟨he, bel⟩ => ?_
  subst he
  exact ⟨_, rfl, _, _, _, [], _, [], hW', trodAll_mk1 (shut_bool Tryd.underlying4 _), (trodAll_cons_mk (shut_string Tryd.underlying9 y0) (trodAll_cons_mk (shut_int Tryd.underlying5 w1) trodAll_mk0)), rfl, bel.frame _, fun h => by cases h⟩
theorem reads (os : Os) {H : Type} (enc : TypeId × Value → H) : ∃ places, DataW.whole enc Tryd.prog ((laidWorld os).forCall (fun _ _ => 0) ⟨#[], #[.string ByteArray.empty, .int .u8 0], []⟩).memory Tryd.f3.params.toList Rows.matchCasesSpec.vars false (#[.string ByteArray.empty, .int .u8 0] : Array Value).toList 8 = some ([.lit (.string []), .lit (.int .u8 0)], [], places) :=
  ⟨[], by kernel_rfl⟩
set_option maxRecDepth 100000 in
theorem lifted (os : Os) (started : os.Started) (H : Type) (enc : TypeId × Value → H) (F : Stop.Interp) :
    ReturnsInHanded {} Tryd.checked os 3 .any ((OpenSpec.ofChange Rows.matchCasesSpec).preRow enc Tryd.prog Tryd.f3 Rows.matchCasesRow.domain false Rows.matchCasesRow.laid) (((OpenSpec.ofChange Rows.matchCasesSpec).at F).post enc Tryd.prog Tryd.f3 false true false false) := by
  obtain ⟨places, hx⟩ := reads os enc
  refine returnsInHanded_of_row (C := Tryd.checked) (s := OpenSpec.ofChange Rows.matchCasesSpec) own started (by kernel_rfl) Tryd.func3
    (witness_row_at (enc := enc) (C := Tryd.checked) false (laidWorld os) #[.string ByteArray.empty, .int .u8 0] (World.laidAll_os _ _ _) (by kernel_rfl) (by kernel_rfl) (by kernel_rfl)
      (OpenSpec.preRow_of_cond 8 hx (by kernel_rfl) (fun k hk => by cases hk) (by kernel_rfl) (laid_met os _))) ?_
  intro W base args ds gs before hval hW _ _ hsz hL hsh _
  exact contract H enc W base args ds gs before hval hW hsz (gl_of hL hsh)
theorem said : Rows.MatchCasesSaid :=
  OpenClaim.holds_of_cond 3 Tryd.f3 rfl rfl rfl rfl rfl rfl rfl ⟨rfl, rfl, rfl, rfl, rfl⟩ rfl rfl rfl rfl rfl (by kernel_rfl) Tryd.func3 (by kernel_rfl)
    (of_decide_eq_true (by kernel_rfl)) (by unfold Func.isWrapper; first | (rw [if_pos (by decide +kernel)]; kernel_rfl) | (rw [if_neg (by decide +kernel)]; exact ⟨rfl, rfl⟩))
    (fun os started H enc _ F => by rw [OpenClaim.pre_eq_preRow]; exact lifted os started H enc F)
theorem plain (f : FuncId) (fn : Func) (hf : Tryd.pinned.checked.prog.funcNamed "brook/brooklaw3.MatchCases" = some f) (hfn : Tryd.pinned.checked.prog.funcs[f]? = some fn) :
    true = Tryd.pinned.checked.prog.looks [] ∧ ∀ (j : Nat) t, fn.params[j]? = some t → Tryd.pinned.checked.prog.wantsStandIn t = false := by
  obtain rfl : f = 3 := Option.some.inj ((show Tryd.prog.funcNamed "brook/brooklaw3.MatchCases" = some 3 by kernel_rfl).symm.trans hf) |>.symm
  obtain rfl : fn = Tryd.f3 := (Option.some.inj (Tryd.func3.symm.trans hfn)).symm
  refine ⟨by kernel_rfl, fun j t ht => ?_⟩
  rw [Tryd.params3] at ht
  have hm : t ∈ [9, 5] := by simpa using Array.mem_of_getElem? ht
  have hall : ([9, 5].all fun u => !Tryd.prog.wantsStandIn u) = true := by kernel_rfl
  exact (show Tryd.prog.wantsStandIn t = false by simpa using List.all_eq_true.1 hall t hm)
theorem card : Rows.MatchCasesCardSaid :=
  Claim7.holds_tied_plain_at .later [] _ _ _ _ said (fun _ h => by cases h) (by kernel_rfl) (fun _ h => by cases h) matchCases_row_tie rfl ⟨rfl, rfl⟩ (by kernel_rfl) rfl plain (by kernel_rfl)
#print axioms card
end Go.Proofs.YthfpaoacjpjnfaaDoor.matchCases
namespace Go.Proofs.YthfpaoacjpjnfaaDoor
theorem matchCases_card : Rows.MatchCasesCardSaid := matchCases.card
end Go.Proofs.YthfpaoacjpjnfaaDoor
