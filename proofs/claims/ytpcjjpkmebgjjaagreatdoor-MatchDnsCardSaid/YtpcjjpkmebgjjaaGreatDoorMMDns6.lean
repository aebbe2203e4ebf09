/- Members are alike as names are: by their keys; what is no name is no member. Conditions: those of the card's own row. -/
import Derived.Test.YtpcjjpkmebgjjaaGreatDoorMMDns5
import Derived.Test.YtpcjjpkmebgjjaaGreatDoorMMDns2
import Derived.Test.YtpcjjpkmebgjjaaGreatDoorMMDns4
import Derived.Test.YtpcjjpkmebgjjaaGreatDoorMMDns3
import Derived.Test.YtpcjjpkmebgjjaaGreatDoorCards
import Derived.Test.YtpcjjpkmebgjjaaGreatDoorTie
import Derived.WalkKit
import Derived.ProofKit
import Derived.OpenShut
import Derived.ShutString
import Derived.ChangeOld
import Derived.ChangeSame
import Derived.Below
import Derived.SizedLaws
import Derived.Deep.DeepHandedRow
import Derived.JoinedCond
import Derived.SevenTiedAt
import Derived.Lay

namespace Go.Proofs.YtpcjjpkmebgjjaaGreatDoor.P
open Go.RowKit Go.Proofs.YtpcjjpkmebgjjaaGreatDoorW.PrintWords Go.Proofs.YtpcjjpkmebgjjaaGreatDoorW.PrintLast Go.Proofs.YtpcjjpkmebgjjaaGreatDoorW.PrintMore
set_option linter.unusedVariables false
set_option linter.unusedSimpArgs false
def spl : List UInt8 → List UInt8 × Option (List UInt8)
  | [] => ([], none)
  | [c] => if c = 44 then ([], some []) else ([c], none)
  | c :: d :: r => if c = 44 then ([], some (d :: r)) else if c = 92 then (c :: d :: (spl r).1, (spl r).2) else (c :: (spl (d :: r)).1, (spl (d :: r)).2)
theorem spl_comma (r : List UInt8) : spl (44 :: r) = ([], some r) := by cases r <;> (rw [spl]; rfl)
theorem spl_back (d : UInt8) (r : List UInt8) : spl (92 :: d :: r) = (92 :: d :: (spl r).1, (spl r).2) := by rw [spl, if_neg (by decide), if_pos rfl]
theorem spl_raw (c : UInt8) (r : List UInt8) (h1 : c ≠ 44) (h2 : c ≠ 92) : spl (c :: r) = (c :: (spl r).1, (spl r).2) := by
  cases r with
  | nil => show (if c = 44 then (([] : List UInt8), some []) else ([c], none)) = _; rw [if_neg h1]; rfl
  | cons d r => rw [spl, if_neg h1, if_neg h2]
def tailB : Option (List UInt8) → List UInt8
  | none => []
  | some r => 44 :: r
theorem spl_app : ∀ (n : Nat) (l : List UInt8), l.length = n → l = (spl l).1 ++ tailB (spl l).2 := by
  intro n
  induction n using Nat.strongRecOn with
  | _ n ih =>
    intro l hn
    cases l with
    | nil => rfl
    | cons c r =>
      rw [List.length_cons] at hn
      by_cases h1 : c = 44
      · rw [h1, spl_comma]; rfl
      by_cases h2 : c = 92
      · cases r with
        | nil => rw [h2]; rfl
        | cons d r =>
          rw [List.length_cons] at hn
          rw [h2, spl_back]
          have := ih r.length (by omega) r rfl
          show 92 :: d :: r = 92 :: d :: ((spl r).1 ++ tailB (spl r).2)
          rw [← this]
      · rw [spl_raw c r h1 h2]
        have := ih r.length (by omega) r rfl
        show c :: r = c :: ((spl r).1 ++ tailB (spl r).2)
        rw [← this]
def cont (t : List UInt8) (q : Option (List UInt8 × List UInt8)) : Option (List UInt8 × List UInt8) := q.bind fun p => if p.2 = [] then some (p.1, t) else none
theorem cont_map (t : List UInt8) (b : UInt8) (q : Option (List UInt8 × List UInt8)) : (cont t q).map (fun p => (b :: p.1, p.2)) = cont t (q.map fun p => (b :: p.1, p.2)) := by
  cases q with
  | none => rfl
  | some p =>
    unfold cont
    simp only [Option.bind_some, Option.map_some]
    by_cases h : p.2 = []
    · rw [if_pos h, if_pos h]; rfl
    · rw [if_neg h, if_neg h]; rfl
theorem spl_val : ∀ (n : Nat) (l : List UInt8) (f sp : Bool), l.length = n → valG f sp l = cont (tailB (spl l).2) (valG f sp (spl l).1) := by
  intro n
  induction n using Nat.strongRecOn with
  | _ n ih =>
    intro l f sp hn
    cases l with
    | nil => show valG f sp [] = cont [] (valG f sp []); rw [valG]; cases sp <;> rfl
    | cons c r =>
      rw [List.length_cons] at hn
      by_cases h1 : c = 44
      · rw [h1, spl_comma]
        show valG f sp (44 :: r) = cont (44 :: r) (valG f sp [])
        have e1 : valG f sp (44 :: r) = if sp = true then none else some ([], 44 :: r) := by rw [valG, if_pos rfl]
        have e2 : valG f sp [] = if sp = true then none else some ([], []) := by rw [valG]
        rw [e1, e2]; cases sp <;> rfl
      by_cases h2 : c = 92
      · subst h2
        cases r with
        | nil => show valG f sp [92] = cont [] (valG f sp [92]); rw [valG, if_neg (by decide), if_pos rfl]; rfl
        | cons d r =>
          rw [List.length_cons] at hn
          rw [spl_back, valG, if_neg (by decide), if_pos rfl]
          show _ = cont (tailB (spl r).2) (valG f sp (92 :: d :: (spl r).1))
          conv => rhs; rw [valG, if_neg (by decide), if_pos rfl]
          cases hd : (specialB d || d == 61 || d == 35 || d == 32) with
          | true =>
            rw [escN_t d _ hd, escN_t d _ hd]
            show (valG false false r).map _ = cont _ ((valG false false (spl r).1).map _)
            rw [ih r.length (by omega) r false false rfl, cont_map]
          | false =>
            cases r with
            | nil => rw [show (spl []).1 = [] from rfl, escN_f1 d hd]; rfl
            | cons e r2 =>
              rw [List.length_cons] at hn
              by_cases e44 : e = 44
              · rw [e44, spl_comma, escN_f2 d 44 r2 hd, escN_f1 d hd, show isHexB 44 = false from by decide, Bool.and_false]; rfl
              by_cases e92 : e = 92
              · have hx : ∃ y, (spl (e :: r2)).1 = 92 :: y := by
                  rw [e92]
                  cases r2 with
                  | nil => exact ⟨[], rfl⟩
                  | cons g r3 => exact ⟨g :: (spl r3).1, by rw [spl_back]⟩
                obtain ⟨y, hy⟩ := hx
                rw [hy, e92, escN_f2 d 92 r2 hd, escN_f2 d 92 y hd, show isHexB 92 = false from by decide, Bool.and_false]; rfl
              · rw [spl_raw e r2 e44 e92, escN_f2 d e r2 hd]
                simp only
                rw [escN_f2 d e _ hd]
                by_cases hh : (isHexB d && isHexB e) = true
                · rw [if_pos hh]
                  show (valG false false r2).map _ = cont _ ((valG false false (spl r2).1).map _)
                  rw [ih r2.length (by omega) r2 false false rfl, cont_map]
                · rw [if_neg hh]; rfl
      · rw [spl_raw c r h1 h2, valG, if_neg h1, if_neg h2]
        show _ = cont (tailB (spl r).2) (valG f sp (c :: (spl r).1))
        conv => rhs; rw [valG, if_neg h1, if_neg h2]
        by_cases hb : badB f c = true
        · rw [if_pos hb, if_pos hb]; rfl
        · rw [if_neg hb, if_neg hb, ih r.length (by omega) r false (c == 32) rfl, cont_map]
def pieces : Nat → List UInt8 → List (List UInt8)
  | 0, l => [(spl l).1]
  | n + 1, l => (spl l).1 :: (match (spl l).2 with | none => [] | some r => pieces n r)
def tailP (n : Nat) : Option (List UInt8) → List (List UInt8)
  | none => []
  | some r => pieces n r
theorem pieces_succ (n : Nat) (l : List UInt8) : pieces (n + 1) l = (spl l).1 :: tailP n (spl l).2 := by
  rw [pieces]; cases (spl l).2 <;> rfl
theorem w_p1 (i : Nat) (h : i < 4611686018427387903) : wrap64 (wrap64 ((i : Int) + 1) + 1) = ((i + 2 : Nat) : Int) := by rw [w_1 i (by omega), w_1 (i + 1) (by omega)]
theorem cut_loop (s : ByteArray) (hs : s.size ≤ 1073741824) : ∀ (m i st : Nat) (acc : List (List UInt8)) (n : Nat), s.size + 2 - i = m → i ≤ s.size + 1 → st ≤ i → st ≤ s.size → acc.length ≤ i → s.size ≤ n + i →
    Ev (fun k => brookref1_cut.l0 k s (acc.map mk) (st : Int) (i : Int)) ((acc ++ (((s.data.toList.drop st).take (i - st) ++ (spl (s.data.toList.drop i)).1) :: tailP n (spl (s.data.toList.drop i)).2)).map mk) := by
  intro m
  have hlen : s.data.toList.length = s.size := (size_len s).symm
  induction m using Nat.strongRecOn with
  | _ m ih =>
    intro i st acc n hm hi hst hst2 hacc hn
    by_cases hlt : i < s.size
    · have hd := drop_cons s.data.toList i (by omega)
      have hb0 : bt s (i : Int) = ((s.data.toList.getD i 0).toNat : Int) := bt_nat s i
      have htk : (s.data.toList.drop st).take (i + 1 - st) = (s.data.toList.drop st).take (i - st) ++ [s.data.toList.getD i 0] := by
        rw [show i + 1 - st = (i - st) + 1 by omega, List.take_succ_eq_append_getElem (by rw [List.length_drop]; omega)]
        congr 2
        rw [List.getElem_drop, List.getD_eq_getElem?_getD, List.getElem?_eq_getElem (by omega)]
        simp only [show st + (i - st) = i by omega]; rfl
      generalize hc : s.data.toList.getD i 0 = c at hd hb0 htk
      refine Ev.step (fun k => by rw [brookref1_cut.l0]) (Ev.ifp (by omega) (Ev.ifp (by omega) ?_))
      rw [hb0]
      by_cases h92 : c = 92
      · refine Ev.ifp ((u8i c 92).2 h92) ?_
        rw [w_p1 i (by omega)]
        have := ih (s.size + 2 - (i + 2)) (by omega) (i + 2) st acc n rfl (by omega) (by omega) hst2 (by omega) (by omega)
        by_cases h1 : i + 1 < s.size
        · have hd2 := drop_cons s.data.toList (i + 1) (by omega)
          have htk2 : (s.data.toList.drop st).take (i + 2 - st) = (s.data.toList.drop st).take (i + 1 - st) ++ [s.data.toList.getD (i + 1) 0] := by
            rw [show i + 2 - st = (i + 1 - st) + 1 by omega, List.take_succ_eq_append_getElem (by rw [List.length_drop]; omega)]
            congr 2
            rw [List.getElem_drop, List.getD_eq_getElem?_getD, List.getElem?_eq_getElem (by omega)]
            simp only [show st + (i + 1 - st) = i + 1 by omega]; rfl
          rw [hd, hd2, h92, spl_back]
          rw [htk2, htk, h92] at this
          simp only [List.append_assoc, List.singleton_append] at this ⊢
          exact this
        · rw [List.drop_eq_nil_of_le (show s.data.toList.length ≤ i + 2 by omega)] at this
          rw [hd, List.drop_eq_nil_of_le (show s.data.toList.length ≤ i + 1 by omega), h92]
          have e : (s.data.toList.drop st).take (i + 2 - st) = (s.data.toList.drop st).take (i - st) ++ [92] := by
            rw [← h92, ← htk, List.take_of_length_le (by rw [List.length_drop]; omega), List.take_of_length_le (by rw [List.length_drop]; omega)]
          rw [e] at this
          have e1 : spl [92] = ([92], none) := rfl
          have e2 : spl [] = ([], none) := rfl
          rw [e1]
          rw [e2, List.append_nil] at this
          exact this
      · refine Ev.ifn (fun h => h92 ((u8i c 92).1 h)) ?_
        by_cases h44 : c = 44
        · refine Ev.ifp ((u8i c 44).2 h44) (Ev.ifp (by omega) (Ev.ifp (by omega) (Ev.ifp (by omega) (Ev.ifp (by rw [List.length_map]; omega) ?_))))
          obtain ⟨n', rfl⟩ : ∃ n', n = n' + 1 := ⟨n - 1, by omega⟩
          have := ih (s.size + 2 - (i + 1)) (by omega) (i + 1) (i + 1) (acc ++ [(s.data.toList.drop st).take (i - st)]) n' rfl (by omega) (Nat.le_refl _) (by omega) (by rw [List.length_append, List.length_singleton]; omega) (by omega)
          rw [w_1 i (by omega), Int.toNat_natCast, Int.toNat_natCast]
          have ex : s.extract st i = mk ((s.data.toList.drop st).take (i - st)) := by apply ba_ext; rw [extract_data, mk_data]
          rw [ex, hd, h44, spl_comma]
          rw [List.map_append, Nat.sub_self, List.take_zero, List.nil_append, List.append_assoc] at this
          show Ev _ ((acc ++ (((s.data.toList.drop st).take (i - st) ++ []) :: pieces (n' + 1) (s.data.toList.drop (i + 1)))).map mk)
          rw [List.append_nil, pieces_succ]
          exact this
        · refine Ev.ifn (fun h => h44 ((u8i c 44).1 h)) ?_
          have := ih (s.size + 2 - (i + 1)) (by omega) (i + 1) st acc n rfl (by omega) (by omega) hst2 (by omega) (by omega)
          rw [w_1 i (by omega), hd, spl_raw c _ h44 h92]
          rw [htk] at this
          simp only [List.append_assoc, List.singleton_append] at this ⊢
          exact this
    · refine Ev.step (fun k => by rw [brookref1_cut.l0]) (Ev.ifn (by omega) (Ev.ifp (by omega) (Ev.ifp (by omega) (Ev.ifp (by rw [List.length_map]; omega) (Ev.const fun k => ?_)))))
      rw [Int.toNat_natCast, extract_tail, List.drop_eq_nil_of_le (show s.data.toList.length ≤ i by omega), List.take_of_length_le (by rw [List.length_drop]; omega)]
      show _ = some ((acc ++ [s.data.toList.drop st ++ []]).map mk)
      rw [List.append_nil, List.map_append]; rfl
theorem ref_cut (s : ByteArray) (hs : s.size ≤ 1073741824) : Ev (fun k => brookref1_cut.f k s) ((pieces (s.size + 1) s.data.toList).map mk) := by
  have h := cut_loop s hs (s.size + 2) 0 0 [] s.size rfl (by omega) (Nat.le_refl _) (by omega) (Nat.le_refl _) (by omega)
  rw [pieces_succ]
  exact h
def pr (p : List UInt8) : Option PR := (cutEq p).bind fun q => (valW true false q.2).map fun x => (q.1, x)
def prs : List (List UInt8) → Option (List PR)
  | [] => some []
  | p :: r => (pr p).bind fun x => (prs r).map fun y => x :: y
def idx61 : List UInt8 → Nat
  | [] => 0
  | c :: r => if c = 61 then 0 else idx61 r + 1
theorem idx_le : ∀ p : List UInt8, idx61 p ≤ p.length
  | [] => Nat.le_refl _
  | c :: r => by
    have := idx_le r
    rw [idx61]; split
    · omega
    · rw [List.length_cons]; omega
theorem cutEq_idx : ∀ p : List UInt8, cutEq p = if idx61 p = p.length then none else some (p.take (idx61 p), p.drop (idx61 p + 1))
  | [] => rfl
  | c :: r => by
    have ih := cutEq_idx r
    rw [cutEq, idx61]
    by_cases h : c = 61
    · rw [if_pos h, if_pos h, if_neg (by simp)]; rfl
    · rw [if_neg h, if_neg h, ih]
      by_cases h2 : idx61 r = r.length
      · rw [if_pos h2, if_pos (by rw [List.length_cons, h2])]; rfl
      · rw [if_neg h2, if_neg (by rw [List.length_cons]; omega)]; rfl
theorem rdOf_map (ps : List (List UInt8)) (i : Nat) (h : i < ps.length) : rdOf ByteArray.empty (ps.map mk) (i : Int) = mk (ps.getD i []) := by
  unfold rdOf
  rw [Int.toNat_natCast, List.getD_eq_getElem?_getD, List.getElem?_map, List.getElem?_eq_getElem h, List.getD_eq_getElem?_getD, List.getElem?_eq_getElem h]; rfl
theorem find61 (x3 : List SR) (ps : List (List UInt8)) (i : Nat) (hi : i < ps.length) (hp : (ps.getD i []).length ≤ 1073741824) (r : List SR × Bool)
    (h : Ev (fun k => brookref1_ParseDn.j2 k x3 (ps.map mk) (i : Int) ((idx61 (ps.getD i []) : Nat) : Int)) r) : ∀ n j : Nat, (ps.getD i []).length - j = n → j ≤ (ps.getD i []).length → j + idx61 ((ps.getD i []).drop j) = idx61 (ps.getD i []) →
    Ev (fun k => brookref1_ParseDn.l1 k x3 (ps.map mk) (i : Int) (j : Int)) r := by
  intro n
  generalize hq : ps.getD i [] = p at hp h
  have hr : rdOf ByteArray.empty (ps.map mk) (i : Int) = mk p := by rw [rdOf_map ps i hi, hq]
  induction n with
  | zero =>
    intro j hn hj he
    refine Ev.step (fun k => by rw [brookref1_ParseDn.l1]) (Ev.ifp (by omega) (Ev.ifp (by rw [List.length_map]; omega) ?_))
    rw [hr]
    refine Ev.ifn (by rw [mk_size]; omega) ?_
    rw [List.drop_eq_nil_of_le (by omega)] at he
    rw [show (j : Int) = ((idx61 p : Nat) : Int) by rw [← he]; simp [idx61]]
    exact h
  | succ n ih =>
    intro j hn hj he
    refine Ev.step (fun k => by rw [brookref1_ParseDn.l1]) (Ev.ifp (by omega) (Ev.ifp (by rw [List.length_map]; omega) ?_))
    rw [hr]
    refine Ev.ifp (by rw [mk_size]; omega) (Ev.ifp (by omega) ?_)
    have hb : bt (mk p) (j : Int) = ((p.getD j 0).toNat : Int) := bt_nat _ _
    rw [hb]
    rw [drop_cons p j (by omega), idx61] at he
    by_cases h61 : p.getD j 0 = 61
    · rw [if_pos h61] at he
      refine Ev.ifp ((u8i _ 61).2 h61) ?_
      rw [show (j : Int) = ((idx61 p : Nat) : Int) by omega]
      exact h
    · rw [if_neg h61] at he
      refine Ev.ifn (fun e => h61 ((u8i _ 61).1 e)) ?_
      rw [w_1 j (by omega)]
      exact ih (j + 1) (by omega) (by omega) (by omega)
theorem parse_loop_ref (ps : List (List UInt8)) (hps : ∀ p ∈ ps, p.length ≤ 1073741824) (hn8 : ps.length ≤ 1000000000) : ∀ (n i : Nat) (acc : List PR), ps.length - i = n → i ≤ ps.length → acc.length ≤ i → (∀ p ∈ acc, p.1.length ≤ 1073741824) →
    Ev (fun k => brookref1_ParseDn.l0 k (acc.map toS) (ps.map mk) (i : Int)) (parseEnd ((prs (ps.drop i)).bind fun rs => if mayL (acc ++ rs) = true then some (acc ++ rs) else none)) := by
  intro n
  induction n with
  | zero =>
    intro i acc hn hi ha hb
    refine Ev.step (fun k => by rw [brookref1_ParseDn.l0]) (Ev.ifn (by rw [List.length_map]; omega) ((ref_may acc (by omega) hb).bind ?_))
    rw [List.drop_eq_nil_of_le (by omega)]
    show Ev _ (parseEnd (if mayL (acc ++ []) = true then some (acc ++ []) else none))
    rw [List.append_nil]
    by_cases h : mayL acc = true
    · rw [h]; exact Ev.now _
    · rw [Bool.eq_false_iff.2 h]; exact Ev.now _
  | succ n ih =>
    intro i acc hn hi ha hb
    refine Ev.step (fun k => by rw [brookref1_ParseDn.l0]) (Ev.ifp (by rw [List.length_map]; omega) ?_)
    have hmem : ps.getD i [] ∈ ps := by rw [List.getD_eq_getElem?_getD, List.getElem?_eq_getElem (by omega)]; exact List.getElem_mem _
    have hp := hps _ hmem
    have hdrop : ps.drop i = ps.getD i [] :: ps.drop (i + 1) := by rw [List.drop_eq_getElem_cons (by omega), List.getD_eq_getElem?_getD, List.getElem?_eq_getElem (by omega)]; rfl
    refine find61 (acc.map toS) ps i (by omega) hp _ ?_ (ps.getD i []).length 0 (by omega) (by omega) (by rw [List.drop_zero]; omega)
    have hr : rdOf ByteArray.empty (ps.map mk) (i : Int) = mk (ps.getD i []) := rdOf_map ps i (by omega)
    rw [hdrop]
    generalize ps.getD i [] = p at hp hr
    have hle := idx_le p
    refine Ev.step (fun k => by rw [brookref1_ParseDn.j2]) (Ev.ifp (by omega) (Ev.ifp (by rw [List.length_map]; omega) ?_))
    rw [hr, mk_size, prs]
    unfold pr
    rw [cutEq_idx]
    by_cases h0 : idx61 p = p.length
    · rw [if_pos h0]
      exact Ev.ifp (by omega) (Ev.now _)
    · rw [if_neg h0]
      refine Ev.ifn (by omega) ?_
      rw [w_1 _ (by omega)]
      refine Ev.ifp (by omega) (Ev.ifp (by omega) ?_)
      have hv := ref_value ((mk p).extract (idx61 p + 1) (mk p).size) (by rw [extract_tail, mk_size, mk_data, List.length_drop]; omega)
      rw [Int.toNat_natCast, ← mk_size p]
      refine hv.bind ?_
      rw [extract_tail, mk_data, mk_data]
      show Ev _ (parseEnd ((((valW true false (p.drop (idx61 p + 1))).map fun x => (p.take (idx61 p), x)).bind fun x => (prs (ps.drop (i + 1))).map fun y => x :: y).bind _))
      cases valW true false (p.drop (idx61 p + 1)) with
      | none => exact Ev.ifn Bool.false_ne_true (Ev.now _)
      | some v =>
        have ex : (mk p).extract 0 (idx61 p) = mk (p.take (idx61 p)) := by apply ba_ext; rw [extract_data, mk_data, mk_data]; rfl
        refine Ev.ifp rfl (Ev.ifp (by omega) (Ev.ifp (by rw [mk_size]; omega) (Ev.ifp (by rw [List.length_map]; omega) ?_)))
        rw [Int.toNat_natCast, ex, w_1 i (by omega)]
        have := ih (i + 1) (acc ++ [(p.take (idx61 p), v)]) (by omega) (by omega) (by rw [List.length_append, List.length_singleton]; omega) (by
          intro q hq
          rcases List.mem_append.1 hq with hq | hq
          · exact hb q hq
          · rw [List.mem_singleton.1 hq]
            simp only [List.length_take]; omega)
        rw [List.map_append] at this
        have e : ((some (p.take (idx61 p), v)).bind fun x => (prs (ps.drop (i + 1))).map fun y => x :: y).bind (fun rs => if mayL (acc ++ rs) = true then some (acc ++ rs) else none) = ((prs (ps.drop (i + 1))).bind fun rs => if mayL ((acc ++ [(p.take (idx61 p), v)]) ++ rs) = true then some ((acc ++ [(p.take (idx61 p), v)]) ++ rs) else none) := by
          cases prs (ps.drop (i + 1)) with
          | none => rfl
          | some y => simp only [Option.bind_some, Option.map_some, List.append_assoc, List.singleton_append]
        show Ev _ (parseEnd (((some (p.take (idx61 p), v)).bind fun x => (prs (ps.drop (i + 1))).map fun y => x :: y).bind (fun rs => if mayL (acc ++ rs) = true then some (acc ++ rs) else none)))
        rw [e]
        exact this
end Go.Proofs.YtpcjjpkmebgjjaaGreatDoor.P


namespace Go.Proofs.YtpcjjpkmebgjjaaGreatDoor.P
open Go.RowKit Go.Proofs.YtpcjjpkmebgjjaaGreatDoorW.PrintWords Go.Proofs.YtpcjjpkmebgjjaaGreatDoorW.PrintLast Go.Proofs.YtpcjjpkmebgjjaaGreatDoorW.PrintMore
set_option linter.unusedVariables false
set_option linter.unusedSimpArgs false
theorem cutEq_more : ∀ (a b : List UInt8), cutEq (a ++ b) = none → cutEq a = none
  | [], b, _ => rfl
  | c :: r, b, h => by
    rw [List.cons_append, cutEq] at h
    rw [cutEq]
    by_cases hc : c = 61
    · rw [if_pos hc] at h; cases h
    · rw [if_neg hc] at h ⊢
      rw [cutEq_more r b (Option.map_eq_none_iff.1 h)]; rfl
theorem cutEq_pre : ∀ (a b t v : List UInt8), cutEq a = some (t, v) → cutEq (a ++ b) = some (t, v ++ b)
  | [], b, t, v, h => by cases h
  | c :: r, b, t, v, h => by
    rw [cutEq] at h
    rw [List.cons_append, cutEq]
    by_cases hc : c = 61
    · rw [if_pos hc] at h ⊢
      obtain ⟨rfl, rfl⟩ := Prod.mk.inj (Option.some.inj h)
      rfl
    · rw [if_neg hc] at h ⊢
      obtain ⟨⟨t', v'⟩, h1, h2⟩ := Option.map_eq_some_iff.1 h
      obtain ⟨rfl, rfl⟩ := Prod.mk.inj h2
      rw [cutEq_pre r b t' v' h1]; rfl
theorem cont_valW (t : List UInt8) (f sp : Bool) (p : List UInt8) : cont t (valG f sp p) = (valW f sp p).map fun x => (x, t) := by
  unfold cont valW
  cases valG f sp p with
  | none => rfl
  | some q =>
    simp only [Option.bind_some]
    by_cases h : q.2 = []
    · rw [if_pos h, if_pos h]; rfl
    · rw [if_neg h, if_neg h]; rfl
theorem spl_typed : ∀ (t r : List UInt8), (∀ c ∈ t, c ≠ 44 ∧ c ≠ 92) → spl (t ++ r) = (t ++ (spl r).1, (spl r).2)
  | [], r, _ => rfl
  | c :: t, r, h => by
    have hc := h c (List.mem_cons_self)
    rw [List.cons_append, spl_raw c _ hc.1 hc.2, spl_typed t r (fun x hx => h x (List.mem_cons_of_mem _ hx))]; rfl
theorem name_not (c : UInt8) : inName c = true → c ≠ 44 ∧ c ≠ 92 := byteAll (p := fun c => inName c = true → c ≠ 44 ∧ c ≠ 92) (by decide +kernel) c
theorem typed_not {t : List UInt8} (h : typedL t = true) : ∀ c ∈ t, c ≠ 44 ∧ c ≠ 92 := by
  intro c hc
  unfold typedL at h
  simp only [Bool.and_eq_true] at h
  exact name_not c (List.all_eq_true.1 h.2 c hc)
def keep8 (m : Nat) (rs : List PR) : Option (List PR) := if (rs.all (fun p => typedL p.1) && decide (rs.length ≤ m)) = true then some rs else none
theorem pieces_parse : ∀ (N : Nat) (l : List UInt8), l.length = N → ∀ m n : Nat, l.length ≤ n → parseN m l = (prs ((spl l).1 :: tailP n (spl l).2)).bind (keep8 m) := by
  intro N
  induction N using Nat.strongRecOn with
  | _ N ih =>
    intro l hN m n hn
    have happ := spl_app l.length l rfl
    cases m with
    | zero =>
      show none = _
      rw [prs]
      cases pr (spl l).1 with
      | none => rfl
      | some x =>
        cases prs (tailP n (spl l).2) with
        | none => rfl
        | some y => show none = keep8 0 (x :: y); unfold keep8; rw [if_neg]; simp
    | succ m =>
      rw [parseN]
      cases hc : cutEq l with
      | none =>
        have : cutEq (spl l).1 = none := cutEq_more _ (tailB (spl l).2) (by rw [← happ]; exact hc)
        rw [prs]
        unfold pr
        rw [this]; rfl
      | some q =>
        obtain ⟨t, v⟩ := q
        have hl := cutEq_len _ _ _ hc
        simp only
        by_cases ht : typedL t = true
        · rw [if_pos ht]
          have hs : spl l = (t ++ 61 :: (spl v).1, (spl v).2) := by
            rw [hl, spl_typed t _ (typed_not ht), spl_raw 61 v (by decide) (by decide)]
          have hlen := congrArg List.length hl
          rw [List.length_append, List.length_cons] at hlen
          rw [hs, prs]
          have hpr : pr (t ++ 61 :: (spl v).1) = (valW true false (spl v).1).map fun x => (t, x) := by
            unfold pr
            rw [cutEq_app t _ (typed_no61 ht)]; rfl
          rw [hpr, spl_val v.length v true false rfl, cont_valW]
          cases valW true false (spl v).1 with
          | none => rfl
          | some x =>
            cases hv2 : (spl v).2 with
            | none =>
              show some [(t, x)] = keep8 (m + 1) [(t, x)]
              unfold keep8
              rw [if_pos (by simp [ht])]
            | some r =>
              show (parseN m r).map (fun y => (t, x) :: y) = ((prs (pieces n r)).map fun y => (t, x) :: y).bind (keep8 (m + 1))
              have hvapp := congrArg List.length (spl_app v.length v rfl)
              rw [hv2] at hvapp
              simp only [tailB, List.length_append, List.length_cons] at hvapp
              obtain ⟨n', rfl⟩ : ∃ n', n = n' + 1 := ⟨n - 1, by omega⟩
              rw [pieces_succ, ih r.length (by omega) r rfl m n' (by omega)]
              cases prs ((spl r).1 :: tailP n' (spl r).2) with
              | none => rfl
              | some y =>
                show (keep8 m y).map _ = keep8 (m + 1) ((t, x) :: y)
                unfold keep8
                have e : (((t, x) :: y).all (fun p => typedL p.1) && decide (((t, x) :: y).length ≤ m + 1)) = (y.all (fun p => typedL p.1) && decide (y.length ≤ m)) := by
                  rw [List.all_cons, ht, Bool.true_and, List.length_cons]
                  congr 1
                  exact decide_eq_decide.2 (by omega)
                rw [e]
                by_cases hh : (y.all (fun p => typedL p.1) && decide (y.length ≤ m)) = true
                · rw [if_pos hh, if_pos hh]; rfl
                · rw [if_neg hh, if_neg hh]; rfl
        · rw [if_neg ht, prs]
          unfold pr
          cases hp : cutEq (spl l).1 with
          | none => rfl
          | some q =>
            obtain ⟨t', v'⟩ := q
            have h2 := cutEq_pre _ (tailB (spl l).2) _ _ hp
            rw [← happ, hc] at h2
            have e := (Prod.mk.inj (Option.some.inj h2)).1
            subst e
            show none = ((((valW true false v').map fun x => (t, x)).bind _).bind _)
            cases valW true false v' with
            | none => rfl
            | some x =>
              show none = ((prs (tailP n (spl l).2)).map fun y => (t, x) :: y).bind _
              cases prs (tailP n (spl l).2) with
              | none => rfl
              | some y => show none = keep8 (m + 1) ((t, x) :: y); unfold keep8; rw [if_neg]; rw [List.all_cons, Bool.eq_false_iff.2 ht]; simp
theorem may_split (rs : List PR) : mayL rs = (rs.all (fun p => typedL p.1) && decide (rs.length ≤ 8) && rs.all okV) := by
  have e : rs.all okR = (rs.all (fun p => typedL p.1) && rs.all okV) := by
    induction rs with
    | nil => rfl
    | cons a r ih =>
      rw [List.all_cons, List.all_cons, List.all_cons, ih]
      unfold okR
      cases typedL a.1 <;> cases okV a <;> cases r.all (fun p => typedL p.1) <;> rfl
  unfold mayL
  rw [e]
  cases rs.all (fun p => typedL p.1) <;> cases rs.all okV <;> cases decide (rs.length ≤ 8) <;> rfl
theorem parse_same (l : List UInt8) (h0 : l ≠ []) (n : Nat) (hn : l.length ≤ n) : parseL l = (prs (pieces (n + 1) l)).bind fun rs => if mayL rs = true then some rs else none := by
  unfold parseL
  rw [if_neg h0, pieces_succ, pieces_parse l.length l rfl 8 n hn]
  cases prs ((spl l).1 :: tailP n (spl l).2) with
  | none => rfl
  | some rs =>
    show (keep8 8 rs).bind _ = if mayL rs = true then some rs else none
    unfold keep8
    rw [may_split]
    cases (rs.all (fun p => typedL p.1) && decide (rs.length ≤ 8)) with
    | false => rfl
    | true =>
      rw [if_pos rfl, Bool.true_and]; rfl
theorem pieces_len : ∀ (n : Nat) (l : List UInt8), (pieces n l).length ≤ n + 1 ∧ ∀ p ∈ pieces n l, p.length ≤ l.length := by
  intro n
  induction n with
  | zero =>
    intro l
    have := congrArg List.length (spl_app l.length l rfl)
    rw [List.length_append] at this
    refine ⟨by simp [pieces], fun p hp => ?_⟩
    rw [pieces, List.mem_singleton] at hp
    rw [hp]; omega
  | succ n ih =>
    intro l
    have h := congrArg List.length (spl_app l.length l rfl)
    rw [List.length_append] at h
    rw [pieces_succ]
    cases h2 : (spl l).2 with
    | none =>
      refine ⟨by simp [tailP], fun p hp => ?_⟩
      rw [tailP, List.mem_singleton] at hp
      rw [hp]; omega
    | some r =>
      obtain ⟨i1, i2⟩ := ih r
      rw [h2] at h
      simp only [tailB, List.length_cons] at h
      refine ⟨by rw [List.length_cons]; show (pieces n r).length + 1 ≤ _; omega, fun p hp => ?_⟩
      rcases List.mem_cons.1 hp with hp | hp
      · rw [hp]; omega
      · have := i2 p hp; omega
theorem ref_parse (s : ByteArray) (hs : s.size ≤ 100000000) : Ev (fun k => brookref1_ParseDn.f k s) (parseEnd (parseL s.data.toList)) := by
  have hlen : s.data.toList.length = s.size := (size_len s).symm
  unfold brookref1_ParseDn.f
  rw [toList_data]
  by_cases h0 : s.data.toList = []
  · have e : parseEnd (parseL s.data.toList) = (([] : List SR), true) := by rw [h0]; rfl
    rw [e]; exact Ev.ifp h0 (Ev.now _)
  · refine Ev.ifn h0 ((ref_cut s (by omega)).bind ?_)
    obtain ⟨p1, p2⟩ := pieces_len (s.size + 1) s.data.toList
    have h := parse_loop_ref (pieces (s.size + 1) s.data.toList) (fun p hp => by have := p2 p hp; omega) (by omega) _ 0 [] rfl (by omega) (by simp) (by simp)
    rw [List.drop_zero] at h
    rw [parse_same s.data.toList h0 s.size (by omega)]
    exact h
theorem rkey_loop (rs : List PR) (hr : mayL rs = true) : ∀ n i : Nat, rs.length - i = n → i ≤ rs.length → (rs.take i).all (fun p => !(foldL p.2).isEmpty) = true →
    Ev (fun k => brookref1_Key.l0 k (((rs.take i).map normR).map toS) (i : Int) (rs.map toS) true) (encO (keyR rs)) := by
  have hm := hr
  unfold mayL at hm
  rw [Bool.and_eq_true, decide_eq_true_eq] at hm
  have hb : ∀ p ∈ rs, p.1.length ≤ 30 ∧ p.2.length ≤ 100 := by
    intro p hp
    have := List.all_eq_true.1 hm.1 p hp
    unfold okR okV typedL at this
    simp only [Bool.and_eq_true, decide_eq_true_eq] at this
    exact ⟨this.1.1.1.2, this.2.2⟩
  intro n
  induction n with
  | zero =>
    intro i hn hi hall
    have e : i = rs.length := by omega
    subst e
    rw [List.take_length] at hall ⊢
    have ek : keyR rs = some (textR true (rs.map normR)) := by unfold keyR; rw [if_pos hall]
    rw [ek]
    refine Ev.step (fun k => by rw [brookref1_Key.l0]) (Ev.ifn (by rw [List.length_map]; omega) ?_)
    have hbq : ∀ q ∈ rs.map normR, q.1.length ≤ 30 ∧ q.2.length ≤ 100 := fun q hq => by
      obtain ⟨p, hp, rfl⟩ := List.mem_map.1 hq
      have := hb p hp
      unfold normR
      have h2 := foldL_len p.2
      simp only [List.length_map]
      omega
    have hl := textR_len 100 (rs.map normR) true hbq
    rw [List.length_map] at hl
    have ht := ref_text ((rs.map normR).map toS) (fun i hi => by
      rw [List.length_map] at hi
      have hg : ((rs.map normR).map toS).getD i z41 = toS ((rs.map normR)[i]'hi) := by
        rw [List.getD_eq_getElem?_getD, List.getElem?_map, List.getElem?_eq_getElem hi]; rfl
      have hq := hbq _ (List.getElem_mem hi)
      rw [hg]
      unfold toS
      simp only [mk_size]
      omega) (by rw [textL_R]; omega) (by rw [List.length_map, List.length_map]; omega)
    rw [textL_R] at ht
    exact ht.bind (Ev.now _)
  | succ n ih =>
    intro i hn hi hall
    refine Ev.step (fun k => by rw [brookref1_Key.l0]) (Ev.ifp (by rw [List.length_map]; omega) (Ev.ifp (by omega) ?_))
    rw [rd_map rs i (by omega)]
    generalize hp : rs.getD i ([], []) = p
    have hpm : p ∈ rs := by
      rw [← hp, List.getD_eq_getElem?_getD, List.getElem?_eq_getElem (by omega)]
      exact List.getElem_mem _
    have hbp := hb p hpm
    have e1 : brookref1_Lower.f (toS p).f0 = some (mk (p.1.map lowB)) := by
      rw [ref_lower _ (by unfold toS; rw [mk_size]; omega)]
      congr 1
      apply ba_ext
      rw [lowS_data, mk_data]; rfl
    rw [e1]
    have e2 := ref_fold (toS p).f1 (by unfold toS; rw [mk_size]; omega)
    refine Ev.bs (e2.bind ?_)
    show Ev (fun k => if (mk (foldL p.2)).toList = [] then _ else _) _
    rw [mk_toList]
    by_cases hf : foldL p.2 = []
    · refine Ev.ifp hf ?_
      have ek : keyR rs = none := by
        unfold keyR
        rw [if_neg]
        intro h
        have := List.all_eq_true.1 h p hpm
        rw [hf] at this
        exact absurd this (by decide)
      rw [ek]
      exact Ev.now _
    · refine Ev.ifn hf (Ev.ifp (by rw [List.length_map, List.length_map, List.length_take]; omega) ?_)
      have eg : rs[i]'(by omega) = p := by rw [← hp, List.getD_eq_getElem?_getD, List.getElem?_eq_getElem (by omega)]; rfl
      have eapp : (((rs.take i).map normR).map toS) ++ [(⟨mk (p.1.map lowB), mk (foldL p.2)⟩ : SR)] = (((rs.take (i + 1)).map normR).map toS) := by
        rw [List.take_succ_eq_append_getElem (by omega), List.map_append, List.map_append, eg]; rfl
      have := ih (i + 1) (by omega) (by omega) (by
        rw [List.take_succ_eq_append_getElem (by omega), List.all_append, hall, eg]
        simp [List.isEmpty_iff, hf])
      rw [← eapp] at this
      rw [w_1 i (by omega)]
      exact this
theorem ref_key (s : ByteArray) (hs : s.size ≤ 100000000) : Ev (fun k => brookref1_Key.f k s) (encO (keyL s.data.toList)) := by
  unfold brookref1_Key.f keyL
  refine (ref_parse s hs).bind ?_
  cases h : parseL s.data.toList with
  | none => exact Ev.ifn Bool.false_ne_true (Ev.now _)
  | some rs =>
    refine Ev.ifp rfl ?_
    exact rkey_loop rs (parse_may h) rs.length 0 (by omega) (by omega) (by rfl)
end Go.Proofs.YtpcjjpkmebgjjaaGreatDoor.P

namespace Go.Proofs.YtpcjjpkmebgjjaaGreatDoor.P
open Go.RowKit Go.Proofs.YtpcjjpkmebgjjaaGreatDoorW.PrintWords Go.Proofs.YtpcjjpkmebgjjaaGreatDoorW.PrintLast Go.Proofs.YtpcjjpkmebgjjaaGreatDoorW.PrintMore
attribute [local go_sem] max2_int min2_int max_two min_two max_three min_three max_four min_four
set_option linter.unusedVariables false
set_option linter.unusedSimpArgs false
end Go.Proofs.YtpcjjpkmebgjjaaGreatDoor.P


namespace Go.Proofs.YtpcjjpkmebgjjaaGreatDoor.P
open Go.RowKit Go.Proofs.YtpcjjpkmebgjjaaGreatDoorW.PrintWords Go.Proofs.YtpcjjpkmebgjjaaGreatDoorW.PrintLast Go.Proofs.YtpcjjpkmebgjjaaGreatDoorW.PrintMore
set_option linter.unusedVariables false
set_option linter.unusedSimpArgs false
def valI (l : List UInt8) : Int := match Lib.atoiAll l with | .ok v => v | _ => 0
def lessP (r : Int) (x y : Option (List UInt8)) : Bool × Bool :=
  match x, y with
  | some a, some b => if r = 1 then (Op.bytesLess a b, true) else if r = 2 then (decide (valI a < valI b), true) else (false, false)
  | _, _ => (false, false)
theorem norm_num_is {t v x : List UInt8} (h : normL t v = some x) (hr : ruleL t = 2) : numberL x = true := by
  have h2 := norm_idem h
  have hs := normL_small h
  unfold normL normO at h2
  rw [if_neg (by rw [not_or]; exact ⟨hs.1, by omega⟩), hr, if_neg (by decide), if_pos rfl] at h2
  by_cases hn : numberL x = true
  · exact hn
  · rw [if_neg hn] at h2; cases h2
theorem less_all (t a b : ByteArray) (ht : t.size ≤ 9223372036854775807) : Ev (fun k => match_Less.f k t a b) (lessP (ruleL t.data.toList) (normL t.data.toList a.data.toList) (normL t.data.toList b.data.toList)) := by
  have ha := norm_all t a ht
  have hb := norm_all t b ht
  refine less_ev ht ha hb ?_
  cases hx : normL t.data.toList a.data.toList with
  | none => rfl
  | some x =>
    cases hy : normL t.data.toList b.data.toList with
    | none => rfl
    | some y =>
      have sx := normL_small hx
      have sy := normL_small hy
      show lessBy (ruleL t.data.toList) (mk x) (mk y) = some (if ruleL t.data.toList = 1 then (Op.bytesLess x y, true) else if ruleL t.data.toList = 2 then (decide (valI x < valI y), true) else (false, false))
      unfold lessBy
      by_cases r1 : ruleL t.data.toList = 1
      · rw [if_pos r1, if_pos r1, mk_toList, mk_toList]
      rw [if_neg r1, if_neg r1]
      by_cases r2 : ruleL t.data.toList = 2
      · rw [if_pos r2, if_pos r2, mk_size, mk_size, if_pos (by omega)]
        obtain ⟨vx, hvx, _, _⟩ := number_is (norm_num_is hx r2)
        obtain ⟨vy, hvy, _, _⟩ := number_is (norm_num_is hy r2)
        unfold lessNum valI
        rw [mk_data, mk_data, hvx, hvy]
      · rw [if_neg r2, if_neg r2]
end Go.Proofs.YtpcjjpkmebgjjaaGreatDoor.P


namespace Go.Proofs.YtpcjjpkmebgjjaaGreatDoor.P
open Go.RowKit Go.Proofs.YtpcjjpkmebgjjaaGreatDoorW.PrintWords Go.Proofs.YtpcjjpkmebgjjaaGreatDoorW.PrintLast Go.Proofs.YtpcjjpkmebgjjaaGreatDoorW.PrintMore
set_option linter.unusedVariables false
set_option linter.unusedSimpArgs false
theorem MatchDns.fld0 (v0 v1 : Value) (w : World) : (Instr.field 26 (.agg #[v0, v1]) 0).run Tryz.prog w = .ok v0 w := by kernel_rfl
theorem MatchDns.fld1 (v0 v1 : Value) (w : World) : (Instr.field 26 (.agg #[v0, v1]) 1).run Tryz.prog w = .ok v1 w := by kernel_rfl
attribute [local go_sem high] MatchDns.fld0 MatchDns.fld1
set_option maxHeartbeats 8000000 in
set_option maxRecDepth 100000 in
theorem MatchDns.bigA (k : Nat) (a0 a1 a b c n n2 ka kc kx : ByteArray) (ok ox oa oc sc : Bool) (w : World) (hG : Gl w) (hs : a0.size ≤ 30) (ht : a1.size ≤ 30)
    (T1 : Aside0 (brookref1_TextDn.f k ([(⟨(⟨#[67, 78]⟩ : ByteArray), (((⟨#[97]⟩ : ByteArray) ++ a0) ++ (⟨#[98]⟩ : ByteArray))⟩ : S41), (⟨(⟨#[111]⟩ : ByteArray), (⟨#[120]⟩ : ByteArray)⟩ : S41)] : List (S41)) = some a))
    (T2 : Aside0 (brookref1_TextDn.f k ([(⟨(⟨#[99, 110]⟩ : ByteArray), (((⟨#[65]⟩ : ByteArray) ++ lowS a0) ++ (⟨#[66]⟩ : ByteArray))⟩ : S41), (⟨(⟨#[79]⟩ : ByteArray), (⟨#[88, 32]⟩ : ByteArray)⟩ : S41)] : List (S41)) = some b))
    (T3 : Aside0 (brookref1_TextDn.f k ([(⟨(⟨#[99, 110]⟩ : ByteArray), (((⟨#[97]⟩ : ByteArray) ++ a1) ++ (⟨#[98]⟩ : ByteArray))⟩ : S41), (⟨(⟨#[111]⟩ : ByteArray), (⟨#[120]⟩ : ByteArray)⟩ : S41)] : List (S41)) = some c))
    (N1 : Aside0 (match_Norm.f k (⟨#[109, 101, 109, 98, 101, 114]⟩ : ByteArray) a = some (n, ok)))
    (N2 : Aside0 (match_Norm.f k (⟨#[109, 101, 109, 98, 101, 114]⟩ : ByteArray) ((⟨#[120]⟩ : ByteArray) ++ a0) = some (n2, ox)))
    (L1 : Aside0 (match_Less.f k (⟨#[109, 101, 109, 98, 101, 114]⟩ : ByteArray) a c = some (false, false)))
    (K1 : Aside0 (brookref1_Key.f k a = some (ka, oa)))
    (K2 : Aside0 (brookref1_Key.f k c = some (kc, oc)))
    (K3 : Aside0 (brookref1_Key.f k ((⟨#[120]⟩ : ByteArray) ++ a0) = some (kx, ox)))
    (AW : Aside0 (brooklaw3_awake.f k = some true))
    (ha : 100 < a.size) :
    Calls Tryz.prog 5 #[.string a0, .string a1] w fun e w' => e = .returned (.bool true) ∧ Below w.heap.size w w' := by
  have hu1 := Tryz.underlying41
  have hu2 := Tryz.underlying26
  have HB := Aside0.mk (Below.refl w.heap.size w)
  have HG := Aside0.mk hG
  clear hG
  have TL : Aside0 (brookref1_Lower.f a0 = some (lowS a0)) := ⟨ref_lower a0 (by omega)⟩
  have hz : (lowS a0).size ≤ 30 := by rw [lowS_size]; exact hs
  have d0 : decide (30 < (a0.size : Int)) = false := decide_eq_false (by omega)
  have d1 : decide (30 < a0.size) = false := decide_eq_false (by omega)
  have d2 : decide (30 < (a1.size : Int)) = false := decide_eq_false (by omega)
  have d3 : decide (30 < a1.size) = false := decide_eq_false (by omega)
  have d4 : decide ((a0.size : Int) < 100) = true := decide_eq_true (by omega)
  have d5 : decide (a0.size < 100) = true := decide_eq_true (by omega)
  have u1 : (9223372036854775807 < 1 + (a0).size) = False := eq_false (by omega)
  have u2 : (9223372036854775807 < 1 + (a0).size + 1) = False := eq_false (by omega)
  have v1 : (9223372036854775807 < 1 + (a1).size) = False := eq_false (by omega)
  have v2 : (9223372036854775807 < 1 + (a1).size + 1) = False := eq_false (by omega)
  have z1 : (9223372036854775807 < 1 + (lowS a0).size) = False := eq_false (by omega)
  have z2 : (9223372036854775807 < 1 + (lowS a0).size + 1) = False := eq_false (by omega)
  obtain ⟨ls1, hl1⟩ : ∃ y_ : List (S41), y_ = ([(⟨(⟨#[67, 78]⟩ : ByteArray), (((⟨#[97]⟩ : ByteArray) ++ a0) ++ (⟨#[98]⟩ : ByteArray))⟩ : S41), (⟨(⟨#[111]⟩ : ByteArray), (⟨#[120]⟩ : ByteArray)⟩ : S41)] : List (S41)) := ⟨_, rfl⟩
  have Y1 := Aside0.mk hl1
  have T1' := Aside0.mk T1.out
  rw [← hl1] at T1'
  clear T1
  have T1 := T1'
  clear T1' hl1
  obtain ⟨ls2, hl2⟩ : ∃ y_ : List (S41), y_ = ([(⟨(⟨#[99, 110]⟩ : ByteArray), (((⟨#[65]⟩ : ByteArray) ++ lowS a0) ++ (⟨#[66]⟩ : ByteArray))⟩ : S41), (⟨(⟨#[79]⟩ : ByteArray), (⟨#[88, 32]⟩ : ByteArray)⟩ : S41)] : List (S41)) := ⟨_, rfl⟩
  have Y2 := Aside0.mk hl2
  have T2' := Aside0.mk T2.out
  rw [← hl2] at T2'
  clear T2
  have T2 := T2'
  clear T2' hl2
  obtain ⟨ls3, hl3⟩ : ∃ y_ : List (S41), y_ = ([(⟨(⟨#[99, 110]⟩ : ByteArray), (((⟨#[97]⟩ : ByteArray) ++ a1) ++ (⟨#[98]⟩ : ByteArray))⟩ : S41), (⟨(⟨#[111]⟩ : ByteArray), (⟨#[120]⟩ : ByteArray)⟩ : S41)] : List (S41)) := ⟨_, rfl⟩
  have Y3 := Aside0.mk hl3
  have T3' := Aside0.mk T3.out
  rw [← hl3] at T3'
  clear T3
  have T3 := T3'
  clear T3' hl3
  clear hs ht hz
  have e_a0 : decide (100 < (a.size : Int)) = true := decide_eq_true (by omega)
  have e_a1 : decide (100 < a.size) = true := decide_eq_true (by omega)
  clear ha
  go_enter Tryz.func5, Tryz.ntmps5
  go_upto_region 8 with (first | ((with_reducible refine gate_dst (N := 28) rfl ?_); (try (refine gate_guard (by rfl) ?_; dsimp only)); refine Kd.R_lit k41 _ 41 ?hg (N := 28) ?hd (xs := ([(⟨(⟨#[67, 78]⟩ : ByteArray), (((⟨#[97]⟩ : ByteArray) ++ a0) ++ (⟨#[98]⟩ : ByteArray))⟩ : S41), (⟨(⟨#[111]⟩ : ByteArray), (⟨#[120]⟩ : ByteArray)⟩ : S41)] : List (S41))) (inner := [.string (⟨#[67, 78]⟩ : ByteArray), .string (((⟨#[97]⟩ : ByteArray) ++ a0) ++ (⟨#[98]⟩ : ByteArray)), .string (⟨#[111]⟩ : ByteArray), .string (⟨#[120]⟩ : ByteArray)]) (ok := fun _ => True) (okp := fun _ => True) ?hr ?hp (fun _ hk => hk) trivial (Below.refl _ _) (Nat.le_refl _) (by simp) ?_; (case hd => rfl); (case hg => rfl); (case hr => first | (go_simp; done) | (go_simp; rfl)); (case hp => exact (Reps.c2 (show Kd.M k41 _ _ _ (⟨(⟨#[67, 78]⟩ : ByteArray), (((⟨#[97]⟩ : ByteArray) ++ a0) ++ (⟨#[98]⟩ : ByteArray))⟩ : S41) [.string (⟨#[67, 78]⟩ : ByteArray), .string (((⟨#[97]⟩ : ByteArray) ++ a0) ++ (⟨#[98]⟩ : ByteArray))] from (k41_mkM _ _ _ (⟨(⟨#[67, 78]⟩ : ByteArray), (((⟨#[97]⟩ : ByteArray) ++ a0) ++ (⟨#[98]⟩ : ByteArray))⟩ : S41) )) (Reps.c2 (show Kd.M k41 _ _ _ (⟨(⟨#[111]⟩ : ByteArray), (⟨#[120]⟩ : ByteArray)⟩ : S41) [.string (⟨#[111]⟩ : ByteArray), .string (⟨#[120]⟩ : ByteArray)] from (k41_mkM _ _ _ (⟨(⟨#[111]⟩ : ByteArray), (⟨#[120]⟩ : ByteArray)⟩ : S41) )) (Reps.none _ _)))); intro v1 w1 ho1 hb hg_ hnew_; clear hg_ hnew_; (first | rw [← Y1.out] at ho1 | (simp only [Int.reduceToNat] at ho1; rw [← Y1.out] at ho1)); have n0_ := Aside0.mk (Kd.R_lower ho1 (below_size (by repeat (first | (with_reducible first | exact HB.out | apply below_alloc | apply pw_below_drewN | apply below_drew1) | exact HB.out)))); have n1_ := Aside0.mk (below_step (by repeat (first | (with_reducible first | exact HB.out | apply below_alloc | apply pw_below_drewN | apply below_drew1) | exact HB.out)) hb); clear HB; have HO1 := n0_; have HB := n1_; clear n0_ n1_; clear hb ho1; obtain ⟨Ao1, co1, eo1⟩ := Kd.R_slice HO1.out; subst eo1) | ((with_reducible refine gate_callee (f := 18) rfl ?_); refine goesL_ (some 29) rfl rfl Tryz.func18 (by kernel_rfl) rfl #[.slice Ao1 ls1.length co1] rfl (by (try simp only [List.map_toArray, List.map_cons, List.map_nil]); first | done | rfl) ?_; (with_reducible refine (brookref1_TextDn.calls k _ _ ls1 a _ ?side1 ?side2 T1.out).mono ?_); (case side1 => repeat (first | exact (Kd.R_reads' HO1.out).2.2 | (with_reducible refine Kd.C_alloc ?_ _) | (with_reducible refine Kd.C_drewN ?_ _) | (with_reducible refine Kd.C_drew ?_))); (case side2 => exact (Kd.R_reads' HO1.out).2.1); rintro e w' ⟨rfl, ⟨nd, rfl⟩⟩; refine ⟨_, rfl, ?_⟩; clear HO1) | ((with_reducible refine gate_callee (f := 19) rfl ?_); refine goesL_ (some 31) rfl rfl Tryz.func19 (by kernel_rfl) rfl #[.string a0] rfl (by (try simp only [List.map_toArray, List.map_cons, List.map_nil]); first | done | rfl) ?_; (with_reducible refine (brookref1_Lower.calls a0 (lowS a0) _ TL.out).mono ?_); rintro e wq ⟨rfl, hb⟩; refine ⟨_, rfl, ?_⟩; have n1_ := Aside0.mk (below_step (by repeat (first | (with_reducible first | exact HB.out | apply below_alloc | apply pw_below_drewN | apply below_drew1) | exact HB.out)) hb); clear HB; have HB := n1_; clear n1_; (try clear hb)) | ((with_reducible refine gate_dst (N := 36) rfl ?_); (try (refine gate_guard (by rfl) ?_; dsimp only)); refine Kd.R_lit k41 _ 41 ?hg (N := 36) ?hd (xs := ([(⟨(⟨#[99, 110]⟩ : ByteArray), (((⟨#[65]⟩ : ByteArray) ++ lowS a0) ++ (⟨#[66]⟩ : ByteArray))⟩ : S41), (⟨(⟨#[79]⟩ : ByteArray), (⟨#[88, 32]⟩ : ByteArray)⟩ : S41)] : List (S41))) (inner := [.string (⟨#[99, 110]⟩ : ByteArray), .string (((⟨#[65]⟩ : ByteArray) ++ lowS a0) ++ (⟨#[66]⟩ : ByteArray)), .string (⟨#[79]⟩ : ByteArray), .string (⟨#[88, 32]⟩ : ByteArray)]) (ok := fun _ => True) (okp := fun _ => True) ?hr ?hp (fun _ hk => hk) trivial (Below.refl _ _) (Nat.le_refl _) (by simp) ?_; (case hd => rfl); (case hg => rfl); (case hr => first | (go_simp; done) | (go_simp; rfl)); (case hp => exact (Reps.c2 (show Kd.M k41 _ _ _ (⟨(⟨#[99, 110]⟩ : ByteArray), (((⟨#[65]⟩ : ByteArray) ++ lowS a0) ++ (⟨#[66]⟩ : ByteArray))⟩ : S41) [.string (⟨#[99, 110]⟩ : ByteArray), .string (((⟨#[65]⟩ : ByteArray) ++ lowS a0) ++ (⟨#[66]⟩ : ByteArray))] from (k41_mkM _ _ _ (⟨(⟨#[99, 110]⟩ : ByteArray), (((⟨#[65]⟩ : ByteArray) ++ lowS a0) ++ (⟨#[66]⟩ : ByteArray))⟩ : S41) )) (Reps.c2 (show Kd.M k41 _ _ _ (⟨(⟨#[79]⟩ : ByteArray), (⟨#[88, 32]⟩ : ByteArray)⟩ : S41) [.string (⟨#[79]⟩ : ByteArray), .string (⟨#[88, 32]⟩ : ByteArray)] from (k41_mkM _ _ _ (⟨(⟨#[79]⟩ : ByteArray), (⟨#[88, 32]⟩ : ByteArray)⟩ : S41) )) (Reps.none _ _)))); intro v2 w2 ho2 hb hg_ hnew_; clear hg_ hnew_; (first | rw [← Y2.out] at ho2 | (simp only [Int.reduceToNat] at ho2; rw [← Y2.out] at ho2)); have n0_ := Aside0.mk (Kd.R_lower ho2 (below_size (by repeat (first | (with_reducible first | exact HB.out | apply below_alloc | apply pw_below_drewN | apply below_drew1) | exact HB.out)))); have n1_ := Aside0.mk (below_step (by repeat (first | (with_reducible first | exact HB.out | apply below_alloc | apply pw_below_drewN | apply below_drew1) | exact HB.out)) hb); clear HB; have HO2 := n0_; have HB := n1_; clear n0_ n1_; clear hb ho2; obtain ⟨Ao2, co2, eo2⟩ := Kd.R_slice HO2.out; subst eo2) | ((with_reducible refine gate_callee (f := 18) rfl ?_); refine goesL_ (some 37) rfl rfl Tryz.func18 (by kernel_rfl) rfl #[.slice Ao2 ls2.length co2] rfl (by (try simp only [List.map_toArray, List.map_cons, List.map_nil]); first | done | rfl) ?_; (with_reducible refine (brookref1_TextDn.calls k _ _ ls2 b _ ?side1 ?side2 T2.out).mono ?_); (case side1 => repeat (first | exact (Kd.R_reads' HO2.out).2.2 | (with_reducible refine Kd.C_alloc ?_ _) | (with_reducible refine Kd.C_drewN ?_ _) | (with_reducible refine Kd.C_drew ?_))); (case side2 => exact (Kd.R_reads' HO2.out).2.1); rintro e w' ⟨rfl, ⟨nd, rfl⟩⟩; refine ⟨_, rfl, ?_⟩; clear HO2) | ((with_reducible refine gate_dst (N := 43) rfl ?_); (try (refine gate_guard (by rfl) ?_; dsimp only)); refine Kd.R_lit k41 _ 41 ?hg (N := 43) ?hd (xs := ([(⟨(⟨#[99, 110]⟩ : ByteArray), (((⟨#[97]⟩ : ByteArray) ++ a1) ++ (⟨#[98]⟩ : ByteArray))⟩ : S41), (⟨(⟨#[111]⟩ : ByteArray), (⟨#[120]⟩ : ByteArray)⟩ : S41)] : List (S41))) (inner := [.string (⟨#[99, 110]⟩ : ByteArray), .string (((⟨#[97]⟩ : ByteArray) ++ a1) ++ (⟨#[98]⟩ : ByteArray)), .string (⟨#[111]⟩ : ByteArray), .string (⟨#[120]⟩ : ByteArray)]) (ok := fun _ => True) (okp := fun _ => True) ?hr ?hp (fun _ hk => hk) trivial (Below.refl _ _) (Nat.le_refl _) (by simp) ?_; (case hd => rfl); (case hg => rfl); (case hr => first | (go_simp; done) | (go_simp; rfl)); (case hp => exact (Reps.c2 (show Kd.M k41 _ _ _ (⟨(⟨#[99, 110]⟩ : ByteArray), (((⟨#[97]⟩ : ByteArray) ++ a1) ++ (⟨#[98]⟩ : ByteArray))⟩ : S41) [.string (⟨#[99, 110]⟩ : ByteArray), .string (((⟨#[97]⟩ : ByteArray) ++ a1) ++ (⟨#[98]⟩ : ByteArray))] from (k41_mkM _ _ _ (⟨(⟨#[99, 110]⟩ : ByteArray), (((⟨#[97]⟩ : ByteArray) ++ a1) ++ (⟨#[98]⟩ : ByteArray))⟩ : S41) )) (Reps.c2 (show Kd.M k41 _ _ _ (⟨(⟨#[111]⟩ : ByteArray), (⟨#[120]⟩ : ByteArray)⟩ : S41) [.string (⟨#[111]⟩ : ByteArray), .string (⟨#[120]⟩ : ByteArray)] from (k41_mkM _ _ _ (⟨(⟨#[111]⟩ : ByteArray), (⟨#[120]⟩ : ByteArray)⟩ : S41) )) (Reps.none _ _)))); intro v3 w3 ho3 hb hg_ hnew_; clear hg_ hnew_; (first | rw [← Y3.out] at ho3 | (simp only [Int.reduceToNat] at ho3; rw [← Y3.out] at ho3)); have n0_ := Aside0.mk (Kd.R_lower ho3 (below_size (by repeat (first | (with_reducible first | exact HB.out | apply below_alloc | apply pw_below_drewN | apply below_drew1) | exact HB.out)))); have n1_ := Aside0.mk (below_step (by repeat (first | (with_reducible first | exact HB.out | apply below_alloc | apply pw_below_drewN | apply below_drew1) | exact HB.out)) hb); clear HB; have HO3 := n0_; have HB := n1_; clear n0_ n1_; clear hb ho3; obtain ⟨Ao3, co3, eo3⟩ := Kd.R_slice HO3.out; subst eo3) | ((with_reducible refine gate_callee (f := 18) rfl ?_); refine goesL_ (some 44) rfl rfl Tryz.func18 (by kernel_rfl) rfl #[.slice Ao3 ls3.length co3] rfl (by (try simp only [List.map_toArray, List.map_cons, List.map_nil]); first | done | rfl) ?_; (with_reducible refine (brookref1_TextDn.calls k _ _ ls3 c _ ?side1 ?side2 T3.out).mono ?_); (case side1 => repeat (first | exact (Kd.R_reads' HO3.out).2.2 | (with_reducible refine Kd.C_alloc ?_ _) | (with_reducible refine Kd.C_drewN ?_ _) | (with_reducible refine Kd.C_drew ?_))); (case side2 => exact (Kd.R_reads' HO3.out).2.1); rintro e w' ⟨rfl, ⟨nd, rfl⟩⟩; refine ⟨_, rfl, ?_⟩; clear HO3) | ((with_reducible refine gate_callee (f := 9) rfl ?_); refine goesL_ (some 47) rfl rfl Tryz.func9 (by kernel_rfl) rfl #[.string (⟨#[109, 101, 109, 98, 101, 114]⟩ : ByteArray), .string a] rfl (by (try simp only [List.map_toArray, List.map_cons, List.map_nil]); first | done | rfl) ?_; (with_reducible refine (match_Norm.calls k (⟨#[109, 101, 109, 98, 101, 114]⟩ : ByteArray) a _ _ _ ?side1 N1.out).mono ?_); (case side1 => first | exact HG.out | exact Gl.drewN HG.out _ | exact Gl.below HG.out (by repeat (first | (with_reducible first | exact HB.out | apply below_alloc | apply pw_below_drewN | apply below_drew1) | exact HB.out))); rintro e wq ⟨rfl, hb⟩; refine ⟨_, rfl, ?_⟩; have n1_ := Aside0.mk (below_step (by repeat (first | (with_reducible first | exact HB.out | apply below_alloc | apply pw_below_drewN | apply below_drew1) | exact HB.out)) hb); clear HB; have HB := n1_; clear n1_; (try clear hb)) | ((with_reducible refine gate_callee (f := 9) rfl ?_); refine goesL_ (some 53) rfl rfl Tryz.func9 (by kernel_rfl) rfl #[.string (⟨#[109, 101, 109, 98, 101, 114]⟩ : ByteArray), .string ((⟨#[120]⟩ : ByteArray) ++ a0)] rfl (by (try simp only [List.map_toArray, List.map_cons, List.map_nil]); first | done | rfl) ?_; (with_reducible refine (match_Norm.calls k (⟨#[109, 101, 109, 98, 101, 114]⟩ : ByteArray) ((⟨#[120]⟩ : ByteArray) ++ a0) _ _ _ ?side1 N2.out).mono ?_); (case side1 => first | exact HG.out | exact Gl.drewN HG.out _ | exact Gl.below HG.out (by repeat (first | (with_reducible first | exact HB.out | apply below_alloc | apply pw_below_drewN | apply below_drew1) | exact HB.out))); rintro e wq ⟨rfl, hb⟩; refine ⟨_, rfl, ?_⟩; have n1_ := Aside0.mk (below_step (by repeat (first | (with_reducible first | exact HB.out | apply below_alloc | apply pw_below_drewN | apply below_drew1) | exact HB.out)) hb); clear HB; have HB := n1_; clear n1_; (try clear hb)))
  go_upto_region 9 with (((with_reducible refine gate_callee (f := 11) rfl ?_); refine goesL_ (some 59) rfl rfl Tryz.func11 (by kernel_rfl) rfl #[.string (⟨#[109, 101, 109, 98, 101, 114]⟩ : ByteArray), .string a, .string c] rfl (by (try simp only [List.map_toArray, List.map_cons, List.map_nil]); first | done | rfl) ?_; (with_reducible refine (match_Less.calls k (⟨#[109, 101, 109, 98, 101, 114]⟩ : ByteArray) a c false false _ ?side1 L1.out).mono ?_); (case side1 => first | exact HG.out | exact Gl.drewN HG.out _ | exact Gl.below HG.out (by repeat (first | (with_reducible first | exact HB.out | apply below_alloc | apply pw_below_drewN | apply below_drew1) | exact HB.out))); rintro e wq ⟨rfl, hb⟩; refine ⟨_, rfl, ?_⟩; have n1_ := Aside0.mk (below_step (by repeat (first | (with_reducible first | exact HB.out | apply below_alloc | apply pw_below_drewN | apply below_drew1) | exact HB.out)) hb); clear HB; have HB := n1_; clear n1_; (try clear hb)))
  simp only [List.append_eq, List.cons_append, List.nil_append]
  cases ox with
  | true =>
    go_wp2_with (first | (go_at_call 20; (with_reducible refine (brookref1_Key.calls k ((⟨#[120]⟩ : ByteArray) ++ a0) _ _ _ K3.out).mono ?_); rintro e wq ⟨rfl, hb⟩; have n1_ := Aside0.mk (below_step (by repeat (first | (with_reducible first | exact HB.out | apply below_alloc | apply pw_below_drewN | apply below_drew1) | exact HB.out)) hb); clear HB; have HB := n1_; clear n1_; (try clear hb)) | (go_at_call 6; (with_reducible refine (brooklaw3_awake.calls k true _ ?side1 AW.out).mono ?_); (case side1 => first | exact HG.out | exact Gl.drewN HG.out _ | exact Gl.below HG.out (by repeat (first | (with_reducible first | exact HB.out | apply below_alloc | apply pw_below_drewN | apply below_drew1) | exact HB.out))); rintro e wq ⟨rfl, hb⟩; have n1_ := Aside0.mk (below_step (by repeat (first | (with_reducible first | exact HB.out | apply below_alloc | apply pw_below_drewN | apply below_drew1) | exact HB.out)) hb); clear HB; have HB := n1_; clear n1_; (try clear hb)))
    go_ret
    exact ⟨by first | rfl | (simp; done) | (simp [*]; done), (by repeat (first | (with_reducible first | exact HB.out | apply below_alloc | apply pw_below_drewN | apply below_drew1) | exact HB.out))⟩
  | false =>
    go_wp2_with (first | (go_at_call 20; (with_reducible refine (brookref1_Key.calls k ((⟨#[120]⟩ : ByteArray) ++ a0) _ _ _ K3.out).mono ?_); rintro e wq ⟨rfl, hb⟩; have n1_ := Aside0.mk (below_step (by repeat (first | (with_reducible first | exact HB.out | apply below_alloc | apply pw_below_drewN | apply below_drew1) | exact HB.out)) hb); clear HB; have HB := n1_; clear n1_; (try clear hb)) | (go_at_call 6; (with_reducible refine (brooklaw3_awake.calls k true _ ?side1 AW.out).mono ?_); (case side1 => first | exact HG.out | exact Gl.drewN HG.out _ | exact Gl.below HG.out (by repeat (first | (with_reducible first | exact HB.out | apply below_alloc | apply pw_below_drewN | apply below_drew1) | exact HB.out))); rintro e wq ⟨rfl, hb⟩; have n1_ := Aside0.mk (below_step (by repeat (first | (with_reducible first | exact HB.out | apply below_alloc | apply pw_below_drewN | apply below_drew1) | exact HB.out)) hb); clear HB; have HB := n1_; clear n1_; (try clear hb)))
    go_ret
    exact ⟨by first | rfl | (simp; done) | (simp [*]; done), (by repeat (first | (with_reducible first | exact HB.out | apply below_alloc | apply pw_below_drewN | apply below_drew1) | exact HB.out))⟩
set_option maxHeartbeats 8000000 in
set_option maxRecDepth 100000 in
theorem MatchDns.bigBC (k : Nat) (a0 a1 a b c n n2 ka kc kx : ByteArray) (ok ox oa oc sc : Bool) (w : World) (hG : Gl w) (hs : a0.size ≤ 30) (ht : a1.size ≤ 30)
    (T1 : Aside0 (brookref1_TextDn.f k ([(⟨(⟨#[67, 78]⟩ : ByteArray), (((⟨#[97]⟩ : ByteArray) ++ a0) ++ (⟨#[98]⟩ : ByteArray))⟩ : S41), (⟨(⟨#[111]⟩ : ByteArray), (⟨#[120]⟩ : ByteArray)⟩ : S41)] : List (S41)) = some a))
    (T2 : Aside0 (brookref1_TextDn.f k ([(⟨(⟨#[99, 110]⟩ : ByteArray), (((⟨#[65]⟩ : ByteArray) ++ lowS a0) ++ (⟨#[66]⟩ : ByteArray))⟩ : S41), (⟨(⟨#[79]⟩ : ByteArray), (⟨#[88, 32]⟩ : ByteArray)⟩ : S41)] : List (S41)) = some b))
    (T3 : Aside0 (brookref1_TextDn.f k ([(⟨(⟨#[99, 110]⟩ : ByteArray), (((⟨#[97]⟩ : ByteArray) ++ a1) ++ (⟨#[98]⟩ : ByteArray))⟩ : S41), (⟨(⟨#[111]⟩ : ByteArray), (⟨#[120]⟩ : ByteArray)⟩ : S41)] : List (S41)) = some c))
    (N1 : Aside0 (match_Norm.f k (⟨#[109, 101, 109, 98, 101, 114]⟩ : ByteArray) a = some (n, ok)))
    (N2 : Aside0 (match_Norm.f k (⟨#[109, 101, 109, 98, 101, 114]⟩ : ByteArray) ((⟨#[120]⟩ : ByteArray) ++ a0) = some (n2, ox)))
    (L1 : Aside0 (match_Less.f k (⟨#[109, 101, 109, 98, 101, 114]⟩ : ByteArray) a c = some (false, false)))
    (K1 : Aside0 (brookref1_Key.f k a = some (ka, oa)))
    (K2 : Aside0 (brookref1_Key.f k c = some (kc, oc)))
    (K3 : Aside0 (brookref1_Key.f k ((⟨#[120]⟩ : ByteArray) ++ a0) = some (kx, ox)))
    (AW : Aside0 (brooklaw3_awake.f k = some true))
    (ha : ¬ 100 < a.size) (hb : 100 < b.size) (hc : 100 < c.size) (hok : ok = true) (hn : n = ka) :
    Calls Tryz.prog 5 #[.string a0, .string a1] w fun e w' => e = .returned (.bool true) ∧ Below w.heap.size w w' := by
  have hu1 := Tryz.underlying41
  have hu2 := Tryz.underlying26
  have HB := Aside0.mk (Below.refl w.heap.size w)
  have HG := Aside0.mk hG
  clear hG
  have TL : Aside0 (brookref1_Lower.f a0 = some (lowS a0)) := ⟨ref_lower a0 (by omega)⟩
  have hz : (lowS a0).size ≤ 30 := by rw [lowS_size]; exact hs
  have d0 : decide (30 < (a0.size : Int)) = false := decide_eq_false (by omega)
  have d1 : decide (30 < a0.size) = false := decide_eq_false (by omega)
  have d2 : decide (30 < (a1.size : Int)) = false := decide_eq_false (by omega)
  have d3 : decide (30 < a1.size) = false := decide_eq_false (by omega)
  have d4 : decide ((a0.size : Int) < 100) = true := decide_eq_true (by omega)
  have d5 : decide (a0.size < 100) = true := decide_eq_true (by omega)
  have u1 : (9223372036854775807 < 1 + (a0).size) = False := eq_false (by omega)
  have u2 : (9223372036854775807 < 1 + (a0).size + 1) = False := eq_false (by omega)
  have v1 : (9223372036854775807 < 1 + (a1).size) = False := eq_false (by omega)
  have v2 : (9223372036854775807 < 1 + (a1).size + 1) = False := eq_false (by omega)
  have z1 : (9223372036854775807 < 1 + (lowS a0).size) = False := eq_false (by omega)
  have z2 : (9223372036854775807 < 1 + (lowS a0).size + 1) = False := eq_false (by omega)
  obtain ⟨ls1, hl1⟩ : ∃ y_ : List (S41), y_ = ([(⟨(⟨#[67, 78]⟩ : ByteArray), (((⟨#[97]⟩ : ByteArray) ++ a0) ++ (⟨#[98]⟩ : ByteArray))⟩ : S41), (⟨(⟨#[111]⟩ : ByteArray), (⟨#[120]⟩ : ByteArray)⟩ : S41)] : List (S41)) := ⟨_, rfl⟩
  have Y1 := Aside0.mk hl1
  have T1' := Aside0.mk T1.out
  rw [← hl1] at T1'
  clear T1
  have T1 := T1'
  clear T1' hl1
  obtain ⟨ls2, hl2⟩ : ∃ y_ : List (S41), y_ = ([(⟨(⟨#[99, 110]⟩ : ByteArray), (((⟨#[65]⟩ : ByteArray) ++ lowS a0) ++ (⟨#[66]⟩ : ByteArray))⟩ : S41), (⟨(⟨#[79]⟩ : ByteArray), (⟨#[88, 32]⟩ : ByteArray)⟩ : S41)] : List (S41)) := ⟨_, rfl⟩
  have Y2 := Aside0.mk hl2
  have T2' := Aside0.mk T2.out
  rw [← hl2] at T2'
  clear T2
  have T2 := T2'
  clear T2' hl2
  obtain ⟨ls3, hl3⟩ : ∃ y_ : List (S41), y_ = ([(⟨(⟨#[99, 110]⟩ : ByteArray), (((⟨#[97]⟩ : ByteArray) ++ a1) ++ (⟨#[98]⟩ : ByteArray))⟩ : S41), (⟨(⟨#[111]⟩ : ByteArray), (⟨#[120]⟩ : ByteArray)⟩ : S41)] : List (S41)) := ⟨_, rfl⟩
  have Y3 := Aside0.mk hl3
  have T3' := Aside0.mk T3.out
  rw [← hl3] at T3'
  clear T3
  have T3 := T3'
  clear T3' hl3
  clear hs ht hz
  have e_a0 : decide (100 < (a.size : Int)) = false := decide_eq_false (by omega)
  have e_a1 : decide (100 < a.size) = false := decide_eq_false (by omega)
  have e_b0 : decide (100 < (b.size : Int)) = true := decide_eq_true (by omega)
  have e_b1 : decide (100 < b.size) = true := decide_eq_true (by omega)
  have e_c0 : decide (100 < (c.size : Int)) = true := decide_eq_true (by omega)
  have e_c1 : decide (100 < c.size) = true := decide_eq_true (by omega)
  clear ha hb hc
  subst hok
  obtain rfl : ka = n := hn.symm
  go_enter Tryz.func5, Tryz.ntmps5
  go_upto_region 8 with (first | ((with_reducible refine gate_dst (N := 28) rfl ?_); (try (refine gate_guard (by rfl) ?_; dsimp only)); refine Kd.R_lit k41 _ 41 ?hg (N := 28) ?hd (xs := ([(⟨(⟨#[67, 78]⟩ : ByteArray), (((⟨#[97]⟩ : ByteArray) ++ a0) ++ (⟨#[98]⟩ : ByteArray))⟩ : S41), (⟨(⟨#[111]⟩ : ByteArray), (⟨#[120]⟩ : ByteArray)⟩ : S41)] : List (S41))) (inner := [.string (⟨#[67, 78]⟩ : ByteArray), .string (((⟨#[97]⟩ : ByteArray) ++ a0) ++ (⟨#[98]⟩ : ByteArray)), .string (⟨#[111]⟩ : ByteArray), .string (⟨#[120]⟩ : ByteArray)]) (ok := fun _ => True) (okp := fun _ => True) ?hr ?hp (fun _ hk => hk) trivial (Below.refl _ _) (Nat.le_refl _) (by simp) ?_; (case hd => rfl); (case hg => rfl); (case hr => first | (go_simp; done) | (go_simp; rfl)); (case hp => exact (Reps.c2 (show Kd.M k41 _ _ _ (⟨(⟨#[67, 78]⟩ : ByteArray), (((⟨#[97]⟩ : ByteArray) ++ a0) ++ (⟨#[98]⟩ : ByteArray))⟩ : S41) [.string (⟨#[67, 78]⟩ : ByteArray), .string (((⟨#[97]⟩ : ByteArray) ++ a0) ++ (⟨#[98]⟩ : ByteArray))] from (k41_mkM _ _ _ (⟨(⟨#[67, 78]⟩ : ByteArray), (((⟨#[97]⟩ : ByteArray) ++ a0) ++ (⟨#[98]⟩ : ByteArray))⟩ : S41) )) (Reps.c2 (show Kd.M k41 _ _ _ (⟨(⟨#[111]⟩ : ByteArray), (⟨#[120]⟩ : ByteArray)⟩ : S41) [.string (⟨#[111]⟩ : ByteArray), .string (⟨#[120]⟩ : ByteArray)] from (k41_mkM _ _ _ (⟨(⟨#[111]⟩ : ByteArray), (⟨#[120]⟩ : ByteArray)⟩ : S41) )) (Reps.none _ _)))); intro v1 w1 ho1 hb hg_ hnew_; clear hg_ hnew_; (first | rw [← Y1.out] at ho1 | (simp only [Int.reduceToNat] at ho1; rw [← Y1.out] at ho1)); have n0_ := Aside0.mk (Kd.R_lower ho1 (below_size (by repeat (first | (with_reducible first | exact HB.out | apply below_alloc | apply pw_below_drewN | apply below_drew1) | exact HB.out)))); have n1_ := Aside0.mk (below_step (by repeat (first | (with_reducible first | exact HB.out | apply below_alloc | apply pw_below_drewN | apply below_drew1) | exact HB.out)) hb); clear HB; have HO1 := n0_; have HB := n1_; clear n0_ n1_; clear hb ho1; obtain ⟨Ao1, co1, eo1⟩ := Kd.R_slice HO1.out; subst eo1) | ((with_reducible refine gate_callee (f := 18) rfl ?_); refine goesL_ (some 29) rfl rfl Tryz.func18 (by kernel_rfl) rfl #[.slice Ao1 ls1.length co1] rfl (by (try simp only [List.map_toArray, List.map_cons, List.map_nil]); first | done | rfl) ?_; (with_reducible refine (brookref1_TextDn.calls k _ _ ls1 a _ ?side1 ?side2 T1.out).mono ?_); (case side1 => repeat (first | exact (Kd.R_reads' HO1.out).2.2 | (with_reducible refine Kd.C_alloc ?_ _) | (with_reducible refine Kd.C_drewN ?_ _) | (with_reducible refine Kd.C_drew ?_))); (case side2 => exact (Kd.R_reads' HO1.out).2.1); rintro e w' ⟨rfl, ⟨nd, rfl⟩⟩; refine ⟨_, rfl, ?_⟩; clear HO1) | ((with_reducible refine gate_callee (f := 19) rfl ?_); refine goesL_ (some 31) rfl rfl Tryz.func19 (by kernel_rfl) rfl #[.string a0] rfl (by (try simp only [List.map_toArray, List.map_cons, List.map_nil]); first | done | rfl) ?_; (with_reducible refine (brookref1_Lower.calls a0 (lowS a0) _ TL.out).mono ?_); rintro e wq ⟨rfl, hb⟩; refine ⟨_, rfl, ?_⟩; have n1_ := Aside0.mk (below_step (by repeat (first | (with_reducible first | exact HB.out | apply below_alloc | apply pw_below_drewN | apply below_drew1) | exact HB.out)) hb); clear HB; have HB := n1_; clear n1_; (try clear hb)) | ((with_reducible refine gate_dst (N := 36) rfl ?_); (try (refine gate_guard (by rfl) ?_; dsimp only)); refine Kd.R_lit k41 _ 41 ?hg (N := 36) ?hd (xs := ([(⟨(⟨#[99, 110]⟩ : ByteArray), (((⟨#[65]⟩ : ByteArray) ++ lowS a0) ++ (⟨#[66]⟩ : ByteArray))⟩ : S41), (⟨(⟨#[79]⟩ : ByteArray), (⟨#[88, 32]⟩ : ByteArray)⟩ : S41)] : List (S41))) (inner := [.string (⟨#[99, 110]⟩ : ByteArray), .string (((⟨#[65]⟩ : ByteArray) ++ lowS a0) ++ (⟨#[66]⟩ : ByteArray)), .string (⟨#[79]⟩ : ByteArray), .string (⟨#[88, 32]⟩ : ByteArray)]) (ok := fun _ => True) (okp := fun _ => True) ?hr ?hp (fun _ hk => hk) trivial (Below.refl _ _) (Nat.le_refl _) (by simp) ?_; (case hd => rfl); (case hg => rfl); (case hr => first | (go_simp; done) | (go_simp; rfl)); (case hp => exact (Reps.c2 (show Kd.M k41 _ _ _ (⟨(⟨#[99, 110]⟩ : ByteArray), (((⟨#[65]⟩ : ByteArray) ++ lowS a0) ++ (⟨#[66]⟩ : ByteArray))⟩ : S41) [.string (⟨#[99, 110]⟩ : ByteArray), .string (((⟨#[65]⟩ : ByteArray) ++ lowS a0) ++ (⟨#[66]⟩ : ByteArray))] from (k41_mkM _ _ _ (⟨(⟨#[99, 110]⟩ : ByteArray), (((⟨#[65]⟩ : ByteArray) ++ lowS a0) ++ (⟨#[66]⟩ : ByteArray))⟩ : S41) )) (Reps.c2 (show Kd.M k41 _ _ _ (⟨(⟨#[79]⟩ : ByteArray), (⟨#[88, 32]⟩ : ByteArray)⟩ : S41) [.string (⟨#[79]⟩ : ByteArray), .string (⟨#[88, 32]⟩ : ByteArray)] from (k41_mkM _ _ _ (⟨(⟨#[79]⟩ : ByteArray), (⟨#[88, 32]⟩ : ByteArray)⟩ : S41) )) (Reps.none _ _)))); intro v2 w2 ho2 hb hg_ hnew_; clear hg_ hnew_; (first | rw [← Y2.out] at ho2 | (simp only [Int.reduceToNat] at ho2; rw [← Y2.out] at ho2)); have n0_ := Aside0.mk (Kd.R_lower ho2 (below_size (by repeat (first | (with_reducible first | exact HB.out | apply below_alloc | apply pw_below_drewN | apply below_drew1) | exact HB.out)))); have n1_ := Aside0.mk (below_step (by repeat (first | (with_reducible first | exact HB.out | apply below_alloc | apply pw_below_drewN | apply below_drew1) | exact HB.out)) hb); clear HB; have HO2 := n0_; have HB := n1_; clear n0_ n1_; clear hb ho2; obtain ⟨Ao2, co2, eo2⟩ := Kd.R_slice HO2.out; subst eo2) | ((with_reducible refine gate_callee (f := 18) rfl ?_); refine goesL_ (some 37) rfl rfl Tryz.func18 (by kernel_rfl) rfl #[.slice Ao2 ls2.length co2] rfl (by (try simp only [List.map_toArray, List.map_cons, List.map_nil]); first | done | rfl) ?_; (with_reducible refine (brookref1_TextDn.calls k _ _ ls2 b _ ?side1 ?side2 T2.out).mono ?_); (case side1 => repeat (first | exact (Kd.R_reads' HO2.out).2.2 | (with_reducible refine Kd.C_alloc ?_ _) | (with_reducible refine Kd.C_drewN ?_ _) | (with_reducible refine Kd.C_drew ?_))); (case side2 => exact (Kd.R_reads' HO2.out).2.1); rintro e w' ⟨rfl, ⟨nd, rfl⟩⟩; refine ⟨_, rfl, ?_⟩; clear HO2) | ((with_reducible refine gate_dst (N := 43) rfl ?_); (try (refine gate_guard (by rfl) ?_; dsimp only)); refine Kd.R_lit k41 _ 41 ?hg (N := 43) ?hd (xs := ([(⟨(⟨#[99, 110]⟩ : ByteArray), (((⟨#[97]⟩ : ByteArray) ++ a1) ++ (⟨#[98]⟩ : ByteArray))⟩ : S41), (⟨(⟨#[111]⟩ : ByteArray), (⟨#[120]⟩ : ByteArray)⟩ : S41)] : List (S41))) (inner := [.string (⟨#[99, 110]⟩ : ByteArray), .string (((⟨#[97]⟩ : ByteArray) ++ a1) ++ (⟨#[98]⟩ : ByteArray)), .string (⟨#[111]⟩ : ByteArray), .string (⟨#[120]⟩ : ByteArray)]) (ok := fun _ => True) (okp := fun _ => True) ?hr ?hp (fun _ hk => hk) trivial (Below.refl _ _) (Nat.le_refl _) (by simp) ?_; (case hd => rfl); (case hg => rfl); (case hr => first | (go_simp; done) | (go_simp; rfl)); (case hp => exact (Reps.c2 (show Kd.M k41 _ _ _ (⟨(⟨#[99, 110]⟩ : ByteArray), (((⟨#[97]⟩ : ByteArray) ++ a1) ++ (⟨#[98]⟩ : ByteArray))⟩ : S41) [.string (⟨#[99, 110]⟩ : ByteArray), .string (((⟨#[97]⟩ : ByteArray) ++ a1) ++ (⟨#[98]⟩ : ByteArray))] from (k41_mkM _ _ _ (⟨(⟨#[99, 110]⟩ : ByteArray), (((⟨#[97]⟩ : ByteArray) ++ a1) ++ (⟨#[98]⟩ : ByteArray))⟩ : S41) )) (Reps.c2 (show Kd.M k41 _ _ _ (⟨(⟨#[111]⟩ : ByteArray), (⟨#[120]⟩ : ByteArray)⟩ : S41) [.string (⟨#[111]⟩ : ByteArray), .string (⟨#[120]⟩ : ByteArray)] from (k41_mkM _ _ _ (⟨(⟨#[111]⟩ : ByteArray), (⟨#[120]⟩ : ByteArray)⟩ : S41) )) (Reps.none _ _)))); intro v3 w3 ho3 hb hg_ hnew_; clear hg_ hnew_; (first | rw [← Y3.out] at ho3 | (simp only [Int.reduceToNat] at ho3; rw [← Y3.out] at ho3)); have n0_ := Aside0.mk (Kd.R_lower ho3 (below_size (by repeat (first | (with_reducible first | exact HB.out | apply below_alloc | apply pw_below_drewN | apply below_drew1) | exact HB.out)))); have n1_ := Aside0.mk (below_step (by repeat (first | (with_reducible first | exact HB.out | apply below_alloc | apply pw_below_drewN | apply below_drew1) | exact HB.out)) hb); clear HB; have HO3 := n0_; have HB := n1_; clear n0_ n1_; clear hb ho3; obtain ⟨Ao3, co3, eo3⟩ := Kd.R_slice HO3.out; subst eo3) | ((with_reducible refine gate_callee (f := 18) rfl ?_); refine goesL_ (some 44) rfl rfl Tryz.func18 (by kernel_rfl) rfl #[.slice Ao3 ls3.length co3] rfl (by (try simp only [List.map_toArray, List.map_cons, List.map_nil]); first | done | rfl) ?_; (with_reducible refine (brookref1_TextDn.calls k _ _ ls3 c _ ?side1 ?side2 T3.out).mono ?_); (case side1 => repeat (first | exact (Kd.R_reads' HO3.out).2.2 | (with_reducible refine Kd.C_alloc ?_ _) | (with_reducible refine Kd.C_drewN ?_ _) | (with_reducible refine Kd.C_drew ?_))); (case side2 => exact (Kd.R_reads' HO3.out).2.1); rintro e w' ⟨rfl, ⟨nd, rfl⟩⟩; refine ⟨_, rfl, ?_⟩; clear HO3) | ((with_reducible refine gate_callee (f := 9) rfl ?_); refine goesL_ (some 47) rfl rfl Tryz.func9 (by kernel_rfl) rfl #[.string (⟨#[109, 101, 109, 98, 101, 114]⟩ : ByteArray), .string a] rfl (by (try simp only [List.map_toArray, List.map_cons, List.map_nil]); first | done | rfl) ?_; (with_reducible refine (match_Norm.calls k (⟨#[109, 101, 109, 98, 101, 114]⟩ : ByteArray) a _ _ _ ?side1 N1.out).mono ?_); (case side1 => first | exact HG.out | exact Gl.drewN HG.out _ | exact Gl.below HG.out (by repeat (first | (with_reducible first | exact HB.out | apply below_alloc | apply pw_below_drewN | apply below_drew1) | exact HB.out))); rintro e wq ⟨rfl, hb⟩; refine ⟨_, rfl, ?_⟩; have n1_ := Aside0.mk (below_step (by repeat (first | (with_reducible first | exact HB.out | apply below_alloc | apply pw_below_drewN | apply below_drew1) | exact HB.out)) hb); clear HB; have HB := n1_; clear n1_; (try clear hb)) | ((with_reducible refine gate_callee (f := 9) rfl ?_); refine goesL_ (some 53) rfl rfl Tryz.func9 (by kernel_rfl) rfl #[.string (⟨#[109, 101, 109, 98, 101, 114]⟩ : ByteArray), .string ((⟨#[120]⟩ : ByteArray) ++ a0)] rfl (by (try simp only [List.map_toArray, List.map_cons, List.map_nil]); first | done | rfl) ?_; (with_reducible refine (match_Norm.calls k (⟨#[109, 101, 109, 98, 101, 114]⟩ : ByteArray) ((⟨#[120]⟩ : ByteArray) ++ a0) _ _ _ ?side1 N2.out).mono ?_); (case side1 => first | exact HG.out | exact Gl.drewN HG.out _ | exact Gl.below HG.out (by repeat (first | (with_reducible first | exact HB.out | apply below_alloc | apply pw_below_drewN | apply below_drew1) | exact HB.out))); rintro e wq ⟨rfl, hb⟩; refine ⟨_, rfl, ?_⟩; have n1_ := Aside0.mk (below_step (by repeat (first | (with_reducible first | exact HB.out | apply below_alloc | apply pw_below_drewN | apply below_drew1) | exact HB.out)) hb); clear HB; have HB := n1_; clear n1_; (try clear hb)))
  go_upto_region 9 with (((with_reducible refine gate_callee (f := 11) rfl ?_); refine goesL_ (some 59) rfl rfl Tryz.func11 (by kernel_rfl) rfl #[.string (⟨#[109, 101, 109, 98, 101, 114]⟩ : ByteArray), .string a, .string c] rfl (by (try simp only [List.map_toArray, List.map_cons, List.map_nil]); first | done | rfl) ?_; (with_reducible refine (match_Less.calls k (⟨#[109, 101, 109, 98, 101, 114]⟩ : ByteArray) a c false false _ ?side1 L1.out).mono ?_); (case side1 => first | exact HG.out | exact Gl.drewN HG.out _ | exact Gl.below HG.out (by repeat (first | (with_reducible first | exact HB.out | apply below_alloc | apply pw_below_drewN | apply below_drew1) | exact HB.out))); rintro e wq ⟨rfl, hb⟩; refine ⟨_, rfl, ?_⟩; have n1_ := Aside0.mk (below_step (by repeat (first | (with_reducible first | exact HB.out | apply below_alloc | apply pw_below_drewN | apply below_drew1) | exact HB.out)) hb); clear HB; have HB := n1_; clear n1_; (try clear hb)))
  simp only [List.append_eq, List.cons_append, List.nil_append]
  cases ox with
  | true =>
    go_wp2_with (first | (go_at_call 20; (with_reducible refine (brookref1_Key.calls k a _ _ _ K1.out).mono ?_); rintro e wq ⟨rfl, hb⟩; have n1_ := Aside0.mk (below_step (by repeat (first | (with_reducible first | exact HB.out | apply below_alloc | apply pw_below_drewN | apply below_drew1) | exact HB.out)) hb); clear HB; have HB := n1_; clear n1_; (try clear hb)) | (go_at_call 20; (with_reducible refine (brookref1_Key.calls k ((⟨#[120]⟩ : ByteArray) ++ a0) _ _ _ K3.out).mono ?_); rintro e wq ⟨rfl, hb⟩; have n1_ := Aside0.mk (below_step (by repeat (first | (with_reducible first | exact HB.out | apply below_alloc | apply pw_below_drewN | apply below_drew1) | exact HB.out)) hb); clear HB; have HB := n1_; clear n1_; (try clear hb)) | (go_at_call 6; (with_reducible refine (brooklaw3_awake.calls k true _ ?side1 AW.out).mono ?_); (case side1 => first | exact HG.out | exact Gl.drewN HG.out _ | exact Gl.below HG.out (by repeat (first | (with_reducible first | exact HB.out | apply below_alloc | apply pw_below_drewN | apply below_drew1) | exact HB.out))); rintro e wq ⟨rfl, hb⟩; have n1_ := Aside0.mk (below_step (by repeat (first | (with_reducible first | exact HB.out | apply below_alloc | apply pw_below_drewN | apply below_drew1) | exact HB.out)) hb); clear HB; have HB := n1_; clear n1_; (try clear hb)))
    go_ret
    exact ⟨by first | rfl | (simp; done) | (simp [*]; done), (by repeat (first | (with_reducible first | exact HB.out | apply below_alloc | apply pw_below_drewN | apply below_drew1) | exact HB.out))⟩
  | false =>
    go_wp2_with (first | (go_at_call 20; (with_reducible refine (brookref1_Key.calls k a _ _ _ K1.out).mono ?_); rintro e wq ⟨rfl, hb⟩; have n1_ := Aside0.mk (below_step (by repeat (first | (with_reducible first | exact HB.out | apply below_alloc | apply pw_below_drewN | apply below_drew1) | exact HB.out)) hb); clear HB; have HB := n1_; clear n1_; (try clear hb)) | (go_at_call 20; (with_reducible refine (brookref1_Key.calls k ((⟨#[120]⟩ : ByteArray) ++ a0) _ _ _ K3.out).mono ?_); rintro e wq ⟨rfl, hb⟩; have n1_ := Aside0.mk (below_step (by repeat (first | (with_reducible first | exact HB.out | apply below_alloc | apply pw_below_drewN | apply below_drew1) | exact HB.out)) hb); clear HB; have HB := n1_; clear n1_; (try clear hb)) | (go_at_call 6; (with_reducible refine (brooklaw3_awake.calls k true _ ?side1 AW.out).mono ?_); (case side1 => first | exact HG.out | exact Gl.drewN HG.out _ | exact Gl.below HG.out (by repeat (first | (with_reducible first | exact HB.out | apply below_alloc | apply pw_below_drewN | apply below_drew1) | exact HB.out))); rintro e wq ⟨rfl, hb⟩; have n1_ := Aside0.mk (below_step (by repeat (first | (with_reducible first | exact HB.out | apply below_alloc | apply pw_below_drewN | apply below_drew1) | exact HB.out)) hb); clear HB; have HB := n1_; clear n1_; (try clear hb)))
    go_ret
    exact ⟨by first | rfl | (simp; done) | (simp [*]; done), (by repeat (first | (with_reducible first | exact HB.out | apply below_alloc | apply pw_below_drewN | apply below_drew1) | exact HB.out))⟩
set_option maxHeartbeats 8000000 in
set_option maxRecDepth 100000 in
theorem MatchDns.bigB (k : Nat) (a0 a1 a b c n n2 ka kc kx : ByteArray) (ok ox oa oc sc : Bool) (w : World) (hG : Gl w) (hs : a0.size ≤ 30) (ht : a1.size ≤ 30)
    (T1 : Aside0 (brookref1_TextDn.f k ([(⟨(⟨#[67, 78]⟩ : ByteArray), (((⟨#[97]⟩ : ByteArray) ++ a0) ++ (⟨#[98]⟩ : ByteArray))⟩ : S41), (⟨(⟨#[111]⟩ : ByteArray), (⟨#[120]⟩ : ByteArray)⟩ : S41)] : List (S41)) = some a))
    (T2 : Aside0 (brookref1_TextDn.f k ([(⟨(⟨#[99, 110]⟩ : ByteArray), (((⟨#[65]⟩ : ByteArray) ++ lowS a0) ++ (⟨#[66]⟩ : ByteArray))⟩ : S41), (⟨(⟨#[79]⟩ : ByteArray), (⟨#[88, 32]⟩ : ByteArray)⟩ : S41)] : List (S41)) = some b))
    (T3 : Aside0 (brookref1_TextDn.f k ([(⟨(⟨#[99, 110]⟩ : ByteArray), (((⟨#[97]⟩ : ByteArray) ++ a1) ++ (⟨#[98]⟩ : ByteArray))⟩ : S41), (⟨(⟨#[111]⟩ : ByteArray), (⟨#[120]⟩ : ByteArray)⟩ : S41)] : List (S41)) = some c))
    (N1 : Aside0 (match_Norm.f k (⟨#[109, 101, 109, 98, 101, 114]⟩ : ByteArray) a = some (n, ok)))
    (N2 : Aside0 (match_Norm.f k (⟨#[109, 101, 109, 98, 101, 114]⟩ : ByteArray) ((⟨#[120]⟩ : ByteArray) ++ a0) = some (n2, ox)))
    (L1 : Aside0 (match_Less.f k (⟨#[109, 101, 109, 98, 101, 114]⟩ : ByteArray) a c = some (false, false)))
    (K1 : Aside0 (brookref1_Key.f k a = some (ka, oa)))
    (K2 : Aside0 (brookref1_Key.f k c = some (kc, oc)))
    (K3 : Aside0 (brookref1_Key.f k ((⟨#[120]⟩ : ByteArray) ++ a0) = some (kx, ox)))
    (AW : Aside0 (brooklaw3_awake.f k = some true))
    (ha : ¬ 100 < a.size) (hb : 100 < b.size) (hc : ¬ 100 < c.size) (hok : ok = true) (hn : n = ka) (S2 : Aside0 (match_Same.f k (⟨#[77, 69, 77, 66, 69, 82]⟩ : ByteArray) a c = some sc)) (hsc : (n.toList == kc.toList) = sc) :
    Calls Tryz.prog 5 #[.string a0, .string a1] w fun e w' => e = .returned (.bool true) ∧ Below w.heap.size w w' := by
  have hu1 := Tryz.underlying41
  have hu2 := Tryz.underlying26
  have HB := Aside0.mk (Below.refl w.heap.size w)
  have HG := Aside0.mk hG
  clear hG
  have TL : Aside0 (brookref1_Lower.f a0 = some (lowS a0)) := ⟨ref_lower a0 (by omega)⟩
  have hz : (lowS a0).size ≤ 30 := by rw [lowS_size]; exact hs
  have d0 : decide (30 < (a0.size : Int)) = false := decide_eq_false (by omega)
  have d1 : decide (30 < a0.size) = false := decide_eq_false (by omega)
  have d2 : decide (30 < (a1.size : Int)) = false := decide_eq_false (by omega)
  have d3 : decide (30 < a1.size) = false := decide_eq_false (by omega)
  have d4 : decide ((a0.size : Int) < 100) = true := decide_eq_true (by omega)
  have d5 : decide (a0.size < 100) = true := decide_eq_true (by omega)
  have u1 : (9223372036854775807 < 1 + (a0).size) = False := eq_false (by omega)
  have u2 : (9223372036854775807 < 1 + (a0).size + 1) = False := eq_false (by omega)
  have v1 : (9223372036854775807 < 1 + (a1).size) = False := eq_false (by omega)
  have v2 : (9223372036854775807 < 1 + (a1).size + 1) = False := eq_false (by omega)
  have z1 : (9223372036854775807 < 1 + (lowS a0).size) = False := eq_false (by omega)
  have z2 : (9223372036854775807 < 1 + (lowS a0).size + 1) = False := eq_false (by omega)
  obtain ⟨ls1, hl1⟩ : ∃ y_ : List (S41), y_ = ([(⟨(⟨#[67, 78]⟩ : ByteArray), (((⟨#[97]⟩ : ByteArray) ++ a0) ++ (⟨#[98]⟩ : ByteArray))⟩ : S41), (⟨(⟨#[111]⟩ : ByteArray), (⟨#[120]⟩ : ByteArray)⟩ : S41)] : List (S41)) := ⟨_, rfl⟩
  have Y1 := Aside0.mk hl1
  have T1' := Aside0.mk T1.out
  rw [← hl1] at T1'
  clear T1
  have T1 := T1'
  clear T1' hl1
  obtain ⟨ls2, hl2⟩ : ∃ y_ : List (S41), y_ = ([(⟨(⟨#[99, 110]⟩ : ByteArray), (((⟨#[65]⟩ : ByteArray) ++ lowS a0) ++ (⟨#[66]⟩ : ByteArray))⟩ : S41), (⟨(⟨#[79]⟩ : ByteArray), (⟨#[88, 32]⟩ : ByteArray)⟩ : S41)] : List (S41)) := ⟨_, rfl⟩
  have Y2 := Aside0.mk hl2
  have T2' := Aside0.mk T2.out
  rw [← hl2] at T2'
  clear T2
  have T2 := T2'
  clear T2' hl2
  obtain ⟨ls3, hl3⟩ : ∃ y_ : List (S41), y_ = ([(⟨(⟨#[99, 110]⟩ : ByteArray), (((⟨#[97]⟩ : ByteArray) ++ a1) ++ (⟨#[98]⟩ : ByteArray))⟩ : S41), (⟨(⟨#[111]⟩ : ByteArray), (⟨#[120]⟩ : ByteArray)⟩ : S41)] : List (S41)) := ⟨_, rfl⟩
  have Y3 := Aside0.mk hl3
  have T3' := Aside0.mk T3.out
  rw [← hl3] at T3'
  clear T3
  have T3 := T3'
  clear T3' hl3
  clear hs ht hz
  have e_a0 : decide (100 < (a.size : Int)) = false := decide_eq_false (by omega)
  have e_a1 : decide (100 < a.size) = false := decide_eq_false (by omega)
  have e_b0 : decide (100 < (b.size : Int)) = true := decide_eq_true (by omega)
  have e_b1 : decide (100 < b.size) = true := decide_eq_true (by omega)
  have e_c0 : decide (100 < (c.size : Int)) = false := decide_eq_false (by omega)
  have e_c1 : decide (100 < c.size) = false := decide_eq_false (by omega)
  clear ha hb hc
  subst hok
  obtain rfl : ka = n := hn.symm
  have q2 := hsc
  clear hsc
  go_enter Tryz.func5, Tryz.ntmps5
  go_upto_region 8 with (first | ((with_reducible refine gate_dst (N := 28) rfl ?_); (try (refine gate_guard (by rfl) ?_; dsimp only)); refine Kd.R_lit k41 _ 41 ?hg (N := 28) ?hd (xs := ([(⟨(⟨#[67, 78]⟩ : ByteArray), (((⟨#[97]⟩ : ByteArray) ++ a0) ++ (⟨#[98]⟩ : ByteArray))⟩ : S41), (⟨(⟨#[111]⟩ : ByteArray), (⟨#[120]⟩ : ByteArray)⟩ : S41)] : List (S41))) (inner := [.string (⟨#[67, 78]⟩ : ByteArray), .string (((⟨#[97]⟩ : ByteArray) ++ a0) ++ (⟨#[98]⟩ : ByteArray)), .string (⟨#[111]⟩ : ByteArray), .string (⟨#[120]⟩ : ByteArray)]) (ok := fun _ => True) (okp := fun _ => True) ?hr ?hp (fun _ hk => hk) trivial (Below.refl _ _) (Nat.le_refl _) (by simp) ?_; (case hd => rfl); (case hg => rfl); (case hr => first | (go_simp; done) | (go_simp; rfl)); (case hp => exact (Reps.c2 (show Kd.M k41 _ _ _ (⟨(⟨#[67, 78]⟩ : ByteArray), (((⟨#[97]⟩ : ByteArray) ++ a0) ++ (⟨#[98]⟩ : ByteArray))⟩ : S41) [.string (⟨#[67, 78]⟩ : ByteArray), .string (((⟨#[97]⟩ : ByteArray) ++ a0) ++ (⟨#[98]⟩ : ByteArray))] from (k41_mkM _ _ _ (⟨(⟨#[67, 78]⟩ : ByteArray), (((⟨#[97]⟩ : ByteArray) ++ a0) ++ (⟨#[98]⟩ : ByteArray))⟩ : S41) )) (Reps.c2 (show Kd.M k41 _ _ _ (⟨(⟨#[111]⟩ : ByteArray), (⟨#[120]⟩ : ByteArray)⟩ : S41) [.string (⟨#[111]⟩ : ByteArray), .string (⟨#[120]⟩ : ByteArray)] from (k41_mkM _ _ _ (⟨(⟨#[111]⟩ : ByteArray), (⟨#[120]⟩ : ByteArray)⟩ : S41) )) (Reps.none _ _)))); intro v1 w1 ho1 hb hg_ hnew_; clear hg_ hnew_; (first | rw [← Y1.out] at ho1 | (simp only [Int.reduceToNat] at ho1; rw [← Y1.out] at ho1)); have n0_ := Aside0.mk (Kd.R_lower ho1 (below_size (by repeat (first | (with_reducible first | exact HB.out | apply below_alloc | apply pw_below_drewN | apply below_drew1) | exact HB.out)))); have n1_ := Aside0.mk (below_step (by repeat (first | (with_reducible first | exact HB.out | apply below_alloc | apply pw_below_drewN | apply below_drew1) | exact HB.out)) hb); clear HB; have HO1 := n0_; have HB := n1_; clear n0_ n1_; clear hb ho1; obtain ⟨Ao1, co1, eo1⟩ := Kd.R_slice HO1.out; subst eo1) | ((with_reducible refine gate_callee (f := 18) rfl ?_); refine goesL_ (some 29) rfl rfl Tryz.func18 (by kernel_rfl) rfl #[.slice Ao1 ls1.length co1] rfl (by (try simp only [List.map_toArray, List.map_cons, List.map_nil]); first | done | rfl) ?_; (with_reducible refine (brookref1_TextDn.calls k _ _ ls1 a _ ?side1 ?side2 T1.out).mono ?_); (case side1 => repeat (first | exact (Kd.R_reads' HO1.out).2.2 | (with_reducible refine Kd.C_alloc ?_ _) | (with_reducible refine Kd.C_drewN ?_ _) | (with_reducible refine Kd.C_drew ?_))); (case side2 => exact (Kd.R_reads' HO1.out).2.1); rintro e w' ⟨rfl, ⟨nd, rfl⟩⟩; refine ⟨_, rfl, ?_⟩; clear HO1) | ((with_reducible refine gate_callee (f := 19) rfl ?_); refine goesL_ (some 31) rfl rfl Tryz.func19 (by kernel_rfl) rfl #[.string a0] rfl (by (try simp only [List.map_toArray, List.map_cons, List.map_nil]); first | done | rfl) ?_; (with_reducible refine (brookref1_Lower.calls a0 (lowS a0) _ TL.out).mono ?_); rintro e wq ⟨rfl, hb⟩; refine ⟨_, rfl, ?_⟩; have n1_ := Aside0.mk (below_step (by repeat (first | (with_reducible first | exact HB.out | apply below_alloc | apply pw_below_drewN | apply below_drew1) | exact HB.out)) hb); clear HB; have HB := n1_; clear n1_; (try clear hb)) | ((with_reducible refine gate_dst (N := 36) rfl ?_); (try (refine gate_guard (by rfl) ?_; dsimp only)); refine Kd.R_lit k41 _ 41 ?hg (N := 36) ?hd (xs := ([(⟨(⟨#[99, 110]⟩ : ByteArray), (((⟨#[65]⟩ : ByteArray) ++ lowS a0) ++ (⟨#[66]⟩ : ByteArray))⟩ : S41), (⟨(⟨#[79]⟩ : ByteArray), (⟨#[88, 32]⟩ : ByteArray)⟩ : S41)] : List (S41))) (inner := [.string (⟨#[99, 110]⟩ : ByteArray), .string (((⟨#[65]⟩ : ByteArray) ++ lowS a0) ++ (⟨#[66]⟩ : ByteArray)), .string (⟨#[79]⟩ : ByteArray), .string (⟨#[88, 32]⟩ : ByteArray)]) (ok := fun _ => True) (okp := fun _ => True) ?hr ?hp (fun _ hk => hk) trivial (Below.refl _ _) (Nat.le_refl _) (by simp) ?_; (case hd => rfl); (case hg => rfl); (case hr => first | (go_simp; done) | (go_simp; rfl)); (case hp => exact (Reps.c2 (show Kd.M k41 _ _ _ (⟨(⟨#[99, 110]⟩ : ByteArray), (((⟨#[65]⟩ : ByteArray) ++ lowS a0) ++ (⟨#[66]⟩ : ByteArray))⟩ : S41) [.string (⟨#[99, 110]⟩ : ByteArray), .string (((⟨#[65]⟩ : ByteArray) ++ lowS a0) ++ (⟨#[66]⟩ : ByteArray))] from (k41_mkM _ _ _ (⟨(⟨#[99, 110]⟩ : ByteArray), (((⟨#[65]⟩ : ByteArray) ++ lowS a0) ++ (⟨#[66]⟩ : ByteArray))⟩ : S41) )) (Reps.c2 (show Kd.M k41 _ _ _ (⟨(⟨#[79]⟩ : ByteArray), (⟨#[88, 32]⟩ : ByteArray)⟩ : S41) [.string (⟨#[79]⟩ : ByteArray), .string (⟨#[88, 32]⟩ : ByteArray)] from (k41_mkM _ _ _ (⟨(⟨#[79]⟩ : ByteArray), (⟨#[88, 32]⟩ : ByteArray)⟩ : S41) )) (Reps.none _ _)))); intro v2 w2 ho2 hb hg_ hnew_; clear hg_ hnew_; (first | rw [← Y2.out] at ho2 | (simp only [Int.reduceToNat] at ho2; rw [← Y2.out] at ho2)); have n0_ := Aside0.mk (Kd.R_lower ho2 (below_size (by repeat (first | (with_reducible first | exact HB.out | apply below_alloc | apply pw_below_drewN | apply below_drew1) | exact HB.out)))); have n1_ := Aside0.mk (below_step (by repeat (first | (with_reducible first | exact HB.out | apply below_alloc | apply pw_below_drewN | apply below_drew1) | exact HB.out)) hb); clear HB; have HO2 := n0_; have HB := n1_; clear n0_ n1_; clear hb ho2; obtain ⟨Ao2, co2, eo2⟩ := Kd.R_slice HO2.out; subst eo2) | ((with_reducible refine gate_callee (f := 18) rfl ?_); refine goesL_ (some 37) rfl rfl Tryz.func18 (by kernel_rfl) rfl #[.slice Ao2 ls2.length co2] rfl (by (try simp only [List.map_toArray, List.map_cons, List.map_nil]); first | done | rfl) ?_; (with_reducible refine (brookref1_TextDn.calls k _ _ ls2 b _ ?side1 ?side2 T2.out).mono ?_); (case side1 => repeat (first | exact (Kd.R_reads' HO2.out).2.2 | (with_reducible refine Kd.C_alloc ?_ _) | (with_reducible refine Kd.C_drewN ?_ _) | (with_reducible refine Kd.C_drew ?_))); (case side2 => exact (Kd.R_reads' HO2.out).2.1); rintro e w' ⟨rfl, ⟨nd, rfl⟩⟩; refine ⟨_, rfl, ?_⟩; clear HO2) | ((with_reducible refine gate_dst (N := 43) rfl ?_); (try (refine gate_guard (by rfl) ?_; dsimp only)); refine Kd.R_lit k41 _ 41 ?hg (N := 43) ?hd (xs := ([(⟨(⟨#[99, 110]⟩ : ByteArray), (((⟨#[97]⟩ : ByteArray) ++ a1) ++ (⟨#[98]⟩ : ByteArray))⟩ : S41), (⟨(⟨#[111]⟩ : ByteArray), (⟨#[120]⟩ : ByteArray)⟩ : S41)] : List (S41))) (inner := [.string (⟨#[99, 110]⟩ : ByteArray), .string (((⟨#[97]⟩ : ByteArray) ++ a1) ++ (⟨#[98]⟩ : ByteArray)), .string (⟨#[111]⟩ : ByteArray), .string (⟨#[120]⟩ : ByteArray)]) (ok := fun _ => True) (okp := fun _ => True) ?hr ?hp (fun _ hk => hk) trivial (Below.refl _ _) (Nat.le_refl _) (by simp) ?_; (case hd => rfl); (case hg => rfl); (case hr => first | (go_simp; done) | (go_simp; rfl)); (case hp => exact (Reps.c2 (show Kd.M k41 _ _ _ (⟨(⟨#[99, 110]⟩ : ByteArray), (((⟨#[97]⟩ : ByteArray) ++ a1) ++ (⟨#[98]⟩ : ByteArray))⟩ : S41) [.string (⟨#[99, 110]⟩ : ByteArray), .string (((⟨#[97]⟩ : ByteArray) ++ a1) ++ (⟨#[98]⟩ : ByteArray))] from (k41_mkM _ _ _ (⟨(⟨#[99, 110]⟩ : ByteArray), (((⟨#[97]⟩ : ByteArray) ++ a1) ++ (⟨#[98]⟩ : ByteArray))⟩ : S41) )) (Reps.c2 (show Kd.M k41 _ _ _ (⟨(⟨#[111]⟩ : ByteArray), (⟨#[120]⟩ : ByteArray)⟩ : S41) [.string (⟨#[111]⟩ : ByteArray), .string (⟨#[120]⟩ : ByteArray)] from (k41_mkM _ _ _ (⟨(⟨#[111]⟩ : ByteArray), (⟨#[120]⟩ : ByteArray)⟩ : S41) )) (Reps.none _ _)))); intro v3 w3 ho3 hb hg_ hnew_; clear hg_ hnew_; (first | rw [← Y3.out] at ho3 | (simp only [Int.reduceToNat] at ho3; rw [← Y3.out] at ho3)); have n0_ := Aside0.mk (Kd.R_lower ho3 (below_size (by repeat (first | (with_reducible first | exact HB.out | apply below_alloc | apply pw_below_drewN | apply below_drew1) | exact HB.out)))); have n1_ := Aside0.mk (below_step (by repeat (first | (with_reducible first | exact HB.out | apply below_alloc | apply pw_below_drewN | apply below_drew1) | exact HB.out)) hb); clear HB; have HO3 := n0_; have HB := n1_; clear n0_ n1_; clear hb ho3; obtain ⟨Ao3, co3, eo3⟩ := Kd.R_slice HO3.out; subst eo3) | ((with_reducible refine gate_callee (f := 18) rfl ?_); refine goesL_ (some 44) rfl rfl Tryz.func18 (by kernel_rfl) rfl #[.slice Ao3 ls3.length co3] rfl (by (try simp only [List.map_toArray, List.map_cons, List.map_nil]); first | done | rfl) ?_; (with_reducible refine (brookref1_TextDn.calls k _ _ ls3 c _ ?side1 ?side2 T3.out).mono ?_); (case side1 => repeat (first | exact (Kd.R_reads' HO3.out).2.2 | (with_reducible refine Kd.C_alloc ?_ _) | (with_reducible refine Kd.C_drewN ?_ _) | (with_reducible refine Kd.C_drew ?_))); (case side2 => exact (Kd.R_reads' HO3.out).2.1); rintro e w' ⟨rfl, ⟨nd, rfl⟩⟩; refine ⟨_, rfl, ?_⟩; clear HO3) | ((with_reducible refine gate_callee (f := 9) rfl ?_); refine goesL_ (some 47) rfl rfl Tryz.func9 (by kernel_rfl) rfl #[.string (⟨#[109, 101, 109, 98, 101, 114]⟩ : ByteArray), .string a] rfl (by (try simp only [List.map_toArray, List.map_cons, List.map_nil]); first | done | rfl) ?_; (with_reducible refine (match_Norm.calls k (⟨#[109, 101, 109, 98, 101, 114]⟩ : ByteArray) a _ _ _ ?side1 N1.out).mono ?_); (case side1 => first | exact HG.out | exact Gl.drewN HG.out _ | exact Gl.below HG.out (by repeat (first | (with_reducible first | exact HB.out | apply below_alloc | apply pw_below_drewN | apply below_drew1) | exact HB.out))); rintro e wq ⟨rfl, hb⟩; refine ⟨_, rfl, ?_⟩; have n1_ := Aside0.mk (below_step (by repeat (first | (with_reducible first | exact HB.out | apply below_alloc | apply pw_below_drewN | apply below_drew1) | exact HB.out)) hb); clear HB; have HB := n1_; clear n1_; (try clear hb)) | ((with_reducible refine gate_callee (f := 9) rfl ?_); refine goesL_ (some 53) rfl rfl Tryz.func9 (by kernel_rfl) rfl #[.string (⟨#[109, 101, 109, 98, 101, 114]⟩ : ByteArray), .string ((⟨#[120]⟩ : ByteArray) ++ a0)] rfl (by (try simp only [List.map_toArray, List.map_cons, List.map_nil]); first | done | rfl) ?_; (with_reducible refine (match_Norm.calls k (⟨#[109, 101, 109, 98, 101, 114]⟩ : ByteArray) ((⟨#[120]⟩ : ByteArray) ++ a0) _ _ _ ?side1 N2.out).mono ?_); (case side1 => first | exact HG.out | exact Gl.drewN HG.out _ | exact Gl.below HG.out (by repeat (first | (with_reducible first | exact HB.out | apply below_alloc | apply pw_below_drewN | apply below_drew1) | exact HB.out))); rintro e wq ⟨rfl, hb⟩; refine ⟨_, rfl, ?_⟩; have n1_ := Aside0.mk (below_step (by repeat (first | (with_reducible first | exact HB.out | apply below_alloc | apply pw_below_drewN | apply below_drew1) | exact HB.out)) hb); clear HB; have HB := n1_; clear n1_; (try clear hb)))
  go_upto_region 9 with (((with_reducible refine gate_callee (f := 11) rfl ?_); refine goesL_ (some 59) rfl rfl Tryz.func11 (by kernel_rfl) rfl #[.string (⟨#[109, 101, 109, 98, 101, 114]⟩ : ByteArray), .string a, .string c] rfl (by (try simp only [List.map_toArray, List.map_cons, List.map_nil]); first | done | rfl) ?_; (with_reducible refine (match_Less.calls k (⟨#[109, 101, 109, 98, 101, 114]⟩ : ByteArray) a c false false _ ?side1 L1.out).mono ?_); (case side1 => first | exact HG.out | exact Gl.drewN HG.out _ | exact Gl.below HG.out (by repeat (first | (with_reducible first | exact HB.out | apply below_alloc | apply pw_below_drewN | apply below_drew1) | exact HB.out))); rintro e wq ⟨rfl, hb⟩; refine ⟨_, rfl, ?_⟩; have n1_ := Aside0.mk (below_step (by repeat (first | (with_reducible first | exact HB.out | apply below_alloc | apply pw_below_drewN | apply below_drew1) | exact HB.out)) hb); clear HB; have HB := n1_; clear n1_; (try clear hb)))
  simp only [List.append_eq, List.cons_append, List.nil_append]
  cases ox with
  | true =>
    go_wp2_with (first | (go_at_call 20; (with_reducible refine (brookref1_Key.calls k a _ _ _ K1.out).mono ?_); rintro e wq ⟨rfl, hb⟩; have n1_ := Aside0.mk (below_step (by repeat (first | (with_reducible first | exact HB.out | apply below_alloc | apply pw_below_drewN | apply below_drew1) | exact HB.out)) hb); clear HB; have HB := n1_; clear n1_; (try clear hb)) | (go_at_call 20; (with_reducible refine (brookref1_Key.calls k c _ _ _ K2.out).mono ?_); rintro e wq ⟨rfl, hb⟩; have n1_ := Aside0.mk (below_step (by repeat (first | (with_reducible first | exact HB.out | apply below_alloc | apply pw_below_drewN | apply below_drew1) | exact HB.out)) hb); clear HB; have HB := n1_; clear n1_; (try clear hb)) | (go_at_call 20; (with_reducible refine (brookref1_Key.calls k ((⟨#[120]⟩ : ByteArray) ++ a0) _ _ _ K3.out).mono ?_); rintro e wq ⟨rfl, hb⟩; have n1_ := Aside0.mk (below_step (by repeat (first | (with_reducible first | exact HB.out | apply below_alloc | apply pw_below_drewN | apply below_drew1) | exact HB.out)) hb); clear HB; have HB := n1_; clear n1_; (try clear hb)) | (go_at_call 15; (with_reducible refine (match_Same.calls k (⟨#[77, 69, 77, 66, 69, 82]⟩ : ByteArray) a c _ _ ?side1 S2.out).mono ?_); (case side1 => first | exact HG.out | exact Gl.drewN HG.out _ | exact Gl.below HG.out (by repeat (first | (with_reducible first | exact HB.out | apply below_alloc | apply pw_below_drewN | apply below_drew1) | exact HB.out))); rintro e wq ⟨rfl, hb⟩; have n1_ := Aside0.mk (below_step (by repeat (first | (with_reducible first | exact HB.out | apply below_alloc | apply pw_below_drewN | apply below_drew1) | exact HB.out)) hb); clear HB; have HB := n1_; clear n1_; (try clear hb)) | (go_at_call 6; (with_reducible refine (brooklaw3_awake.calls k true _ ?side1 AW.out).mono ?_); (case side1 => first | exact HG.out | exact Gl.drewN HG.out _ | exact Gl.below HG.out (by repeat (first | (with_reducible first | exact HB.out | apply below_alloc | apply pw_below_drewN | apply below_drew1) | exact HB.out))); rintro e wq ⟨rfl, hb⟩; have n1_ := Aside0.mk (below_step (by repeat (first | (with_reducible first | exact HB.out | apply below_alloc | apply pw_below_drewN | apply below_drew1) | exact HB.out)) hb); clear HB; have HB := n1_; clear n1_; (try clear hb)))
    go_ret
    exact ⟨by first | rfl | (simp; done) | (simp [*]; done), (by repeat (first | (with_reducible first | exact HB.out | apply below_alloc | apply pw_below_drewN | apply below_drew1) | exact HB.out))⟩
  | false =>
    go_wp2_with (first | (go_at_call 20; (with_reducible refine (brookref1_Key.calls k a _ _ _ K1.out).mono ?_); rintro e wq ⟨rfl, hb⟩; have n1_ := Aside0.mk (below_step (by repeat (first | (with_reducible first | exact HB.out | apply below_alloc | apply pw_below_drewN | apply below_drew1) | exact HB.out)) hb); clear HB; have HB := n1_; clear n1_; (try clear hb)) | (go_at_call 20; (with_reducible refine (brookref1_Key.calls k c _ _ _ K2.out).mono ?_); rintro e wq ⟨rfl, hb⟩; have n1_ := Aside0.mk (below_step (by repeat (first | (with_reducible first | exact HB.out | apply below_alloc | apply pw_below_drewN | apply below_drew1) | exact HB.out)) hb); clear HB; have HB := n1_; clear n1_; (try clear hb)) | (go_at_call 20; (with_reducible refine (brookref1_Key.calls k ((⟨#[120]⟩ : ByteArray) ++ a0) _ _ _ K3.out).mono ?_); rintro e wq ⟨rfl, hb⟩; have n1_ := Aside0.mk (below_step (by repeat (first | (with_reducible first | exact HB.out | apply below_alloc | apply pw_below_drewN | apply below_drew1) | exact HB.out)) hb); clear HB; have HB := n1_; clear n1_; (try clear hb)) | (go_at_call 15; (with_reducible refine (match_Same.calls k (⟨#[77, 69, 77, 66, 69, 82]⟩ : ByteArray) a c _ _ ?side1 S2.out).mono ?_); (case side1 => first | exact HG.out | exact Gl.drewN HG.out _ | exact Gl.below HG.out (by repeat (first | (with_reducible first | exact HB.out | apply below_alloc | apply pw_below_drewN | apply below_drew1) | exact HB.out))); rintro e wq ⟨rfl, hb⟩; have n1_ := Aside0.mk (below_step (by repeat (first | (with_reducible first | exact HB.out | apply below_alloc | apply pw_below_drewN | apply below_drew1) | exact HB.out)) hb); clear HB; have HB := n1_; clear n1_; (try clear hb)) | (go_at_call 6; (with_reducible refine (brooklaw3_awake.calls k true _ ?side1 AW.out).mono ?_); (case side1 => first | exact HG.out | exact Gl.drewN HG.out _ | exact Gl.below HG.out (by repeat (first | (with_reducible first | exact HB.out | apply below_alloc | apply pw_below_drewN | apply below_drew1) | exact HB.out))); rintro e wq ⟨rfl, hb⟩; have n1_ := Aside0.mk (below_step (by repeat (first | (with_reducible first | exact HB.out | apply below_alloc | apply pw_below_drewN | apply below_drew1) | exact HB.out)) hb); clear HB; have HB := n1_; clear n1_; (try clear hb)))
    go_ret
    exact ⟨by first | rfl | (simp; done) | (simp [*]; done), (by repeat (first | (with_reducible first | exact HB.out | apply below_alloc | apply pw_below_drewN | apply below_drew1) | exact HB.out))⟩
set_option maxHeartbeats 8000000 in
set_option maxRecDepth 100000 in
theorem MatchDns.bigC (k : Nat) (a0 a1 a b c n n2 ka kc kx : ByteArray) (ok ox oa oc sc : Bool) (w : World) (hG : Gl w) (hs : a0.size ≤ 30) (ht : a1.size ≤ 30)
    (T1 : Aside0 (brookref1_TextDn.f k ([(⟨(⟨#[67, 78]⟩ : ByteArray), (((⟨#[97]⟩ : ByteArray) ++ a0) ++ (⟨#[98]⟩ : ByteArray))⟩ : S41), (⟨(⟨#[111]⟩ : ByteArray), (⟨#[120]⟩ : ByteArray)⟩ : S41)] : List (S41)) = some a))
    (T2 : Aside0 (brookref1_TextDn.f k ([(⟨(⟨#[99, 110]⟩ : ByteArray), (((⟨#[65]⟩ : ByteArray) ++ lowS a0) ++ (⟨#[66]⟩ : ByteArray))⟩ : S41), (⟨(⟨#[79]⟩ : ByteArray), (⟨#[88, 32]⟩ : ByteArray)⟩ : S41)] : List (S41)) = some b))
    (T3 : Aside0 (brookref1_TextDn.f k ([(⟨(⟨#[99, 110]⟩ : ByteArray), (((⟨#[97]⟩ : ByteArray) ++ a1) ++ (⟨#[98]⟩ : ByteArray))⟩ : S41), (⟨(⟨#[111]⟩ : ByteArray), (⟨#[120]⟩ : ByteArray)⟩ : S41)] : List (S41)) = some c))
    (N1 : Aside0 (match_Norm.f k (⟨#[109, 101, 109, 98, 101, 114]⟩ : ByteArray) a = some (n, ok)))
    (N2 : Aside0 (match_Norm.f k (⟨#[109, 101, 109, 98, 101, 114]⟩ : ByteArray) ((⟨#[120]⟩ : ByteArray) ++ a0) = some (n2, ox)))
    (L1 : Aside0 (match_Less.f k (⟨#[109, 101, 109, 98, 101, 114]⟩ : ByteArray) a c = some (false, false)))
    (K1 : Aside0 (brookref1_Key.f k a = some (ka, oa)))
    (K2 : Aside0 (brookref1_Key.f k c = some (kc, oc)))
    (K3 : Aside0 (brookref1_Key.f k ((⟨#[120]⟩ : ByteArray) ++ a0) = some (kx, ox)))
    (AW : Aside0 (brooklaw3_awake.f k = some true))
    (ha : ¬ 100 < a.size) (hb : ¬ 100 < b.size) (hc : 100 < c.size) (hok : ok = true) (hn : n = ka) (S1 : Aside0 (match_Same.f k (⟨#[109, 101, 109, 98, 101, 114]⟩ : ByteArray) a b = some true)) :
    Calls Tryz.prog 5 #[.string a0, .string a1] w fun e w' => e = .returned (.bool true) ∧ Below w.heap.size w w' := by
  have hu1 := Tryz.underlying41
  have hu2 := Tryz.underlying26
  have HB := Aside0.mk (Below.refl w.heap.size w)
  have HG := Aside0.mk hG
  clear hG
  have TL : Aside0 (brookref1_Lower.f a0 = some (lowS a0)) := ⟨ref_lower a0 (by omega)⟩
  have hz : (lowS a0).size ≤ 30 := by rw [lowS_size]; exact hs
  have d0 : decide (30 < (a0.size : Int)) = false := decide_eq_false (by omega)
  have d1 : decide (30 < a0.size) = false := decide_eq_false (by omega)
  have d2 : decide (30 < (a1.size : Int)) = false := decide_eq_false (by omega)
  have d3 : decide (30 < a1.size) = false := decide_eq_false (by omega)
  have d4 : decide ((a0.size : Int) < 100) = true := decide_eq_true (by omega)
  have d5 : decide (a0.size < 100) = true := decide_eq_true (by omega)
  have u1 : (9223372036854775807 < 1 + (a0).size) = False := eq_false (by omega)
  have u2 : (9223372036854775807 < 1 + (a0).size + 1) = False := eq_false (by omega)
  have v1 : (9223372036854775807 < 1 + (a1).size) = False := eq_false (by omega)
  have v2 : (9223372036854775807 < 1 + (a1).size + 1) = False := eq_false (by omega)
  have z1 : (9223372036854775807 < 1 + (lowS a0).size) = False := eq_false (by omega)
  have z2 : (9223372036854775807 < 1 + (lowS a0).size + 1) = False := eq_false (by omega)
  obtain ⟨ls1, hl1⟩ : ∃ y_ : List (S41), y_ = ([(⟨(⟨#[67, 78]⟩ : ByteArray), (((⟨#[97]⟩ : ByteArray) ++ a0) ++ (⟨#[98]⟩ : ByteArray))⟩ : S41), (⟨(⟨#[111]⟩ : ByteArray), (⟨#[120]⟩ : ByteArray)⟩ : S41)] : List (S41)) := ⟨_, rfl⟩
  have Y1 := Aside0.mk hl1
  have T1' := Aside0.mk T1.out
  rw [← hl1] at T1'
  clear T1
  have T1 := T1'
  clear T1' hl1
  obtain ⟨ls2, hl2⟩ : ∃ y_ : List (S41), y_ = ([(⟨(⟨#[99, 110]⟩ : ByteArray), (((⟨#[65]⟩ : ByteArray) ++ lowS a0) ++ (⟨#[66]⟩ : ByteArray))⟩ : S41), (⟨(⟨#[79]⟩ : ByteArray), (⟨#[88, 32]⟩ : ByteArray)⟩ : S41)] : List (S41)) := ⟨_, rfl⟩
  have Y2 := Aside0.mk hl2
  have T2' := Aside0.mk T2.out
  rw [← hl2] at T2'
  clear T2
  have T2 := T2'
  clear T2' hl2
  obtain ⟨ls3, hl3⟩ : ∃ y_ : List (S41), y_ = ([(⟨(⟨#[99, 110]⟩ : ByteArray), (((⟨#[97]⟩ : ByteArray) ++ a1) ++ (⟨#[98]⟩ : ByteArray))⟩ : S41), (⟨(⟨#[111]⟩ : ByteArray), (⟨#[120]⟩ : ByteArray)⟩ : S41)] : List (S41)) := ⟨_, rfl⟩
  have Y3 := Aside0.mk hl3
  have T3' := Aside0.mk T3.out
  rw [← hl3] at T3'
  clear T3
  have T3 := T3'
  clear T3' hl3
  clear hs ht hz
  have e_a0 : decide (100 < (a.size : Int)) = false := decide_eq_false (by omega)
  have e_a1 : decide (100 < a.size) = false := decide_eq_false (by omega)
  have e_b0 : decide (100 < (b.size : Int)) = false := decide_eq_false (by omega)
  have e_b1 : decide (100 < b.size) = false := decide_eq_false (by omega)
  have e_c0 : decide (100 < (c.size : Int)) = true := decide_eq_true (by omega)
  have e_c1 : decide (100 < c.size) = true := decide_eq_true (by omega)
  clear ha hb hc
  subst hok
  obtain rfl : ka = n := hn.symm
  go_enter Tryz.func5, Tryz.ntmps5
  go_upto_region 8 with (first | ((with_reducible refine gate_dst (N := 28) rfl ?_); (try (refine gate_guard (by rfl) ?_; dsimp only)); refine Kd.R_lit k41 _ 41 ?hg (N := 28) ?hd (xs := ([(⟨(⟨#[67, 78]⟩ : ByteArray), (((⟨#[97]⟩ : ByteArray) ++ a0) ++ (⟨#[98]⟩ : ByteArray))⟩ : S41), (⟨(⟨#[111]⟩ : ByteArray), (⟨#[120]⟩ : ByteArray)⟩ : S41)] : List (S41))) (inner := [.string (⟨#[67, 78]⟩ : ByteArray), .string (((⟨#[97]⟩ : ByteArray) ++ a0) ++ (⟨#[98]⟩ : ByteArray)), .string (⟨#[111]⟩ : ByteArray), .string (⟨#[120]⟩ : ByteArray)]) (ok := fun _ => True) (okp := fun _ => True) ?hr ?hp (fun _ hk => hk) trivial (Below.refl _ _) (Nat.le_refl _) (by simp) ?_; (case hd => rfl); (case hg => rfl); (case hr => first | (go_simp; done) | (go_simp; rfl)); (case hp => exact (Reps.c2 (show Kd.M k41 _ _ _ (⟨(⟨#[67, 78]⟩ : ByteArray), (((⟨#[97]⟩ : ByteArray) ++ a0) ++ (⟨#[98]⟩ : ByteArray))⟩ : S41) [.string (⟨#[67, 78]⟩ : ByteArray), .string (((⟨#[97]⟩ : ByteArray) ++ a0) ++ (⟨#[98]⟩ : ByteArray))] from (k41_mkM _ _ _ (⟨(⟨#[67, 78]⟩ : ByteArray), (((⟨#[97]⟩ : ByteArray) ++ a0) ++ (⟨#[98]⟩ : ByteArray))⟩ : S41) )) (Reps.c2 (show Kd.M k41 _ _ _ (⟨(⟨#[111]⟩ : ByteArray), (⟨#[120]⟩ : ByteArray)⟩ : S41) [.string (⟨#[111]⟩ : ByteArray), .string (⟨#[120]⟩ : ByteArray)] from (k41_mkM _ _ _ (⟨(⟨#[111]⟩ : ByteArray), (⟨#[120]⟩ : ByteArray)⟩ : S41) )) (Reps.none _ _)))); intro v1 w1 ho1 hb hg_ hnew_; clear hg_ hnew_; (first | rw [← Y1.out] at ho1 | (simp only [Int.reduceToNat] at ho1; rw [← Y1.out] at ho1)); have n0_ := Aside0.mk (Kd.R_lower ho1 (below_size (by repeat (first | (with_reducible first | exact HB.out | apply below_alloc | apply pw_below_drewN | apply below_drew1) | exact HB.out)))); have n1_ := Aside0.mk (below_step (by repeat (first | (with_reducible first | exact HB.out | apply below_alloc | apply pw_below_drewN | apply below_drew1) | exact HB.out)) hb); clear HB; have HO1 := n0_; have HB := n1_; clear n0_ n1_; clear hb ho1; obtain ⟨Ao1, co1, eo1⟩ := Kd.R_slice HO1.out; subst eo1) | ((with_reducible refine gate_callee (f := 18) rfl ?_); refine goesL_ (some 29) rfl rfl Tryz.func18 (by kernel_rfl) rfl #[.slice Ao1 ls1.length co1] rfl (by (try simp only [List.map_toArray, List.map_cons, List.map_nil]); first | done | rfl) ?_; (with_reducible refine (brookref1_TextDn.calls k _ _ ls1 a _ ?side1 ?side2 T1.out).mono ?_); (case side1 => repeat (first | exact (Kd.R_reads' HO1.out).2.2 | (with_reducible refine Kd.C_alloc ?_ _) | (with_reducible refine Kd.C_drewN ?_ _) | (with_reducible refine Kd.C_drew ?_))); (case side2 => exact (Kd.R_reads' HO1.out).2.1); rintro e w' ⟨rfl, ⟨nd, rfl⟩⟩; refine ⟨_, rfl, ?_⟩; clear HO1) | ((with_reducible refine gate_callee (f := 19) rfl ?_); refine goesL_ (some 31) rfl rfl Tryz.func19 (by kernel_rfl) rfl #[.string a0] rfl (by (try simp only [List.map_toArray, List.map_cons, List.map_nil]); first | done | rfl) ?_; (with_reducible refine (brookref1_Lower.calls a0 (lowS a0) _ TL.out).mono ?_); rintro e wq ⟨rfl, hb⟩; refine ⟨_, rfl, ?_⟩; have n1_ := Aside0.mk (below_step (by repeat (first | (with_reducible first | exact HB.out | apply below_alloc | apply pw_below_drewN | apply below_drew1) | exact HB.out)) hb); clear HB; have HB := n1_; clear n1_; (try clear hb)) | ((with_reducible refine gate_dst (N := 36) rfl ?_); (try (refine gate_guard (by rfl) ?_; dsimp only)); refine Kd.R_lit k41 _ 41 ?hg (N := 36) ?hd (xs := ([(⟨(⟨#[99, 110]⟩ : ByteArray), (((⟨#[65]⟩ : ByteArray) ++ lowS a0) ++ (⟨#[66]⟩ : ByteArray))⟩ : S41), (⟨(⟨#[79]⟩ : ByteArray), (⟨#[88, 32]⟩ : ByteArray)⟩ : S41)] : List (S41))) (inner := [.string (⟨#[99, 110]⟩ : ByteArray), .string (((⟨#[65]⟩ : ByteArray) ++ lowS a0) ++ (⟨#[66]⟩ : ByteArray)), .string (⟨#[79]⟩ : ByteArray), .string (⟨#[88, 32]⟩ : ByteArray)]) (ok := fun _ => True) (okp := fun _ => True) ?hr ?hp (fun _ hk => hk) trivial (Below.refl _ _) (Nat.le_refl _) (by simp) ?_; (case hd => rfl); (case hg => rfl); (case hr => first | (go_simp; done) | (go_simp; rfl)); (case hp => exact (Reps.c2 (show Kd.M k41 _ _ _ (⟨(⟨#[99, 110]⟩ : ByteArray), (((⟨#[65]⟩ : ByteArray) ++ lowS a0) ++ (⟨#[66]⟩ : ByteArray))⟩ : S41) [.string (⟨#[99, 110]⟩ : ByteArray), .string (((⟨#[65]⟩ : ByteArray) ++ lowS a0) ++ (⟨#[66]⟩ : ByteArray))] from (k41_mkM _ _ _ (⟨(⟨#[99, 110]⟩ : ByteArray), (((⟨#[65]⟩ : ByteArray) ++ lowS a0) ++ (⟨#[66]⟩ : ByteArray))⟩ : S41) )) (Reps.c2 (show Kd.M k41 _ _ _ (⟨(⟨#[79]⟩ : ByteArray), (⟨#[88, 32]⟩ : ByteArray)⟩ : S41) [.string (⟨#[79]⟩ : ByteArray), .string (⟨#[88, 32]⟩ : ByteArray)] from (k41_mkM _ _ _ (⟨(⟨#[79]⟩ : ByteArray), (⟨#[88, 32]⟩ : ByteArray)⟩ : S41) )) (Reps.none _ _)))); intro v2 w2 ho2 hb hg_ hnew_; clear hg_ hnew_; (first | rw [← Y2.out] at ho2 | (simp only [Int.reduceToNat] at ho2; rw [← Y2.out] at ho2)); have n0_ := Aside0.mk (Kd.R_lower ho2 (below_size (by repeat (first | (with_reducible first | exact HB.out | apply below_alloc | apply pw_below_drewN | apply below_drew1) | exact HB.out)))); have n1_ := Aside0.mk (below_step (by repeat (first | (with_reducible first | exact HB.out | apply below_alloc | apply pw_below_drewN | apply below_drew1) | exact HB.out)) hb); clear HB; have HO2 := n0_; have HB := n1_; clear n0_ n1_; clear hb ho2; obtain ⟨Ao2, co2, eo2⟩ := Kd.R_slice HO2.out; subst eo2) | ((with_reducible refine gate_callee (f := 18) rfl ?_); refine goesL_ (some 37) rfl rfl Tryz.func18 (by kernel_rfl) rfl #[.slice Ao2 ls2.length co2] rfl (by (try simp only [List.map_toArray, List.map_cons, List.map_nil]); first | done | rfl) ?_; (with_reducible refine (brookref1_TextDn.calls k _ _ ls2 b _ ?side1 ?side2 T2.out).mono ?_); (case side1 => repeat (first | exact (Kd.R_reads' HO2.out).2.2 | (with_reducible refine Kd.C_alloc ?_ _) | (with_reducible refine Kd.C_drewN ?_ _) | (with_reducible refine Kd.C_drew ?_))); (case side2 => exact (Kd.R_reads' HO2.out).2.1); rintro e w' ⟨rfl, ⟨nd, rfl⟩⟩; refine ⟨_, rfl, ?_⟩; clear HO2) | ((with_reducible refine gate_dst (N := 43) rfl ?_); (try (refine gate_guard (by rfl) ?_; dsimp only)); refine Kd.R_lit k41 _ 41 ?hg (N := 43) ?hd (xs := ([(⟨(⟨#[99, 110]⟩ : ByteArray), (((⟨#[97]⟩ : ByteArray) ++ a1) ++ (⟨#[98]⟩ : ByteArray))⟩ : S41), (⟨(⟨#[111]⟩ : ByteArray), (⟨#[120]⟩ : ByteArray)⟩ : S41)] : List (S41))) (inner := [.string (⟨#[99, 110]⟩ : ByteArray), .string (((⟨#[97]⟩ : ByteArray) ++ a1) ++ (⟨#[98]⟩ : ByteArray)), .string (⟨#[111]⟩ : ByteArray), .string (⟨#[120]⟩ : ByteArray)]) (ok := fun _ => True) (okp := fun _ => True) ?hr ?hp (fun _ hk => hk) trivial (Below.refl _ _) (Nat.le_refl _) (by simp) ?_; (case hd => rfl); (case hg => rfl); (case hr => first | (go_simp; done) | (go_simp; rfl)); (case hp => exact (Reps.c2 (show Kd.M k41 _ _ _ (⟨(⟨#[99, 110]⟩ : ByteArray), (((⟨#[97]⟩ : ByteArray) ++ a1) ++ (⟨#[98]⟩ : ByteArray))⟩ : S41) [.string (⟨#[99, 110]⟩ : ByteArray), .string (((⟨#[97]⟩ : ByteArray) ++ a1) ++ (⟨#[98]⟩ : ByteArray))] from (k41_mkM _ _ _ (⟨(⟨#[99, 110]⟩ : ByteArray), (((⟨#[97]⟩ : ByteArray) ++ a1) ++ (⟨#[98]⟩ : ByteArray))⟩ : S41) )) (Reps.c2 (show Kd.M k41 _ _ _ (⟨(⟨#[111]⟩ : ByteArray), (⟨#[120]⟩ : ByteArray)⟩ : S41) [.string (⟨#[111]⟩ : ByteArray), .string (⟨#[120]⟩ : ByteArray)] from (k41_mkM _ _ _ (⟨(⟨#[111]⟩ : ByteArray), (⟨#[120]⟩ : ByteArray)⟩ : S41) )) (Reps.none _ _)))); intro v3 w3 ho3 hb hg_ hnew_; clear hg_ hnew_; (first | rw [← Y3.out] at ho3 | (simp only [Int.reduceToNat] at ho3; rw [← Y3.out] at ho3)); have n0_ := Aside0.mk (Kd.R_lower ho3 (below_size (by repeat (first | (with_reducible first | exact HB.out | apply below_alloc | apply pw_below_drewN | apply below_drew1) | exact HB.out)))); have n1_ := Aside0.mk (below_step (by repeat (first | (with_reducible first | exact HB.out | apply below_alloc | apply pw_below_drewN | apply below_drew1) | exact HB.out)) hb); clear HB; have HO3 := n0_; have HB := n1_; clear n0_ n1_; clear hb ho3; obtain ⟨Ao3, co3, eo3⟩ := Kd.R_slice HO3.out; subst eo3) | ((with_reducible refine gate_callee (f := 18) rfl ?_); refine goesL_ (some 44) rfl rfl Tryz.func18 (by kernel_rfl) rfl #[.slice Ao3 ls3.length co3] rfl (by (try simp only [List.map_toArray, List.map_cons, List.map_nil]); first | done | rfl) ?_; (with_reducible refine (brookref1_TextDn.calls k _ _ ls3 c _ ?side1 ?side2 T3.out).mono ?_); (case side1 => repeat (first | exact (Kd.R_reads' HO3.out).2.2 | (with_reducible refine Kd.C_alloc ?_ _) | (with_reducible refine Kd.C_drewN ?_ _) | (with_reducible refine Kd.C_drew ?_))); (case side2 => exact (Kd.R_reads' HO3.out).2.1); rintro e w' ⟨rfl, ⟨nd, rfl⟩⟩; refine ⟨_, rfl, ?_⟩; clear HO3) | ((with_reducible refine gate_callee (f := 9) rfl ?_); refine goesL_ (some 47) rfl rfl Tryz.func9 (by kernel_rfl) rfl #[.string (⟨#[109, 101, 109, 98, 101, 114]⟩ : ByteArray), .string a] rfl (by (try simp only [List.map_toArray, List.map_cons, List.map_nil]); first | done | rfl) ?_; (with_reducible refine (match_Norm.calls k (⟨#[109, 101, 109, 98, 101, 114]⟩ : ByteArray) a _ _ _ ?side1 N1.out).mono ?_); (case side1 => first | exact HG.out | exact Gl.drewN HG.out _ | exact Gl.below HG.out (by repeat (first | (with_reducible first | exact HB.out | apply below_alloc | apply pw_below_drewN | apply below_drew1) | exact HB.out))); rintro e wq ⟨rfl, hb⟩; refine ⟨_, rfl, ?_⟩; have n1_ := Aside0.mk (below_step (by repeat (first | (with_reducible first | exact HB.out | apply below_alloc | apply pw_below_drewN | apply below_drew1) | exact HB.out)) hb); clear HB; have HB := n1_; clear n1_; (try clear hb)) | ((with_reducible refine gate_callee (f := 9) rfl ?_); refine goesL_ (some 53) rfl rfl Tryz.func9 (by kernel_rfl) rfl #[.string (⟨#[109, 101, 109, 98, 101, 114]⟩ : ByteArray), .string ((⟨#[120]⟩ : ByteArray) ++ a0)] rfl (by (try simp only [List.map_toArray, List.map_cons, List.map_nil]); first | done | rfl) ?_; (with_reducible refine (match_Norm.calls k (⟨#[109, 101, 109, 98, 101, 114]⟩ : ByteArray) ((⟨#[120]⟩ : ByteArray) ++ a0) _ _ _ ?side1 N2.out).mono ?_); (case side1 => first | exact HG.out | exact Gl.drewN HG.out _ | exact Gl.below HG.out (by repeat (first | (with_reducible first | exact HB.out | apply below_alloc | apply pw_below_drewN | apply below_drew1) | exact HB.out))); rintro e wq ⟨rfl, hb⟩; refine ⟨_, rfl, ?_⟩; have n1_ := Aside0.mk (below_step (by repeat (first | (with_reducible first | exact HB.out | apply below_alloc | apply pw_below_drewN | apply below_drew1) | exact HB.out)) hb); clear HB; have HB := n1_; clear n1_; (try clear hb)))
  go_upto_region 9 with (((with_reducible refine gate_callee (f := 11) rfl ?_); refine goesL_ (some 59) rfl rfl Tryz.func11 (by kernel_rfl) rfl #[.string (⟨#[109, 101, 109, 98, 101, 114]⟩ : ByteArray), .string a, .string c] rfl (by (try simp only [List.map_toArray, List.map_cons, List.map_nil]); first | done | rfl) ?_; (with_reducible refine (match_Less.calls k (⟨#[109, 101, 109, 98, 101, 114]⟩ : ByteArray) a c false false _ ?side1 L1.out).mono ?_); (case side1 => first | exact HG.out | exact Gl.drewN HG.out _ | exact Gl.below HG.out (by repeat (first | (with_reducible first | exact HB.out | apply below_alloc | apply pw_below_drewN | apply below_drew1) | exact HB.out))); rintro e wq ⟨rfl, hb⟩; refine ⟨_, rfl, ?_⟩; have n1_ := Aside0.mk (below_step (by repeat (first | (with_reducible first | exact HB.out | apply below_alloc | apply pw_below_drewN | apply below_drew1) | exact HB.out)) hb); clear HB; have HB := n1_; clear n1_; (try clear hb)))
  simp only [List.append_eq, List.cons_append, List.nil_append]
  cases ox with
  | true =>
    go_wp2_with (first | (go_at_call 20; (with_reducible refine (brookref1_Key.calls k a _ _ _ K1.out).mono ?_); rintro e wq ⟨rfl, hb⟩; have n1_ := Aside0.mk (below_step (by repeat (first | (with_reducible first | exact HB.out | apply below_alloc | apply pw_below_drewN | apply below_drew1) | exact HB.out)) hb); clear HB; have HB := n1_; clear n1_; (try clear hb)) | (go_at_call 20; (with_reducible refine (brookref1_Key.calls k ((⟨#[120]⟩ : ByteArray) ++ a0) _ _ _ K3.out).mono ?_); rintro e wq ⟨rfl, hb⟩; have n1_ := Aside0.mk (below_step (by repeat (first | (with_reducible first | exact HB.out | apply below_alloc | apply pw_below_drewN | apply below_drew1) | exact HB.out)) hb); clear HB; have HB := n1_; clear n1_; (try clear hb)) | (go_at_call 15; (with_reducible refine (match_Same.calls k (⟨#[109, 101, 109, 98, 101, 114]⟩ : ByteArray) a b true _ ?side1 S1.out).mono ?_); (case side1 => first | exact HG.out | exact Gl.drewN HG.out _ | exact Gl.below HG.out (by repeat (first | (with_reducible first | exact HB.out | apply below_alloc | apply pw_below_drewN | apply below_drew1) | exact HB.out))); rintro e wq ⟨rfl, hb⟩; have n1_ := Aside0.mk (below_step (by repeat (first | (with_reducible first | exact HB.out | apply below_alloc | apply pw_below_drewN | apply below_drew1) | exact HB.out)) hb); clear HB; have HB := n1_; clear n1_; (try clear hb)) | (go_at_call 6; (with_reducible refine (brooklaw3_awake.calls k true _ ?side1 AW.out).mono ?_); (case side1 => first | exact HG.out | exact Gl.drewN HG.out _ | exact Gl.below HG.out (by repeat (first | (with_reducible first | exact HB.out | apply below_alloc | apply pw_below_drewN | apply below_drew1) | exact HB.out))); rintro e wq ⟨rfl, hb⟩; have n1_ := Aside0.mk (below_step (by repeat (first | (with_reducible first | exact HB.out | apply below_alloc | apply pw_below_drewN | apply below_drew1) | exact HB.out)) hb); clear HB; have HB := n1_; clear n1_; (try clear hb)))
    go_ret
    exact ⟨by first | rfl | (simp; done) | (simp [*]; done), (by repeat (first | (with_reducible first | exact HB.out | apply below_alloc | apply pw_below_drewN | apply below_drew1) | exact HB.out))⟩
  | false =>
    go_wp2_with (first | (go_at_call 20; (with_reducible refine (brookref1_Key.calls k a _ _ _ K1.out).mono ?_); rintro e wq ⟨rfl, hb⟩; have n1_ := Aside0.mk (below_step (by repeat (first | (with_reducible first | exact HB.out | apply below_alloc | apply pw_below_drewN | apply below_drew1) | exact HB.out)) hb); clear HB; have HB := n1_; clear n1_; (try clear hb)) | (go_at_call 20; (with_reducible refine (brookref1_Key.calls k ((⟨#[120]⟩ : ByteArray) ++ a0) _ _ _ K3.out).mono ?_); rintro e wq ⟨rfl, hb⟩; have n1_ := Aside0.mk (below_step (by repeat (first | (with_reducible first | exact HB.out | apply below_alloc | apply pw_below_drewN | apply below_drew1) | exact HB.out)) hb); clear HB; have HB := n1_; clear n1_; (try clear hb)) | (go_at_call 15; (with_reducible refine (match_Same.calls k (⟨#[109, 101, 109, 98, 101, 114]⟩ : ByteArray) a b true _ ?side1 S1.out).mono ?_); (case side1 => first | exact HG.out | exact Gl.drewN HG.out _ | exact Gl.below HG.out (by repeat (first | (with_reducible first | exact HB.out | apply below_alloc | apply pw_below_drewN | apply below_drew1) | exact HB.out))); rintro e wq ⟨rfl, hb⟩; have n1_ := Aside0.mk (below_step (by repeat (first | (with_reducible first | exact HB.out | apply below_alloc | apply pw_below_drewN | apply below_drew1) | exact HB.out)) hb); clear HB; have HB := n1_; clear n1_; (try clear hb)) | (go_at_call 6; (with_reducible refine (brooklaw3_awake.calls k true _ ?side1 AW.out).mono ?_); (case side1 => first | exact HG.out | exact Gl.drewN HG.out _ | exact Gl.below HG.out (by repeat (first | (with_reducible first | exact HB.out | apply below_alloc | apply pw_below_drewN | apply below_drew1) | exact HB.out))); rintro e wq ⟨rfl, hb⟩; have n1_ := Aside0.mk (below_step (by repeat (first | (with_reducible first | exact HB.out | apply below_alloc | apply pw_below_drewN | apply below_drew1) | exact HB.out)) hb); clear HB; have HB := n1_; clear n1_; (try clear hb)))
    go_ret
    exact ⟨by first | rfl | (simp; done) | (simp [*]; done), (by repeat (first | (with_reducible first | exact HB.out | apply below_alloc | apply pw_below_drewN | apply below_drew1) | exact HB.out))⟩
set_option maxHeartbeats 8000000 in
set_option maxRecDepth 100000 in
theorem MatchDns.none (k : Nat) (a0 a1 a b c n n2 ka kc kx : ByteArray) (ok ox oa oc sc : Bool) (w : World) (hG : Gl w) (hs : a0.size ≤ 30) (ht : a1.size ≤ 30)
    (T1 : Aside0 (brookref1_TextDn.f k ([(⟨(⟨#[67, 78]⟩ : ByteArray), (((⟨#[97]⟩ : ByteArray) ++ a0) ++ (⟨#[98]⟩ : ByteArray))⟩ : S41), (⟨(⟨#[111]⟩ : ByteArray), (⟨#[120]⟩ : ByteArray)⟩ : S41)] : List (S41)) = some a))
    (T2 : Aside0 (brookref1_TextDn.f k ([(⟨(⟨#[99, 110]⟩ : ByteArray), (((⟨#[65]⟩ : ByteArray) ++ lowS a0) ++ (⟨#[66]⟩ : ByteArray))⟩ : S41), (⟨(⟨#[79]⟩ : ByteArray), (⟨#[88, 32]⟩ : ByteArray)⟩ : S41)] : List (S41)) = some b))
    (T3 : Aside0 (brookref1_TextDn.f k ([(⟨(⟨#[99, 110]⟩ : ByteArray), (((⟨#[97]⟩ : ByteArray) ++ a1) ++ (⟨#[98]⟩ : ByteArray))⟩ : S41), (⟨(⟨#[111]⟩ : ByteArray), (⟨#[120]⟩ : ByteArray)⟩ : S41)] : List (S41)) = some c))
    (N1 : Aside0 (match_Norm.f k (⟨#[109, 101, 109, 98, 101, 114]⟩ : ByteArray) a = some (n, ok)))
    (N2 : Aside0 (match_Norm.f k (⟨#[109, 101, 109, 98, 101, 114]⟩ : ByteArray) ((⟨#[120]⟩ : ByteArray) ++ a0) = some (n2, ox)))
    (L1 : Aside0 (match_Less.f k (⟨#[109, 101, 109, 98, 101, 114]⟩ : ByteArray) a c = some (false, false)))
    (K1 : Aside0 (brookref1_Key.f k a = some (ka, oa)))
    (K2 : Aside0 (brookref1_Key.f k c = some (kc, oc)))
    (K3 : Aside0 (brookref1_Key.f k ((⟨#[120]⟩ : ByteArray) ++ a0) = some (kx, ox)))
    (AW : Aside0 (brooklaw3_awake.f k = some true))
    (ha : ¬ 100 < a.size) (hb : ¬ 100 < b.size) (hc : ¬ 100 < c.size) (hok : ok = true) (hn : n = ka) (S1 : Aside0 (match_Same.f k (⟨#[109, 101, 109, 98, 101, 114]⟩ : ByteArray) a b = some true)) (S2 : Aside0 (match_Same.f k (⟨#[77, 69, 77, 66, 69, 82]⟩ : ByteArray) a c = some sc)) (hsc : (n.toList == kc.toList) = sc) :
    Calls Tryz.prog 5 #[.string a0, .string a1] w fun e w' => e = .returned (.bool true) ∧ Below w.heap.size w w' := by
  have hu1 := Tryz.underlying41
  have hu2 := Tryz.underlying26
  have HB := Aside0.mk (Below.refl w.heap.size w)
  have HG := Aside0.mk hG
  clear hG
  have TL : Aside0 (brookref1_Lower.f a0 = some (lowS a0)) := ⟨ref_lower a0 (by omega)⟩
  have hz : (lowS a0).size ≤ 30 := by rw [lowS_size]; exact hs
  have d0 : decide (30 < (a0.size : Int)) = false := decide_eq_false (by omega)
  have d1 : decide (30 < a0.size) = false := decide_eq_false (by omega)
  have d2 : decide (30 < (a1.size : Int)) = false := decide_eq_false (by omega)
  have d3 : decide (30 < a1.size) = false := decide_eq_false (by omega)
  have d4 : decide ((a0.size : Int) < 100) = true := decide_eq_true (by omega)
  have d5 : decide (a0.size < 100) = true := decide_eq_true (by omega)
  have u1 : (9223372036854775807 < 1 + (a0).size) = False := eq_false (by omega)
  have u2 : (9223372036854775807 < 1 + (a0).size + 1) = False := eq_false (by omega)
  have v1 : (9223372036854775807 < 1 + (a1).size) = False := eq_false (by omega)
  have v2 : (9223372036854775807 < 1 + (a1).size + 1) = False := eq_false (by omega)
  have z1 : (9223372036854775807 < 1 + (lowS a0).size) = False := eq_false (by omega)
  have z2 : (9223372036854775807 < 1 + (lowS a0).size + 1) = False := eq_false (by omega)
  obtain ⟨ls1, hl1⟩ : ∃ y_ : List (S41), y_ = ([(⟨(⟨#[67, 78]⟩ : ByteArray), (((⟨#[97]⟩ : ByteArray) ++ a0) ++ (⟨#[98]⟩ : ByteArray))⟩ : S41), (⟨(⟨#[111]⟩ : ByteArray), (⟨#[120]⟩ : ByteArray)⟩ : S41)] : List (S41)) := ⟨_, rfl⟩
  have Y1 := Aside0.mk hl1
  have T1' := Aside0.mk T1.out
  rw [← hl1] at T1'
  clear T1
  have T1 := T1'
  clear T1' hl1
  obtain ⟨ls2, hl2⟩ : ∃ y_ : List (S41), y_ = ([(⟨(⟨#[99, 110]⟩ : ByteArray), (((⟨#[65]⟩ : ByteArray) ++ lowS a0) ++ (⟨#[66]⟩ : ByteArray))⟩ : S41), (⟨(⟨#[79]⟩ : ByteArray), (⟨#[88, 32]⟩ : ByteArray)⟩ : S41)] : List (S41)) := ⟨_, rfl⟩
  have Y2 := Aside0.mk hl2
  have T2' := Aside0.mk T2.out
  rw [← hl2] at T2'
  clear T2
  have T2 := T2'
  clear T2' hl2
  obtain ⟨ls3, hl3⟩ : ∃ y_ : List (S41), y_ = ([(⟨(⟨#[99, 110]⟩ : ByteArray), (((⟨#[97]⟩ : ByteArray) ++ a1) ++ (⟨#[98]⟩ : ByteArray))⟩ : S41), (⟨(⟨#[111]⟩ : ByteArray), (⟨#[120]⟩ : ByteArray)⟩ : S41)] : List (S41)) := ⟨_, rfl⟩
  have Y3 := Aside0.mk hl3
  have T3' := Aside0.mk T3.out
  rw [← hl3] at T3'
  clear T3
  have T3 := T3'
  clear T3' hl3
  clear hs ht hz
  have e_a0 : decide (100 < (a.size : Int)) = false := decide_eq_false (by omega)
  have e_a1 : decide (100 < a.size) = false := decide_eq_false (by omega)
  have e_b0 : decide (100 < (b.size : Int)) = false := decide_eq_false (by omega)
  have e_b1 : decide (100 < b.size) = false := decide_eq_false (by omega)
  have e_c0 : decide (100 < (c.size : Int)) = false := decide_eq_false (by omega)
  have e_c1 : decide (100 < c.size) = false := decide_eq_false (by omega)
  clear ha hb hc
  subst hok
  obtain rfl : ka = n := hn.symm
  have q2 := hsc
  clear hsc
  go_enter Tryz.func5, Tryz.ntmps5
  go_upto_region 8 with (first | ((with_reducible refine gate_dst (N := 28) rfl ?_); (try (refine gate_guard (by rfl) ?_; dsimp only)); refine Kd.R_lit k41 _ 41 ?hg (N := 28) ?hd (xs := ([(⟨(⟨#[67, 78]⟩ : ByteArray), (((⟨#[97]⟩ : ByteArray) ++ a0) ++ (⟨#[98]⟩ : ByteArray))⟩ : S41), (⟨(⟨#[111]⟩ : ByteArray), (⟨#[120]⟩ : ByteArray)⟩ : S41)] : List (S41))) (inner := [.string (⟨#[67, 78]⟩ : ByteArray), .string (((⟨#[97]⟩ : ByteArray) ++ a0) ++ (⟨#[98]⟩ : ByteArray)), .string (⟨#[111]⟩ : ByteArray), .string (⟨#[120]⟩ : ByteArray)]) (ok := fun _ => True) (okp := fun _ => True) ?hr ?hp (fun _ hk => hk) trivial (Below.refl _ _) (Nat.le_refl _) (by simp) ?_; (case hd => rfl); (case hg => rfl); (case hr => first | (go_simp; done) | (go_simp; rfl)); (case hp => exact (Reps.c2 (show Kd.M k41 _ _ _ (⟨(⟨#[67, 78]⟩ : ByteArray), (((⟨#[97]⟩ : ByteArray) ++ a0) ++ (⟨#[98]⟩ : ByteArray))⟩ : S41) [.string (⟨#[67, 78]⟩ : ByteArray), .string (((⟨#[97]⟩ : ByteArray) ++ a0) ++ (⟨#[98]⟩ : ByteArray))] from (k41_mkM _ _ _ (⟨(⟨#[67, 78]⟩ : ByteArray), (((⟨#[97]⟩ : ByteArray) ++ a0) ++ (⟨#[98]⟩ : ByteArray))⟩ : S41) )) (Reps.c2 (show Kd.M k41 _ _ _ (⟨(⟨#[111]⟩ : ByteArray), (⟨#[120]⟩ : ByteArray)⟩ : S41) [.string (⟨#[111]⟩ : ByteArray), .string (⟨#[120]⟩ : ByteArray)] from (k41_mkM _ _ _ (⟨(⟨#[111]⟩ : ByteArray), (⟨#[120]⟩ : ByteArray)⟩ : S41) )) (Reps.none _ _)))); intro v1 w1 ho1 hb hg_ hnew_; clear hg_ hnew_; (first | rw [← Y1.out] at ho1 | (simp only [Int.reduceToNat] at ho1; rw [← Y1.out] at ho1)); have n0_ := Aside0.mk (Kd.R_lower ho1 (below_size (by repeat (first | (with_reducible first | exact HB.out | apply below_alloc | apply pw_below_drewN | apply below_drew1) | exact HB.out)))); have n1_ := Aside0.mk (below_step (by repeat (first | (with_reducible first | exact HB.out | apply below_alloc | apply pw_below_drewN | apply below_drew1) | exact HB.out)) hb); clear HB; have HO1 := n0_; have HB := n1_; clear n0_ n1_; clear hb ho1; obtain ⟨Ao1, co1, eo1⟩ := Kd.R_slice HO1.out; subst eo1) | ((with_reducible refine gate_callee (f := 18) rfl ?_); refine goesL_ (some 29) rfl rfl Tryz.func18 (by kernel_rfl) rfl #[.slice Ao1 ls1.length co1] rfl (by (try simp only [List.map_toArray, List.map_cons, List.map_nil]); first | done | rfl) ?_; (with_reducible refine (brookref1_TextDn.calls k _ _ ls1 a _ ?side1 ?side2 T1.out).mono ?_); (case side1 => repeat (first | exact (Kd.R_reads' HO1.out).2.2 | (with_reducible refine Kd.C_alloc ?_ _) | (with_reducible refine Kd.C_drewN ?_ _) | (with_reducible refine Kd.C_drew ?_))); (case side2 => exact (Kd.R_reads' HO1.out).2.1); rintro e w' ⟨rfl, ⟨nd, rfl⟩⟩; refine ⟨_, rfl, ?_⟩; clear HO1) | ((with_reducible refine gate_callee (f := 19) rfl ?_); refine goesL_ (some 31) rfl rfl Tryz.func19 (by kernel_rfl) rfl #[.string a0] rfl (by (try simp only [List.map_toArray, List.map_cons, List.map_nil]); first | done | rfl) ?_; (with_reducible refine (brookref1_Lower.calls a0 (lowS a0) _ TL.out).mono ?_); rintro e wq ⟨rfl, hb⟩; refine ⟨_, rfl, ?_⟩; have n1_ := Aside0.mk (below_step (by repeat (first | (with_reducible first | exact HB.out | apply below_alloc | apply pw_below_drewN | apply below_drew1) | exact HB.out)) hb); clear HB; have HB := n1_; clear n1_; (try clear hb)) | ((with_reducible refine gate_dst (N := 36) rfl ?_); (try (refine gate_guard (by rfl) ?_; dsimp only)); refine Kd.R_lit k41 _ 41 ?hg (N := 36) ?hd (xs := ([(⟨(⟨#[99, 110]⟩ : ByteArray), (((⟨#[65]⟩ : ByteArray) ++ lowS a0) ++ (⟨#[66]⟩ : ByteArray))⟩ : S41), (⟨(⟨#[79]⟩ : ByteArray), (⟨#[88, 32]⟩ : ByteArray)⟩ : S41)] : List (S41))) (inner := [.string (⟨#[99, 110]⟩ : ByteArray), .string (((⟨#[65]⟩ : ByteArray) ++ lowS a0) ++ (⟨#[66]⟩ : ByteArray)), .string (⟨#[79]⟩ : ByteArray), .string (⟨#[88, 32]⟩ : ByteArray)]) (ok := fun _ => True) (okp := fun _ => True) ?hr ?hp (fun _ hk => hk) trivial (Below.refl _ _) (Nat.le_refl _) (by simp) ?_; (case hd => rfl); (case hg => rfl); (case hr => first | (go_simp; done) | (go_simp; rfl)); (case hp => exact (Reps.c2 (show Kd.M k41 _ _ _ (⟨(⟨#[99, 110]⟩ : ByteArray), (((⟨#[65]⟩ : ByteArray) ++ lowS a0) ++ (⟨#[66]⟩ : ByteArray))⟩ : S41) [.string (⟨#[99, 110]⟩ : ByteArray), .string (((⟨#[65]⟩ : ByteArray) ++ lowS a0) ++ (⟨#[66]⟩ : ByteArray))] from (k41_mkM _ _ _ (⟨(⟨#[99, 110]⟩ : ByteArray), (((⟨#[65]⟩ : ByteArray) ++ lowS a0) ++ (⟨#[66]⟩ : ByteArray))⟩ : S41) )) (Reps.c2 (show Kd.M k41 _ _ _ (⟨(⟨#[79]⟩ : ByteArray), (⟨#[88, 32]⟩ : ByteArray)⟩ : S41) [.string (⟨#[79]⟩ : ByteArray), .string (⟨#[88, 32]⟩ : ByteArray)] from (k41_mkM _ _ _ (⟨(⟨#[79]⟩ : ByteArray), (⟨#[88, 32]⟩ : ByteArray)⟩ : S41) )) (Reps.none _ _)))); intro v2 w2 ho2 hb hg_ hnew_; clear hg_ hnew_; (first | rw [← Y2.out] at ho2 | (simp only [Int.reduceToNat] at ho2; rw [← Y2.out] at ho2)); have n0_ := Aside0.mk (Kd.R_lower ho2 (below_size (by repeat (first | (with_reducible first | exact HB.out | apply below_alloc | apply pw_below_drewN | apply below_drew1) | exact HB.out)))); have n1_ := Aside0.mk (below_step (by repeat (first | (with_reducible first | exact HB.out | apply below_alloc | apply pw_below_drewN | apply below_drew1) | exact HB.out)) hb); clear HB; have HO2 := n0_; have HB := n1_; clear n0_ n1_; clear hb ho2; obtain ⟨Ao2, co2, eo2⟩ := Kd.R_slice HO2.out; subst eo2) | ((with_reducible refine gate_callee (f := 18) rfl ?_); refine goesL_ (some 37) rfl rfl Tryz.func18 (by kernel_rfl) rfl #[.slice Ao2 ls2.length co2] rfl (by (try simp only [List.map_toArray, List.map_cons, List.map_nil]); first | done | rfl) ?_; (with_reducible refine (brookref1_TextDn.calls k _ _ ls2 b _ ?side1 ?side2 T2.out).mono ?_); (case side1 => repeat (first | exact (Kd.R_reads' HO2.out).2.2 | (with_reducible refine Kd.C_alloc ?_ _) | (with_reducible refine Kd.C_drewN ?_ _) | (with_reducible refine Kd.C_drew ?_))); (case side2 => exact (Kd.R_reads' HO2.out).2.1); rintro e w' ⟨rfl, ⟨nd, rfl⟩⟩; refine ⟨_, rfl, ?_⟩; clear HO2) | ((with_reducible refine gate_dst (N := 43) rfl ?_); (try (refine gate_guard (by rfl) ?_; dsimp only)); refine Kd.R_lit k41 _ 41 ?hg (N := 43) ?hd (xs := ([(⟨(⟨#[99, 110]⟩ : ByteArray), (((⟨#[97]⟩ : ByteArray) ++ a1) ++ (⟨#[98]⟩ : ByteArray))⟩ : S41), (⟨(⟨#[111]⟩ : ByteArray), (⟨#[120]⟩ : ByteArray)⟩ : S41)] : List (S41))) (inner := [.string (⟨#[99, 110]⟩ : ByteArray), .string (((⟨#[97]⟩ : ByteArray) ++ a1) ++ (⟨#[98]⟩ : ByteArray)), .string (⟨#[111]⟩ : ByteArray), .string (⟨#[120]⟩ : ByteArray)]) (ok := fun _ => True) (okp := fun _ => True) ?hr ?hp (fun _ hk => hk) trivial (Below.refl _ _) (Nat.le_refl _) (by simp) ?_; (case hd => rfl); (case hg => rfl); (case hr => first | (go_simp; done) | (go_simp; rfl)); (case hp => exact (Reps.c2 (show Kd.M k41 _ _ _ (⟨(⟨#[99, 110]⟩ : ByteArray), (((⟨#[97]⟩ : ByteArray) ++ a1) ++ (⟨#[98]⟩ : ByteArray))⟩ : S41) [.string (⟨#[99, 110]⟩ : ByteArray), .string (((⟨#[97]⟩ : ByteArray) ++ a1) ++ (⟨#[98]⟩ : ByteArray))] from (k41_mkM _ _ _ (⟨(⟨#[99, 110]⟩ : ByteArray), (((⟨#[97]⟩ : ByteArray) ++ a1) ++ (⟨#[98]⟩ : ByteArray))⟩ : S41) )) (Reps.c2 (show Kd.M k41 _ _ _ (⟨(⟨#[111]⟩ : ByteArray), (⟨#[120]⟩ : ByteArray)⟩ : S41) [.string (⟨#[111]⟩ : ByteArray), .string (⟨#[120]⟩ : ByteArray)] from (k41_mkM _ _ _ (⟨(⟨#[111]⟩ : ByteArray), (⟨#[120]⟩ : ByteArray)⟩ : S41) )) (Reps.none _ _)))); intro v3 w3 ho3 hb hg_ hnew_; clear hg_ hnew_; (first | rw [← Y3.out] at ho3 | (simp only [Int.reduceToNat] at ho3; rw [← Y3.out] at ho3)); have n0_ := Aside0.mk (Kd.R_lower ho3 (below_size (by repeat (first | (with_reducible first | exact HB.out | apply below_alloc | apply pw_below_drewN | apply below_drew1) | exact HB.out)))); have n1_ := Aside0.mk (below_step (by repeat (first | (with_reducible first | exact HB.out | apply below_alloc | apply pw_below_drewN | apply below_drew1) | exact HB.out)) hb); clear HB; have HO3 := n0_; have HB := n1_; clear n0_ n1_; clear hb ho3; obtain ⟨Ao3, co3, eo3⟩ := Kd.R_slice HO3.out; subst eo3) | ((with_reducible refine gate_callee (f := 18) rfl ?_); refine goesL_ (some 44) rfl rfl Tryz.func18 (by kernel_rfl) rfl #[.slice Ao3 ls3.length co3] rfl (by (try simp only [List.map_toArray, List.map_cons, List.map_nil]); first | done | rfl) ?_; (with_reducible refine (brookref1_TextDn.calls k _ _ ls3 c _ ?side1 ?side2 T3.out).mono ?_); (case side1 => repeat (first | exact (Kd.R_reads' HO3.out).2.2 | (with_reducible refine Kd.C_alloc ?_ _) | (with_reducible refine Kd.C_drewN ?_ _) | (with_reducible refine Kd.C_drew ?_))); (case side2 => exact (Kd.R_reads' HO3.out).2.1); rintro e w' ⟨rfl, ⟨nd, rfl⟩⟩; refine ⟨_, rfl, ?_⟩; clear HO3) | ((with_reducible refine gate_callee (f := 9) rfl ?_); refine goesL_ (some 47) rfl rfl Tryz.func9 (by kernel_rfl) rfl #[.string (⟨#[109, 101, 109, 98, 101, 114]⟩ : ByteArray), .string a] rfl (by (try simp only [List.map_toArray, List.map_cons, List.map_nil]); first | done | rfl) ?_; (with_reducible refine (match_Norm.calls k (⟨#[109, 101, 109, 98, 101, 114]⟩ : ByteArray) a _ _ _ ?side1 N1.out).mono ?_); (case side1 => first | exact HG.out | exact Gl.drewN HG.out _ | exact Gl.below HG.out (by repeat (first | (with_reducible first | exact HB.out | apply below_alloc | apply pw_below_drewN | apply below_drew1) | exact HB.out))); rintro e wq ⟨rfl, hb⟩; refine ⟨_, rfl, ?_⟩; have n1_ := Aside0.mk (below_step (by repeat (first | (with_reducible first | exact HB.out | apply below_alloc | apply pw_below_drewN | apply below_drew1) | exact HB.out)) hb); clear HB; have HB := n1_; clear n1_; (try clear hb)) | ((with_reducible refine gate_callee (f := 9) rfl ?_); refine goesL_ (some 53) rfl rfl Tryz.func9 (by kernel_rfl) rfl #[.string (⟨#[109, 101, 109, 98, 101, 114]⟩ : ByteArray), .string ((⟨#[120]⟩ : ByteArray) ++ a0)] rfl (by (try simp only [List.map_toArray, List.map_cons, List.map_nil]); first | done | rfl) ?_; (with_reducible refine (match_Norm.calls k (⟨#[109, 101, 109, 98, 101, 114]⟩ : ByteArray) ((⟨#[120]⟩ : ByteArray) ++ a0) _ _ _ ?side1 N2.out).mono ?_); (case side1 => first | exact HG.out | exact Gl.drewN HG.out _ | exact Gl.below HG.out (by repeat (first | (with_reducible first | exact HB.out | apply below_alloc | apply pw_below_drewN | apply below_drew1) | exact HB.out))); rintro e wq ⟨rfl, hb⟩; refine ⟨_, rfl, ?_⟩; have n1_ := Aside0.mk (below_step (by repeat (first | (with_reducible first | exact HB.out | apply below_alloc | apply pw_below_drewN | apply below_drew1) | exact HB.out)) hb); clear HB; have HB := n1_; clear n1_; (try clear hb)))
  go_upto_region 9 with (((with_reducible refine gate_callee (f := 11) rfl ?_); refine goesL_ (some 59) rfl rfl Tryz.func11 (by kernel_rfl) rfl #[.string (⟨#[109, 101, 109, 98, 101, 114]⟩ : ByteArray), .string a, .string c] rfl (by (try simp only [List.map_toArray, List.map_cons, List.map_nil]); first | done | rfl) ?_; (with_reducible refine (match_Less.calls k (⟨#[109, 101, 109, 98, 101, 114]⟩ : ByteArray) a c false false _ ?side1 L1.out).mono ?_); (case side1 => first | exact HG.out | exact Gl.drewN HG.out _ | exact Gl.below HG.out (by repeat (first | (with_reducible first | exact HB.out | apply below_alloc | apply pw_below_drewN | apply below_drew1) | exact HB.out))); rintro e wq ⟨rfl, hb⟩; refine ⟨_, rfl, ?_⟩; have n1_ := Aside0.mk (below_step (by repeat (first | (with_reducible first | exact HB.out | apply below_alloc | apply pw_below_drewN | apply below_drew1) | exact HB.out)) hb); clear HB; have HB := n1_; clear n1_; (try clear hb)))
  simp only [List.append_eq, List.cons_append, List.nil_append]
  cases ox with
  | true =>
    go_wp2_with (first | (go_at_call 20; (with_reducible refine (brookref1_Key.calls k a _ _ _ K1.out).mono ?_); rintro e wq ⟨rfl, hb⟩; have n1_ := Aside0.mk (below_step (by repeat (first | (with_reducible first | exact HB.out | apply below_alloc | apply pw_below_drewN | apply below_drew1) | exact HB.out)) hb); clear HB; have HB := n1_; clear n1_; (try clear hb)) | (go_at_call 20; (with_reducible refine (brookref1_Key.calls k c _ _ _ K2.out).mono ?_); rintro e wq ⟨rfl, hb⟩; have n1_ := Aside0.mk (below_step (by repeat (first | (with_reducible first | exact HB.out | apply below_alloc | apply pw_below_drewN | apply below_drew1) | exact HB.out)) hb); clear HB; have HB := n1_; clear n1_; (try clear hb)) | (go_at_call 20; (with_reducible refine (brookref1_Key.calls k ((⟨#[120]⟩ : ByteArray) ++ a0) _ _ _ K3.out).mono ?_); rintro e wq ⟨rfl, hb⟩; have n1_ := Aside0.mk (below_step (by repeat (first | (with_reducible first | exact HB.out | apply below_alloc | apply pw_below_drewN | apply below_drew1) | exact HB.out)) hb); clear HB; have HB := n1_; clear n1_; (try clear hb)) | (go_at_call 15; (with_reducible refine (match_Same.calls k (⟨#[109, 101, 109, 98, 101, 114]⟩ : ByteArray) a b true _ ?side1 S1.out).mono ?_); (case side1 => first | exact HG.out | exact Gl.drewN HG.out _ | exact Gl.below HG.out (by repeat (first | (with_reducible first | exact HB.out | apply below_alloc | apply pw_below_drewN | apply below_drew1) | exact HB.out))); rintro e wq ⟨rfl, hb⟩; have n1_ := Aside0.mk (below_step (by repeat (first | (with_reducible first | exact HB.out | apply below_alloc | apply pw_below_drewN | apply below_drew1) | exact HB.out)) hb); clear HB; have HB := n1_; clear n1_; (try clear hb)) | (go_at_call 15; (with_reducible refine (match_Same.calls k (⟨#[77, 69, 77, 66, 69, 82]⟩ : ByteArray) a c _ _ ?side1 S2.out).mono ?_); (case side1 => first | exact HG.out | exact Gl.drewN HG.out _ | exact Gl.below HG.out (by repeat (first | (with_reducible first | exact HB.out | apply below_alloc | apply pw_below_drewN | apply below_drew1) | exact HB.out))); rintro e wq ⟨rfl, hb⟩; have n1_ := Aside0.mk (below_step (by repeat (first | (with_reducible first | exact HB.out | apply below_alloc | apply pw_below_drewN | apply below_drew1) | exact HB.out)) hb); clear HB; have HB := n1_; clear n1_; (try clear hb)) | (go_at_call 6; (with_reducible refine (brooklaw3_awake.calls k true _ ?side1 AW.out).mono ?_); (case side1 => first | exact HG.out | exact Gl.drewN HG.out _ | exact Gl.below HG.out (by repeat (first | (with_reducible first | exact HB.out | apply below_alloc | apply pw_below_drewN | apply below_drew1) | exact HB.out))); rintro e wq ⟨rfl, hb⟩; have n1_ := Aside0.mk (below_step (by repeat (first | (with_reducible first | exact HB.out | apply below_alloc | apply pw_below_drewN | apply below_drew1) | exact HB.out)) hb); clear HB; have HB := n1_; clear n1_; (try clear hb)))
    go_ret
    exact ⟨by first | rfl | (simp; done) | (simp [*]; done), (by repeat (first | (with_reducible first | exact HB.out | apply below_alloc | apply pw_below_drewN | apply below_drew1) | exact HB.out))⟩
  | false =>
    go_wp2_with (first | (go_at_call 20; (with_reducible refine (brookref1_Key.calls k a _ _ _ K1.out).mono ?_); rintro e wq ⟨rfl, hb⟩; have n1_ := Aside0.mk (below_step (by repeat (first | (with_reducible first | exact HB.out | apply below_alloc | apply pw_below_drewN | apply below_drew1) | exact HB.out)) hb); clear HB; have HB := n1_; clear n1_; (try clear hb)) | (go_at_call 20; (with_reducible refine (brookref1_Key.calls k c _ _ _ K2.out).mono ?_); rintro e wq ⟨rfl, hb⟩; have n1_ := Aside0.mk (below_step (by repeat (first | (with_reducible first | exact HB.out | apply below_alloc | apply pw_below_drewN | apply below_drew1) | exact HB.out)) hb); clear HB; have HB := n1_; clear n1_; (try clear hb)) | (go_at_call 20; (with_reducible refine (brookref1_Key.calls k ((⟨#[120]⟩ : ByteArray) ++ a0) _ _ _ K3.out).mono ?_); rintro e wq ⟨rfl, hb⟩; have n1_ := Aside0.mk (below_step (by repeat (first | (with_reducible first | exact HB.out | apply below_alloc | apply pw_below_drewN | apply below_drew1) | exact HB.out)) hb); clear HB; have HB := n1_; clear n1_; (try clear hb)) | (go_at_call 15; (with_reducible refine (match_Same.calls k (⟨#[109, 101, 109, 98, 101, 114]⟩ : ByteArray) a b true _ ?side1 S1.out).mono ?_); (case side1 => first | exact HG.out | exact Gl.drewN HG.out _ | exact Gl.below HG.out (by repeat (first | (with_reducible first | exact HB.out | apply below_alloc | apply pw_below_drewN | apply below_drew1) | exact HB.out))); rintro e wq ⟨rfl, hb⟩; have n1_ := Aside0.mk (below_step (by repeat (first | (with_reducible first | exact HB.out | apply below_alloc | apply pw_below_drewN | apply below_drew1) | exact HB.out)) hb); clear HB; have HB := n1_; clear n1_; (try clear hb)) | (go_at_call 15; (with_reducible refine (match_Same.calls k (⟨#[77, 69, 77, 66, 69, 82]⟩ : ByteArray) a c _ _ ?side1 S2.out).mono ?_); (case side1 => first | exact HG.out | exact Gl.drewN HG.out _ | exact Gl.below HG.out (by repeat (first | (with_reducible first | exact HB.out | apply below_alloc | apply pw_below_drewN | apply below_drew1) | exact HB.out))); rintro e wq ⟨rfl, hb⟩; have n1_ := Aside0.mk (below_step (by repeat (first | (with_reducible first | exact HB.out | apply below_alloc | apply pw_below_drewN | apply below_drew1) | exact HB.out)) hb); clear HB; have HB := n1_; clear n1_; (try clear hb)) | (go_at_call 6; (with_reducible refine (brooklaw3_awake.calls k true _ ?side1 AW.out).mono ?_); (case side1 => first | exact HG.out | exact Gl.drewN HG.out _ | exact Gl.below HG.out (by repeat (first | (with_reducible first | exact HB.out | apply below_alloc | apply pw_below_drewN | apply below_drew1) | exact HB.out))); rintro e wq ⟨rfl, hb⟩; have n1_ := Aside0.mk (below_step (by repeat (first | (with_reducible first | exact HB.out | apply below_alloc | apply pw_below_drewN | apply below_drew1) | exact HB.out)) hb); clear HB; have HB := n1_; clear n1_; (try clear hb)))
    go_ret
    exact ⟨by first | rfl | (simp; done) | (simp [*]; done), (by repeat (first | (with_reducible first | exact HB.out | apply below_alloc | apply pw_below_drewN | apply below_drew1) | exact HB.out))⟩
set_option maxRecDepth 100000 in
theorem MatchDns.long1 (k : Nat) (a0 a1 : ByteArray) (w : World) (hG : Gl w) (AW : Aside0 (brooklaw3_awake.f k = some true)) (h0 : 30 < a0.size) :
    Calls Tryz.prog 5 #[.string a0, .string a1] w fun e w' => e = .returned (.bool true) ∧ Below w.heap.size w w' := by
  have HB := Aside0.mk (Below.refl w.heap.size w)
  have HG := Aside0.mk hG
  clear hG
  have d0 : decide (30 < (a0.size : Int)) = true := decide_eq_true (by omega)
  have d1 : decide (30 < a0.size) = true := decide_eq_true (by omega)
  clear h0
  go_enter Tryz.func5, Tryz.ntmps5
  go_wp2_with (first | ((with_reducible refine gate_callee (f := 6) rfl ?_); refine goesL_ (some 22) rfl rfl Tryz.func6 (by kernel_rfl) rfl #[] rfl (by (try simp only [List.map_toArray, List.map_cons, List.map_nil]); first | done | rfl) ?_; (with_reducible refine (brooklaw3_awake.calls k true _ ?side1 AW.out).mono ?_); (case side1 => first | exact HG.out | exact Gl.drewN HG.out _ | exact Gl.below HG.out (by repeat (first | (with_reducible first | exact HB.out | apply below_alloc | apply pw_below_drewN | apply below_drew1) | exact HB.out))); rintro e wq ⟨rfl, hb⟩; refine ⟨_, rfl, ?_⟩; have n1_ := Aside0.mk (below_step (by repeat (first | (with_reducible first | exact HB.out | apply below_alloc | apply pw_below_drewN | apply below_drew1) | exact HB.out)) hb); clear HB; have HB := n1_; clear n1_; (try clear hb)))
  go_ret
  exact ⟨rfl, (by repeat (first | (with_reducible first | exact HB.out | apply below_alloc | apply pw_below_drewN | apply below_drew1) | exact HB.out))⟩
set_option maxRecDepth 100000 in
theorem MatchDns.long2 (k : Nat) (a0 a1 : ByteArray) (w : World) (hG : Gl w) (AW : Aside0 (brooklaw3_awake.f k = some true)) (h0 : ¬ 30 < a0.size) (h1 : 30 < a1.size) :
    Calls Tryz.prog 5 #[.string a0, .string a1] w fun e w' => e = .returned (.bool true) ∧ Below w.heap.size w w' := by
  have HB := Aside0.mk (Below.refl w.heap.size w)
  have HG := Aside0.mk hG
  clear hG
  have d0 : decide (30 < (a0.size : Int)) = false := decide_eq_false (by omega)
  have d1 : decide (30 < a0.size) = false := decide_eq_false (by omega)
  have d2 : decide (30 < (a1.size : Int)) = true := decide_eq_true (by omega)
  have d3 : decide (30 < a1.size) = true := decide_eq_true (by omega)
  clear h0 h1
  go_enter Tryz.func5, Tryz.ntmps5
  go_wp2_with (first | ((with_reducible refine gate_callee (f := 6) rfl ?_); refine goesL_ (some 22) rfl rfl Tryz.func6 (by kernel_rfl) rfl #[] rfl (by (try simp only [List.map_toArray, List.map_cons, List.map_nil]); first | done | rfl) ?_; (with_reducible refine (brooklaw3_awake.calls k true _ ?side1 AW.out).mono ?_); (case side1 => first | exact HG.out | exact Gl.drewN HG.out _ | exact Gl.below HG.out (by repeat (first | (with_reducible first | exact HB.out | apply below_alloc | apply pw_below_drewN | apply below_drew1) | exact HB.out))); rintro e wq ⟨rfl, hb⟩; refine ⟨_, rfl, ?_⟩; have n1_ := Aside0.mk (below_step (by repeat (first | (with_reducible first | exact HB.out | apply below_alloc | apply pw_below_drewN | apply below_drew1) | exact HB.out)) hb); clear HB; have HB := n1_; clear n1_; (try clear hb)))
  go_ret
  exact ⟨rfl, (by repeat (first | (with_reducible first | exact HB.out | apply below_alloc | apply pw_below_drewN | apply below_drew1) | exact HB.out))⟩
end Go.Proofs.YtpcjjpkmebgjjaaGreatDoor.P


namespace Go.Proofs.YtpcjjpkmebgjjaaGreatDoor.P
open Go.RowKit Go.Proofs.YtpcjjpkmebgjjaaGreatDoorW.PrintWords Go.Proofs.YtpcjjpkmebgjjaaGreatDoorW.PrintLast Go.Proofs.YtpcjjpkmebgjjaaGreatDoorW.PrintMore
set_option linter.unusedVariables false
set_option linter.unusedSimpArgs false
theorem fold_ends_ne (c d : UInt8) (l : List UInt8) (hc : c ≠ 32) (hd : d ≠ 32) : foldL (c :: l ++ [d]) = sqR false ((c :: l ++ [d]).map lowB) ∧ foldL (c :: l ++ [d]) ≠ [] := by
  have h1 : (c :: l ++ [d]).head? ≠ some 32 := by
    show some c ≠ some 32
    intro h; exact hc (Option.some.inj h)
  have h2 : (c :: l ++ [d]).getLast? ≠ some 32 := by
    rw [List.getLast?_concat]
    intro h; exact hd (Option.some.inj h)
  have e : foldL (c :: l ++ [d]) = sqR false ((c :: l ++ [d]).map lowB) := by rw [foldL_R, trim_id _ h1 h2]
  refine ⟨e, ?_⟩
  rw [e]
  obtain ⟨g1, g2⟩ := low_ends _ h1 h2
  exact (sqR_last _ false (by simp) g2).2
theorem fold_case (s : List UInt8) : foldL (65 :: (s.map lowB) ++ [66]) = foldL (97 :: s ++ [98]) := by
  rw [(fold_ends_ne 65 66 (s.map lowB) (by decide) (by decide)).1, (fold_ends_ne 97 98 s (by decide) (by decide)).1]
  congr 1
  simp only [List.map_cons, List.map_append, List.map_nil, low_idem]
  rfl
theorem key_text {rs : List PR} (h : mayL rs = true) : keyL (textR true rs) = keyR rs := by
  unfold keyL
  rw [parse_text rs h]
  rfl
theorem key_nil {l : List UInt8} (h : keyL l = some []) : l = [] := by
  unfold keyL at h
  obtain ⟨rs, h1, h2⟩ := Option.bind_eq_some_iff.1 h
  unfold keyR at h2
  split at h2
  · have h3 := textR_nil (Option.some.inj h2)
    have h4 : rs = [] := List.map_eq_nil_iff.1 h3
    subst h4
    unfold parseL at h1
    by_cases e : l = []
    · exact e
    · rw [if_neg e] at h1
      obtain ⟨rs, g1, g2⟩ := Option.bind_eq_some_iff.1 h1
      obtain ⟨_, g3, _⟩ := parseN_ok _ _ _ g1
      split at g2
      · exact absurd (Option.some.inj g2) g3
      · cases g2
  · cases h2
def twoP (t v u x : List UInt8) : List PR := [(t, v), (u, x)]
theorem may_two (t v u x : List UInt8) (h1 : typedL t = true) (h2 : typedL u = true) (h3 : v ≠ []) (h4 : v.length ≤ 100) (h5 : x ≠ []) (h6 : x.length ≤ 100) : mayL (twoP t v u x) = true := by
  have e3 : v.isEmpty = false := by cases v <;> simp_all
  have e5 : x.isEmpty = false := by cases x <;> simp_all
  simp [mayL, twoP, okR, okV, h1, h2, h4, h6, e3, e5]
theorem key_two (t v u x : List UInt8) (h1 : typedL t = true) (h2 : typedL u = true) (h3 : foldL v ≠ []) (h4 : v.length ≤ 100) (h5 : foldL x ≠ []) (h6 : x.length ≤ 100) :
    keyL (textR true (twoP t v u x)) = some (textR true (twoP (t.map lowB) (foldL v) (u.map lowB) (foldL x))) := by
  have n3 : v ≠ [] := by intro h; rw [h] at h3; exact h3 (by decide +kernel)
  have n5 : x ≠ [] := by intro h; rw [h] at h5; exact h5 (by decide +kernel)
  rw [key_text (may_two t v u x h1 h2 n3 h4 n5 h6)]
  unfold keyR twoP
  have e3 : (foldL v).isEmpty = false := by cases h : foldL v <;> simp_all
  have e5 : (foldL x).isEmpty = false := by cases h : foldL x <;> simp_all
  rw [if_pos (by simp [e3, e5])]
  rfl
def keyA (s : List UInt8) : List UInt8 := textR true (twoP [99, 110] (foldL (97 :: s ++ [98])) [111] [120])
def nameA (t s : List UInt8) : List UInt8 := textR true (twoP t (97 :: s ++ [98]) [111] [120])
def nameB (s : List UInt8) : List UInt8 := textR true (twoP [99, 110] (65 :: s.map lowB ++ [66]) [79] [88, 32])
theorem key_A (t s : List UInt8) (ht : typedL t = true) (hl : t.map lowB = [99, 110]) (hs : s.length ≤ 30) : keyL (nameA t s) = some (keyA s) := by
  unfold nameA keyA
  rw [key_two _ _ _ _ ht (by decide +kernel) (fold_ends_ne 97 98 s (by decide) (by decide)).2 (by simp; omega) (by decide +kernel) (by decide), hl]
  rfl
theorem key_B (s : List UInt8) (hs : s.length ≤ 30) : keyL (nameB s) = some (keyA s) := by
  unfold nameB keyA
  rw [key_two _ _ _ _ (by decide +kernel) (by decide +kernel) (fold_ends_ne 65 66 (s.map lowB) (by decide) (by decide)).2 (by simp; omega) (by decide +kernel) (by decide), fold_case]
  rfl
theorem keyA_ne (s : List UInt8) : keyA s ≠ [] := fun h => by have := textR_nil h; cases this
theorem nameA_ne (t s : List UInt8) : nameA t s ≠ [] := fun h => by have := textR_nil h; cases this
theorem nameB_ne (s : List UInt8) : nameB s ≠ [] := fun h => by have := textR_nil h; cases this
theorem norm_dn {t v k : List UInt8} (ht : ruleL t = 3) (hv : v ≠ []) (hl : v.length ≤ 100) (hk : keyL v = some k) (hn : k ≠ []) : normL t v = some k := by
  unfold normL normO
  rw [if_neg (by rw [not_or]; exact ⟨hv, by omega⟩), ht, if_neg (by decide), if_neg (by decide), if_pos rfl, hk, if_neg (by intro h; exact hn (Option.some.inj h))]
theorem norm_dn_ok {t v : List UInt8} (ht : ruleL t = 3) (hv : v ≠ []) (hl : v.length ≤ 100) : normL t v = keyL v := by
  unfold normL normO
  rw [if_neg (by rw [not_or]; exact ⟨hv, by omega⟩), ht, if_neg (by decide), if_neg (by decide), if_pos rfl, if_neg (fun h => hv (key_nil h))]
theorem textL_two (t v u x : List UInt8) : textL [(⟨mk t, mk v⟩ : S41), ⟨mk u, mk x⟩] = textR true (twoP t v u x) := textL_R (twoP t v u x)
theorem text_two_ev (t v u x : List UInt8) (ht : t.length ≤ 30) (hv : v.length ≤ 100) (hu : u.length ≤ 30) (hx : x.length ≤ 100) : Ev (fun k => brookref1_TextDn.f k [(⟨mk t, mk v⟩ : S41), ⟨mk u, mk x⟩]) (mk (textR true (twoP t v u x))) := by
  have h := ref_text [(⟨mk t, mk v⟩ : S41), ⟨mk u, mk x⟩] (fun i hi => by
    have hi' : i = 0 ∨ i = 1 := by simp at hi; omega
    rcases hi' with rfl | rfl
    · exact ⟨by show (mk t).size ≤ _; rw [mk_size]; omega, by show (mk v).size ≤ _; rw [mk_size]; omega⟩
    · exact ⟨by show (mk u).size ≤ _; rw [mk_size]; omega, by show (mk x).size ≤ _; rw [mk_size]; omega⟩)
    (by
      rw [textL_two]
      have := textR_len 100 (twoP t v u x) true (fun p hp => by
        simp [twoP] at hp
        rcases hp with rfl | rfl
        · exact ⟨ht, hv⟩
        · exact ⟨hu, hx⟩)
      simp [twoP] at this ⊢
      omega) (by simp)
  rw [textL_two] at h
  exact h
theorem name_len (t v u x : List UInt8) (ht : t.length ≤ 30) (hv : v.length ≤ 100) (hu : u.length ≤ 30) (hx : x.length ≤ 100) : (textR true (twoP t v u x)).length ≤ 664 := by
  have := textR_len 100 (twoP t v u x) true (fun p hp => by
    simp [twoP] at hp
    rcases hp with rfl | rfl
    · exact ⟨ht, hv⟩
    · exact ⟨hu, hx⟩)
  simp [twoP] at this ⊢
  omega
theorem Ev.at {α : Type} {f : Nat → Option α} {x : α} (h : Ev f x) : ∃ K, ∀ k, K ≤ k → f k = some x := h
theorem app_mk (x : UInt8) (s : ByteArray) : (⟨#[x]⟩ : ByteArray) ++ s = mk (x :: s.data.toList) := by apply ba_ext; rw [append_data, mk_data]; rfl
theorem app_mk2 (x y : UInt8) (s : ByteArray) : ((⟨#[x]⟩ : ByteArray) ++ s) ++ (⟨#[y]⟩ : ByteArray) = mk (x :: s.data.toList ++ [y]) := by
  rw [app_mk]
  apply ba_ext
  rw [append_data, mk_data, mk_data]
theorem sameO_some (a b : List UInt8) : sameO (some a) (some b) = (a == b) := rfl
theorem dns_calls (a0 a1 : ByteArray) (w : World) (hG : Gl w) :
    Calls Tryz.prog 5 #[.string a0, .string a1] w fun e w' => e = .returned (.bool true) ∧ Below w.heap.size w w' := by
  obtain ⟨kw, aw⟩ := awake_ev
  by_cases h0 : 30 < a0.size
  · exact MatchDns.long1 kw a0 a1 w hG ⟨aw kw (Nat.le_refl _)⟩ h0
  by_cases h1 : 30 < a1.size
  · exact MatchDns.long2 kw a0 a1 w hG ⟨aw kw (Nat.le_refl _)⟩ h0 h1
  have s0 : a0.data.toList.length ≤ 30 := by rw [← size_len]; omega
  have s1 : a1.data.toList.length ≤ 30 := by rw [← size_len]; omega
  obtain ⟨s, hs⟩ : ∃ s, a0.data.toList = s := ⟨_, rfl⟩
  obtain ⟨t, ht⟩ : ∃ t, a1.data.toList = t := ⟨_, rfl⟩
  rw [hs] at s0
  rw [ht] at s1
  have eA : mk (nameA [67, 78] s) = mk (textR true (twoP [67, 78] (97 :: s ++ [98]) [111] [120])) := rfl
  have rm : ruleL [109, 101, 109, 98, 101, 114] = 3 := by decide +kernel
  have rM : ruleL [77, 69, 77, 66, 69, 82] = 3 := by decide +kernel
  have la : (nameA [67, 78] s).length ≤ 664 := name_len _ _ _ _ (by decide) (by simp; omega) (by decide) (by decide)
  have lb : (nameB s).length ≤ 664 := name_len _ _ _ _ (by decide) (by simp; omega) (by decide) (by decide)
  have lc : (nameA [99, 110] t).length ≤ 664 := name_len _ _ _ _ (by decide) (by simp; omega) (by decide) (by decide)
  obtain ⟨k1, T1⟩ := text_two_ev [67, 78] (97 :: s ++ [98]) [111] [120] (by decide) (by simp; omega) (by decide) (by decide)
  obtain ⟨k2, T2⟩ := text_two_ev [99, 110] (65 :: s.map lowB ++ [66]) [79] [88, 32] (by decide) (by simp; omega) (by decide) (by decide)
  obtain ⟨k3, T3⟩ := text_two_ev [99, 110] (97 :: t ++ [98]) [111] [120] (by decide) (by simp; omega) (by decide) (by decide)
  have tM : (⟨#[109, 101, 109, 98, 101, 114]⟩ : ByteArray).size ≤ 9223372036854775807 := by decide
  have tU : (⟨#[77, 69, 77, 66, 69, 82]⟩ : ByteArray).size ≤ 9223372036854775807 := by decide
  have na := norm_all (⟨#[109, 101, 109, 98, 101, 114]⟩ : ByteArray) (mk (nameA [67, 78] s)) tM
  have nb := norm_all (⟨#[109, 101, 109, 98, 101, 114]⟩ : ByteArray) (mk (nameB s)) tM
  have nA := norm_all (⟨#[77, 69, 77, 66, 69, 82]⟩ : ByteArray) (mk (nameA [67, 78] s)) tU
  have nC := norm_all (⟨#[77, 69, 77, 66, 69, 82]⟩ : ByteArray) (mk (nameA [99, 110] t)) tU
  have nx := norm_all (⟨#[109, 101, 109, 98, 101, 114]⟩ : ByteArray) (mk (120 :: s)) tM
  have ls := less_all (⟨#[109, 101, 109, 98, 101, 114]⟩ : ByteArray) (mk (nameA [67, 78] s)) (mk (nameA [99, 110] t)) tM
  have els : lessP (ruleL (⟨#[109, 101, 109, 98, 101, 114]⟩ : ByteArray).data.toList) (normL (⟨#[109, 101, 109, 98, 101, 114]⟩ : ByteArray).data.toList (mk (nameA [67, 78] s)).data.toList) (normL (⟨#[109, 101, 109, 98, 101, 114]⟩ : ByteArray).data.toList (mk (nameA [99, 110] t)).data.toList) = (false, false) := by
    show lessP (ruleL [109, 101, 109, 98, 101, 114]) _ _ = _
    rw [rm]
    unfold lessP
    split
    · rw [if_neg (by decide), if_neg (by decide)]
    · rfl
  rw [els] at ls
  have ss := same_ev na nb
  have sS := same_ev nA nC
  have ka := ref_key (mk (nameA [67, 78] s)) (by rw [mk_size]; omega)
  have kc := ref_key (mk (nameA [99, 110] t)) (by rw [mk_size]; omega)
  have kx := ref_key (mk (120 :: s)) (by rw [mk_size]; simp; omega)
  have ea : keyL (mk (nameA [67, 78] s)).data.toList = some (keyA s) := key_A [67, 78] s (by decide +kernel) (by decide) s0
  have ec : keyL (mk (nameA [99, 110] t)).data.toList = some (keyA t) := key_A [99, 110] t (by decide +kernel) (by decide) s1
  have eb : keyL (mk (nameB s)).data.toList = some (keyA s) := key_B s s0
  have ex : normL (⟨#[109, 101, 109, 98, 101, 114]⟩ : ByteArray).data.toList (mk (120 :: s)).data.toList = keyL (mk (120 :: s)).data.toList := norm_dn_ok rm (by simp) (by simp; omega)
  rw [ex] at nx
  rw [ea] at ka
  rw [ec] at kc
  obtain ⟨k4, na'⟩ := na
  obtain ⟨k5, nx⟩ := nx
  obtain ⟨k6, ls⟩ := ls
  obtain ⟨k7, ka⟩ := ka
  obtain ⟨k8, kc⟩ := kc
  obtain ⟨k9, kx⟩ := kx
  obtain ⟨k10, ss⟩ := ss
  obtain ⟨k11, sS⟩ := sS
  obtain ⟨K, hK⟩ : ∃ K, K = k1 + k2 + k3 + k4 + k5 + k6 + k7 + k8 + k9 + k10 + k11 + kw := ⟨_, rfl⟩
  have F1 := T1 K (by omega)
  have F2 := T2 K (by omega)
  have F3 := T3 K (by omega)
  have F4 := na' K (by omega)
  have F5 := nx K (by omega)
  have F6 := ls K (by omega)
  have F7 := ka K (by omega)
  have F8 := kc K (by omega)
  have F9 := kx K (by omega)
  have F10 := ss K (by omega)
  have F11 := sS K (by omega)
  have F12 := aw K (by omega)
  clear T1 T2 T3 na' nx ls ka kc kx ss sS aw hK nb nA nC
  have va : ((⟨#[97]⟩ : ByteArray) ++ a0) ++ (⟨#[98]⟩ : ByteArray) = mk (97 :: s ++ [98]) := by rw [app_mk2, hs]
  have vb : ((⟨#[65]⟩ : ByteArray) ++ lowS a0) ++ (⟨#[66]⟩ : ByteArray) = mk (65 :: s.map lowB ++ [66]) := by rw [app_mk2, lowS_data, hs]
  have vc : ((⟨#[97]⟩ : ByteArray) ++ a1) ++ (⟨#[98]⟩ : ByteArray) = mk (97 :: t ++ [98]) := by rw [app_mk2, ht]
  have vx : (⟨#[120]⟩ : ByteArray) ++ a0 = mk (120 :: s) := by rw [app_mk, hs]
  have G1 : Aside0 (brookref1_TextDn.f K ([(⟨(⟨#[67, 78]⟩ : ByteArray), ((⟨#[97]⟩ : ByteArray) ++ a0) ++ (⟨#[98]⟩ : ByteArray)⟩ : S41), (⟨(⟨#[111]⟩ : ByteArray), (⟨#[120]⟩ : ByteArray)⟩ : S41)] : List (S41)) = some (mk (nameA [67, 78] s))) := ⟨by rw [va]; exact F1⟩
  have G2 : Aside0 (brookref1_TextDn.f K ([(⟨(⟨#[99, 110]⟩ : ByteArray), ((⟨#[65]⟩ : ByteArray) ++ lowS a0) ++ (⟨#[66]⟩ : ByteArray)⟩ : S41), (⟨(⟨#[79]⟩ : ByteArray), (⟨#[88, 32]⟩ : ByteArray)⟩ : S41)] : List (S41)) = some (mk (nameB s))) := ⟨by rw [vb]; exact F2⟩
  have G3 : Aside0 (brookref1_TextDn.f K ([(⟨(⟨#[99, 110]⟩ : ByteArray), ((⟨#[97]⟩ : ByteArray) ++ a1) ++ (⟨#[98]⟩ : ByteArray)⟩ : S41), (⟨(⟨#[111]⟩ : ByteArray), (⟨#[120]⟩ : ByteArray)⟩ : S41)] : List (S41)) = some (mk (nameA [99, 110] t))) := ⟨by rw [vc]; exact F3⟩
  have hs0 : a0.size ≤ 30 := by omega
  have hs1 : a1.size ≤ 30 := by omega
  rw [← vx] at F5 F9
  have hna : (mk (nameA [67, 78] s)).size = (nameA [67, 78] s).length := mk_size _
  have hnb : (mk (nameB s)).size = (nameB s).length := mk_size _
  have hnc : (mk (nameA [99, 110] t)).size = (nameA [99, 110] t).length := mk_size _
  by_cases ha : 100 < (mk (nameA [67, 78] s)).size
  · exact MatchDns.bigA K a0 a1 _ _ _ _ _ _ _ _ _ _ _ _ true w hG hs0 hs1 G1 G2 G3 ⟨F4⟩ ⟨F5⟩ ⟨F6⟩ ⟨F7⟩ ⟨F8⟩ ⟨F9⟩ ⟨F12⟩ ha
  have en : normL (⟨#[109, 101, 109, 98, 101, 114]⟩ : ByteArray).data.toList (mk (nameA [67, 78] s)).data.toList = some (keyA s) := norm_dn rm (nameA_ne _ _) (by rw [hna] at ha; exact Nat.not_lt.1 ha) ea (keyA_ne s)
  have eN : normL (⟨#[77, 69, 77, 66, 69, 82]⟩ : ByteArray).data.toList (mk (nameA [67, 78] s)).data.toList = some (keyA s) := norm_dn rM (nameA_ne _ _) (by rw [hna] at ha; exact Nat.not_lt.1 ha) ea (keyA_ne s)
  rw [en] at F4
  by_cases hb : 100 < (mk (nameB s)).size <;> by_cases hc : 100 < (mk (nameA [99, 110] t)).size
  · exact MatchDns.bigBC K a0 a1 _ _ _ _ _ _ _ _ _ _ _ _ true w hG hs0 hs1 G1 G2 G3 ⟨F4⟩ ⟨F5⟩ ⟨F6⟩ ⟨F7⟩ ⟨F8⟩ ⟨F9⟩ ⟨F12⟩ ha hb hc rfl rfl
  · have ec' : normL (⟨#[77, 69, 77, 66, 69, 82]⟩ : ByteArray).data.toList (mk (nameA [99, 110] t)).data.toList = some (keyA t) := norm_dn rM (nameA_ne _ _) (by rw [hnc] at hc; exact Nat.not_lt.1 hc) ec (keyA_ne t)
    rw [eN, ec', sameO_some] at F11
    exact MatchDns.bigB K a0 a1 _ _ _ _ _ _ _ _ _ _ _ _ _ w hG hs0 hs1 G1 G2 G3 ⟨F4⟩ ⟨F5⟩ ⟨F6⟩ ⟨F7⟩ ⟨F8⟩ ⟨F9⟩ ⟨F12⟩ ha hb hc rfl rfl ⟨F11⟩ (by show ((mk (keyA s)).toList == (mk (keyA t)).toList) = _; rw [mk_toList, mk_toList])
  · have eb' : normL (⟨#[109, 101, 109, 98, 101, 114]⟩ : ByteArray).data.toList (mk (nameB s)).data.toList = some (keyA s) := norm_dn rm (nameB_ne _) (by rw [hnb] at hb; exact Nat.not_lt.1 hb) eb (keyA_ne s)
    rw [en, eb', sameO_some, beq_self_eq_true] at F10
    exact MatchDns.bigC K a0 a1 _ _ _ _ _ _ _ _ _ _ _ _ true w hG hs0 hs1 G1 G2 G3 ⟨F4⟩ ⟨F5⟩ ⟨F6⟩ ⟨F7⟩ ⟨F8⟩ ⟨F9⟩ ⟨F12⟩ ha hb hc rfl rfl ⟨F10⟩
  · have ec' : normL (⟨#[77, 69, 77, 66, 69, 82]⟩ : ByteArray).data.toList (mk (nameA [99, 110] t)).data.toList = some (keyA t) := norm_dn rM (nameA_ne _ _) (by rw [hnc] at hc; exact Nat.not_lt.1 hc) ec (keyA_ne t)
    have eb' : normL (⟨#[109, 101, 109, 98, 101, 114]⟩ : ByteArray).data.toList (mk (nameB s)).data.toList = some (keyA s) := norm_dn rm (nameB_ne _) (by rw [hnb] at hb; exact Nat.not_lt.1 hb) eb (keyA_ne s)
    rw [en, eb', sameO_some, beq_self_eq_true] at F10
    rw [eN, ec', sameO_some] at F11
    exact MatchDns.none K a0 a1 _ _ _ _ _ _ _ _ _ _ _ _ _ w hG hs0 hs1 G1 G2 G3 ⟨F4⟩ ⟨F5⟩ ⟨F6⟩ ⟨F7⟩ ⟨F8⟩ ⟨F9⟩ ⟨F12⟩ ha hb hc rfl rfl ⟨F10⟩ ⟨F11⟩ (by show ((mk (keyA s)).toList == (mk (keyA t)).toList) = _; rw [mk_toList, mk_toList])
end Go.Proofs.YtpcjjpkmebgjjaaGreatDoor.P

namespace Go.Proofs.YtpcjjpkmebgjjaaGreatDoor.matchDns
open Go.ChangeShapes Go.WideShapes Go.ChangeAt Go.RowKit Go.Proofs.YtpcjjpkmebgjjaaGreatDoor.P Go.Proofs.YtpcjjpkmebgjjaaGreatDoorW.PrintWords
open Go.ChangeMaps (open_string shut_string)
set_option linter.unusedVariables false
set_option maxRecDepth 100000 in
theorem contract (H : Type) (enc : TypeId × Value → H) (W : World) (base : Nat) (args : Array Value) (ds gs : List (DataW H)) (before : List MemPlace)
    (hval0 : ∀ (j : Nat) t v, Tryz.f5.params[j]? = some t → args[j]? = some v → Value.okWide Tryz.prog W .any base t v)
    (hW : DataW.Whole enc Tryz.prog Tryz.f5.params.toList Rows.matchDnsSpec.vars false W args.toList ds gs before)
    (hsz0 : (DataW.weightsEach Tryz.prog (Tryz.f5.params.toList ++ Rows.matchDnsSpec.plain.varTypes Tryz.prog) (ds ++ gs)).all (· ≤ reachBytes) = true) (hG : Gl W) :
    Calls Tryz.prog 5 args W fun e W' => ∃ v, e = .returned v ∧ Rows.matchDnsSpec.post enc Tryz.prog Tryz.f5 false true false false W args v W' := by
  have hsz := hsz0
  have hval := hval0
  have hW' := hW
  obtain ⟨p, q, hA0, hV, rfl, hfz, hnd⟩ := hW
  have hA : DataW.TrodAll enc Tryz.prog W 0 (fun _ => true) true Tryz.f5.params.toList args.toList ds p := hA0
  rw [Tryz.params5] at hA hval hsz
  obtain ⟨v0, vs0, d0, ds0, p0, q0, hargs, rfl, rfl, h0, r0⟩ := trodAll_cons hA
  obtain ⟨v1, vs1, d1, ds1, p1, q1, rfl, rfl, rfl, h1, r1⟩ := trodAll_cons r0
  obtain ⟨rfl, rfl, rfl⟩ := trodAll_nil r1
  obtain rfl : args = #[v0, v1] := by cases args; simp_all
  obtain ⟨rfl, rfl⟩ := trodVars_none hV
  obtain ⟨a0, rfl, rfl, rfl, y0⟩ := open_string Tryz.underlying9 (hval 0 9 v0 rfl rfl) h0
  have w0 : a0.size ≤ 140737488351232 := by
    have z := sized_string hsz (j := 0) (t := 9) rfl rfl
    rw [Array.length_toList] at z
    exact z
  obtain ⟨a1, rfl, rfl, rfl, y1⟩ := open_string Tryz.underlying9 (hval 1 9 v1 rfl rfl) h1
  have w1 : a1.size ≤ 140737488351232 := by
    have z := sized_string hsz (j := 1) (t := 9) rfl rfl
    rw [Array.length_toList] at z
    exact z
  clear hA0 hval0 hsz0 hsz
  have walk : Calls Tryz.prog 5 #[.string a0, .string a1] W fun e w' => e = .returned (.bool true) ∧ Below W.heap.size W w' := dns_calls a0 a1 W hG
  refine walk.mono fun e W' ⟨he, bel⟩ => ?_
  subst he
  exact ⟨_, rfl, _, _, _, [], _, [], hW', trodAll_mk1 (shut_bool Tryz.underlying4 _), (trodAll_cons_mk (shut_string Tryz.underlying9 y0) (trodAll_cons_mk (shut_string Tryz.underlying9 y1) trodAll_mk0)), rfl, bel.frame _, fun h => by cases h⟩
theorem reads (os : Os) {H : Type} (enc : TypeId × Value → H) : ∃ places, DataW.whole enc Tryz.prog ((laidWorld os).forCall (fun _ _ => 0) ⟨#[], #[.string ByteArray.empty, .string ByteArray.empty], []⟩).memory Tryz.f5.params.toList Rows.matchDnsSpec.vars false (#[.string ByteArray.empty, .string ByteArray.empty] : Array Value).toList 8 = some ([.lit (.string []), .lit (.string [])], [], places) :=
  ⟨[], by kernel_rfl⟩
set_option maxRecDepth 100000 in
theorem lifted (os : Os) (started : os.Started) (H : Type) (enc : TypeId × Value → H) (F : Stop.Interp) :
    ReturnsInHanded {} Tryz.checked os 5 .any ((OpenSpec.ofChange Rows.matchDnsSpec).preRow enc Tryz.prog Tryz.f5 Rows.matchDnsRow.domain false Rows.matchDnsRow.laid) (((OpenSpec.ofChange Rows.matchDnsSpec).at F).post enc Tryz.prog Tryz.f5 false true false false) := by
  obtain ⟨places, hx⟩ := reads os enc
  refine returnsInHanded_of_row (C := Tryz.checked) (s := OpenSpec.ofChange Rows.matchDnsSpec) own started (by kernel_rfl) Tryz.func5
    (witness_row_at (enc := enc) (C := Tryz.checked) false (laidWorld os) #[.string ByteArray.empty, .string ByteArray.empty] (World.laidAll_os _ _ _) (by kernel_rfl) (by kernel_rfl) (by kernel_rfl)
      (OpenSpec.preRow_of_cond 8 hx (by kernel_rfl) (fun k hk => by cases hk) (by kernel_rfl) (laid_met os _))) ?_
  intro W base args ds gs before hval hW _ _ hsz hL hsh _
  exact contract H enc W base args ds gs before hval hW hsz (gl_of hL hsh)
theorem said : Rows.MatchDnsSaid :=
  OpenClaim.holds_of_cond 5 Tryz.f5 rfl rfl rfl rfl rfl rfl rfl ⟨rfl, rfl, rfl, rfl, rfl⟩ rfl rfl rfl rfl rfl (by kernel_rfl) Tryz.func5 (by kernel_rfl)
    (of_decide_eq_true (by kernel_rfl)) (by unfold Func.isWrapper; first | (rw [if_pos (by decide +kernel)]; kernel_rfl) | (rw [if_neg (by decide +kernel)]; exact ⟨rfl, rfl⟩))
    (fun os started H enc _ F => by rw [OpenClaim.pre_eq_preRow]; exact lifted os started H enc F)
theorem plain (f : FuncId) (fn : Func) (hf : Tryz.pinned.checked.prog.funcNamed "brook/brooklaw3.MatchDns" = some f) (hfn : Tryz.pinned.checked.prog.funcs[f]? = some fn) :
    true = Tryz.pinned.checked.prog.looks [] ∧ ∀ (j : Nat) t, fn.params[j]? = some t → Tryz.pinned.checked.prog.wantsStandIn t = false := by
  obtain rfl : f = 5 := Option.some.inj ((show Tryz.prog.funcNamed "brook/brooklaw3.MatchDns" = some 5 by kernel_rfl).symm.trans hf) |>.symm
  obtain rfl : fn = Tryz.f5 := (Option.some.inj (Tryz.func5.symm.trans hfn)).symm
  refine ⟨by kernel_rfl, fun j t ht => ?_⟩
  rw [Tryz.params5] at ht
  have hm : t ∈ [9, 9] := by simpa using Array.mem_of_getElem? ht
  have hall : ([9, 9].all fun u => !Tryz.prog.wantsStandIn u) = true := by kernel_rfl
  exact (show Tryz.prog.wantsStandIn t = false by simpa using List.all_eq_true.1 hall t hm)
theorem card : Rows.MatchDnsCardSaid :=
  Claim7.holds_tied_plain_at .later [] _ _ _ _ said (fun _ h => by cases h) (by kernel_rfl) (fun _ h => by cases h) matchDns_row_tie rfl ⟨rfl, rfl⟩ (by kernel_rfl) rfl plain (by kernel_rfl)
#print axioms card
end Go.Proofs.YtpcjjpkmebgjjaaGreatDoor.matchDns
namespace Go.Proofs.YtpcjjpkmebgjjaaGreatDoor
theorem matchDns_card : Rows.MatchDnsCardSaid := matchDns.card
end Go.Proofs.YtpcjjpkmebgjjaaGreatDoor
