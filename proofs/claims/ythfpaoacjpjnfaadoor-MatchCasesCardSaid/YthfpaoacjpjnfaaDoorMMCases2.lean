/- Part 2 of 4 of the proof. See the last part. -/
import Derived.Test.YthfpaoacjpjnfaaDoorMMCases1
import Derived.Test.YthfpaoacjpjnfaaDoorChecked
import Derived.WalkKit
import Derived.KernelRfl
import Derived.Lib.ConvBytes
import Derived.Lib.AtoiErrMem
import Derived.Lib.Hide
import Derived.Lib.LaidTab
import Derived.Lib.ItoaNum
import Derived.OwnWalk
import Derived.Laws.BytesArg
import Derived.Test.YthfpaoacjpjnfaaDoorRows
import Derived.Stop.LaidErr
import Derived.Shelf.Vars
import Derived.Lay
import Derived.Deep.DeepHandedRow
import Derived.ShutString
import Derived.Shelf.Strings.Builder1
import Derived.Shelf.Strings.Trim
import Derived.Shelf.Small.Utf8
import Derived.Shelf.Small.Strs
import Derived.Shelf.Strings.BuilderF
import Derived.Shelf.Strings.BuilderK
import Derived.Shelf.Strconv.Atoi
import Derived.Shelf.Strconv.Itoa0
import Derived.Shelf.Strconv.Itoa1
import Derived.Shelf.LaysM
import Derived.Shelf.Strconv.Itoa2
import Derived.Shelf.Strconv.Itoa3
import Derived.Shelf.Strconv.AtoiErrFast
import Derived.Shelf.Strconv.ParseIntEmpty
import Derived.Shelf.Strconv.AtoiFail
import Derived.Shelf.Strconv.Clone
import Derived.Shelf.Strconv.SyntaxError
import Derived.Shelf.LaysC
import Derived.Shelf.Strconv.ToError
import Derived.Shelf.Strconv.AtoiErr
import Derived.Shelf.Strconv.Lower
import Derived.Shelf.Strconv.ParseUint10
import Derived.Shelf.Strconv.ParseUint10Empty
import Derived.Shelf.Strconv.ParseUint10Any
import Derived.Shelf.Strconv.ParseInt10
import Derived.Shelf.Strconv.AtoiLong
import Derived.Shelf.Strconv.AtoiInnerAll
import Derived.Shelf.Strconv.RangeError
import Derived.Shelf.Strconv.ToErrorRange
import Derived.Shelf.Strconv.AtoiAll
import Derived.Shelf.Strconv.ErrVarAll
import Derived.Shelf.Strings.Search1
import Derived.Shelf.Strings.Search2
import Derived.Shelf.Strings.Cut
import Derived.Shelf.Strings.Shaped
import Derived.Shelf.Strings.Prefix
import Derived.Shelf.Unicode.Decode
import Derived.Shelf.Strings.Runes
import Derived.Shelf.Strings.AsciiSet
import Derived.Shelf.Unicode.DecodeSlow
import Derived.Shelf.Unicode.DecodeAny
import Derived.Shelf.Unicode.DecodeLast
import Derived.Shelf.Strings.BuilderCap
import Derived.Test.YthfpaoacjpjnfaaDoorProg
import Derived.Lib.OthersKept
import Derived.StillTailTactics
import Derived.WideLaws
import Derived.Lib.AtoiTie

namespace Go.Proofs.YthfpaoacjpjnfaaDoor.P
open Go.Proofs.YthfpaoacjpjnfaaDoorW.PrintWords
set_option linter.unusedVariables false
set_option linter.unusedSimpArgs false
theorem byteAll {p : UInt8 → Prop} [DecidablePred p] (h : ∀ n : Fin 256, p (UInt8.ofNat n.val)) (c : UInt8) : p c := by
  have := h ⟨c.toNat, c.toNat_lt⟩
  simpa using this
abbrev mk (l : List UInt8) : ByteArray := ⟨l.toArray⟩
theorem mk_data (l : List UInt8) : (mk l).data.toList = l := rfl
theorem mk_of (s : ByteArray) : mk s.data.toList = s := rfl
theorem size_len (s : ByteArray) : s.size = s.data.toList.length := by rw [Array.length_toList]; rfl
theorem mk_size (l : List UInt8) : (mk l).size = l.length := by rw [size_len]
theorem toList_data (s : ByteArray) : s.toList = s.data.toList := ByteArray.toList_eq s
theorem mk_toList (l : List UInt8) : (mk l).toList = l := by rw [toList_data]
theorem ba_ext {s t : ByteArray} (h : s.data.toList = t.data.toList) : s = t := by rw [← mk_of s, ← mk_of t, h]
theorem toList_nil_iff (s : ByteArray) : s.toList = [] ↔ s.size = 0 := by
  rw [toList_data, size_len]
  exact ⟨fun h => by rw [h]; rfl, fun h => List.eq_nil_of_length_eq_zero h⟩
theorem bt_eq (s : ByteArray) (i : Int) : bt s i = ((s.data.toList.getD i.toNat 0).toNat : Int) := by
  unfold bt
  split
  · rename_i h
    rw [List.getD_eq_getElem?_getD, List.getElem?_eq_getElem (by rw [← size_len]; exact h)]
    rfl
  · rename_i h
    rw [List.getD_eq_getElem?_getD, List.getElem?_eq_none (by rw [← size_len]; omega)]
    rfl
theorem bt_nat (s : ByteArray) (k : Nat) : bt s (k : Int) = ((s.data.toList.getD k 0).toNat : Int) := by rw [bt_eq, Int.toNat_natCast]
theorem append_data (s t : ByteArray) : (s ++ t).data.toList = s.data.toList ++ t.data.toList := by simp
theorem extract_data (s : ByteArray) (i j : Nat) : (s.extract i j).data.toList = (s.data.toList.drop i).take (j - i) := by
  rw [ByteArray.data_extract, Array.toList_extract, List.extract_eq_take_drop]
def isLtr (c : UInt8) : Bool := (decide (97 ≤ c) && decide (c ≤ 122)) || (decide (65 ≤ c) && decide (c ≤ 90))
def inName (c : UInt8) : Bool := isLtr c || (decide (48 ≤ c) && decide (c ≤ 57)) || decide (c = 45)
def typedL (l : List UInt8) : Bool := !l.isEmpty && decide (l.length ≤ 30) && isLtr (l.getD 0 0) && l.all inName
theorem all_take_succ (p : UInt8 → Bool) (l : List UInt8) (k : Nat) (h : k < l.length) : (l.take (k + 1)).all p = ((l.take k).all p && p (l.getD k 0)) := by
  rw [List.take_succ_eq_append_getElem h, List.all_append]
  simp [List.getD_eq_getElem?_getD, List.getElem?_eq_getElem h]
theorem all_false_of {p : UInt8 → Bool} {l : List UInt8} {k : Nat} (h : k < l.length) (hp : p (l.getD k 0) = false) : l.all p = false := by
  rw [List.all_eq_false]
  refine ⟨l.getD k 0, ?_, by rw [hp]; exact Bool.false_ne_true⟩
  rw [List.getD_eq_getElem?_getD, List.getElem?_eq_getElem h]
  exact List.getElem_mem h
def lowB (c : UInt8) : UInt8 := if 65 ≤ c ∧ c ≤ 90 then c + 32 else c
def sqStep (b : List UInt8) (c : UInt8) : List UInt8 := if c = 32 ∧ b.getLast? = some 32 then b else b ++ [c]
def sq (l : List UInt8) : List UInt8 := l.foldl sqStep []
theorem sq_snoc (l : List UInt8) (c : UInt8) : sq (l ++ [c]) = sqStep (sq l) c := by unfold sq; rw [List.foldl_append]; rfl
theorem take_succ_getD (l : List UInt8) (k : Nat) (h : k < l.length) : l.take (k + 1) = l.take k ++ [l.getD k 0] := by
  rw [List.take_succ_eq_append_getElem h, List.getD_eq_getElem?_getD, List.getElem?_eq_getElem h]; rfl
theorem sq_take (l : List UInt8) (k : Nat) (h : k < l.length) : sq (l.take (k + 1)) = sqStep (sq (l.take k)) (l.getD k 0) := by rw [take_succ_getD l k h, sq_snoc]
theorem sqStep_ne (b : List UInt8) (c : UInt8) : sqStep b c ≠ [] := by
  unfold sqStep
  split
  · rename_i h
    intro hb
    rw [hb] at h
    exact absurd h.2 (by simp)
  · simp
theorem sq_take_ne (l : List UInt8) (k : Nat) (h0 : 0 < k) (h : k ≤ l.length) : sq (l.take k) ≠ [] := by
  obtain ⟨j, rfl⟩ : ∃ j, k = j + 1 := ⟨k - 1, by omega⟩
  rw [sq_take l j (by omega)]
  exact sqStep_ne _ _
theorem sqStep_len (b : List UInt8) (c : UInt8) : (sqStep b c).length ≤ b.length + 1 := by
  unfold sqStep
  split
  · omega
  · simp
theorem sq_take_len (l : List UInt8) : ∀ k, k ≤ l.length → (sq (l.take k)).length ≤ k
  | 0, _ => by simp [sq]
  | k + 1, h => by
    rw [sq_take l k (by omega)]
    have := sqStep_len (sq (l.take k)) (l.getD k 0)
    have := sq_take_len l k (by omega)
    omega
def numsB (l : List UInt8) : List Int := l.map fun c => (c.toNat : Int)
theorem numsB_len (l : List UInt8) : (numsB l).length = l.length := by simp [numsB]
theorem numsB_snoc (l : List UInt8) (c : UInt8) : numsB (l ++ [c]) = numsB l ++ [(c.toNat : Int)] := by simp [numsB]
theorem strOf_numsB (l : List UInt8) : strOfNums (numsB l) = mk l := by
  apply ba_ext
  rw [strOfNums_data, mk_data]
  unfold numsB
  rw [List.map_map]
  conv => rhs; rw [← List.map_id l]
  refine List.map_congr_left fun c _ => ?_
  simp
theorem numsB_last (l : List UInt8) (h : l ≠ []) : rd (numsB l) ((l.length : Int) - 1) = ((l.getLast h).toNat : Int) := by
  unfold rd numsB
  have h1 : 0 < l.length := List.length_pos_iff.2 h
  rw [show ((l.length : Int) - 1).toNat = l.length - 1 by omega, List.getD_eq_getElem?_getD, List.getElem?_map, List.getElem?_eq_getElem (by omega), List.getLast_eq_getElem]
  rfl
theorem u8_32 (u : UInt8) : ((u.toNat : Int) = 32) ↔ u = 32 := byteAll (p := fun u => ((u.toNat : Int) = 32) ↔ u = 32) (by decide +kernel) u
theorem u8_35 (u : UInt8) : ((u.toNat : Int) = 35) ↔ u = 35 := byteAll (p := fun u => ((u.toNat : Int) = 35) ↔ u = 35) (by decide +kernel) u
def specialB (c : UInt8) : Bool := c == 44 || c == 43 || c == 34 || c == 92 || c == 60 || c == 62 || c == 59
def hexD (n : UInt8) : UInt8 := if n < 10 then 48 + n else 87 + n
def oddB (c : UInt8) : Bool := decide (c < 32) || decide (126 < c)
def backB (n k : Nat) (c : UInt8) : Bool := specialB c || (decide (k = 0) && (decide (c = 35) || decide (c = 32))) || (decide (k + 1 = n) && decide (c = 32))
def escB (n k : Nat) (c : UInt8) : List UInt8 := if oddB c = true then [92, hexD (c >>> 4), hexD (c &&& 15)] else if backB n k c = true then [92, c] else [c]
def escTo (l : List UInt8) (k : Nat) : List UInt8 := (List.range k).flatMap fun j => escB l.length j (l.getD j 0)
def escV (l : List UInt8) : List UInt8 := escTo l l.length
def rdnB (t v : List UInt8) : List UInt8 := t ++ [61] ++ escV v
def sepB (j : Nat) : List UInt8 := if j = 0 then [] else [44]
theorem escTo_succ (l : List UInt8) (k : Nat) : escTo l (k + 1) = escTo l k ++ escB l.length k (l.getD k 0) := by
  unfold escTo; rw [List.range_succ, List.flatMap_append]; simp
theorem escB_pos (n k : Nat) (c : UInt8) : 1 ≤ (escB n k c).length := by unfold escB; split <;> (try split) <;> simp
theorem escTo_ge (l : List UInt8) : ∀ k, k ≤ (escTo l k).length
  | 0 => Nat.zero_le _
  | k + 1 => by
    rw [escTo_succ, List.length_append]
    have := escTo_ge l k
    have := escB_pos l.length k (l.getD k 0)
    omega
theorem escTo_le (l : List UInt8) : ∀ (d k : Nat), (escTo l k).length ≤ (escTo l (k + d)).length
  | 0, k => Nat.le_refl _
  | d + 1, k => by
    have := escTo_le l d k
    rw [show k + (d + 1) = (k + d) + 1 from rfl, escTo_succ, List.length_append]
    omega
theorem escTo_max (l : List UInt8) (k : Nat) (h : k ≤ l.length) : (escTo l k).length ≤ (escV l).length := by
  have := escTo_le l (l.length - k) k
  rwa [Nat.add_sub_cancel' h] at this
end Go.Proofs.YthfpaoacjpjnfaaDoor.P

namespace Go.Proofs.YthfpaoacjpjnfaaDoor.P
open Go.RowKit Go.Proofs.YthfpaoacjpjnfaaDoorW.PrintWords Go.Proofs.YthfpaoacjpjnfaaDoorW.PrintLast Go.Proofs.YthfpaoacjpjnfaaDoorW.PrintMore
set_option linter.unusedVariables false
set_option linter.unusedSimpArgs false
structure Gl (w : World) : Prop where
  maxLen : ∃ m, w.cell? ⟨5, 0, none⟩ = some (.int .i64 m)
  syn : ∃ tp p, w.cell? ⟨0, 0, none⟩ = some (.iface tp p)
  rng : ∃ tp p, w.cell? ⟨1, 0, none⟩ = some (.iface tp p)
  pow : Lib.TabIs Tryd.prog w "internal/strconv.uint64pow10" .u64 Lib.pow10Tab
theorem pow10_global : Tryd.prog.globalNamed "internal/strconv.uint64pow10" = some 4 := by kernel_rfl
theorem tab_lt {w : World} {zs : List Int} {k : IntKind} (h : Lib.TabIs Tryd.prog w "internal/strconv.uint64pow10" k zs) : 4 < w.heap.size := by
  unfold Lib.TabIs World.var? at h
  rw [pow10_global] at h
  simp only [Option.bind_some] at h
  rcases Nat.lt_or_ge 4 w.heap.size with h' | h'
  · exact h'
  · simp [Array.getElem?_eq_none h'] at h
theorem tab_below {w w' : World} {zs : List Int} {k : IntKind} (h : Lib.TabIs Tryd.prog w "internal/strconv.uint64pow10" k zs) (hb : Below w.heap.size w w') : Lib.TabIs Tryd.prog w' "internal/strconv.uint64pow10" k zs := by
  have hlt := tab_lt h
  unfold Lib.TabIs World.var? at h ⊢
  rw [pow10_global] at h ⊢
  simp only [Option.bind_some] at h ⊢
  rw [hb.block _ hlt]
  exact h
theorem Gl.below {w w' : World} (h : Gl w) (hb : Below w.heap.size w w') : Gl w' := by
  obtain ⟨m, hm⟩ := h.maxLen
  obtain ⟨t1, p1, h1⟩ := h.syn
  obtain ⟨t2, p2, h2⟩ := h.rng
  exact ⟨⟨m, pw_cell_below hb hm⟩, ⟨t1, p1, pw_cell_below hb h1⟩, ⟨t2, p2, pw_cell_below hb h2⟩, tab_below h.pow hb⟩
theorem Gl.drewN {w : World} (h : Gl w) (n : Nat) : Gl (w.drewN n) := h.below (pw_below_drewN (Below.refl _ _) n)
theorem u8_w (n : Int) : IntKind.u8.wrap n = n % 256 := by first | rfl | simp [IntKind.wrap] | (unfold IntKind.wrap; rfl)
theorem bneNil (l : List UInt8) : (l != []) = !l.isEmpty := by cases l <;> rfl
theorem beqNil (l : List UInt8) : (l == []) = l.isEmpty := by cases l <;> rfl
def lowI (c : Int) : Int := if 65 ≤ c ∧ c ≤ 90 then c + 32 else c
def lowS (s : ByteArray) : ByteArray := ⟨s.data.map lowB⟩
theorem lowS_data (s : ByteArray) : (lowS s).data.toList = s.data.toList.map lowB := by unfold lowS; rw [Array.toList_map]
theorem lowS_size (s : ByteArray) : (lowS s).size = s.size := by rw [size_len, lowS_data, List.length_map, ← size_len]
structure BRow (w : World) (B n : Nat) (f : Nat → Int) : Prop where
  cell : ∀ j, j < n → w.cell? ⟨B, j, none⟩ = some (.int .u8 (f j))
  free : ∀ j, j < n → w.frozen? ⟨B, j, none⟩ = false
theorem brow_conv (w : World) (s : ByteArray) : BRow (Lib.bytesWorld w 5 s) w.heap.size s.size (fun j => ((s.data.toList.getD j 0).toNat : Int)) := by
  refine ⟨fun j hj => Lib.bytesWorld_cell w 5 s j hj, fun j hj => ?_⟩
  have h := Lib.bytesWorld_at_new w 5 s
  have hb : s.size ≤ (Lib.bytesCells w 5 s).size := by simp [Lib.bytesCells]
  simp [World.frozen?, h]
  omega
theorem heap_drewN (w : World) (n : Nat) : (w.drewN n).heap = w.heap := by simp
theorem brow_convN (w : World) (n : Nat) (s : ByteArray) : BRow (Lib.bytesWorld (w.drewN n) 5 s) w.heap.size s.size (fun j => ((s.data.toList.getD j 0).toNat : Int)) := by
  have h := brow_conv (w.drewN n) s
  rw [heap_drewN] at h
  exact h
theorem below_convN (w : World) (n : Nat) (s : ByteArray) : Below w.heap.size w (Lib.bytesWorld (w.drewN n) 5 s) := by
  have h := Lib.bytesWorld_below (w.drewN n) 5 s
  rw [heap_drewN] at h
  exact (pw_below_drewN (Below.refl _ _) n).trans h
theorem brow_set {w : World} {B n : Nat} {f : Nat → Int} (h : BRow w B n f) (k : Nat) (hk : k < n) (v : Int) : BRow (w.setCell ⟨B, k, none⟩ (.int .u8 v)) B n (fun j => if j = k then v else f j) := by
  refine ⟨fun j hj => ?_, fun j hj => by rw [World.frozen?_setCell]; exact h.free j hj⟩
  by_cases e : j = k
  · subst e
    rw [World.cell?_setCell_same _ _ _ (h.cell j hj), if_pos rfl]
  · rw [World.cell?_setCell_other _ _ _ _ (by intro he; injection he with _ h2; omega), if_neg e]
    exact h.cell j hj
theorem brow_drewN {w : World} {B n : Nat} {f : Nat → Int} (h : BRow w B n f) (m : Nat) : BRow (w.drewN m) B n f := by
  refine ⟨fun j hj => ?_, fun j hj => ?_⟩
  · simpa using h.cell j hj
  · simpa using h.free j hj
theorem brow_congr {w : World} {B n : Nat} {f g : Nat → Int} (h : BRow w B n f) (e : ∀ j, j < n → f j = g j) : BRow w B n g :=
  ⟨fun j hj => by rw [← e j hj]; exact h.cell j hj, h.free⟩
theorem brow_block {w w' : World} {B n : Nat} {f : Nat → Int} (h : BRow w B n f) (hb : w'.heap[B]? = w.heap[B]?) : BRow w' B n f :=
  ⟨fun j hj => by rw [World.cell?_of_block (a := ⟨B, j, none⟩) hb]; exact h.cell j hj, fun j hj => by rw [World.frozen?_of_block (a := ⟨B, j, none⟩) hb]; exact h.free j hj⟩
theorem brow_string {P : Program} {w : World} {B n : Nat} {f : Nat → Int} (h : BRow w B n f) (cap src e dst : Nat) (hs : P.underlying src = some (.slice e)) (he : P.underlying e = some (.int .u8)) (hd : P.underlying dst = some .string) :
    (convert src dst (.slice (some ⟨B, 0, none⟩) n cap)).run P w = .ok (.string (strOfNums ((List.range n).map f))) w := by
  refine run_convert_bytes_arg w src e hs he B 0 n cap ((List.range n).map f) (by simp) (fun i hi => ?_) dst hd
  rw [Nat.zero_add, h.cell i hi]
  simp [List.getD, hi]
theorem lowI_lowB (c : UInt8) : lowI (c.toNat : Int) = ((lowB c).toNat : Int) := by
  unfold lowI lowB
  have h := c.toNat_lt
  simp only [UInt8.le_iff_toNat_le]
  have e1 : (65 : UInt8).toNat = 65 := rfl
  have e2 : (90 : UInt8).toNat = 90 := rfl
  rw [e1, e2]
  by_cases hc : 65 ≤ c.toNat ∧ c.toNat ≤ 90
  · rw [if_pos (by omega), if_pos hc, UInt8.toNat_add]
    have e3 : (32 : UInt8).toNat = 32 := rfl
    rw [e3]; omega
  · rw [if_neg (by omega), if_neg hc]
theorem strOf_lowS (s : ByteArray) : strOfNums ((List.range s.size).map fun j => lowI ((s.data.toList.getD j 0).toNat : Int)) = lowS s := by
  unfold strOfNums lowS
  congr 1
  apply Array.ext
  · rw [List.size_toArray, List.length_map, List.length_map, List.length_range, Array.size_map]; rfl
  · intro i h1 h2
    rw [Array.size_map] at h2
    rw [List.getElem_toArray, List.getElem_map, List.getElem_map, List.getElem_range, Array.getElem_map, lowI_lowB]
    have e : s.data.toList.getD i 0 = s.data[i] := by
      rw [List.getD_eq_getElem?_getD, List.getElem?_eq_getElem (by simpa using h2)]; rfl
    rw [e]
    simp
def lowTo (s : ByteArray) (k : Nat) : Nat → Int := fun j => if j < k then lowI ((s.data.toList.getD j 0).toNat : Int) else ((s.data.toList.getD j 0).toNat : Int)
theorem lowTo_zero (s : ByteArray) : lowTo s 0 = fun j => ((s.data.toList.getD j 0).toNat : Int) := by funext j; simp [lowTo]
theorem lowTo_here (s : ByteArray) (k : Nat) : lowTo s k k = ((s.data.toList.getD k 0).toNat : Int) := by simp [lowTo]
theorem lowTo_all (s : ByteArray) (k : Nat) (h : ¬ k < s.size) : strOfNums ((List.range s.size).map (lowTo s k)) = lowS s := by
  rw [← strOf_lowS]
  congr 1
  refine List.map_congr_left fun j hj => ?_
  unfold lowTo
  rw [if_pos (by have := List.mem_range.1 hj; omega)]
theorem lowTo_set {w : World} {B : Nat} {s : ByteArray} {k : Nat} (h : BRow w B s.size (lowTo s k)) (hk : k < s.size) {c : Int} (hc : ((s.data.toList.getD k 0).toNat : Int) = c) : BRow (w.setCell ⟨B, k, none⟩ (.int .u8 (lowI c))) B s.size (lowTo s (k + 1)) := by
  refine brow_congr (brow_set h k hk (lowI c)) fun j hj => ?_
  unfold lowTo
  by_cases e1 : j = k
  · subst e1; rw [if_pos rfl, if_pos (by omega), hc]
  · rw [if_neg e1]
    by_cases e2 : j < k
    · rw [if_pos e2, if_pos (by omega)]
    · rw [if_neg e2, if_neg (by omega)]
theorem lowTo_skip {w : World} {B : Nat} {s : ByteArray} {k : Nat} (h : BRow w B s.size (lowTo s k)) {c : Int} (hc : ((s.data.toList.getD k 0).toNat : Int) = c) (hl : lowI c = c) : BRow w B s.size (lowTo s (k + 1)) := by
  refine brow_congr h fun j hj => ?_
  unfold lowTo
  by_cases e1 : j = k
  · subst e1; rw [if_neg (by omega), if_pos (by omega), hc, hl]
  · by_cases e2 : j < k
    · rw [if_pos e2, if_pos (by omega)]
    · rw [if_neg e2, if_neg (by omega)]
theorem lowI_in {c : Int} (h1 : 65 ≤ c) (h2 : c ≤ 90) : lowI c = c + 32 := by unfold lowI; rw [if_pos ⟨h1, h2⟩]
theorem lowI_out {c : Int} (h : ¬ (65 ≤ c ∧ c ≤ 90)) : lowI c = c := by unfold lowI; rw [if_neg h]
end Go.Proofs.YthfpaoacjpjnfaaDoor.P


namespace Go.Proofs.YthfpaoacjpjnfaaDoor.P
open Go.RowKit Go.ChangeShapes
set_option linter.unusedVariables false
theorem own : ownKnob Tryd.prog.godebug = none := by kernel_rfl
def LAID : List (String × DataW Unit) := [("math/bits.deBruijn32tab", Rows.laid_math_bits_deBruijn32tab), ("math/bits.deBruijn64tab", Rows.laid_math_bits_deBruijn64tab), ("internal/strconv.uint64pow10", Rows.laid_internal_strconv_uint64pow10), ("unicode/utf8.acceptRanges", Rows.laid_unicode_utf8_acceptRanges), ("strconv.ErrRange", Rows.laid_strconv_ErrRange), ("strconv.ErrSyntax", Rows.laid_strconv_ErrSyntax), ("unicode/utf8.first", Rows.laid_unicode_utf8_first)]
theorem laid_plain {w : World} (h : laidMetH Tryd.prog LAID w) : laidMet Tryd.prog LAID w := by
  have e : (LAID.filter fun x => x.2.handleName?.isSome) = [] := by kernel_rfl
  unfold laidMetH at h
  rw [e] at h
  exact h
theorem laid_of {w : World} (h : laidMet Tryd.prog LAID w) : laidMetH Tryd.prog LAID w := by
  have e : (LAID.filter fun x => x.2.handleName?.isSome) = [] := by kernel_rfl
  unfold laidMetH
  rw [e]
  exact h
theorem gES : Tryd.prog.globalNamed "strconv.ErrSyntax" = some 0 := by kernel_rfl
theorem gESType : (Tryd.prog.globals[0]?).map (·.type) = some 32 := by kernel_rfl
theorem gER : Tryd.prog.globalNamed "strconv.ErrRange" = some 1 := by kernel_rfl
theorem gERType : (Tryd.prog.globals[1]?).map (·.type) = some 32 := by kernel_rfl
theorem gPowType : (Tryd.prog.globals[4]?).map (·.type) = some 109 := by kernel_rfl
theorem cellsES : Tryd.prog.cellsOf 83 = 1 := by kernel_rfl
theorem cellsS : Tryd.prog.cellsOf 9 = 1 := by kernel_rfl
theorem cellsU : Tryd.prog.cellsOf 55 = 1 := by kernel_rfl
theorem cellsPow : Tryd.prog.cellsOf 109 = 20 := by kernel_rfl
theorem star : "*" ++ "errors.errorString" = "*errors.errorString" := by decide
theorem rowES (u : TypeId) (h : Tryd.prog.typeName? 3 u = some "*errors.errorString") : u = 81 :=
  typeName_ptr_named (nm := "errors.errorString") (by rw [star]; kernel_rfl) (by kernel_rfl) (by decide) u (by rw [star]; exact h)
theorem gl_of {W : World} (hL : laidMetH Tryd.prog LAID W) (hsh : W.ShapedOpen Tryd.prog) : Gl W := by
  have h := laid_plain hL
  have hpow := Lib.tabIs_of_head (zs := Lib.pow10Tab) (k := .u64) (rest := _) pow10_global gPowType Tryd.underlying109 Tryd.underlying55 cellsU cellsPow h.tail.tail
  obtain ⟨a1, s1, hv1, -, -, -⟩ := laid_sentinel h.tail.tail.tail.tail gER gERType Tryd.underlying32 rowES Tryd.underlying81 Tryd.underlying83 rfl rfl Tryd.underlying9 cellsES cellsS
  obtain ⟨a0, s0, hv0, -, -, -⟩ := laid_sentinel h.tail.tail.tail.tail.tail gES gESType Tryd.underlying32 rowES Tryd.underlying81 Tryd.underlying83 rfl rfl Tryd.underlying9 cellsES cellsS
  refine ⟨cell_of_shapedOpen_int (P := Tryd.prog) (g := 5) (t := 3) (zero := #[.int .i64 0]) hsh (of_decide_eq_true (by kernel_rfl)) (by kernel_rfl) rfl (by kernel_rfl) (by kernel_rfl) Tryd.underlying3, ⟨81, .pointer (some a0), ?_⟩, ⟨81, .pointer (some a1), ?_⟩, hpow⟩
  · have h0 := World.var?_cell gES hv0 0
    simpa using h0
  · have h0 := World.var?_cell gER hv1 0
    simpa using h0
noncomputable def laidWorld (os : Os) : World := World.laidAll Tryd.prog os LAID
set_option maxRecDepth 100000 in
theorem laid_met (os : Os) (args : Array Value) : laidMetH Tryd.prog LAID ((laidWorld os).forCall (fun _ _ => 0) ⟨#[], args, []⟩).memory :=
  laid_of (laidMet_laidAll args (by kernel_rfl) (by kernel_rfl))
theorem u8_wf {n : Int} (h : (Lit.int .u8 n).wf = true) : 0 ≤ n ∧ n ≤ 255 := by simpa [Lit.wf, IntKind.min, IntKind.max, IntKind.signed, IntKind.bits] using h
end Go.Proofs.YthfpaoacjpjnfaaDoor.P

namespace Go.Proofs.YthfpaoacjpjnfaaDoor.P
open Go.RowKit Go.Proofs.YthfpaoacjpjnfaaDoorW.PrintWords Go.Proofs.YthfpaoacjpjnfaaDoorW.PrintLast Go.Proofs.YthfpaoacjpjnfaaDoorW.PrintMore
attribute [local go_sem] max2_int min2_int max_two min_two max_three min_three max_four min_four
set_option linter.unusedVariables false
set_option linter.unusedSimpArgs false
def errW : Option Int → Value
 | none => .nilIface
 | some c => .iface 0 (.int .i64 c)
theorem errW_none : errW none = .nilIface := rfl
theorem errW_some (c : Int) : errW (some c) = .iface 0 (.int .i64 c) := rfl
theorem info5 : (Tryd.prog.info? 5).map (fun i => (i.zero, i.size, i.bytes)) = some (some (.int .u8 0), 1, 1) := by kernel_rfl
theorem info53 : (Tryd.prog.info? 53).map (fun i => (i.zero, i.size, i.bytes)) = some (some (.agg #[(.string ⟨#[]⟩), (.string ⟨#[]⟩)]), 2, 32) := by kernel_rfl
structure S53 where
 f0 : ByteArray
 f1 : ByteArray
def z53 : S53 := ⟨(⟨#[]⟩ : ByteArray), (⟨#[]⟩ : ByteArray)⟩
def k53 : Kd S53 := Kd.iso (Kd.pair Kd.string Kd.string) (fun x : S53 => (x.f0, x.f1))
theorem k53_open {w : World} {x : S53} {cs : List Value} (h : k53.K w x cs) : cs = [.string x.f0, .string x.f1] := by
 obtain ⟨_, _, rfl, rfl, rfl⟩ := h
 exact rfl
theorem k53_openM {w : World} {base : Nat} {ok : Nat → Prop} {x : S53} {cs : List Value} (h : k53.M w base ok x cs) : cs = [.string x.f0, .string x.f1] := by
 obtain ⟨_, _, rfl, rfl, rfl⟩ := h
 exact rfl
theorem k53_mkM (w : World) (base : Nat) (ok : Nat → Prop) (x : S53)  : k53.M w base ok x [.string x.f0, .string x.f1] := ⟨[.string x.f0], [.string x.f1], rfl, rfl, rfl⟩
def rd_T53 (xs : List S53) (i : Int) : S53 := xs.getD i.toNat z53
theorem at_T53 {w : World} {A : Option Addr} {n : Nat} {xs : List S53} (h : Kd.C k53 w A n xs) (i : Int) (h0 : 0 ≤ i) (h1 : i < n) : ∃ ad , A = some ad ∧ w.cell? (ad.add (i.toNat * 2)) = some (.string (rd_T53 xs i).f0) ∧ w.cell? ⟨(ad.add (i.toNat * 2)).block, (ad.add (i.toNat * 2)).off + 1, none⟩ = some (.string (rd_T53 xs i).f1) := by
 obtain ⟨ad, c, e, _, hK, hc0⟩ := Kd.C_get h z53 i h0 h1
 have hc : ∀ j u, c[j]? = some u → w.cell? (ad.add (i.toNat * 2 + j)) = some u := hc0
 obtain rfl := k53_open hK
 exact ⟨ad, e, hc 0 _ rfl, by rw [← add_field _ _ 1 (by omega)]; exact hc 1 _ rfl⟩
end Go.Proofs.YthfpaoacjpjnfaaDoor.P


namespace Go.Proofs
open Go.Shelf
def Tryd.lays169_ren : Go.Shelf.Ren := ⟨fun | 169 => 50 | n => n, fun | 70 => 73 | 9 => 9 | 0 => 0 | 72 => 75 | 37 => 23 | 127 => 80 | 3 => 3 | 5 => 5 | n => n, fun | n => n⟩
theorem Tryd.lays169 : Go.Proofs.Lays.n169 Tryd.prog Tryd.lays169_ren := {
  mixed := by kernel_rfl
  f169 := Tryd.func50.trans (congrArg some (by kernel_rfl))
  t0 := Tryd.underlying0
  a0 := Tryd.isAgg0
  z0 := Tryd.sizeOf0
  v0 := Tryd.zeroValue0
  t3 := Tryd.underlying3
  a3 := Tryd.isAgg3
  z3 := Tryd.sizeOf3
  v3 := Tryd.zeroValue3
  t9 := Tryd.underlying9
  a9 := Tryd.isAgg9
  z9 := Tryd.sizeOf9
  v9 := Tryd.zeroValue9
  t37 := Tryd.underlying23
  a37 := Tryd.isAgg23
  z37 := Tryd.sizeOf23
  v37 := Tryd.zeroValue23
  t70 := Tryd.underlying73
  a70 := Tryd.isAgg73
  z70 := Tryd.sizeOf73
  v70 := Tryd.zeroValue73
  t72 := Tryd.underlying75
  a72 := Tryd.isAgg75
  z72 := Tryd.sizeOf75
  v72 := Tryd.zeroValue75
  t127 := Tryd.underlying80
  a127 := Tryd.isAgg80
  z127 := Tryd.sizeOf80
  v127 := Tryd.zeroValue80 }
theorem Tryd.Builder_Extra_169 : Builder.Extra Tryd.prog Tryd.lays169_ren := {
  sizeBuilder := by kernel_rfl
  liesBuilder := by kernel_rfl
  t5 := Tryd.underlying5
  a5 := Tryd.isAgg5
  z5 := Tryd.sizeOf5
  v5 := Tryd.zeroValue5
  infoByte := by kernel_rfl
  cellsByte := by kernel_rfl
  sizeByte := by kernel_rfl
  neB5 := by decide }
open Go.RowKit in
theorem Tryd.Builder_String_any (B b : Nat) (l : List UInt8) (w : World) (h : Lib.IsBuilder 75 5 B b (Lib.byteCells l) w) (hBw : B ≤ w.heap.size) :
    Calls Tryd.prog 50 #[.pointer (some ⟨b, 0, none⟩)] w fun e w' => e = .returned (.string ⟨l.toArray⟩) ∧ Below B w w' := Any.Builder_String_any Tryd.lays169 Tryd.Builder_Extra_169 B b l w h hBw
def Tryd.lays160_ren : Go.Shelf.Ren := ⟨fun | 160 => 24 | 232 => 34 | 231 => 33 | 227 => 35 | 234 => 37 | 233 => 36 | 236 => 39 | 235 => 38 | 228 => 53 | 271 => 56 | 151 => 55 | 197 => 54 | 120 => 66 | 152 => 65 | 260 => 64 | 137 => 63 | 119 => 75 | 224 => 76 | 225 => 77 | 217 => 74 | 266 => 84 | n => n, fun | 9 => 9 | 4 => 4 | 3 => 3 | 5 => 5 | 117 => 66 | 116 => 65 | 0 => 0 | 124 => 69 | 21 => 21 | 105 => 84 | 46 => 58 | 119 => 102 | 139 => 105 | 138 => 104 | n => n, fun | 3 => 2 | 4 => 3 | n => n⟩
theorem Tryd.lays160 : Go.Proofs.Lays.n160 Tryd.prog Tryd.lays160_ren := {
  mixed := by kernel_rfl
  f119 := Tryd.func75.trans (congrArg some (by kernel_rfl))
  f120 := Tryd.func66.trans (congrArg some (by kernel_rfl))
  f137 := Tryd.func63.trans (congrArg some (by kernel_rfl))
  f151 := Tryd.func55.trans (congrArg some (by kernel_rfl))
  f152 := Tryd.func65.trans (congrArg some (by kernel_rfl))
  f160 := Tryd.func24.trans (congrArg some (by kernel_rfl))
  f197 := Tryd.func54.trans (congrArg some (by kernel_rfl))
  f217 := Tryd.func74.trans (congrArg some (by kernel_rfl))
  f224 := Tryd.func76.trans (congrArg some (by kernel_rfl))
  f225 := Tryd.func77.trans (congrArg some (by kernel_rfl))
  f227 := Tryd.func35.trans (congrArg some (by kernel_rfl))
  f228 := Tryd.func53.trans (congrArg some (by kernel_rfl))
  f231 := Tryd.func33.trans (congrArg some (by kernel_rfl))
  f232 := Tryd.func34.trans (congrArg some (by kernel_rfl))
  f233 := Tryd.func36.trans (congrArg some (by kernel_rfl))
  f234 := Tryd.func37.trans (congrArg some (by kernel_rfl))
  f235 := Tryd.func38.trans (congrArg some (by kernel_rfl))
  f236 := Tryd.func39.trans (congrArg some (by kernel_rfl))
  f260 := Tryd.func64.trans (congrArg some (by kernel_rfl))
  f266 := Tryd.func84.trans (congrArg some (by kernel_rfl))
  f271 := Tryd.func56.trans (congrArg some (by kernel_rfl))
  t0 := Tryd.underlying0
  a0 := Tryd.isAgg0
  z0 := Tryd.sizeOf0
  v0 := Tryd.zeroValue0
  t3 := Tryd.underlying3
  a3 := Tryd.isAgg3
  z3 := Tryd.sizeOf3
  v3 := Tryd.zeroValue3
  t4 := Tryd.underlying4
  a4 := Tryd.isAgg4
  z4 := Tryd.sizeOf4
  v4 := Tryd.zeroValue4
  t5 := Tryd.underlying5
  a5 := Tryd.isAgg5
  z5 := Tryd.sizeOf5
  v5 := Tryd.zeroValue5
  t9 := Tryd.underlying9
  a9 := Tryd.isAgg9
  z9 := Tryd.sizeOf9
  v9 := Tryd.zeroValue9
  t21 := Tryd.underlying21
  a21 := Tryd.isAgg21
  z21 := Tryd.sizeOf21
  v21 := Tryd.zeroValue21
  t46 := Tryd.underlying58
  a46 := Tryd.isAgg58
  z46 := Tryd.sizeOf58
  v46 := Tryd.zeroValue58
  t105 := Tryd.underlying84
  a105 := Tryd.isAgg84
  z105 := Tryd.sizeOf84
  v105 := Tryd.zeroValue84
  t116 := Tryd.underlying65
  a116 := Tryd.isAgg65
  z116 := Tryd.sizeOf65
  t117 := Tryd.underlying66
  a117 := Tryd.isAgg66
  z117 := Tryd.sizeOf66
  v117 := Tryd.zeroValue66
  t119 := Tryd.underlying102
  a119 := Tryd.isAgg102
  z119 := Tryd.sizeOf102
  t124 := Tryd.underlying69
  a124 := Tryd.isAgg69
  z124 := Tryd.sizeOf69
  v124 := Tryd.zeroValue69
  t138 := Tryd.underlying104
  a138 := Tryd.isAgg104
  z138 := Tryd.sizeOf104
  v138 := Tryd.zeroValue104
  t139 := Tryd.underlying105
  a139 := Tryd.isAgg105
  z139 := Tryd.sizeOf105
  v139 := Tryd.zeroValue105
  g3 := by kernel_rfl
  g4 := by kernel_rfl }
open Go.RowKit in
theorem Tryd.strings_Trim_one (s : ByteArray) (c : UInt8) (hc : c.toNat < 128) (w : World) (hs : s.size ≤ 9223372036854775807) :
    Calls Tryd.prog 24 #[.string s, .string ⟨#[c]⟩] w fun e w' => e = .returned (.string ⟨(Lib.trimB s.data.toList c).toArray⟩) ∧ (w' = w ∨ w' = w.drew) := Any.strings_Trim_one Tryd.lays160 s c hc w hs
def Tryd.lays137_ren : Go.Shelf.Ren := ⟨fun | 137 => 63 | 217 => 74 | 266 => 84 | n => n, fun | 9 => 9 | 5 => 5 | 3 => 3 | n => n, fun | n => n⟩
theorem Tryd.lays137 : Go.Proofs.Lays.n137 Tryd.prog Tryd.lays137_ren := {
  mixed := by kernel_rfl
  f137 := Tryd.func63.trans (congrArg some (by kernel_rfl))
  f217 := Tryd.func74.trans (congrArg some (by kernel_rfl))
  f266 := Tryd.func84.trans (congrArg some (by kernel_rfl))
  t3 := Tryd.underlying3
  a3 := Tryd.isAgg3
  z3 := Tryd.sizeOf3
  v3 := Tryd.zeroValue3
  t5 := Tryd.underlying5
  a5 := Tryd.isAgg5
  z5 := Tryd.sizeOf5
  v5 := Tryd.zeroValue5
  t9 := Tryd.underlying9
  a9 := Tryd.isAgg9
  z9 := Tryd.sizeOf9
  v9 := Tryd.zeroValue9 }
open Go.RowKit in
theorem Tryd.strings_IndexByte (s : ByteArray) (c : Int) (w : World) :
    Calls Tryd.prog 63 #[.string s, .int .u8 c] w fun e w' => e = .returned (.int .i64 (Lib.indexByte s.data.toList c.toNat.toUInt8)) ∧ w' = w := Any.strings_IndexByte Tryd.lays137 s c w
def Tryd.laysM171_ren : Go.Shelf.Ren := ⟨fun | 171 => 25 | 243 => 40 | 246 => 57 | 283 => 67 | 284 => 68 | 285 => 69 | 286 => 70 | 129 => 79 | 317 => 78 | 318 => 80 | 319 => 81 | 320 => 82 | 337 => 85 | 338 => 86 | n => n, fun | 3 => 3 | 9 => 9 | 2 => 2 | 4 => 4 | 171 => 93 | 0 => 0 | 53 => 55 | 37 => 23 | 5 => 5 | 173 => 96 | 212 => 109 | 51 => 110 | 20 => 20 | 213 => 111 | 46 => 58 | 232 => 117 | 233 => 118 | n => n, fun | 17 => 4 | 18 => 6 | 19 => 7 | n => n⟩
theorem Tryd.laysM171 : Go.Proofs.LaysM.n171 Tryd.prog Tryd.laysM171_ren := {
  mixed := by kernel_rfl
  f129 := Tryd.func79.trans (congrArg some (by kernel_rfl))
  f171 := Tryd.func25.trans (congrArg some (by kernel_rfl))
  f243 := Tryd.func40.trans (congrArg some (by kernel_rfl))
  f246 := Tryd.func57.trans (congrArg some (by kernel_rfl))
  f283 := Tryd.func67.trans (congrArg some (by kernel_rfl))
  f284 := Tryd.func68.trans (congrArg some (by kernel_rfl))
  f285 := Tryd.func69.trans (congrArg some (by kernel_rfl))
  f286 := Tryd.func70.trans (congrArg some (by kernel_rfl))
  f317 := Tryd.func78.trans (congrArg some (by kernel_rfl))
  f318 := Tryd.func80.trans (congrArg some (by kernel_rfl))
  f319 := Tryd.func81.trans (congrArg some (by kernel_rfl))
  f320 := Tryd.func82.trans (congrArg some (by kernel_rfl))
  f337 := Tryd.func85.trans (congrArg some (by kernel_rfl))
  f338 := Tryd.func86.trans (congrArg some (by kernel_rfl))
  t0 := Tryd.underlying0
  a0 := Tryd.isAgg0
  z0 := Tryd.sizeOf0
  v0 := Tryd.zeroValue0
  t2 := Tryd.underlying2
  a2 := Tryd.isAgg2
  z2 := Tryd.sizeOf2
  v2 := Tryd.zeroValue2
  t3 := Tryd.underlying3
  a3 := Tryd.isAgg3
  z3 := Tryd.sizeOf3
  v3 := Tryd.zeroValue3
  t4 := Tryd.underlying4
  a4 := Tryd.isAgg4
  z4 := Tryd.sizeOf4
  v4 := Tryd.zeroValue4
  t5 := Tryd.underlying5
  a5 := Tryd.isAgg5
  z5 := Tryd.sizeOf5
  v5 := Tryd.zeroValue5
  t9 := Tryd.underlying9
  a9 := Tryd.isAgg9
  z9 := Tryd.sizeOf9
  v9 := Tryd.zeroValue9
  t20 := Tryd.underlying20
  a20 := Tryd.isAgg20
  z20 := Tryd.sizeOf20
  v20 := Tryd.zeroValue20
  t37 := Tryd.underlying23
  a37 := Tryd.isAgg23
  z37 := Tryd.sizeOf23
  v37 := Tryd.zeroValue23
  t46 := Tryd.underlying58
  a46 := Tryd.isAgg58
  z46 := Tryd.sizeOf58
  v46 := Tryd.zeroValue58
  t51 := Tryd.underlying110
  a51 := Tryd.isAgg110
  z51 := Tryd.sizeOf110
  v51 := Tryd.zeroValue110
  t53 := Tryd.underlying55
  a53 := Tryd.isAgg55
  z53 := Tryd.sizeOf55
  v53 := Tryd.zeroValue55
  t171 := Tryd.underlying93
  a171 := Tryd.isAgg93
  z171 := Tryd.sizeOf93
  v171 := Tryd.zeroValue93
  t173 := Tryd.underlying96
  a173 := Tryd.isAgg96
  z173 := Tryd.sizeOf96
  v173 := Tryd.zeroValue96
  t212 := Tryd.underlying109
  a212 := Tryd.isAgg109
  z212 := Tryd.sizeOf109
  v212 := Tryd.zeroValue109
  t213 := Tryd.underlying111
  a213 := Tryd.isAgg111
  z213 := Tryd.sizeOf111
  t232 := Tryd.underlying117
  a232 := Tryd.isAgg117
  z232 := Tryd.sizeOf117
  v232 := Tryd.zeroValue117
  t233 := Tryd.underlying118
  a233 := Tryd.isAgg118
  z233 := Tryd.sizeOf118
  v233 := Tryd.zeroValue118
  g17 := by kernel_rfl
  g18 := by kernel_rfl
  g19 := by kernel_rfl
  i0 := by kernel_rfl
  i2 := by kernel_rfl
  i3 := by kernel_rfl
  i4 := by kernel_rfl
  i5 := by kernel_rfl
  i9 := by kernel_rfl
  i20 := by kernel_rfl
  i37 := by kernel_rfl
  i46 := by kernel_rfl
  i51 := by kernel_rfl
  i53 := by kernel_rfl
  i171 := by kernel_rfl
  i173 := by kernel_rfl
  i212 := by kernel_rfl
  i232 := by kernel_rfl
  i233 := by kernel_rfl
  m17 := by kernel_rfl
  m18 := by kernel_rfl
  m19 := by kernel_rfl }
open Go.RowKit Go.Sort Go.Lib in
theorem Tryd.strconv_Itoa (n : Int) (h0 : -9223372036854775808 ≤ n) (h1 : n ≤ 9223372036854775807) (w : World) (htab : Lib.TabIs Tryd.prog w "internal/strconv.uint64pow10" .u64 Lib.pow10Tab) :
    Calls Tryd.prog 25 #[.int .i64 n] w fun e w' => e = .returned (.string ⟨(Lib.itoa n).toArray⟩) ∧ ∃ k os, w' = grow (w.drewN k) os := Any.strconv_Itoa Tryd.laysM171 n h0 h1 w htab
def Tryd.laysC172_ren : Go.Shelf.Ren := ⟨fun | 172 => 9 | 244 => 13 | 245 => 14 | 247 => 18 | 279 => 19 | 280 => 20 | 281 => 21 | 282 => 22 | 287 => 29 | 316 => 30 | 171 => 25 | 205 => 31 | 321 => 51 | 322 => 52 | 243 => 40 | 246 => 57 | 283 => 67 | 284 => 68 | 285 => 69 | 286 => 70 | 129 => 79 | 317 => 78 | 318 => 80 | 319 => 81 | 320 => 82 | 337 => 85 | 338 => 86 | n => n, fun | 9 => 9 | 3 => 3 | 75 => 32 | 76 => 33 | 4 => 4 | 5 => 5 | 167 => 41 | 37 => 23 | 0 => 0 | 85 => 42 | 2 => 2 | 168 => 44 | 53 => 55 | 175 => 56 | 46 => 58 | 210 => 60 | 127 => 80 | 145 => 83 | 143 => 81 | 21 => 21 | 171 => 93 | 173 => 96 | 212 => 109 | 51 => 110 | 20 => 20 | 213 => 111 | 232 => 117 | 233 => 118 | 80 => 79 | n => n, fun | 15 => 0 | 16 => 1 | 17 => 4 | 18 => 6 | 19 => 7 | n => n⟩
theorem Tryd.laysC172 : Go.Proofs.LaysC.n172 Tryd.prog Tryd.laysC172_ren := {
  mixed := by kernel_rfl
  f129 := Tryd.func79.trans (congrArg some (by kernel_rfl))
  f171 := Tryd.func25.trans (congrArg some (by kernel_rfl))
  f172 := Tryd.func9.trans (congrArg some (by kernel_rfl))
  f205 := Tryd.func31.trans (congrArg some (by kernel_rfl))
  f243 := Tryd.func40.trans (congrArg some (by kernel_rfl))
  f244 := Tryd.func13.trans (congrArg some (by kernel_rfl))
  f245 := Tryd.func14.trans (congrArg some (by kernel_rfl))
  f246 := Tryd.func57.trans (congrArg some (by kernel_rfl))
  f247 := Tryd.func18.trans (congrArg some (by kernel_rfl))
  f279 := Tryd.func19.trans (congrArg some (by kernel_rfl))
  f280 := Tryd.func20.trans (congrArg some (by kernel_rfl))
  f281 := Tryd.func21.trans (congrArg some (by kernel_rfl))
  f282 := Tryd.func22.trans (congrArg some (by kernel_rfl))
  f283 := Tryd.func67.trans (congrArg some (by kernel_rfl))
  f284 := Tryd.func68.trans (congrArg some (by kernel_rfl))
  f285 := Tryd.func69.trans (congrArg some (by kernel_rfl))
  f286 := Tryd.func70.trans (congrArg some (by kernel_rfl))
  f287 := Tryd.func29.trans (congrArg some (by kernel_rfl))
  f316 := Tryd.func30.trans (congrArg some (by kernel_rfl))
  f317 := Tryd.func78.trans (congrArg some (by kernel_rfl))
  f318 := Tryd.func80.trans (congrArg some (by kernel_rfl))
  f319 := Tryd.func81.trans (congrArg some (by kernel_rfl))
  f320 := Tryd.func82.trans (congrArg some (by kernel_rfl))
  f321 := Tryd.func51.trans (congrArg some (by kernel_rfl))
  f322 := Tryd.func52.trans (congrArg some (by kernel_rfl))
  f337 := Tryd.func85.trans (congrArg some (by kernel_rfl))
  f338 := Tryd.func86.trans (congrArg some (by kernel_rfl))
  t0 := Tryd.underlying0
  a0 := Tryd.isAgg0
  z0 := Tryd.sizeOf0
  v0 := Tryd.zeroValue0
  t2 := Tryd.underlying2
  a2 := Tryd.isAgg2
  z2 := Tryd.sizeOf2
  v2 := Tryd.zeroValue2
  t3 := Tryd.underlying3
  a3 := Tryd.isAgg3
  z3 := Tryd.sizeOf3
  v3 := Tryd.zeroValue3
  t4 := Tryd.underlying4
  a4 := Tryd.isAgg4
  z4 := Tryd.sizeOf4
  v4 := Tryd.zeroValue4
  t5 := Tryd.underlying5
  a5 := Tryd.isAgg5
  z5 := Tryd.sizeOf5
  v5 := Tryd.zeroValue5
  t9 := Tryd.underlying9
  a9 := Tryd.isAgg9
  z9 := Tryd.sizeOf9
  v9 := Tryd.zeroValue9
  t20 := Tryd.underlying20
  a20 := Tryd.isAgg20
  z20 := Tryd.sizeOf20
  v20 := Tryd.zeroValue20
  t21 := Tryd.underlying21
  a21 := Tryd.isAgg21
  z21 := Tryd.sizeOf21
  v21 := Tryd.zeroValue21
  t37 := Tryd.underlying23
  a37 := Tryd.isAgg23
  z37 := Tryd.sizeOf23
  v37 := Tryd.zeroValue23
  t46 := Tryd.underlying58
  a46 := Tryd.isAgg58
  z46 := Tryd.sizeOf58
  v46 := Tryd.zeroValue58
  t51 := Tryd.underlying110
  a51 := Tryd.isAgg110
  z51 := Tryd.sizeOf110
  v51 := Tryd.zeroValue110
  t53 := Tryd.underlying55
  a53 := Tryd.isAgg55
  z53 := Tryd.sizeOf55
  v53 := Tryd.zeroValue55
  t75 := Tryd.underlying32
  a75 := Tryd.isAgg32
  z75 := Tryd.sizeOf32
  v75 := Tryd.zeroValue32
  t76 := Tryd.underlying33
  a76 := Tryd.isAgg33
  z76 := Tryd.sizeOf33
  v76 := Tryd.zeroValue33
  t85 := Tryd.underlying42
  a85 := Tryd.isAgg42
  z85 := Tryd.sizeOf42
  v85 := Tryd.zeroValue42
  t127 := Tryd.underlying80
  a127 := Tryd.isAgg80
  z127 := Tryd.sizeOf80
  v127 := Tryd.zeroValue80
  t143 := Tryd.underlying81
  a143 := Tryd.isAgg81
  z143 := Tryd.sizeOf81
  v143 := Tryd.zeroValue81
  t145 := Tryd.underlying83
  a145 := Tryd.isAgg83
  z145 := Tryd.sizeOf83
  v145 := Tryd.zeroValue83
  t167 := Tryd.underlying41
  a167 := Tryd.isAgg41
  z167 := Tryd.sizeOf41
  v167 := Tryd.zeroValue41
  t168 := Tryd.underlying44
  a168 := Tryd.isAgg44
  z168 := Tryd.sizeOf44
  v168 := Tryd.zeroValue44
  t171 := Tryd.underlying93
  a171 := Tryd.isAgg93
  z171 := Tryd.sizeOf93
  v171 := Tryd.zeroValue93
  t173 := Tryd.underlying96
  a173 := Tryd.isAgg96
  z173 := Tryd.sizeOf96
  v173 := Tryd.zeroValue96
  t175 := Tryd.underlying56
  a175 := Tryd.isAgg56
  z175 := Tryd.sizeOf56
  v175 := Tryd.zeroValue56
  t210 := Tryd.underlying60
  a210 := Tryd.isAgg60
  z210 := Tryd.sizeOf60
  v210 := Tryd.zeroValue60
  t212 := Tryd.underlying109
  a212 := Tryd.isAgg109
  z212 := Tryd.sizeOf109
  v212 := Tryd.zeroValue109
  t213 := Tryd.underlying111
  a213 := Tryd.isAgg111
  z213 := Tryd.sizeOf111
  t232 := Tryd.underlying117
  a232 := Tryd.isAgg117
  z232 := Tryd.sizeOf117
  v232 := Tryd.zeroValue117
  t233 := Tryd.underlying118
  a233 := Tryd.isAgg118
  z233 := Tryd.sizeOf118
  v233 := Tryd.zeroValue118
  g15 := by kernel_rfl
  g16 := by kernel_rfl
  g17 := by kernel_rfl
  g18 := by kernel_rfl
  g19 := by kernel_rfl
  t80 := Tryd.underlying79
  a80 := Tryd.isAgg79
  z80 := Tryd.sizeOf79
  v80 := Tryd.zeroValue79
  i0 := by kernel_rfl
  i2 := by kernel_rfl
  i3 := by kernel_rfl
  i4 := by kernel_rfl
  i5 := by kernel_rfl
  i9 := by kernel_rfl
  i20 := by kernel_rfl
  i21 := by kernel_rfl
  i37 := by kernel_rfl
  i46 := by kernel_rfl
  i51 := by kernel_rfl
  i53 := by kernel_rfl
  i75 := by kernel_rfl
  i76 := by kernel_rfl
  i80 := by kernel_rfl
  i85 := by kernel_rfl
  i127 := by kernel_rfl
  i143 := by kernel_rfl
  i145 := by kernel_rfl
  i167 := by kernel_rfl
  i168 := by kernel_rfl
  i171 := by kernel_rfl
  i173 := by kernel_rfl
  i175 := by kernel_rfl
  i210 := by kernel_rfl
  i212 := by kernel_rfl
  i232 := by kernel_rfl
  i233 := by kernel_rfl
  m15 := by kernel_rfl
  m16 := by kernel_rfl
  m17 := by kernel_rfl
  m18 := by kernel_rfl
  m19 := by kernel_rfl
  c0 := by kernel_rfl
  c2 := by kernel_rfl
  c3 := by kernel_rfl
  c4 := by kernel_rfl
  c5 := by kernel_rfl
  c9 := by kernel_rfl
  c20 := by kernel_rfl
  c21 := by kernel_rfl
  c37 := by kernel_rfl
  c46 := by kernel_rfl
  c51 := by kernel_rfl
  c53 := by kernel_rfl
  c75 := by kernel_rfl
  c76 := by kernel_rfl
  c80 := by kernel_rfl
  c85 := by kernel_rfl
  c127 := by kernel_rfl
  c143 := by kernel_rfl
  c145 := by kernel_rfl
  c167 := by kernel_rfl
  c168 := by kernel_rfl
  c171 := by kernel_rfl
  c173 := by kernel_rfl
  c175 := by kernel_rfl
  c210 := by kernel_rfl
  c212 := by kernel_rfl
  c213 := by kernel_rfl
  c232 := by kernel_rfl
  c233 := by kernel_rfl }
open Go.RowKit in
theorem Tryd.strconv_Atoi_ok (s : ByteArray) (hmax : s.size ≤ 9223372036854775806) (v : Int) (h : Lib.atoiAll s.data.toList = .ok v) (w : World) :
    Calls Tryd.prog 9 #[.string s] w fun e w' => e = .returned (.tuple #[.int .i64 v, .nilIface]) ∧ (w' = w ∨ ∃ t, w' = Lib.bytesWorld w 5 t) := Any.strconv_Atoi_ok Tryd.laysC172 s hmax v h w
open Go.RowKit in
theorem Tryd.strconv_Atoi_syntax (s : ByteArray) (hlim : s.size ≤ 281474976710656) (h : Lib.atoiAll s.data.toList = Lib.atoiAll []) (ev : Value) (w : World) (hv : w.cell? ⟨0, 0, none⟩ = some ev) (hev : ev = .nilIface ∨ ∃ te pe, ev = .iface te pe) :
    Calls Tryd.prog 9 #[.string s] w fun e w' => ∃ N, e = .returned (.tuple #[.int .i64 (0), .iface 44 (.pointer (some ⟨N, 0, none⟩))]) ∧ w.heap.size ≤ N ∧ w'.heap[N]? = some (.cells #[.string ⟨#[65, 116, 111, 105]⟩, .string s, ev] 60 (0, 0)) ∧ Below w.heap.size w w' := Any.strconv_Atoi_syntax Tryd.laysC172 s hlim h ev w hv hev
open Go.RowKit in
theorem Tryd.strconv_Atoi_range (s : ByteArray) (hlim : s.size ≤ 281474976710656) (h : Lib.atoiAll s.data.toList = .range) (ev : Value) (w : World) (hv : w.cell? ⟨1, 0, none⟩ = some ev) (hev : ev = .nilIface ∨ ∃ te pe, ev = .iface te pe) :
    Calls Tryd.prog 9 #[.string s] w fun e w' => ∃ N, e = .returned (.tuple #[.int .i64 (Lib.atoiSat s.data.toList), .iface 44 (.pointer (some ⟨N, 0, none⟩))]) ∧ w.heap.size ≤ N ∧ w'.heap[N]? = some (.cells #[.string ⟨#[65, 116, 111, 105]⟩, .string s, ev] 60 (0, 0)) ∧ Below w.heap.size w w' := Any.strconv_Atoi_range Tryd.laysC172 s hlim h ev w hv hev
def Tryd.lays145_ren : Go.Shelf.Ren := ⟨fun | 145 => 42 | 220 => 59 | 219 => 71 | 217 => 74 | 225 => 77 | 224 => 76 | 267 => 83 | 266 => 84 | 314 => 87 | n => n, fun | 9 => 9 | 4 => 4 | 59 => 28 | 3 => 3 | 5 => 5 | 46 => 58 | 146 => 115 | 51 => 110 | n => n, fun | 1 => 5 | n => n⟩
theorem Tryd.lays145 : Go.Proofs.Lays.n145 Tryd.prog Tryd.lays145_ren := {
  mixed := by kernel_rfl
  f145 := Tryd.func42.trans (congrArg some (by kernel_rfl))
  f217 := Tryd.func74.trans (congrArg some (by kernel_rfl))
  f219 := Tryd.func71.trans (congrArg some (by kernel_rfl))
  f220 := Tryd.func59.trans (congrArg some (by kernel_rfl))
  f224 := Tryd.func76.trans (congrArg some (by kernel_rfl))
  f225 := Tryd.func77.trans (congrArg some (by kernel_rfl))
  f266 := Tryd.func84.trans (congrArg some (by kernel_rfl))
  f267 := Tryd.func83.trans (congrArg some (by kernel_rfl))
  f314 := Tryd.func87.trans (congrArg some (by kernel_rfl))
  t3 := Tryd.underlying3
  a3 := Tryd.isAgg3
  z3 := Tryd.sizeOf3
  v3 := Tryd.zeroValue3
  t4 := Tryd.underlying4
  a4 := Tryd.isAgg4
  z4 := Tryd.sizeOf4
  v4 := Tryd.zeroValue4
  t5 := Tryd.underlying5
  a5 := Tryd.isAgg5
  z5 := Tryd.sizeOf5
  v5 := Tryd.zeroValue5
  t9 := Tryd.underlying9
  a9 := Tryd.isAgg9
  z9 := Tryd.sizeOf9
  v9 := Tryd.zeroValue9
  t46 := Tryd.underlying58
  a46 := Tryd.isAgg58
  z46 := Tryd.sizeOf58
  v46 := Tryd.zeroValue58
  t51 := Tryd.underlying110
  a51 := Tryd.isAgg110
  z51 := Tryd.sizeOf110
  v51 := Tryd.zeroValue110
  t59 := Tryd.underlying28
  a59 := Tryd.isAgg28
  z59 := Tryd.sizeOf28
  v59 := Tryd.zeroValue28
  t146 := Tryd.underlying115
  a146 := Tryd.isAgg115
  z146 := Tryd.sizeOf115
  v146 := Tryd.zeroValue115
  g1 := by kernel_rfl }
open Go.RowKit Go.Lib in
theorem Tryd.strings_Cut (s sep : ByteArray) (m : Int) (w : World) (hs : s.size < 4294967281) (hm : w.cell? ⟨5, 0, none⟩ = some (.int .i64 m)) :
    Calls Tryd.prog 42 #[.string s, .string sep] w fun e w' => e = .returned (.tuple #[.string ⟨(Lib.cut s.data.toList sep.data.toList).1.toArray⟩, .string ⟨(Lib.cut s.data.toList sep.data.toList).2.1.toArray⟩, .bool (Lib.cut s.data.toList sep.data.toList).2.2]) ∧ ∃ n, w' = w.drewN n := Any.strings_Cut Tryd.lays145 s sep m w hs hm
def Tryd.lays101_ren : Go.Shelf.Ren := ⟨fun | 101 => 26 | 208 => 41 | 206 => 58 | n => n, fun | 9 => 9 | 4 => 4 | 3 => 3 | n => n, fun | n => n⟩
theorem Tryd.lays101 : Go.Proofs.Lays.n101 Tryd.prog Tryd.lays101_ren := {
  mixed := by kernel_rfl
  f101 := Tryd.func26.trans (congrArg some (by kernel_rfl))
  f206 := Tryd.func58.trans (congrArg some (by kernel_rfl))
  f208 := Tryd.func41.trans (congrArg some (by kernel_rfl))
  t3 := Tryd.underlying3
  a3 := Tryd.isAgg3
  z3 := Tryd.sizeOf3
  v3 := Tryd.zeroValue3
  t4 := Tryd.underlying4
  a4 := Tryd.isAgg4
  z4 := Tryd.sizeOf4
  v4 := Tryd.zeroValue4
  t9 := Tryd.underlying9
  a9 := Tryd.isAgg9
  z9 := Tryd.sizeOf9
  v9 := Tryd.zeroValue9 }
open Go.RowKit Go.Lib in
theorem Tryd.strings_TrimPrefix (s p : ByteArray) (w : World) :
    Calls Tryd.prog 26 #[.string s, .string p] w fun e w' => e = .returned (.string ⟨(Lib.trimPrefix s.data.toList p.data.toList).toArray⟩) ∧ w' = w := Any.strings_TrimPrefix Tryd.lays101 s p w
end Go.Proofs

namespace Go.Proofs.YthfpaoacjpjnfaaDoor.P
open Go.RowKit Go.Proofs.YthfpaoacjpjnfaaDoorW.PrintWords Go.Proofs.YthfpaoacjpjnfaaDoorW.PrintLast Go.Proofs.YthfpaoacjpjnfaaDoorW.PrintMore
set_option linter.unusedVariables false
set_option linter.unusedSimpArgs false
abbrev BT : TypeId := 75
theorem bt_size : (Tryd.prog.info? BT).map (fun i => i.size) = some 2 := by kernel_rfl
theorem bt_lies : liesAt Tryd.prog Tryd.prog.depth BT (2 / Tryd.prog.cellsOf BT) 0 BT 1 = true := by kernel_rfl
set_option maxHeartbeats 1000000 in
set_option maxRecDepth 100000 in
theorem bcheck_used (b : Nat) (w : World) (h0 : w.cell? ⟨b, 0, none⟩ = some (.pointer (some ⟨b, 0, none⟩))) :
    Calls Tryd.prog 62 #[.pointer (some ⟨b, 0, none⟩)] w fun e w' => e = .returned (.tuple #[]) ∧ w' = w := by
  obtain ⟨j, hj, _⟩ := Option.map_eq_some_iff.1 bt_size
  have hu := Tryd.underlying73
  go_enter Tryd.func62, Tryd.ntmps62
  go_wp2
  rw [Lib.run_neq_ptr_same w _ Tryd.underlying73 hj]
  go_wp2
  go_end0
  exact ⟨rfl, rfl⟩
set_option maxHeartbeats 1000000 in
set_option maxRecDepth 100000 in
theorem bcheck_fresh (b : Nat) (w : World) (h0 : w.cell? ⟨b, 0, none⟩ = some (.pointer none)) (hsh : w.shape? b = some (BT, 2)) (hfz : w.frozen? ⟨b, 0, none⟩ = false) :
    Calls Tryd.prog 62 #[.pointer (some ⟨b, 0, none⟩)] w fun e w' => e = .returned (.tuple #[]) ∧ w' = w.setCell ⟨b, 0, none⟩ (.pointer (some ⟨b, 0, none⟩)) := by
  obtain ⟨j, hj, hjs⟩ := Option.map_eq_some_iff.1 bt_size
  have hu := Tryd.underlying73
  go_enter Tryd.func62, Tryd.ntmps62
  go_wp2
  rw [Lib.run_to_unsafe w ⟨b, 0, none⟩ Tryd.underlying73 Tryd.underlying100 hj (by rw [hjs]; decide) hsh (Nat.zero_lt_succ 1)]
  simp only [Result.andThen]
  rw [Oper.upon_value]
  go_wp2
  rw [run_callFunc_extern Tryd.func73 (by kernel_rfl) (by kernel_rfl) (by kernel_rfl) (e := Extern.AbiNoEscape.same) (by kernel_rfl)]
  rw [Lib.run_noEscape]
  simp only [Result.andThen]
  rw [Oper.upon_value]
  go_wp2
  rw [Lib.run_from_unsafe w ⟨b, 0, none⟩ Tryd.underlying100 Tryd.underlying73 hj hsh bt_lies]
  simp only [Result.andThen]
  rw [Oper.upon_value]
  go_wp2
  go_end0
  exact ⟨rfl, rfl⟩
theorem own_u8 {w : World} {B n : Nat} {v : Value} {xs : List Value} (h : w.ownsRow B 5 1 v n xs) : ∀ g, v.ownBlock = some g → ∃ c fz, w.heap[g]? = some (.cells c 5 fz) := by
  intro g hg
  rcases h.2 with ⟨rfl, _⟩ | ⟨g', cap, cur, rfl, _, hh, _⟩
  · simp [Value.ownBlock] at hg
  · obtain rfl : g' = g := by simpa [Value.ownBlock] using hg
    exact ⟨_, _, hh⟩
theorem bcheck (B b : Nat) (bs : List Value) (w : World) (h : Lib.IsBuilder BT 5 B b bs w) :
    Calls Tryd.prog 62 #[.pointer (some ⟨b, 0, none⟩)] w fun e w' => e = .returned (.tuple #[]) ∧ (Lib.BuilderAt BT 5 B b (.pointer (some ⟨b, 0, none⟩)) bs w' ∧ Below B w w' ∧ Lib.OthersKept 5 (some b) w w') := by
  rcases h with h | h
  · refine (bcheck_fresh b w h.cell0 h.shape h.frozen0).mono ?_
    rintro e w' ⟨rfl, rfl⟩
    exact ⟨rfl, h.used _, (Below.refl B w).setCell (p := ⟨b, 0, none⟩) h.1 _, (Lib.OthersKept.refl _ _ w).setCell ⟨b, 0, none⟩ rfl _⟩
  · refine (bcheck_used b w h.cell0).mono ?_
    rintro e w' ⟨rfl, rfl⟩
    exact ⟨rfl, h, Below.refl B _, Lib.OthersKept.refl _ _ _⟩
set_option maxHeartbeats 2000000 in
set_option maxRecDepth 100000 in
theorem bwriteByte (B b : Nat) (bs : List Value) (c : Int) (w : World) (h : Lib.IsBuilder BT 5 B b bs w) (hlen : bs.length + 1 ≤ 140737488355328) (hBw : B ≤ w.heap.size) :
    Calls Tryd.prog 46 #[.pointer (some ⟨b, 0, none⟩), .int .u8 c] w fun e w' => e = .returned .nilIface ∧ (Lib.BuilderAt BT 5 B b (.pointer (some ⟨b, 0, none⟩)) (bs ++ [.int .u8 c]) w' ∧ Below B w w' ∧ Lib.OthersKept 5 (some b) w w') := by
  obtain ⟨i0, hi, hz0, hz1, hz2⟩ := info_parts info5
  go_enter Tryd.func46, Tryd.ntmps46
  go_wp2_with (go_at_call 62; refine (bcheck B b bs _ h).mono ?_)
  rintro e w1 ⟨rfl, h1, hb1, ho1⟩
  obtain ⟨hB, v, hbk, hown, hne⟩ := h1
  have c0 : w1.cell? ⟨b, 0, none⟩ = some (.pointer (some ⟨b, 0, none⟩)) := by rw [Lib.cell_of_heap hbk]; rfl
  have c1 : w1.cell? ⟨b, 1, none⟩ = some v := by rw [Lib.cell_of_heap hbk]; rfl
  go_wp2_with (at_builtin; refine wpList_append_own _ rfl _ _ 23 rfl B 5 i0 (.int .u8 0) 1 1 Tryd.underlying23 hi hz0 hz1 hz2 rfl (by decide) _ _ _ rfl (hown.alloc _) ⟨w1.heap.size, 0, none⟩ 1 1 [.int .u8 c] rfl rfl ?c1 ?c2 ?c3 ?c4 ?c5 ?_)
  case c1 =>
    intro j u hj
    match j, hj with
    | 0, hj => simp at hj; subst hj; simp [Addr.add]
  case c2 => intro u hu; simp at hu; subst hu; rfl
  case c3 => unfold maxLen; omega
  case c4 => omega
  case c5 => have := hb1.size; simp; omega
  intro v' w2 hown' hgrow _
  have hlt : b < w1.heap.size := by
    rcases Nat.lt_or_ge b w1.heap.size with h' | h'
    · exact h'
    · simp [Array.getElem?_eq_none h'] at hbk
  have hb2 : w2.heap[b]? = some (.cells #[.pointer (some ⟨b, 0, none⟩), v] BT (0, 0)) := by
    rw [hgrow.block b (by simp; omega) (fun e => hne e.symm), Lib.alloc_old w1 _ b hlt]
    exact hbk
  have d0 : w2.cell? ⟨b, 0, none⟩ = some (.pointer (some ⟨b, 0, none⟩)) := by rw [Lib.cell_of_heap hb2]; rfl
  have d1 : w2.cell? ⟨b, 1, none⟩ = some v := by rw [Lib.cell_of_heap hb2]; rfl
  have f1 : w2.frozen? ⟨b, 1, none⟩ = false := Lib.frozen_of_heap hb2 1
  obtain ⟨g, cap, rfl⟩ : ∃ g cap, v' = .slice (some ⟨g, 0, none⟩) (bs.length + 1) cap := by
    rcases hown'.2 with ⟨_, h0⟩ | ⟨g, cap, cur, hv, _⟩
    · omega
    · exact ⟨g, cap, hv⟩
  go_wp2
  go_ret
  refine ⟨rfl, ?_, ?_, ((ho1.alloc _).grown hgrow (own_u8 (hown.alloc _))).setCell ⟨b, 1, none⟩ rfl _⟩
  · exact Lib.BuilderAt.put (T := BT) (e := 5) hB hb2 (bs' := bs ++ [.int .u8 c]) (by simpa using hown') (by decide)
  · exact ((hb1.alloc (by have := hb1.size; omega) _).grown hgrow (by have := hb1.size; simp; omega) (fun k hk => (hown.lt k hk).1)).setCell (p := ⟨b, 1, none⟩) hB _
set_option maxHeartbeats 2000000 in
set_option maxRecDepth 100000 in
theorem bwriteString (B b : Nat) (bs : List Value) (s : ByteArray) (w : World) (h : Lib.IsBuilder BT 5 B b bs w) (hlen : bs.length + s.size ≤ 140737488355328) (hBw : B ≤ w.heap.size) :
    Calls Tryd.prog 47 #[.pointer (some ⟨b, 0, none⟩), .string s] w fun e w' => e = .returned (.tuple #[.int .i64 s.size, .nilIface]) ∧ (Lib.BuilderAt BT 5 B b (.pointer (some ⟨b, 0, none⟩)) (bs ++ Lib.strCells s) w' ∧ Below B w w' ∧ Lib.OthersKept 5 (some b) w w') := by
  obtain ⟨i0, hi, hz0, hz1, hz2⟩ := info_parts info5
  go_enter Tryd.func47, Tryd.ntmps47
  go_wp2_with (go_at_call 62; refine (bcheck B b bs _ h).mono ?_)
  rintro e w1 ⟨rfl, h1, hb1, ho1⟩
  obtain ⟨hB, v, hbk, hown, hne⟩ := h1
  have c0 : w1.cell? ⟨b, 0, none⟩ = some (.pointer (some ⟨b, 0, none⟩)) := by rw [Lib.cell_of_heap hbk]; rfl
  have c1 : w1.cell? ⟨b, 1, none⟩ = some v := by rw [Lib.cell_of_heap hbk]; rfl
  go_wp2_with (at_builtin; refine Lib.wpList_append_own_string _ rfl _ _ 23 9 rfl B 5 i0 Tryd.underlying23 Tryd.underlying9 hi hz0 hz1 hz2 _ _ _ rfl hown s rfl ?c3 ?c4 ?c5 ?_)
  case c3 => unfold maxLen; omega
  case c4 => omega
  case c5 => have := hb1.size; omega
  intro v' w2 hown' hgrow _
  have hlt : b < w1.heap.size := by
    rcases Nat.lt_or_ge b w1.heap.size with h' | h'
    · exact h'
    · simp [Array.getElem?_eq_none h'] at hbk
  have hb2 : w2.heap[b]? = some (.cells #[.pointer (some ⟨b, 0, none⟩), v] BT (0, 0)) := by
    rw [hgrow.block b hlt (fun e => hne e.symm)]
    exact hbk
  have d0 : w2.cell? ⟨b, 0, none⟩ = some (.pointer (some ⟨b, 0, none⟩)) := by rw [Lib.cell_of_heap hb2]; rfl
  have d1 : w2.cell? ⟨b, 1, none⟩ = some v := by rw [Lib.cell_of_heap hb2]; rfl
  have f1 : w2.frozen? ⟨b, 1, none⟩ = false := Lib.frozen_of_heap hb2 1
  obtain ⟨ao, n', cap, rfl⟩ : ∃ ao n' cap, v' = .slice ao n' cap := by
    rcases hown'.2 with ⟨hv, _⟩ | ⟨g, cap, cur, hv, _⟩
    · exact ⟨_, _, _, hv⟩
    · exact ⟨_, _, _, hv⟩
  go_wp2
  go_ret2
  refine ⟨rfl, ?_, ?_, (ho1.grown hgrow (own_u8 hown)).setCell ⟨b, 1, none⟩ rfl _⟩
  · exact Lib.BuilderAt.put (T := BT) (e := 5) hB hb2 (bs' := bs ++ Lib.strCells s) (by simpa [Lib.strCells_length] using hown') (by decide)
  · exact (hb1.grown hgrow (by have := hb1.size; omega) (fun k hk => (hown.lt k hk).1)).setCell (p := ⟨b, 1, none⟩) hB _
theorem bcheckQ (B b q : Nat) (bs : List Value) (w : World) (h : Lib.IsBuilder BT 5 B b bs w) (hqb : q ≠ b) :
    Calls Tryd.prog 62 #[.pointer (some ⟨b, 0, none⟩)] w fun e w' => e = .returned (.tuple #[]) ∧ (Lib.BuilderAt BT 5 B b (.pointer (some ⟨b, 0, none⟩)) bs w' ∧ Below B w w' ∧ Lib.OthersKept 5 (some b) w w' ∧ ∀ j, w'.cell? ⟨q, j, none⟩ = w.cell? ⟨q, j, none⟩) := by
  rcases h with h | h
  · refine (bcheck_fresh b w h.cell0 h.shape h.frozen0).mono ?_
    rintro e w' ⟨rfl, rfl⟩
    exact ⟨rfl, h.used _, (Below.refl B w).setCell (p := ⟨b, 0, none⟩) h.1 _, (Lib.OthersKept.refl _ _ w).setCell ⟨b, 0, none⟩ rfl _, fun j => World.cell?_setCell_other _ _ _ _ (by intro he; injection he with h1 _; exact hqb h1.symm)⟩
  · refine (bcheck_used b w h.cell0).mono ?_
    rintro e w' ⟨rfl, rfl⟩
    exact ⟨rfl, h, Below.refl B _, Lib.OthersKept.refl _ _ _, fun _ => rfl⟩
set_option maxHeartbeats 2000000 in
set_option maxRecDepth 100000 in
theorem bwrite (B b q n c : Nat) (bs : List Value) (xs : List Int) (hn : xs.length = n) (w : World) (h : Lib.IsBuilder BT 5 B b bs w) (hlen : bs.length + n ≤ 140737488355328) (hBw : B ≤ w.heap.size)
    (hq : ∀ j, j < n → w.cell? ⟨q, j, none⟩ = some (.int .u8 (xs.getD j 0))) (hn0 : 0 < n) (hqb : q ≠ b) :
    Calls Tryd.prog 48 #[.pointer (some ⟨b, 0, none⟩), .slice (some ⟨q, 0, none⟩) n c] w fun e w' => e = .returned (.tuple #[.int .i64 n, .nilIface]) ∧ (Lib.BuilderAt BT 5 B b (.pointer (some ⟨b, 0, none⟩)) (bs ++ xs.map (Value.int .u8)) w' ∧ Below B w w' ∧ Lib.OthersKept 5 (some b) w w') := by
  obtain ⟨i0, hi, hz0, hz1, hz2⟩ := info_parts info5
  have HQ0 := Lib.hid hq
  clear hq
  go_enter Tryd.func48, Tryd.ntmps48
  go_wp2_with (go_at_call 62; refine (bcheckQ B b q bs _ h hqb).mono ?_)
  rintro e w1 ⟨rfl, h1, hb1, ho1, hq1⟩
  have HQ := Lib.hid (show ∀ j, j < n → w1.cell? ⟨q, j, none⟩ = some (.int .u8 (xs.getD j 0)) from fun j hj => (hq1 j).trans (HQ0.out j hj))
  clear hq1
  obtain ⟨hB, v, hbk, hown, hne⟩ := h1
  have c0 : w1.cell? ⟨b, 0, none⟩ = some (.pointer (some ⟨b, 0, none⟩)) := by rw [Lib.cell_of_heap hbk]; rfl
  have c1 : w1.cell? ⟨b, 1, none⟩ = some v := by rw [Lib.cell_of_heap hbk]; rfl
  go_wp2_with (at_builtin; refine wpList_append_own _ rfl _ _ 23 rfl B 5 i0 (.int .u8 0) 1 1 Tryd.underlying23 hi hz0 hz1 hz2 rfl (by decide) _ _ _ rfl hown ⟨q, 0, none⟩ n c (xs.map (Value.int .u8)) rfl (by simp [hn]) ?c1 ?c2 ?c3 ?c4 ?c5 ?_)
  case c1 =>
    intro j u hj
    have hjn : j < xs.length := by
      rcases Nat.lt_or_ge j xs.length with h' | h'
      · exact h'
      · rw [List.getElem?_eq_none (by simpa using h')] at hj; cases hj
    have e : (⟨q, 0, none⟩ : Addr).add j = ⟨q, j, none⟩ := by unfold Addr.add; split <;> simp_all
    rw [e, HQ.out j (by omega)]
    rw [List.getElem?_map, List.getElem?_eq_getElem hjn] at hj
    rw [List.getD_eq_getElem?_getD, List.getElem?_eq_getElem hjn]
    exact hj
  case c2 =>
    intro u hu
    obtain ⟨x, _, rfl⟩ := List.mem_map.1 hu
    rfl
  case c3 => unfold maxLen; omega
  case c4 => omega
  case c5 => have := hb1.size; omega
  intro v' w2 hown' hgrow _
  have hlt : b < w1.heap.size := by
    rcases Nat.lt_or_ge b w1.heap.size with h' | h'
    · exact h'
    · simp [Array.getElem?_eq_none h'] at hbk
  have hb2 : w2.heap[b]? = some (.cells #[.pointer (some ⟨b, 0, none⟩), v] BT (0, 0)) := by
    rw [hgrow.block b hlt (fun e => hne e.symm)]
    exact hbk
  have d0 : w2.cell? ⟨b, 0, none⟩ = some (.pointer (some ⟨b, 0, none⟩)) := by rw [Lib.cell_of_heap hb2]; rfl
  have d1 : w2.cell? ⟨b, 1, none⟩ = some v := by rw [Lib.cell_of_heap hb2]; rfl
  have f1 : w2.frozen? ⟨b, 1, none⟩ = false := Lib.frozen_of_heap hb2 1
  obtain ⟨ao, n', cap, rfl⟩ : ∃ ao n' cap, v' = .slice ao n' cap := by
    rcases hown'.2 with ⟨hv, _⟩ | ⟨g, cap, cur, hv, _⟩
    · exact ⟨_, _, _, hv⟩
    · exact ⟨_, _, _, hv⟩
  go_wp2
  go_ret2
  refine ⟨rfl, ?_, ?_, (ho1.grown hgrow (own_u8 hown)).setCell ⟨b, 1, none⟩ rfl _⟩
  · exact Lib.BuilderAt.put (T := BT) (e := 5) hB hb2 (bs' := bs ++ xs.map (Value.int .u8)) (by simpa [hn] using hown') (by decide)
  · exact (hb1.grown hgrow (by have := hb1.size; omega) (fun k hk => (hown.lt k hk).1)).setCell (p := ⟨b, 1, none⟩) hB _
end Go.Proofs.YthfpaoacjpjnfaaDoor.P

namespace Go.Proofs.YthfpaoacjpjnfaaDoor.P
open Go.RowKit Go.Proofs.YthfpaoacjpjnfaaDoorW.PrintWords Go.Proofs.YthfpaoacjpjnfaaDoorW.PrintLast Go.Proofs.YthfpaoacjpjnfaaDoorW.PrintMore
set_option linter.unusedVariables false
set_option linter.unusedSimpArgs false
def strings_Trim.f (a0 a1 : ByteArray) : Option ByteArray := if a1 = ⟨#[32]⟩ ∧ a0.size ≤ 9223372036854775807 then some ⟨(Lib.trimB a0.data.toList 32).toArray⟩ else none
theorem strings_Trim.calls (a0 a1 : ByteArray) (r : ByteArray) (w : World) (h : strings_Trim.f a0 a1 = some r) :
    Calls Tryd.prog 24 #[.string a0, .string a1] w fun e w' => e = .returned (.string r) ∧ Drawn0 w w' := by
  unfold strings_Trim.f at h
  by_cases hs : a1 = ⟨#[32]⟩ ∧ a0.size ≤ 9223372036854775807
  · rw [if_pos hs] at h
    obtain rfl := Option.some.inj h
    obtain ⟨rfl, hs⟩ := hs
    refine (Tryd.strings_Trim_one a0 32 (by decide) w hs).mono ?_
    rintro e w' ⟨rfl, h⟩
    rcases h with rfl | rfl
    · exact ⟨rfl, Drawn0.refl _⟩
    · exact ⟨rfl, ⟨1, rfl⟩⟩
  · rw [if_neg hs] at h
    cases h
def strings_IndexByte.f (a0 : ByteArray) (a1 : Int) : Option Int := some (Lib.indexByte a0.data.toList a1.toNat.toUInt8)
theorem strings_IndexByte.calls (a0 : ByteArray) (a1 r : Int) (w : World) (h : strings_IndexByte.f a0 a1 = some r) :
    Calls Tryd.prog 63 #[.string a0, .int .u8 a1] w fun e w' => e = .returned (.int .i64 r) ∧ Drawn0 w w' := by
  obtain rfl := Option.some.inj h
  refine (Tryd.strings_IndexByte a0 a1 w).mono ?_
  rintro e w' ⟨rfl, rfl⟩
  exact ⟨rfl, Drawn0.refl _⟩
def strings_Cut.f (a0 a1 : ByteArray) : Option (ByteArray × ByteArray × Bool) :=
  if a0.size < 4294967281 then some (⟨(Lib.cut a0.data.toList a1.data.toList).1.toArray⟩, ⟨(Lib.cut a0.data.toList a1.data.toList).2.1.toArray⟩, (Lib.cut a0.data.toList a1.data.toList).2.2) else none
theorem strings_Cut.calls (a0 a1 : ByteArray) (r1 r2 : ByteArray) (r3 : Bool) (w : World) (hG : Gl w) (h : strings_Cut.f a0 a1 = some (r1, r2, r3)) :
    Calls Tryd.prog 42 #[.string a0, .string a1] w fun e w' => e = .returned (.tuple #[.string r1, .string r2, .bool r3]) ∧ Drawn0 w w' := by
  unfold strings_Cut.f at h
  by_cases hs : a0.size < 4294967281
  · rw [if_pos hs] at h
    have h := Option.some.inj h
    obtain ⟨e1, h⟩ := Prod.mk.inj h
    obtain ⟨e2, e3⟩ := Prod.mk.inj h
    rw [← e1, ← e2, ← e3]
    obtain ⟨m, hm⟩ := hG.maxLen
    refine (Tryd.strings_Cut a0 a1 m w hs hm).mono ?_
    rintro e w' ⟨rfl, n, rfl⟩
    exact ⟨rfl, ⟨n, rfl⟩⟩
  · rw [if_neg hs] at h
    cases h
end Go.Proofs.YthfpaoacjpjnfaaDoor.P

namespace Go.Proofs.YthfpaoacjpjnfaaDoor.P
open Go.RowKit Go.Proofs.YthfpaoacjpjnfaaDoorW.PrintWords Go.Proofs.YthfpaoacjpjnfaaDoorW.PrintLast Go.Proofs.YthfpaoacjpjnfaaDoorW.PrintMore
attribute [local go_sem] max2_int min2_int max_two min_two max_three min_three max_four min_four
set_option linter.unusedVariables false
set_option linter.unusedSimpArgs false
def dn_special.f (a0 : Int) : Option (Bool) := (strings_IndexByte.f (⟨#[44, 43, 34, 92, 60, 62, 59]⟩ : ByteArray) a0).bind fun t106 => (some (decide (t106 ≥ 0)))
set_option maxHeartbeats 8000000 in
set_option maxRecDepth 100000 in
theorem dn_special.calls (a0 : Int) (r : Bool) (w : World) (h : dn_special.f a0 = some r) :
  Calls Tryd.prog 49 #[.int .u8 a0] w fun e w' => e = .returned (.bool r) ∧ Drawn0 w w' := by
 have H : ((strings_IndexByte.f (⟨#[44, 43, 34, 92, 60, 62, 59]⟩ : ByteArray) a0).bind fun t106 => (some (decide (t106 ≥ 0)))) = some r := h
 clear h
 replace H := Option.bind_eq_some_iff.mp H
 obtain ⟨t106, A20, H⟩ := H
 replace H : (some (decide (t106 ≥ 0))) = some r := H
 have A2 := Aside0.mk A20
 clear A20
 obtain rfl := Option.some.inj H
 go_enter Tryd.func49, Tryd.ntmps49
 go_wp2_with (first | ((with_reducible refine gate_callee (f := 63) rfl ?_); refine goesL_ (some 4) rfl rfl Tryd.func63 (by kernel_rfl) rfl #[.string (⟨#[44, 43, 34, 92, 60, 62, 59]⟩ : ByteArray), .int .u8 a0] rfl (by (try simp only [List.map_toArray, List.map_cons, List.map_nil]); first | done | rfl | (simp only [List.length_drop, List.length_take]; rfl)) ?_; (with_reducible refine (strings_IndexByte.calls (⟨#[44, 43, 34, 92, 60, 62, 59]⟩ : ByteArray) a0 t106 _ A2.out).mono ?_); rintro e w' ⟨rfl, ⟨nd, rfl⟩⟩; refine ⟨_, rfl, ?_⟩))
 go_ret
 exact ⟨by first | rfl | (simp; done) | (simp [*]; done) | (simp [*, i64_w, i32_w, u8_w]; done) | (simp only [bneNil, beqNil]; done) | (simp only [bneNil, beqNil]; simp; done) | (simp only [bneNil, beqNil]; simp [*]; done), by repeat (first | exact Drawn0.refl _ | apply Drawn0.step)⟩
end Go.Proofs.YthfpaoacjpjnfaaDoor.P

namespace Go.Proofs.YthfpaoacjpjnfaaDoor.P
open Go.RowKit Go.Proofs.YthfpaoacjpjnfaaDoorW.PrintWords Go.Proofs.YthfpaoacjpjnfaaDoorW.PrintLast Go.Proofs.YthfpaoacjpjnfaaDoorW.PrintMore
set_option linter.unusedVariables false
set_option linter.unusedSimpArgs false
abbrev SR := S53
def textTo (rs : List SR) (i : Nat) : List UInt8 := (List.range i).flatMap fun j => sepB j ++ rdnB (rs.getD j z53).f0.data.toList (rs.getD j z53).f1.data.toList
def textL (rs : List SR) : List UInt8 := textTo rs rs.length
theorem textTo_succ (rs : List SR) (i : Nat) : textTo rs (i + 1) = textTo rs i ++ (sepB i ++ rdnB (rs.getD i z53).f0.data.toList (rs.getD i z53).f1.data.toList) := by
  unfold textTo; rw [List.range_succ, List.flatMap_append]; simp
theorem textTo_le (rs : List SR) : ∀ (d k : Nat), (textTo rs k).length ≤ (textTo rs (k + d)).length
  | 0, k => Nat.le_refl _
  | d + 1, k => by
    have := textTo_le rs d k
    rw [show k + (d + 1) = (k + d) + 1 from rfl, textTo_succ, List.length_append]
    omega
theorem textTo_max (rs : List SR) (k : Nat) (h : k ≤ rs.length) : (textTo rs k).length ≤ (textL rs).length := by
  have := textTo_le rs (rs.length - k) k
  rwa [Nat.add_sub_cancel' h] at this
theorem dn_special_eq (c : UInt8) : dn_special.f (c.toNat : Int) = some (specialB c) := byteAll (p := fun c => dn_special.f (c.toNat : Int) = some (specialB c)) (by decide +kernel) c
def hexS : ByteArray := ⟨#[48, 49, 50, 51, 52, 53, 54, 55, 56, 57, 97, 98, 99, 100, 101, 102]⟩
theorem hex_hi (u : UInt8) : bt hexS ((u.toNat : Int) / 16) = ((hexD (u >>> 4)).toNat : Int) := byteAll (p := fun u => bt hexS ((u.toNat : Int) / 16) = ((hexD (u >>> 4)).toNat : Int)) (by decide +kernel) u
theorem hex_lo (u : UInt8) : bt hexS (Go.bits .and .u8 (u.toNat : Int) 15) = ((hexD (u &&& 15)).toNat : Int) := byteAll (p := fun u => bt hexS (Go.bits .and .u8 (u.toNat : Int) 15) = ((hexD (u &&& 15)).toNat : Int)) (by decide +kernel) u
theorem and15 (u : UInt8) : 0 ≤ Go.bits .and .u8 (u.toNat : Int) 15 ∧ Go.bits .and .u8 (u.toNat : Int) 15 < 16 := byteAll (p := fun u => 0 ≤ Go.bits .and .u8 (u.toNat : Int) 15 ∧ Go.bits .and .u8 (u.toNat : Int) 15 < 16) (by decide +kernel) u
theorem hex_run {P : Program} {t : TypeId} (h : P.underlying t = some .string) (i : Int) (h0 : 0 ≤ i) (h1 : i < 16) (W : World) :
    (Instr.index t (.string ⟨#[48, 49, 50, 51, 52, 53, 54, 55, 56, 57, 97, 98, 99, 100, 101, 102]⟩) (.int .u8 i)).run P W = .ok (.int .u8 (bt hexS i)) W := by
  rw [run_index_string W t _ .u8 i h, dif_pos ⟨h0, h1⟩]
  have hh : i.toNat < hexS.size := by show i.toNat < 16; omega
  rw [← bt_at hexS i hh]
  rfl
structure TW (w wr : World) (R : Nat) (f0 f1 : ByteArray) (bs : List UInt8) : Prop where
  below : Below w.heap.size w wr
  bld : Lib.IsBuilder BT 5 w.heap.size w.heap.size (Lib.byteCells bs) wr
  row : wr.heap[R]? = some (.cells #[.string f0, .string f1] 53 (0, 0))
theorem TW.c0 {w wr : World} {R : Nat} {f0 f1 : ByteArray} {bs : List UInt8} (h : TW w wr R f0 f1 bs) : wr.cell? ⟨R, 0, none⟩ = some (.string f0) := by rw [Lib.cell_of_heap h.row]; rfl
theorem TW.c1 {w wr : World} {R : Nat} {f0 f1 : ByteArray} {bs : List UInt8} (h : TW w wr R f0 f1 bs) : wr.cell? ⟨R, 1, none⟩ = some (.string f1) := by rw [Lib.cell_of_heap h.row]; rfl
theorem isb_alloc {w : World} {T e : TypeId} {B b : Nat} {bs : List Value} (h : Lib.IsBuilder T e B b bs w) (o : Obj) : Lib.IsBuilder T e B b bs (w.alloc o) := by
  have step : ∀ {p : Value}, Lib.BuilderAt T e B b p bs w → Lib.BuilderAt T e B b p bs (w.alloc o) := by
    intro p h
    obtain ⟨hB, v, hb, ho, hne⟩ := h
    have hlt := (Array.getElem?_eq_some_iff.1 hb).1
    exact ⟨hB, v, by rw [Lib.alloc_old w o b hlt]; exact hb, ho.alloc o, hne⟩
  rcases h with h | h
  · exact .inl (step h)
  · exact .inr (step h)
theorem TW.alloc {w wr : World} {R : Nat} {f0 f1 : ByteArray} {bs : List UInt8} (h : TW w wr R f0 f1 bs) (o : Obj) : TW w (wr.alloc o) R f0 f1 bs :=
  ⟨h.below.alloc h.below.size o, isb_alloc h.bld o, by rw [Lib.alloc_old wr o R (Array.getElem?_eq_some_iff.1 h.row).1]; exact h.row⟩
theorem TW.drewN {w wr : World} {R : Nat} {f0 f1 : ByteArray} {bs : List UInt8} (h : TW w wr R f0 f1 bs) (n : Nat) : TW w (wr.drewN n) R f0 f1 bs := by
  refine ⟨pw_below_drewN h.below n, ?_, h.row⟩
  exact h.bld
theorem TW.step {w wr w2 : World} {R : Nat} {f0 f1 : ByteArray} {bs bs' : List UInt8} (h : TW w wr R f0 f1 bs) (hb : Below w.heap.size wr w2) (hB : Lib.BuilderAt BT 5 w.heap.size w.heap.size (.pointer (some ⟨w.heap.size, 0, none⟩)) (Lib.byteCells bs') w2)
    (ho : Lib.OthersKept 5 (some w.heap.size) wr w2) (hR : R ≠ w.heap.size) : TW w w2 R f0 f1 bs' :=
  ⟨h.below.trans hb, .inr hB, ho R _ h.row (by intro e; exact hR (Option.some.inj e)) (by intro c fz e; injection e with _ e2; exact absurd e2 (by decide))⟩
theorem byteCells_append (a b : List UInt8) : Lib.byteCells (a ++ b) = Lib.byteCells a ++ Lib.byteCells b := by simp [Lib.byteCells]
theorem byteCells_len (a : List UInt8) : (Lib.byteCells a).length = a.length := by simp [Lib.byteCells]
def dn_Text.f (l0 : List SR) : Option ByteArray := if (textL l0).length ≤ 140737488351231 then some (mk (textL l0)) else none
set_option maxHeartbeats 8000000 in
set_option maxRecDepth 100000 in
theorem dn_Text.any (A0 : Option Addr) (c0 : Nat) (l0 : List SR) (w : World) (hr0 : Kd.C k53 w A0 l0.length l0) (hc0 : l0.length ≤ c0) (hs : (textL l0).length ≤ 140737488351232) (hn : l0.length ≤ 140737488351232) :
    Calls Tryd.prog 28 #[.slice A0 l0.length c0] w fun e w' => e = .returned (.string (mk (textL l0))) ∧ Below w.heap.size w w' := by
  have HR := Lib.hid hr0
  have HS := Lib.hid hs
  clear hr0 hs
  go_enter Tryd.func28, Tryd.ntmps28
  go_wp2
  go_loopw [10] (fun i wr => ∃ k : Nat, k ≤ l0.length ∧ i = .int .i64 k ∧ Aside0 (Below w.heap.size w wr) ∧ Aside0 (w.heap.size < wr.heap.size) ∧ Aside0 (Lib.IsBuilder BT 5 w.heap.size w.heap.size (Lib.byteCells (textTo l0 k)) wr)) (fun i _ => l0.length - (intOf i).toNat)
  case atStart =>
    refine ⟨0, Nat.zero_le _, rfl, ⟨(Below.refl _ _).alloc (Nat.le_refl _) _⟩, ⟨by simp⟩, ⟨?_⟩⟩
    refine .inl ⟨Nat.le_refl _, .slice none 0 0, by simp [World.alloc, -World.alloc_eq], ?_, by simp [Value.ownBlock]⟩
    exact ⟨rfl, .inl ⟨rfl, rfl⟩⟩
  case round =>
    obtain ⟨k, hk, rfl, HB, HZ, HI⟩ := hrel
    obtain ⟨wo, rfl⟩ : ∃ wo : World, wo = wr := ⟨_, rfl⟩
    by_cases hlt : k < l0.length
    · obtain ⟨ad, e1, hx0, hx1⟩ := at_T53 (Kd.C_below HR.out HB.out) (k : Int) (by omega) (by omega)
      rw [Int.toNat_natCast] at hx0 hx1
      subst e1
      have hf0 : (rd_T53 l0 (k : Int)) = l0.getD k z53 := by unfold rd_T53; rw [Int.toNat_natCast]
      obtain ⟨f0, hF0⟩ : ∃ f, (rd_T53 l0 (k : Int)).f0 = f := ⟨_, rfl⟩
      obtain ⟨f1, hF1⟩ : ∃ f, (rd_T53 l0 (k : Int)).f1 = f := ⟨_, rfl⟩
      rw [hF0] at hx0
      rw [hF1] at hx1
      rw [hf0] at hF0 hF1
      have HF0 := Lib.hid hF0
      have HF1 := Lib.hid hF1
      clear hf0 hF0 hF1
      have hmax := textTo_max l0 (k + 1) (by omega)
      rw [textTo_succ] at hmax
      unfold rdnB at hmax
      rw [HF0.out, HF1.out] at hmax
      have hM : (textTo l0 k).length + (sepB k).length + f0.size + 1 + (escV f1.data.toList).length ≤ 140737488351232 := by
        have := HS.out
        simp only [List.length_append, List.length_cons, List.length_nil] at hmax
        rw [size_len]
        omega
      have HM := Lib.hid hM
      have hsucc : textTo l0 (k + 1) = textTo l0 k ++ sepB k ++ f0.data.toList ++ [61] ++ escV f1.data.toList := by
        rw [textTo_succ]; unfold rdnB; rw [HF0.out, HF1.out]; simp only [List.append_assoc]
      have hRne : wo.heap.size ≠ w.heap.size := by have := HZ.out; omega
      have HRN := Lib.hid hRne
      have hrow : (wo.alloc (.cells #[.string f0, .string f1] 53)).heap[wo.heap.size]? = some (.cells #[.string f0, .string f1] 53 (0, 0)) := by simp [World.alloc, -World.alloc_eq]
      have hT0 : TW w (wo.alloc (.cells #[.string f0, .string f1] 53)) wo.heap.size f0 f1 (textTo l0 k) :=
        ⟨HB.out.alloc HB.out.size _, isb_alloc HI.out _, hrow⟩
      have HT0 := Aside0.mk hT0
      have hwle : w.heap.size ≤ (wo.alloc (.cells #[.string f0, .string f1] 53)).heap.size := hT0.below.size
      have HWL := Lib.hid hwle
      have hf1n : f1.size ≤ 140737488351232 := by
        have := escTo_ge f1.data.toList f1.data.toList.length
        have h2 := size_len f1
        unfold escV at hM
        omega
      have hf0b : (textTo l0 k ++ sepB k).length + f0.size + 1 ≤ 140737488351232 := by rw [List.length_append]; omega
      have HF0B := Lib.hid hf0b
      obtain ⟨Bs, hBs⟩ : ∃ Bs, textTo l0 k ++ sepB k ++ f0.data.toList ++ [61] = Bs := ⟨_, rfl⟩
      have hBl : Bs.length + (escV f1.data.toList).length ≤ 140737488351232 := by
        rw [← hBs]; simp only [List.length_append, List.length_cons, List.length_nil]; rw [← size_len f0]; omega
      rw [hBs] at hsucc
      have HSUC := Lib.hid hsucc
      have HBS := Lib.hid hBs
      have HBL := Lib.hid hBl
      clear hmax hM hsucc hRne hrow hT0 hwle hBs hBl hf0b
      by_cases hk0 : 0 < k
      · have d0 : decide (0 < k) = true := decide_eq_true hk0
        have hsep : sepB k = [44] := by unfold sepB; rw [if_neg (by omega)]
        have HSP := Lib.hid hsep
        clear hsep
        go_wp2_with fail
        refine (bwriteByte w.heap.size w.heap.size _ 44 _ HT0.out.bld (by rw [byteCells_len]; have := HF0B.out; rw [HSP.out] at this; simp at this; omega) HWL.out).mono ?_
        rintro e w2 ⟨rfl, hB2, hb2, ho2⟩
        have HT := Aside0.mk (HT0.out.step (bs' := textTo l0 k ++ sepB k) hb2 (by rw [HSP.out, byteCells_append]; exact hB2) ho2 HRN.out)
        clear hB2 hb2 ho2 HT0 HSP HWL
        have hc20 := HT.out.c0
        have HWS := Lib.hid HT.out.below.size
        go_wp2_with fail
        refine (bwriteString w.heap.size w.heap.size _ f0 _ HT.out.bld (by rw [byteCells_len]; have := HF0B.out; omega) HWS.out).mono ?_
        rintro e w3 ⟨rfl, hB3, hb3, ho3⟩
        have HT3 := Aside0.mk (HT.out.step (bs' := textTo l0 k ++ sepB k ++ f0.data.toList) hb3 (by rw [byteCells_append]; exact hB3) ho3 HRN.out)
        clear hB3 hb3 ho3 HT hc20 HWS
        have HWS := Lib.hid HT3.out.below.size
        go_wp2_with fail
        refine (bwriteByte w.heap.size w.heap.size _ 61 _ HT3.out.bld (by rw [byteCells_len, List.length_append, ← size_len]; have := HF0B.out; omega) HWS.out).mono ?_
        rintro e w4 ⟨rfl, hB4, hb4, ho4⟩
        have HT4 := Aside0.mk (HT3.out.step (bs' := Bs) hb4 (by rw [← HBS.out, byteCells_append]; exact hB4) ho4 HRN.out)
        clear hB4 hb4 ho4 HT3 HWS
        have hc41 := HT4.out.c1
        go_wp2_with fail
        go_loopw [25] (fun j wq => ∃ m : Nat, m ≤ f1.size ∧ j = .int .i64 m ∧ Aside0 (TW w wq wo.heap.size f0 f1 (Bs ++ escTo f1.data.toList m))) (fun j _ => f1.size - (intOf j).toNat)
        case atStart => exact ⟨0, Nat.zero_le _, rfl, ⟨by rw [show escTo f1.data.toList 0 = [] from rfl, List.append_nil]; exact HT4.out⟩⟩
        case round =>
          clear hc41 HT4
          obtain ⟨m, hm, rfl, HT⟩ := hrel
          have hcq := HT.out.c1
          have HWQ := Lib.hid HT.out.below.size
          by_cases hlm : m < f1.size
          · have hum := bt_nat f1 m
            have hes := escTo_succ f1.data.toList m
            have hmx := escTo_max f1.data.toList (m + 1) (by rw [← size_len]; omega)
            obtain ⟨u, hu⟩ : ∃ u : UInt8, f1.data.toList.getD m 0 = u := ⟨_, rfl⟩
            rw [hu] at hum hes
            rw [← size_len] at hes
            have hbx : ∀ h : m < f1.size, ((f1[m]'h).toNat : Int) = bt f1 (m : Int) := fun h => by
              have := bt_at f1 (m : Int) (by rw [Int.toNat_natCast]; exact h)
              simpa using this
            have hsp := dn_special_eq u
            rw [hum] at hbx
            obtain ⟨c, hcu⟩ : ∃ c : Int, (u.toNat : Int) = c := ⟨_, rfl⟩
            rw [hcu] at hbx hsp
            have hc0' : 0 ≤ c := by omega
            have hc1' : c ≤ 255 := by have := u.toNat_lt; omega
            have HSPE := Lib.hid hsp
            have HES := Lib.hid hes
            have HMX := Lib.hid hmx
            have HCU := Lib.hid hcu
            clear hum hu hsp hes hmx hcu
            have hesc : ∀ o b : Bool, oddB u = o → backB f1.size m u = b → escTo f1.data.toList (m + 1) = escTo f1.data.toList m ++ (if o = true then [92, hexD (u >>> 4), hexD (u &&& 15)] else if b = true then [92, u] else [u]) := by
              intro o b ho hb
              rw [HES.out]; unfold escB; rw [ho, hb]
            have HESC := Lib.hid hesc
            clear hesc
            by_cases h32 : c < 32 ∨ 126 < c
            · have hodd : oddB u = true := by
                unfold oddB
                have := HCU.out
                rcases h32 with h | h
                · rw [decide_eq_true (show u < 32 from by rw [UInt8.lt_iff_toNat_lt]; show u.toNat < 32; omega)]; rfl
                · rw [decide_eq_true (show 126 < u from by rw [UInt8.lt_iff_toNat_lt]; show 126 < u.toNat; omega), Bool.or_true]
              have hEB := HESC.out true _ hodd rfl
              rw [if_pos rfl] at hEB
              have HEB := Lib.hid hEB
              clear hEB hodd
              have hb32 : (∃ x, decide (c < 32) = x) := ⟨_, rfl⟩
              rcases Classical.em (c < 32) with h1 | h1
              · have d1 : decide (c < 32) = true := decide_eq_true h1
                clear h32
                have hx1 := hex_hi u
                have hx2 := hex_lo u
                have hr1 : 0 ≤ c / 16 ∧ c / 16 < 16 := by omega
                have hr2 := and15 u
                rw [HCU.out] at hx1 hx2 hr2
                obtain ⟨v1, hv1⟩ : ∃ v1 : Int, ((hexD (u >>> 4)).toNat : Int) = v1 := ⟨_, rfl⟩
                obtain ⟨v2, hv2⟩ : ∃ v2 : Int, ((hexD (u &&& 15)).toNat : Int) = v2 := ⟨_, rfl⟩
                rw [hv1] at hx1
                rw [hv2] at hx2
                have hi1 := hex_run (P := Tryd.prog) Tryd.underlying9 (c / 16) hr1.1 hr1.2
                have hi2 := hex_run (P := Tryd.prog) Tryd.underlying9 (Go.bits .and .u8 c 15) hr2.1 hr2.2
                rw [hx1] at hi1
                rw [hx2] at hi2
                have HV1 := Lib.hid hv1
                have HV2 := Lib.hid hv2
                clear hx1 hx2 hr1 hr2 hv1 hv2
                go_wp2_with fail
                go_still_tail 6, (by kernel_rfl)
                go_wp2_with fail
                have hTA : TW w (wr.alloc (.cells #[.int .u8 92, .int .u8 v1, .int .u8 v2] 5)).drew wo.heap.size f0 f1 (Bs ++ escTo f1.data.toList m) := (HT.out.alloc _).drewN 1
                have HTA := Aside0.mk hTA
                have hne : wr.heap.size ≠ w.heap.size := by
                  have : w.heap.size < wr.heap.size := by rcases HT.out.bld with h | h <;> exact h.lt
                  omega
                have HNE := Lib.hid hne
                have hcl : ∀ j, j < 3 → (wr.alloc (.cells #[.int .u8 92, .int .u8 v1, .int .u8 v2] 5)).drew.cell? ⟨wr.heap.size, j, none⟩ = some (.int .u8 (([92, v1, v2] : List Int).getD j 0)) := by
                  intro j hj
                  rcases j with _ | _ | _ | j
                  · simp
                  · simp
                  · simp
                  · omega
                have HCL := Lib.hid hcl
                have HWA := Lib.hid hTA.below.size
                clear hTA hne hcl
                refine (bwrite w.heap.size w.heap.size wr.heap.size 3 3 _ [92, v1, v2] rfl _ HTA.out.bld (by rw [byteCells_len, List.length_append]; have h1 := HMX.out; have h2 := HBL.out; rw [HEB.out, List.length_append] at h1; simp at h1; omega) HWA.out HCL.out (by omega) HNE.out).mono ?_
                rintro e w6 ⟨rfl, hB6, hb6, ho6⟩
                have HT6 := Aside0.mk (HTA.out.step (bs' := Bs ++ escTo f1.data.toList (m + 1)) hb6 (by rw [HEB.out, ← List.append_assoc, byteCells_append]; rw [← HV1.out, ← HV2.out] at hB6; exact hB6) ho6 HRN.out)
                clear hB6 hb6 ho6 HTA HCL
                go_wp2_with fail
                exact ⟨⟨m + 1, by omega, by go_num, HT6⟩, by simp [intOf]; omega⟩
              · have d1 : decide (c < 32) = false := decide_eq_false h1
                have d2 : decide (126 < c) = true := decide_eq_true (by omega)
                clear h32
                have hx1 := hex_hi u
                have hx2 := hex_lo u
                have hr1 : 0 ≤ c / 16 ∧ c / 16 < 16 := by omega
                have hr2 := and15 u
                rw [HCU.out] at hx1 hx2 hr2
                obtain ⟨v1, hv1⟩ : ∃ v1 : Int, ((hexD (u >>> 4)).toNat : Int) = v1 := ⟨_, rfl⟩
                obtain ⟨v2, hv2⟩ : ∃ v2 : Int, ((hexD (u &&& 15)).toNat : Int) = v2 := ⟨_, rfl⟩
                rw [hv1] at hx1
                rw [hv2] at hx2
                have hi1 := hex_run (P := Tryd.prog) Tryd.underlying9 (c / 16) hr1.1 hr1.2
                have hi2 := hex_run (P := Tryd.prog) Tryd.underlying9 (Go.bits .and .u8 c 15) hr2.1 hr2.2
                rw [hx1] at hi1
                rw [hx2] at hi2
                have HV1 := Lib.hid hv1
                have HV2 := Lib.hid hv2
                clear hx1 hx2 hr1 hr2 hv1 hv2
                go_wp2_with fail
                go_still_tail 6, (by kernel_rfl)
                go_wp2_with fail
                have hTA : TW w (wr.alloc (.cells #[.int .u8 92, .int .u8 v1, .int .u8 v2] 5)).drew wo.heap.size f0 f1 (Bs ++ escTo f1.data.toList m) := (HT.out.alloc _).drewN 1
                have HTA := Aside0.mk hTA
                have hne : wr.heap.size ≠ w.heap.size := by
                  have : w.heap.size < wr.heap.size := by rcases HT.out.bld with h | h <;> exact h.lt
                  omega
                have HNE := Lib.hid hne
                have hcl : ∀ j, j < 3 → (wr.alloc (.cells #[.int .u8 92, .int .u8 v1, .int .u8 v2] 5)).drew.cell? ⟨wr.heap.size, j, none⟩ = some (.int .u8 (([92, v1, v2] : List Int).getD j 0)) := by
                  intro j hj
                  rcases j with _ | _ | _ | j
                  · simp
                  · simp
                  · simp
                  · omega
                have HCL := Lib.hid hcl
                have HWA := Lib.hid hTA.below.size
                clear hTA hne hcl
                refine (bwrite w.heap.size w.heap.size wr.heap.size 3 3 _ [92, v1, v2] rfl _ HTA.out.bld (by rw [byteCells_len, List.length_append]; have h1 := HMX.out; have h2 := HBL.out; rw [HEB.out, List.length_append] at h1; simp at h1; omega) HWA.out HCL.out (by omega) HNE.out).mono ?_
                rintro e w6 ⟨rfl, hB6, hb6, ho6⟩
                have HT6 := Aside0.mk (HTA.out.step (bs' := Bs ++ escTo f1.data.toList (m + 1)) hb6 (by rw [HEB.out, ← List.append_assoc, byteCells_append]; rw [← HV1.out, ← HV2.out] at hB6; exact hB6) ho6 HRN.out)
                clear hB6 hb6 ho6 HTA HCL
                go_wp2_with fail
                exact ⟨⟨m + 1, by omega, by go_num, HT6⟩, by simp [intOf]; omega⟩
            · have h1 : ¬ c < 32 := fun h => h32 (.inl h)
              have h2 : ¬ 126 < c := fun h => h32 (.inr h)
              have hodd : oddB u = false := by
                unfold oddB
                have := HCU.out
                rw [decide_eq_false (show ¬ u < 32 from by rw [UInt8.lt_iff_toNat_lt]; show ¬ u.toNat < 32; omega), decide_eq_false (show ¬ 126 < u from by rw [UInt8.lt_iff_toNat_lt]; show ¬ 126 < u.toNat; omega)]; rfl
              have d1 : decide (c < 32) = false := decide_eq_false h1
              have d2 : decide (126 < c) = false := decide_eq_false h2
              have hEB2 := fun (h : backB f1.size m u = true) => HESC.out false true hodd h
              have hEB1 := fun (h : backB f1.size m u = false) => HESC.out false false hodd h
              rw [if_neg (by simp), if_pos rfl] at hEB2
              rw [if_neg (by simp), if_neg (by simp)] at hEB1
              have HB2 := Lib.hid hEB2
              have HB1 := Lib.hid hEB1
              clear hEB1 hEB2 hodd h32
              cases hsb : specialB u with
              | true =>
                rw [hsb] at HSPE
                have HEB := Lib.hid (HB2.out (by unfold backB; rw [hsb]; rfl))
                clear hsb
                go_wp2_with (go_at_call 49; refine (dn_special.calls c true _ HSPE.out).mono ?_; rintro e w' ⟨rfl, ⟨nq, rfl⟩⟩; have HTn := Aside0.mk (HT.out.drewN nq); clear HT; have HT := HTn; clear HTn)
                go_wp2_with fail
                refine (bwriteByte w.heap.size w.heap.size _ 92 _ HT.out.bld (by rw [byteCells_len, List.length_append]; have h1 := HMX.out; have h2 := HBL.out; rw [HEB.out, List.length_append] at h1; simp at h1; omega) HWQ.out).mono ?_
                rintro e w5 ⟨rfl, hB5, hb5, ho5⟩
                have HT5 := Aside0.mk (HT.out.step (bs' := Bs ++ escTo f1.data.toList m ++ [92]) hb5 (by rw [byteCells_append]; exact hB5) ho5 HRN.out)
                have HW5 := Lib.hid HT5.out.below.size
                clear hB5 hb5 ho5
                go_wp2_with fail
                refine (bwriteByte w.heap.size w.heap.size _ c _ HT5.out.bld (by rw [byteCells_len, List.length_append, List.length_append]; have h1 := HMX.out; have h2 := HBL.out; rw [HEB.out, List.length_append] at h1; simp at h1 ⊢; omega) HW5.out).mono ?_
                rintro e w6 ⟨rfl, hB6, hb6, ho6⟩
                have HT6 := Aside0.mk (HT5.out.step (bs' := Bs ++ escTo f1.data.toList (m + 1)) hb6 (by rw [HEB.out, show Bs ++ (escTo f1.data.toList m ++ [92, u]) = (Bs ++ escTo f1.data.toList m ++ [92]) ++ [u] by simp, byteCells_append]; rw [← HCU.out] at hB6; exact hB6) ho6 HRN.out)
                clear hB6 hb6 ho6
                go_wp2_with fail
                exact ⟨⟨m + 1, by omega, by go_num, HT6⟩, by simp [intOf]; omega⟩
              | false =>
                rw [hsb] at HSPE
                have hu35 : (u = 35) ↔ (c = 35) := by rw [← HCU.out]; exact (u8_35 u).symm
                have hu32 : (u = 32) ↔ (c = 32) := by rw [← HCU.out]; exact (u8_32 u).symm
                have hbk : backB f1.size m u = ((decide (m = 0) && (decide (c = 35) || decide (c = 32))) || (decide (m + 1 = f1.size) && decide (c = 32))) := by
                  unfold backB; rw [hsb, Bool.false_or, decide_eq_decide.2 hu35, decide_eq_decide.2 hu32]
                have HBK := Lib.hid hbk
                clear hbk hu35 hu32 hsb
                have bb1 : ((f1.size : Int) - 1 == (m : Int)) = decide (m + 1 = f1.size) := by
                  rw [Bool.eq_iff_iff, beq_iff_eq, decide_eq_true_iff]; omega
                have bb2 : ((m : Int) == (f1.size : Int) - 1) = decide (m + 1 = f1.size) := by
                  rw [Bool.eq_iff_iff, beq_iff_eq, decide_eq_true_iff]; omega
                by_cases q1 : m = 0
                · have e1 := decide_eq_true q1
                  have b1 : ((m : Int) == 0) = true := beq_iff_eq.2 (by omega)
                  by_cases q3 : c = 32
                  · have e3 := decide_eq_true q3
                    have b3 : (c == 32) = true := beq_iff_eq.2 q3
                    by_cases q2 : c = 35
                    · omega
                    · have e2 := decide_eq_false q2
                      have b2 : (c == 35) = false := beq_eq_false_iff_ne.2 q2
                      by_cases q4 : m + 1 = f1.size
                      · have e4 := decide_eq_true q4
                        rw [e4] at bb1 bb2
                        have HEB := Lib.hid (HB2.out (by rw [HBK.out, e1, e2, e3, e4]; rfl))
                        clear e1 e2 e3 e4 q1 q2 q3 q4
                        go_wp2_with (go_at_call 49; refine (dn_special.calls c false _ HSPE.out).mono ?_; rintro e w' ⟨rfl, ⟨nq, rfl⟩⟩; have HTn := Aside0.mk (HT.out.drewN nq); clear HT; have HT := HTn; clear HTn)
                        go_wp2_with fail
                        refine (bwriteByte w.heap.size w.heap.size _ 92 _ HT.out.bld (by rw [byteCells_len, List.length_append]; have h1 := HMX.out; have h2 := HBL.out; rw [HEB.out, List.length_append] at h1; simp at h1; omega) HWQ.out).mono ?_
                        rintro e w5 ⟨rfl, hB5, hb5, ho5⟩
                        have HT5 := Aside0.mk (HT.out.step (bs' := Bs ++ escTo f1.data.toList m ++ [92]) hb5 (by rw [byteCells_append]; exact hB5) ho5 HRN.out)
                        have HW5 := Lib.hid HT5.out.below.size
                        clear hB5 hb5 ho5
                        go_wp2_with fail
                        refine (bwriteByte w.heap.size w.heap.size _ c _ HT5.out.bld (by rw [byteCells_len, List.length_append, List.length_append]; have h1 := HMX.out; have h2 := HBL.out; rw [HEB.out, List.length_append] at h1; simp at h1 ⊢; omega) HW5.out).mono ?_
                        rintro e w6 ⟨rfl, hB6, hb6, ho6⟩
                        have HT6 := Aside0.mk (HT5.out.step (bs' := Bs ++ escTo f1.data.toList (m + 1)) hb6 (by rw [HEB.out, show Bs ++ (escTo f1.data.toList m ++ [92, u]) = (Bs ++ escTo f1.data.toList m ++ [92]) ++ [u] by simp, byteCells_append]; rw [← HCU.out] at hB6; exact hB6) ho6 HRN.out)
                        clear hB6 hb6 ho6
                        go_wp2_with fail
                        exact ⟨⟨m + 1, by omega, by go_num, HT6⟩, by simp [intOf]; omega⟩
                      · have e4 := decide_eq_false q4
                        rw [e4] at bb1 bb2
                        have HEB := Lib.hid (HB2.out (by rw [HBK.out, e1, e2, e3, e4]; rfl))
                        clear e1 e2 e3 e4 q1 q2 q3 q4
                        go_wp2_with (go_at_call 49; refine (dn_special.calls c false _ HSPE.out).mono ?_; rintro e w' ⟨rfl, ⟨nq, rfl⟩⟩; have HTn := Aside0.mk (HT.out.drewN nq); clear HT; have HT := HTn; clear HTn)
                        go_wp2_with fail
                        refine (bwriteByte w.heap.size w.heap.size _ 92 _ HT.out.bld (by rw [byteCells_len, List.length_append]; have h1 := HMX.out; have h2 := HBL.out; rw [HEB.out, List.length_append] at h1; simp at h1; omega) HWQ.out).mono ?_
                        rintro e w5 ⟨rfl, hB5, hb5, ho5⟩
                        have HT5 := Aside0.mk (HT.out.step (bs' := Bs ++ escTo f1.data.toList m ++ [92]) hb5 (by rw [byteCells_append]; exact hB5) ho5 HRN.out)
                        have HW5 := Lib.hid HT5.out.below.size
                        clear hB5 hb5 ho5
                        go_wp2_with fail
                        refine (bwriteByte w.heap.size w.heap.size _ c _ HT5.out.bld (by rw [byteCells_len, List.length_append, List.length_append]; have h1 := HMX.out; have h2 := HBL.out; rw [HEB.out, List.length_append] at h1; simp at h1 ⊢; omega) HW5.out).mono ?_
                        rintro e w6 ⟨rfl, hB6, hb6, ho6⟩
                        have HT6 := Aside0.mk (HT5.out.step (bs' := Bs ++ escTo f1.data.toList (m + 1)) hb6 (by rw [HEB.out, show Bs ++ (escTo f1.data.toList m ++ [92, u]) = (Bs ++ escTo f1.data.toList m ++ [92]) ++ [u] by simp, byteCells_append]; rw [← HCU.out] at hB6; exact hB6) ho6 HRN.out)
                        clear hB6 hb6 ho6
                        go_wp2_with fail
                        exact ⟨⟨m + 1, by omega, by go_num, HT6⟩, by simp [intOf]; omega⟩
                  · have e3 := decide_eq_false q3
                    have b3 : (c == 32) = false := beq_eq_false_iff_ne.2 q3
                    by_cases q2 : c = 35
                    · have e2 := decide_eq_true q2
                      have b2 : (c == 35) = true := beq_iff_eq.2 q2
                      by_cases q4 : m + 1 = f1.size
                      · have e4 := decide_eq_true q4
                        rw [e4] at bb1 bb2
                        have HEB := Lib.hid (HB2.out (by rw [HBK.out, e1, e2, e3, e4]; rfl))
                        clear e1 e2 e3 e4 q1 q2 q3 q4
                        go_wp2_with (go_at_call 49; refine (dn_special.calls c false _ HSPE.out).mono ?_; rintro e w' ⟨rfl, ⟨nq, rfl⟩⟩; have HTn := Aside0.mk (HT.out.drewN nq); clear HT; have HT := HTn; clear HTn)
                        go_wp2_with fail
                        refine (bwriteByte w.heap.size w.heap.size _ 92 _ HT.out.bld (by rw [byteCells_len, List.length_append]; have h1 := HMX.out; have h2 := HBL.out; rw [HEB.out, List.length_append] at h1; simp at h1; omega) HWQ.out).mono ?_
                        rintro e w5 ⟨rfl, hB5, hb5, ho5⟩
                        have HT5 := Aside0.mk (HT.out.step (bs' := Bs ++ escTo f1.data.toList m ++ [92]) hb5 (by rw [byteCells_append]; exact hB5) ho5 HRN.out)
                        have HW5 := Lib.hid HT5.out.below.size
                        clear hB5 hb5 ho5
                        go_wp2_with fail
                        refine (bwriteByte w.heap.size w.heap.size _ c _ HT5.out.bld (by rw [byteCells_len, List.length_append, List.length_append]; have h1 := HMX.out; have h2 := HBL.out; rw [HEB.out, List.length_append] at h1; simp at h1 ⊢; omega) HW5.out).mono ?_
                        rintro e w6 ⟨rfl, hB6, hb6, ho6⟩
                        have HT6 := Aside0.mk (HT5.out.step (bs' := Bs ++ escTo f1.data.toList (m + 1)) hb6 (by rw [HEB.out, show Bs ++ (escTo f1.data.toList m ++ [92, u]) = (Bs ++ escTo f1.data.toList m ++ [92]) ++ [u] by simp, byteCells_append]; rw [← HCU.out] at hB6; exact hB6) ho6 HRN.out)
                        clear hB6 hb6 ho6
                        go_wp2_with fail
                        exact ⟨⟨m + 1, by omega, by go_num, HT6⟩, by simp [intOf]; omega⟩
                      · have e4 := decide_eq_false q4
                        rw [e4] at bb1 bb2
                        have HEB := Lib.hid (HB2.out (by rw [HBK.out, e1, e2, e3, e4]; rfl))
                        clear e1 e2 e3 e4 q1 q2 q3 q4
                        go_wp2_with (go_at_call 49; refine (dn_special.calls c false _ HSPE.out).mono ?_; rintro e w' ⟨rfl, ⟨nq, rfl⟩⟩; have HTn := Aside0.mk (HT.out.drewN nq); clear HT; have HT := HTn; clear HTn)
                        go_wp2_with fail
                        refine (bwriteByte w.heap.size w.heap.size _ 92 _ HT.out.bld (by rw [byteCells_len, List.length_append]; have h1 := HMX.out; have h2 := HBL.out; rw [HEB.out, List.length_append] at h1; simp at h1; omega) HWQ.out).mono ?_
                        rintro e w5 ⟨rfl, hB5, hb5, ho5⟩
                        have HT5 := Aside0.mk (HT.out.step (bs' := Bs ++ escTo f1.data.toList m ++ [92]) hb5 (by rw [byteCells_append]; exact hB5) ho5 HRN.out)
                        have HW5 := Lib.hid HT5.out.below.size
                        clear hB5 hb5 ho5
                        go_wp2_with fail
                        refine (bwriteByte w.heap.size w.heap.size _ c _ HT5.out.bld (by rw [byteCells_len, List.length_append, List.length_append]; have h1 := HMX.out; have h2 := HBL.out; rw [HEB.out, List.length_append] at h1; simp at h1 ⊢; omega) HW5.out).mono ?_
                        rintro e w6 ⟨rfl, hB6, hb6, ho6⟩
                        have HT6 := Aside0.mk (HT5.out.step (bs' := Bs ++ escTo f1.data.toList (m + 1)) hb6 (by rw [HEB.out, show Bs ++ (escTo f1.data.toList m ++ [92, u]) = (Bs ++ escTo f1.data.toList m ++ [92]) ++ [u] by simp, byteCells_append]; rw [← HCU.out] at hB6; exact hB6) ho6 HRN.out)
                        clear hB6 hb6 ho6
                        go_wp2_with fail
                        exact ⟨⟨m + 1, by omega, by go_num, HT6⟩, by simp [intOf]; omega⟩
                    · have e2 := decide_eq_false q2
                      have b2 : (c == 35) = false := beq_eq_false_iff_ne.2 q2
                      by_cases q4 : m + 1 = f1.size
                      · have e4 := decide_eq_true q4
                        rw [e4] at bb1 bb2
                        have HEB := Lib.hid (HB1.out (by rw [HBK.out, e1, e2, e3, e4]; rfl))
                        clear e1 e2 e3 e4 q1 q2 q3 q4
                        go_wp2_with (go_at_call 49; refine (dn_special.calls c false _ HSPE.out).mono ?_; rintro e w' ⟨rfl, ⟨nq, rfl⟩⟩; have HTn := Aside0.mk (HT.out.drewN nq); clear HT; have HT := HTn; clear HTn)
                        go_wp2_with fail
                        refine (bwriteByte w.heap.size w.heap.size _ c _ HT.out.bld (by rw [byteCells_len, List.length_append]; have h1 := HMX.out; have h2 := HBL.out; rw [HEB.out, List.length_append] at h1; simp at h1; omega) HWQ.out).mono ?_
                        rintro e w6 ⟨rfl, hB6, hb6, ho6⟩
                        have HT6 := Aside0.mk (HT.out.step (bs' := Bs ++ escTo f1.data.toList (m + 1)) hb6 (by rw [HEB.out, ← List.append_assoc, byteCells_append]; rw [← HCU.out] at hB6; exact hB6) ho6 HRN.out)
                        clear hB6 hb6 ho6
                        go_wp2_with fail
                        exact ⟨⟨m + 1, by omega, by go_num, HT6⟩, by simp [intOf]; omega⟩
                      · have e4 := decide_eq_false q4
                        rw [e4] at bb1 bb2
                        have HEB := Lib.hid (HB1.out (by rw [HBK.out, e1, e2, e3, e4]; rfl))
                        clear e1 e2 e3 e4 q1 q2 q3 q4
                        go_wp2_with (go_at_call 49; refine (dn_special.calls c false _ HSPE.out).mono ?_; rintro e w' ⟨rfl, ⟨nq, rfl⟩⟩; have HTn := Aside0.mk (HT.out.drewN nq); clear HT; have HT := HTn; clear HTn)
                        go_wp2_with fail
                        refine (bwriteByte w.heap.size w.heap.size _ c _ HT.out.bld (by rw [byteCells_len, List.length_append]; have h1 := HMX.out; have h2 := HBL.out; rw [HEB.out, List.length_append] at h1; simp at h1; omega) HWQ.out).mono ?_
                        rintro e w6 ⟨rfl, hB6, hb6, ho6⟩
                        have HT6 := Aside0.mk (HT.out.step (bs' := Bs ++ escTo f1.data.toList (m + 1)) hb6 (by rw [HEB.out, ← List.append_assoc, byteCells_append]; rw [← HCU.out] at hB6; exact hB6) ho6 HRN.out)
                        clear hB6 hb6 ho6
                        go_wp2_with fail
                        exact ⟨⟨m + 1, by omega, by go_num, HT6⟩, by simp [intOf]; omega⟩
                · have e1 := decide_eq_false q1
                  have b1 : ((m : Int) == 0) = false := beq_eq_false_iff_ne.2 (by omega)
                  by_cases q3 : c = 32
                  · have e3 := decide_eq_true q3
                    have b3 : (c == 32) = true := beq_iff_eq.2 q3
                    by_cases q2 : c = 35
                    · omega
                    · have e2 := decide_eq_false q2
                      have b2 : (c == 35) = false := beq_eq_false_iff_ne.2 q2
                      by_cases q4 : m + 1 = f1.size
                      · have e4 := decide_eq_true q4
                        rw [e4] at bb1 bb2
                        have HEB := Lib.hid (HB2.out (by rw [HBK.out, e1, e2, e3, e4]; rfl))
                        clear e1 e2 e3 e4 q1 q2 q3 q4
                        go_wp2_with (go_at_call 49; refine (dn_special.calls c false _ HSPE.out).mono ?_; rintro e w' ⟨rfl, ⟨nq, rfl⟩⟩; have HTn := Aside0.mk (HT.out.drewN nq); clear HT; have HT := HTn; clear HTn)
                        go_wp2_with fail
                        refine (bwriteByte w.heap.size w.heap.size _ 92 _ HT.out.bld (by rw [byteCells_len, List.length_append]; have h1 := HMX.out; have h2 := HBL.out; rw [HEB.out, List.length_append] at h1; simp at h1; omega) HWQ.out).mono ?_
                        rintro e w5 ⟨rfl, hB5, hb5, ho5⟩
                        have HT5 := Aside0.mk (HT.out.step (bs' := Bs ++ escTo f1.data.toList m ++ [92]) hb5 (by rw [byteCells_append]; exact hB5) ho5 HRN.out)
                        have HW5 := Lib.hid HT5.out.below.size
                        clear hB5 hb5 ho5
                        go_wp2_with fail
                        refine (bwriteByte w.heap.size w.heap.size _ c _ HT5.out.bld (by rw [byteCells_len, List.length_append, List.length_append]; have h1 := HMX.out; have h2 := HBL.out; rw [HEB.out, List.length_append] at h1; simp at h1 ⊢; omega) HW5.out).mono ?_
                        rintro e w6 ⟨rfl, hB6, hb6, ho6⟩
                        have HT6 := Aside0.mk (HT5.out.step (bs' := Bs ++ escTo f1.data.toList (m + 1)) hb6 (by rw [HEB.out, show Bs ++ (escTo f1.data.toList m ++ [92, u]) = (Bs ++ escTo f1.data.toList m ++ [92]) ++ [u] by simp, byteCells_append]; rw [← HCU.out] at hB6; exact hB6) ho6 HRN.out)
                        clear hB6 hb6 ho6
                        go_wp2_with fail
                        exact ⟨⟨m + 1, by omega, by go_num, HT6⟩, by simp [intOf]; omega⟩
                      · have e4 := decide_eq_false q4
                        rw [e4] at bb1 bb2
                        have HEB := Lib.hid (HB1.out (by rw [HBK.out, e1, e2, e3, e4]; rfl))
                        clear e1 e2 e3 e4 q1 q2 q3 q4
                        go_wp2_with (go_at_call 49; refine (dn_special.calls c false _ HSPE.out).mono ?_; rintro e w' ⟨rfl, ⟨nq, rfl⟩⟩; have HTn := Aside0.mk (HT.out.drewN nq); clear HT; have HT := HTn; clear HTn)
                        go_wp2_with fail
                        refine (bwriteByte w.heap.size w.heap.size _ c _ HT.out.bld (by rw [byteCells_len, List.length_append]; have h1 := HMX.out; have h2 := HBL.out; rw [HEB.out, List.length_append] at h1; simp at h1; omega) HWQ.out).mono ?_
                        rintro e w6 ⟨rfl, hB6, hb6, ho6⟩
                        have HT6 := Aside0.mk (HT.out.step (bs' := Bs ++ escTo f1.data.toList (m + 1)) hb6 (by rw [HEB.out, ← List.append_assoc, byteCells_append]; rw [← HCU.out] at hB6; exact hB6) ho6 HRN.out)
                        clear hB6 hb6 ho6
                        go_wp2_with fail
                        exact ⟨⟨m + 1, by omega, by go_num, HT6⟩, by simp [intOf]; omega⟩
                  · have e3 := decide_eq_false q3
                    have b3 : (c == 32) = false := beq_eq_false_iff_ne.2 q3
                    by_cases q2 : c = 35
                    · have e2 := decide_eq_true q2
                      have b2 : (c == 35) = true := beq_iff_eq.2 q2
                      by_cases q4 : m + 1 = f1.size
                      · have e4 := decide_eq_true q4
                        rw [e4] at bb1 bb2
                        have HEB := Lib.hid (HB1.out (by rw [HBK.out, e1, e2, e3, e4]; rfl))
                        clear e1 e2 e3 e4 q1 q2 q3 q4
                        go_wp2_with (go_at_call 49; refine (dn_special.calls c false _ HSPE.out).mono ?_; rintro e w' ⟨rfl, ⟨nq, rfl⟩⟩; have HTn := Aside0.mk (HT.out.drewN nq); clear HT; have HT := HTn; clear HTn)
                        go_wp2_with fail
                        refine (bwriteByte w.heap.size w.heap.size _ c _ HT.out.bld (by rw [byteCells_len, List.length_append]; have h1 := HMX.out; have h2 := HBL.out; rw [HEB.out, List.length_append] at h1; simp at h1; omega) HWQ.out).mono ?_
                        rintro e w6 ⟨rfl, hB6, hb6, ho6⟩
                        have HT6 := Aside0.mk (HT.out.step (bs' := Bs ++ escTo f1.data.toList (m + 1)) hb6 (by rw [HEB.out, ← List.append_assoc, byteCells_append]; rw [← HCU.out] at hB6; exact hB6) ho6 HRN.out)
                        clear hB6 hb6 ho6
                        go_wp2_with fail
                        exact ⟨⟨m + 1, by omega, by go_num, HT6⟩, by simp [intOf]; omega⟩
                      · have e4 := decide_eq_false q4
                        rw [e4] at bb1 bb2
                        have HEB := Lib.hid (HB1.out (by rw [HBK.out, e1, e2, e3, e4]; rfl))
                        clear e1 e2 e3 e4 q1 q2 q3 q4
                        go_wp2_with (go_at_call 49; refine (dn_special.calls c false _ HSPE.out).mono ?_; rintro e w' ⟨rfl, ⟨nq, rfl⟩⟩; have HTn := Aside0.mk (HT.out.drewN nq); clear HT; have HT := HTn; clear HTn)
                        go_wp2_with fail
                        refine (bwriteByte w.heap.size w.heap.size _ c _ HT.out.bld (by rw [byteCells_len, List.length_append]; have h1 := HMX.out; have h2 := HBL.out; rw [HEB.out, List.length_append] at h1; simp at h1; omega) HWQ.out).mono ?_
                        rintro e w6 ⟨rfl, hB6, hb6, ho6⟩
                        have HT6 := Aside0.mk (HT.out.step (bs' := Bs ++ escTo f1.data.toList (m + 1)) hb6 (by rw [HEB.out, ← List.append_assoc, byteCells_append]; rw [← HCU.out] at hB6; exact hB6) ho6 HRN.out)
                        clear hB6 hb6 ho6
                        go_wp2_with fail
                        exact ⟨⟨m + 1, by omega, by go_num, HT6⟩, by simp [intOf]; omega⟩
                    · have e2 := decide_eq_false q2
                      have b2 : (c == 35) = false := beq_eq_false_iff_ne.2 q2
                      by_cases q4 : m + 1 = f1.size
                      · have e4 := decide_eq_true q4
                        rw [e4] at bb1 bb2
                        have HEB := Lib.hid (HB1.out (by rw [HBK.out, e1, e2, e3, e4]; rfl))
                        clear e1 e2 e3 e4 q1 q2 q3 q4
                        go_wp2_with (go_at_call 49; refine (dn_special.calls c false _ HSPE.out).mono ?_; rintro e w' ⟨rfl, ⟨nq, rfl⟩⟩; have HTn := Aside0.mk (HT.out.drewN nq); clear HT; have HT := HTn; clear HTn)
                        go_wp2_with fail
                        refine (bwriteByte w.heap.size w.heap.size _ c _ HT.out.bld (by rw [byteCells_len, List.length_append]; have h1 := HMX.out; have h2 := HBL.out; rw [HEB.out, List.length_append] at h1; simp at h1; omega) HWQ.out).mono ?_
                        rintro e w6 ⟨rfl, hB6, hb6, ho6⟩
                        have HT6 := Aside0.mk (HT.out.step (bs' := Bs ++ escTo f1.data.toList (m + 1)) hb6 (by rw [HEB.out, ← List.append_assoc, byteCells_append]; rw [← HCU.out] at hB6; exact hB6) ho6 HRN.out)
                        clear hB6 hb6 ho6
                        go_wp2_with fail
                        exact ⟨⟨m + 1, by omega, by go_num, HT6⟩, by simp [intOf]; omega⟩
                      · have e4 := decide_eq_false q4
                        rw [e4] at bb1 bb2
                        have HEB := Lib.hid (HB1.out (by rw [HBK.out, e1, e2, e3, e4]; rfl))
                        clear e1 e2 e3 e4 q1 q2 q3 q4
                        go_wp2_with (go_at_call 49; refine (dn_special.calls c false _ HSPE.out).mono ?_; rintro e w' ⟨rfl, ⟨nq, rfl⟩⟩; have HTn := Aside0.mk (HT.out.drewN nq); clear HT; have HT := HTn; clear HTn)
                        go_wp2_with fail
                        refine (bwriteByte w.heap.size w.heap.size _ c _ HT.out.bld (by rw [byteCells_len, List.length_append]; have h1 := HMX.out; have h2 := HBL.out; rw [HEB.out, List.length_append] at h1; simp at h1; omega) HWQ.out).mono ?_
                        rintro e w6 ⟨rfl, hB6, hb6, ho6⟩
                        have HT6 := Aside0.mk (HT.out.step (bs' := Bs ++ escTo f1.data.toList (m + 1)) hb6 (by rw [HEB.out, ← List.append_assoc, byteCells_append]; rw [← HCU.out] at hB6; exact hB6) ho6 HRN.out)
                        clear hB6 hb6 ho6
                        go_wp2_with fail
                        exact ⟨⟨m + 1, by omega, by go_num, HT6⟩, by simp [intOf]; omega⟩
          · have hge : ¬ (m : Int) < (f1.size : Int) := by omega
            have hme : m = f1.data.toList.length := by rw [← size_len]; omega
            have HME := Lib.hid hme
            clear hme
            have hlt2 : w.heap.size < wr.heap.size := by rcases HT.out.bld with h | h <;> exact h.lt
            have HL2 := Lib.hid hlt2
            clear hlt2
            go_wp2
            refine ⟨⟨k + 1, by omega, by go_num, ⟨HT.out.below⟩, ⟨HL2.out⟩, ⟨?_⟩⟩, by simp [intOf]; omega⟩
            rw [HSUC.out]
            have hfin := HT.out.bld
            rw [HME.out] at hfin
            exact hfin
      · have d0 : decide (0 < k) = false := decide_eq_false hk0
        have hsep : textTo l0 k ++ sepB k = textTo l0 k := by unfold sepB; rw [if_pos (by omega)]; simp
        have HT : Aside0 (TW w (wo.alloc (.cells #[.string f0, .string f1] 53)) wo.heap.size f0 f1 (textTo l0 k ++ sepB k)) := by rw [hsep]; exact HT0
        clear hsep HT0 HWL
        have hc20 := HT.out.c0
        have HWS := Lib.hid HT.out.below.size
        go_wp2_with fail
        refine (bwriteString w.heap.size w.heap.size _ f0 _ HT.out.bld (by rw [byteCells_len]; have := HF0B.out; omega) HWS.out).mono ?_
        rintro e w3 ⟨rfl, hB3, hb3, ho3⟩
        have HT3 := Aside0.mk (HT.out.step (bs' := textTo l0 k ++ sepB k ++ f0.data.toList) hb3 (by rw [byteCells_append]; exact hB3) ho3 HRN.out)
        clear hB3 hb3 ho3 HT hc20 HWS
        have HWS := Lib.hid HT3.out.below.size
        go_wp2_with fail
        refine (bwriteByte w.heap.size w.heap.size _ 61 _ HT3.out.bld (by rw [byteCells_len, List.length_append, ← size_len]; have := HF0B.out; omega) HWS.out).mono ?_
        rintro e w4 ⟨rfl, hB4, hb4, ho4⟩
        have HT4 := Aside0.mk (HT3.out.step (bs' := Bs) hb4 (by rw [← HBS.out, byteCells_append]; exact hB4) ho4 HRN.out)
        clear hB4 hb4 ho4 HT3 HWS
        have hc41 := HT4.out.c1
        go_wp2_with fail
        go_loopw [25] (fun j wq => ∃ m : Nat, m ≤ f1.size ∧ j = .int .i64 m ∧ Aside0 (TW w wq wo.heap.size f0 f1 (Bs ++ escTo f1.data.toList m))) (fun j _ => f1.size - (intOf j).toNat)
        case atStart => exact ⟨0, Nat.zero_le _, rfl, ⟨by rw [show escTo f1.data.toList 0 = [] from rfl, List.append_nil]; exact HT4.out⟩⟩
        case round =>
          clear hc41 HT4
          obtain ⟨m, hm, rfl, HT⟩ := hrel
          have hcq := HT.out.c1
          have HWQ := Lib.hid HT.out.below.size
          by_cases hlm : m < f1.size
          · have hum := bt_nat f1 m
            have hes := escTo_succ f1.data.toList m
            have hmx := escTo_max f1.data.toList (m + 1) (by rw [← size_len]; omega)
            obtain ⟨u, hu⟩ : ∃ u : UInt8, f1.data.toList.getD m 0 = u := ⟨_, rfl⟩
            rw [hu] at hum hes
            rw [← size_len] at hes
            have hbx : ∀ h : m < f1.size, ((f1[m]'h).toNat : Int) = bt f1 (m : Int) := fun h => by
              have := bt_at f1 (m : Int) (by rw [Int.toNat_natCast]; exact h)
              simpa using this
            have hsp := dn_special_eq u
            rw [hum] at hbx
            obtain ⟨c, hcu⟩ : ∃ c : Int, (u.toNat : Int) = c := ⟨_, rfl⟩
            rw [hcu] at hbx hsp
            have hc0' : 0 ≤ c := by omega
            have hc1' : c ≤ 255 := by have := u.toNat_lt; omega
            have HSPE := Lib.hid hsp
            have HES := Lib.hid hes
            have HMX := Lib.hid hmx
            have HCU := Lib.hid hcu
            clear hum hu hsp hes hmx hcu
            have hesc : ∀ o b : Bool, oddB u = o → backB f1.size m u = b → escTo f1.data.toList (m + 1) = escTo f1.data.toList m ++ (if o = true then [92, hexD (u >>> 4), hexD (u &&& 15)] else if b = true then [92, u] else [u]) := by
              intro o b ho hb
              rw [HES.out]; unfold escB; rw [ho, hb]
            have HESC := Lib.hid hesc
            clear hesc
            by_cases h32 : c < 32 ∨ 126 < c
            · have hodd : oddB u = true := by
                unfold oddB
                have := HCU.out
                rcases h32 with h | h
                · rw [decide_eq_true (show u < 32 from by rw [UInt8.lt_iff_toNat_lt]; show u.toNat < 32; omega)]; rfl
                · rw [decide_eq_true (show 126 < u from by rw [UInt8.lt_iff_toNat_lt]; show 126 < u.toNat; omega), Bool.or_true]
              have hEB := HESC.out true _ hodd rfl
              rw [if_pos rfl] at hEB
              have HEB := Lib.hid hEB
              clear hEB hodd
              have hb32 : (∃ x, decide (c < 32) = x) := ⟨_, rfl⟩
              rcases Classical.em (c < 32) with h1 | h1
              · have d1 : decide (c < 32) = true := decide_eq_true h1
                clear h32
                have hx1 := hex_hi u
                have hx2 := hex_lo u
                have hr1 : 0 ≤ c / 16 ∧ c / 16 < 16 := by omega
                have hr2 := and15 u
                rw [HCU.out] at hx1 hx2 hr2
                obtain ⟨v1, hv1⟩ : ∃ v1 : Int, ((hexD (u >>> 4)).toNat : Int) = v1 := ⟨_, rfl⟩
                obtain ⟨v2, hv2⟩ : ∃ v2 : Int, ((hexD (u &&& 15)).toNat : Int) = v2 := ⟨_, rfl⟩
                rw [hv1] at hx1
                rw [hv2] at hx2
                have hi1 := hex_run (P := Tryd.prog) Tryd.underlying9 (c / 16) hr1.1 hr1.2
                have hi2 := hex_run (P := Tryd.prog) Tryd.underlying9 (Go.bits .and .u8 c 15) hr2.1 hr2.2
                rw [hx1] at hi1
                rw [hx2] at hi2
                have HV1 := Lib.hid hv1
                have HV2 := Lib.hid hv2
                clear hx1 hx2 hr1 hr2 hv1 hv2
                go_wp2_with fail
                go_still_tail 6, (by kernel_rfl)
                go_wp2_with fail
                have hTA : TW w (wr.alloc (.cells #[.int .u8 92, .int .u8 v1, .int .u8 v2] 5)).drew wo.heap.size f0 f1 (Bs ++ escTo f1.data.toList m) := (HT.out.alloc _).drewN 1
                have HTA := Aside0.mk hTA
                have hne : wr.heap.size ≠ w.heap.size := by
                  have : w.heap.size < wr.heap.size := by rcases HT.out.bld with h | h <;> exact h.lt
                  omega
                have HNE := Lib.hid hne
                have hcl : ∀ j, j < 3 → (wr.alloc (.cells #[.int .u8 92, .int .u8 v1, .int .u8 v2] 5)).drew.cell? ⟨wr.heap.size, j, none⟩ = some (.int .u8 (([92, v1, v2] : List Int).getD j 0)) := by
                  intro j hj
                  rcases j with _ | _ | _ | j
                  · simp
                  · simp
                  · simp
                  · omega
                have HCL := Lib.hid hcl
                have HWA := Lib.hid hTA.below.size
                clear hTA hne hcl
                refine (bwrite w.heap.size w.heap.size wr.heap.size 3 3 _ [92, v1, v2] rfl _ HTA.out.bld (by rw [byteCells_len, List.length_append]; have h1 := HMX.out; have h2 := HBL.out; rw [HEB.out, List.length_append] at h1; simp at h1; omega) HWA.out HCL.out (by omega) HNE.out).mono ?_
                rintro e w6 ⟨rfl, hB6, hb6, ho6⟩
                have HT6 := Aside0.mk (HTA.out.step (bs' := Bs ++ escTo f1.data.toList (m + 1)) hb6 (by rw [HEB.out, ← List.append_assoc, byteCells_append]; rw [← HV1.out, ← HV2.out] at hB6; exact hB6) ho6 HRN.out)
                clear hB6 hb6 ho6 HTA HCL
                go_wp2_with fail
                exact ⟨⟨m + 1, by omega, by go_num, HT6⟩, by simp [intOf]; omega⟩
              · have d1 : decide (c < 32) = false := decide_eq_false h1
                have d2 : decide (126 < c) = true := decide_eq_true (by omega)
                clear h32
                have hx1 := hex_hi u
                have hx2 := hex_lo u
                have hr1 : 0 ≤ c / 16 ∧ c / 16 < 16 := by omega
                have hr2 := and15 u
                rw [HCU.out] at hx1 hx2 hr2
                obtain ⟨v1, hv1⟩ : ∃ v1 : Int, ((hexD (u >>> 4)).toNat : Int) = v1 := ⟨_, rfl⟩
                obtain ⟨v2, hv2⟩ : ∃ v2 : Int, ((hexD (u &&& 15)).toNat : Int) = v2 := ⟨_, rfl⟩
                rw [hv1] at hx1
                rw [hv2] at hx2
                have hi1 := hex_run (P := Tryd.prog) Tryd.underlying9 (c / 16) hr1.1 hr1.2
                have hi2 := hex_run (P := Tryd.prog) Tryd.underlying9 (Go.bits .and .u8 c 15) hr2.1 hr2.2
                rw [hx1] at hi1
                rw [hx2] at hi2
                have HV1 := Lib.hid hv1
                have HV2 := Lib.hid hv2
                clear hx1 hx2 hr1 hr2 hv1 hv2
                go_wp2_with fail
                go_still_tail 6, (by kernel_rfl)
                go_wp2_with fail
                have hTA : TW w (wr.alloc (.cells #[.int .u8 92, .int .u8 v1, .int .u8 v2] 5)).drew wo.heap.size f0 f1 (Bs ++ escTo f1.data.toList m) := (HT.out.alloc _).drewN 1
                have HTA := Aside0.mk hTA
                have hne : wr.heap.size ≠ w.heap.size := by
                  have : w.heap.size < wr.heap.size := by rcases HT.out.bld with h | h <;> exact h.lt
                  omega
                have HNE := Lib.hid hne
                have hcl : ∀ j, j < 3 → (wr.alloc (.cells #[.int .u8 92, .int .u8 v1, .int .u8 v2] 5)).drew.cell? ⟨wr.heap.size, j, none⟩ = some (.int .u8 (([92, v1, v2] : List Int).getD j 0)) := by
                  intro j hj
                  rcases j with _ | _ | _ | j
                  · simp
                  · simp
                  · simp
                  · omega
                have HCL := Lib.hid hcl
                have HWA := Lib.hid hTA.below.size
                clear hTA hne hcl
                refine (bwrite w.heap.size w.heap.size wr.heap.size 3 3 _ [92, v1, v2] rfl _ HTA.out.bld (by rw [byteCells_len, List.length_append]; have h1 := HMX.out; have h2 := HBL.out; rw [HEB.out, List.length_append] at h1; simp at h1; omega) HWA.out HCL.out (by omega) HNE.out).mono ?_
                rintro e w6 ⟨rfl, hB6, hb6, ho6⟩
                have HT6 := Aside0.mk (HTA.out.step (bs' := Bs ++ escTo f1.data.toList (m + 1)) hb6 (by rw [HEB.out, ← List.append_assoc, byteCells_append]; rw [← HV1.out, ← HV2.out] at hB6; exact hB6) ho6 HRN.out)
                clear hB6 hb6 ho6 HTA HCL
                go_wp2_with fail
                exact ⟨⟨m + 1, by omega, by go_num, HT6⟩, by simp [intOf]; omega⟩
            · have h1 : ¬ c < 32 := fun h => h32 (.inl h)
              have h2 : ¬ 126 < c := fun h => h32 (.inr h)
              have hodd : oddB u = false := by
                unfold oddB
                have := HCU.out
                rw [decide_eq_false (show ¬ u < 32 from by rw [UInt8.lt_iff_toNat_lt]; show ¬ u.toNat < 32; omega), decide_eq_false (show ¬ 126 < u from by rw [UInt8.lt_iff_toNat_lt]; show ¬ 126 < u.toNat; omega)]; rfl
              have d1 : decide (c < 32) = false := decide_eq_false h1
              have d2 : decide (126 < c) = false := decide_eq_false h2
              have hEB2 := fun (h : backB f1.size m u = true) => HESC.out false true hodd h
              have hEB1 := fun (h : backB f1.size m u = false) => HESC.out false false hodd h
              rw [if_neg (by simp), if_pos rfl] at hEB2
              rw [if_neg (by simp), if_neg (by simp)] at hEB1
              have HB2 := Lib.hid hEB2
              have HB1 := Lib.hid hEB1
              clear hEB1 hEB2 hodd h32
              cases hsb : specialB u with
              | true =>
                rw [hsb] at HSPE
                have HEB := Lib.hid (HB2.out (by unfold backB; rw [hsb]; rfl))
                clear hsb
                go_wp2_with (go_at_call 49; refine (dn_special.calls c true _ HSPE.out).mono ?_; rintro e w' ⟨rfl, ⟨nq, rfl⟩⟩; have HTn := Aside0.mk (HT.out.drewN nq); clear HT; have HT := HTn; clear HTn)
                go_wp2_with fail
                refine (bwriteByte w.heap.size w.heap.size _ 92 _ HT.out.bld (by rw [byteCells_len, List.length_append]; have h1 := HMX.out; have h2 := HBL.out; rw [HEB.out, List.length_append] at h1; simp at h1; omega) HWQ.out).mono ?_
                rintro e w5 ⟨rfl, hB5, hb5, ho5⟩
                have HT5 := Aside0.mk (HT.out.step (bs' := Bs ++ escTo f1.data.toList m ++ [92]) hb5 (by rw [byteCells_append]; exact hB5) ho5 HRN.out)
                have HW5 := Lib.hid HT5.out.below.size
                clear hB5 hb5 ho5
                go_wp2_with fail
                refine (bwriteByte w.heap.size w.heap.size _ c _ HT5.out.bld (by rw [byteCells_len, List.length_append, List.length_append]; have h1 := HMX.out; have h2 := HBL.out; rw [HEB.out, List.length_append] at h1; simp at h1 ⊢; omega) HW5.out).mono ?_
                rintro e w6 ⟨rfl, hB6, hb6, ho6⟩
                have HT6 := Aside0.mk (HT5.out.step (bs' := Bs ++ escTo f1.data.toList (m + 1)) hb6 (by rw [HEB.out, show Bs ++ (escTo f1.data.toList m ++ [92, u]) = (Bs ++ escTo f1.data.toList m ++ [92]) ++ [u] by simp, byteCells_append]; rw [← HCU.out] at hB6; exact hB6) ho6 HRN.out)
                clear hB6 hb6 ho6
                go_wp2_with fail
                exact ⟨⟨m + 1, by omega, by go_num, HT6⟩, by simp [intOf]; omega⟩
              | false =>
                rw [hsb] at HSPE
                have hu35 : (u = 35) ↔ (c = 35) := by rw [← HCU.out]; exact (u8_35 u).symm
                have hu32 : (u = 32) ↔ (c = 32) := by rw [← HCU.out]; exact (u8_32 u).symm
                have hbk : backB f1.size m u = ((decide (m = 0) && (decide (c = 35) || decide (c = 32))) || (decide (m + 1 = f1.size) && decide (c = 32))) := by
                  unfold backB; rw [hsb, Bool.false_or, decide_eq_decide.2 hu35, decide_eq_decide.2 hu32]
                have HBK := Lib.hid hbk
                clear hbk hu35 hu32 hsb
                have bb1 : ((f1.size : Int) - 1 == (m : Int)) = decide (m + 1 = f1.size) := by
                  rw [Bool.eq_iff_iff, beq_iff_eq, decide_eq_true_iff]; omega
                have bb2 : ((m : Int) == (f1.size : Int) - 1) = decide (m + 1 = f1.size) := by
                  rw [Bool.eq_iff_iff, beq_iff_eq, decide_eq_true_iff]; omega
                by_cases q1 : m = 0
                · have e1 := decide_eq_true q1
                  have b1 : ((m : Int) == 0) = true := beq_iff_eq.2 (by omega)
                  by_cases q3 : c = 32
                  · have e3 := decide_eq_true q3
                    have b3 : (c == 32) = true := beq_iff_eq.2 q3
                    by_cases q2 : c = 35
                    · omega
                    · have e2 := decide_eq_false q2
                      have b2 : (c == 35) = false := beq_eq_false_iff_ne.2 q2
                      by_cases q4 : m + 1 = f1.size
                      · have e4 := decide_eq_true q4
                        rw [e4] at bb1 bb2
                        have HEB := Lib.hid (HB2.out (by rw [HBK.out, e1, e2, e3, e4]; rfl))
                        clear e1 e2 e3 e4 q1 q2 q3 q4
                        go_wp2_with (go_at_call 49; refine (dn_special.calls c false _ HSPE.out).mono ?_; rintro e w' ⟨rfl, ⟨nq, rfl⟩⟩; have HTn := Aside0.mk (HT.out.drewN nq); clear HT; have HT := HTn; clear HTn)
                        go_wp2_with fail
                        refine (bwriteByte w.heap.size w.heap.size _ 92 _ HT.out.bld (by rw [byteCells_len, List.length_append]; have h1 := HMX.out; have h2 := HBL.out; rw [HEB.out, List.length_append] at h1; simp at h1; omega) HWQ.out).mono ?_
                        rintro e w5 ⟨rfl, hB5, hb5, ho5⟩
                        have HT5 := Aside0.mk (HT.out.step (bs' := Bs ++ escTo f1.data.toList m ++ [92]) hb5 (by rw [byteCells_append]; exact hB5) ho5 HRN.out)
                        have HW5 := Lib.hid HT5.out.below.size
                        clear hB5 hb5 ho5
                        go_wp2_with fail
                        refine (bwriteByte w.heap.size w.heap.size _ c _ HT5.out.bld (by rw [byteCells_len, List.length_append, List.length_append]; have h1 := HMX.out; have h2 := HBL.out; rw [HEB.out, List.length_append] at h1; simp at h1 ⊢; omega) HW5.out).mono ?_
                        rintro e w6 ⟨rfl, hB6, hb6, ho6⟩
                        have HT6 := Aside0.mk (HT5.out.step (bs' := Bs ++ escTo f1.data.toList (m + 1)) hb6 (by rw [HEB.out, show Bs ++ (escTo f1.data.toList m ++ [92, u]) = (Bs ++ escTo f1.data.toList m ++ [92]) ++ [u] by simp, byteCells_append]; rw [← HCU.out] at hB6; exact hB6) ho6 HRN.out)
                        clear hB6 hb6 ho6
                        go_wp2_with fail
                        exact ⟨⟨m + 1, by omega, by go_num, HT6⟩, by simp [intOf]; omega⟩
                      · have e4 := decide_eq_false q4
                        rw [e4] at bb1 bb2
                        have HEB := Lib.hid (HB2.out (by rw [HBK.out, e1, e2, e3, e4]; rfl))
                        clear e1 e2 e3 e4 q1 q2 q3 q4
                        go_wp2_with (go_at_call 49; refine (dn_special.calls c false _ HSPE.out).mono ?_; rintro e w' ⟨rfl, ⟨nq, rfl⟩⟩; have HTn := Aside0.mk (HT.out.drewN nq); clear HT; have HT := HTn; clear HTn)
                        go_wp2_with fail
                        refine (bwriteByte w.heap.size w.heap.size _ 92 _ HT.out.bld (by rw [byteCells_len, List.length_append]; have h1 := HMX.out; have h2 := HBL.out; rw [HEB.out, List.length_append] at h1; simp at h1; omega) HWQ.out).mono ?_
                        rintro e w5 ⟨rfl, hB5, hb5, ho5⟩
                        have HT5 := Aside0.mk (HT.out.step (bs' := Bs ++ escTo f1.data.toList m ++ [92]) hb5 (by rw [byteCells_append]; exact hB5) ho5 HRN.out)
                        have HW5 := Lib.hid HT5.out.below.size
                        clear hB5 hb5 ho5
                        go_wp2_with fail
                        refine (bwriteByte w.heap.size w.heap.size _ c _ HT5.out.bld (by rw [byteCells_len, List.length_append, List.length_append]; have h1 := HMX.out; have h2 := HBL.out; rw [HEB.out, List.length_append] at h1; simp at h1 ⊢; omega) HW5.out).mono ?_
                        rintro e w6 ⟨rfl, hB6, hb6, ho6⟩
                        have HT6 := Aside0.mk (HT5.out.step (bs' := Bs ++ escTo f1.data.toList (m + 1)) hb6 (by rw [HEB.out, show Bs ++ (escTo f1.data.toList m ++ [92, u]) = (Bs ++ escTo f1.data.toList m ++ [92]) ++ [u] by simp, byteCells_append]; rw [← HCU.out] at hB6; exact hB6) ho6 HRN.out)
                        clear hB6 hb6 ho6
                        go_wp2_with fail
                        exact ⟨⟨m + 1, by omega, by go_num, HT6⟩, by simp [intOf]; omega⟩
                  · have e3 := decide_eq_false q3
                    have b3 : (c == 32) = false := beq_eq_false_iff_ne.2 q3
                    by_cases q2 : c = 35
                    · have e2 := decide_eq_true q2
                      have b2 : (c == 35) = true := beq_iff_eq.2 q2
                      by_cases q4 : m + 1 = f1.size
                      · have e4 := decide_eq_true q4
                        rw [e4] at bb1 bb2
                        have HEB := Lib.hid (HB2.out (by rw [HBK.out, e1, e2, e3, e4]; rfl))
                        clear e1 e2 e3 e4 q1 q2 q3 q4
                        go_wp2_with (go_at_call 49; refine (dn_special.calls c false _ HSPE.out).mono ?_; rintro e w' ⟨rfl, ⟨nq, rfl⟩⟩; have HTn := Aside0.mk (HT.out.drewN nq); clear HT; have HT := HTn; clear HTn)
                        go_wp2_with fail
                        refine (bwriteByte w.heap.size w.heap.size _ 92 _ HT.out.bld (by rw [byteCells_len, List.length_append]; have h1 := HMX.out; have h2 := HBL.out; rw [HEB.out, List.length_append] at h1; simp at h1; omega) HWQ.out).mono ?_
                        rintro e w5 ⟨rfl, hB5, hb5, ho5⟩
                        have HT5 := Aside0.mk (HT.out.step (bs' := Bs ++ escTo f1.data.toList m ++ [92]) hb5 (by rw [byteCells_append]; exact hB5) ho5 HRN.out)
                        have HW5 := Lib.hid HT5.out.below.size
                        clear hB5 hb5 ho5
                        go_wp2_with fail
                        refine (bwriteByte w.heap.size w.heap.size _ c _ HT5.out.bld (by rw [byteCells_len, List.length_append, List.length_append]; have h1 := HMX.out; have h2 := HBL.out; rw [HEB.out, List.length_append] at h1; simp at h1 ⊢; omega) HW5.out).mono ?_
                        rintro e w6 ⟨rfl, hB6, hb6, ho6⟩
                        have HT6 := Aside0.mk (HT5.out.step (bs' := Bs ++ escTo f1.data.toList (m + 1)) hb6 (by rw [HEB.out, show Bs ++ (escTo f1.data.toList m ++ [92, u]) = (Bs ++ escTo f1.data.toList m ++ [92]) ++ [u] by simp, byteCells_append]; rw [← HCU.out] at hB6; exact hB6) ho6 HRN.out)
                        clear hB6 hb6 ho6
                        go_wp2_with fail
                        exact ⟨⟨m + 1, by omega, by go_num, HT6⟩, by simp [intOf]; omega⟩
                      · have e4 := decide_eq_false q4
                        rw [e4] at bb1 bb2
                        have HEB := Lib.hid (HB2.out (by rw [HBK.out, e1, e2, e3, e4]; rfl))
                        clear e1 e2 e3 e4 q1 q2 q3 q4
                        go_wp2_with (go_at_call 49; refine (dn_special.calls c false _ HSPE.out).mono ?_; rintro e w' ⟨rfl, ⟨nq, rfl⟩⟩; have HTn := Aside0.mk (HT.out.drewN nq); clear HT; have HT := HTn; clear HTn)
                        go_wp2_with fail
                        refine (bwriteByte w.heap.size w.heap.size _ 92 _ HT.out.bld (by rw [byteCells_len, List.length_append]; have h1 := HMX.out; have h2 := HBL.out; rw [HEB.out, List.length_append] at h1; simp at h1; omega) HWQ.out).mono ?_
                        rintro e w5 ⟨rfl, hB5, hb5, ho5⟩
                        have HT5 := Aside0.mk (HT.out.step (bs' := Bs ++ escTo f1.data.toList m ++ [92]) hb5 (by rw [byteCells_append]; exact hB5) ho5 HRN.out)
                        have HW5 := Lib.hid HT5.out.below.size
                        clear hB5 hb5 ho5
                        go_wp2_with fail
                        refine (bwriteByte w.heap.size w.heap.size _ c _ HT5.out.bld (by rw [byteCells_len, List.length_append, List.length_append]; have h1 := HMX.out; have h2 := HBL.out; rw [HEB.out, List.length_append] at h1; simp at h1 ⊢; omega) HW5.out).mono ?_
                        rintro e w6 ⟨rfl, hB6, hb6, ho6⟩
                        have HT6 := Aside0.mk (HT5.out.step (bs' := Bs ++ escTo f1.data.toList (m + 1)) hb6 (by rw [HEB.out, show Bs ++ (escTo f1.data.toList m ++ [92, u]) = (Bs ++ escTo f1.data.toList m ++ [92]) ++ [u] by simp, byteCells_append]; rw [← HCU.out] at hB6; exact hB6) ho6 HRN.out)
                        clear hB6 hb6 ho6
                        go_wp2_with fail
                        exact ⟨⟨m + 1, by omega, by go_num, HT6⟩, by simp [intOf]; omega⟩
                    · have e2 := decide_eq_false q2
                      have b2 : (c == 35) = false := beq_eq_false_iff_ne.2 q2
                      by_cases q4 : m + 1 = f1.size
                      · have e4 := decide_eq_true q4
                        rw [e4] at bb1 bb2
                        have HEB := Lib.hid (HB1.out (by rw [HBK.out, e1, e2, e3, e4]; rfl))
                        clear e1 e2 e3 e4 q1 q2 q3 q4
                        go_wp2_with (go_at_call 49; refine (dn_special.calls c false _ HSPE.out).mono ?_; rintro e w' ⟨rfl, ⟨nq, rfl⟩⟩; have HTn := Aside0.mk (HT.out.drewN nq); clear HT; have HT := HTn; clear HTn)
                        go_wp2_with fail
                        refine (bwriteByte w.heap.size w.heap.size _ c _ HT.out.bld (by rw [byteCells_len, List.length_append]; have h1 := HMX.out; have h2 := HBL.out; rw [HEB.out, List.length_append] at h1; simp at h1; omega) HWQ.out).mono ?_
                        rintro e w6 ⟨rfl, hB6, hb6, ho6⟩
                        have HT6 := Aside0.mk (HT.out.step (bs' := Bs ++ escTo f1.data.toList (m + 1)) hb6 (by rw [HEB.out, ← List.append_assoc, byteCells_append]; rw [← HCU.out] at hB6; exact hB6) ho6 HRN.out)
                        clear hB6 hb6 ho6
                        go_wp2_with fail
                        exact ⟨⟨m + 1, by omega, by go_num, HT6⟩, by simp [intOf]; omega⟩
                      · have e4 := decide_eq_false q4
                        rw [e4] at bb1 bb2
                        have HEB := Lib.hid (HB1.out (by rw [HBK.out, e1, e2, e3, e4]; rfl))
                        clear e1 e2 e3 e4 q1 q2 q3 q4
                        go_wp2_with (go_at_call 49; refine (dn_special.calls c false _ HSPE.out).mono ?_; rintro e w' ⟨rfl, ⟨nq, rfl⟩⟩; have HTn := Aside0.mk (HT.out.drewN nq); clear HT; have HT := HTn; clear HTn)
                        go_wp2_with fail
                        refine (bwriteByte w.heap.size w.heap.size _ c _ HT.out.bld (by rw [byteCells_len, List.length_append]; have h1 := HMX.out; have h2 := HBL.out; rw [HEB.out, List.length_append] at h1; simp at h1; omega) HWQ.out).mono ?_
                        rintro e w6 ⟨rfl, hB6, hb6, ho6⟩
                        have HT6 := Aside0.mk (HT.out.step (bs' := Bs ++ escTo f1.data.toList (m + 1)) hb6 (by rw [HEB.out, ← List.append_assoc, byteCells_append]; rw [← HCU.out] at hB6; exact hB6) ho6 HRN.out)
                        clear hB6 hb6 ho6
                        go_wp2_with fail
                        exact ⟨⟨m + 1, by omega, by go_num, HT6⟩, by simp [intOf]; omega⟩
                · have e1 := decide_eq_false q1
                  have b1 : ((m : Int) == 0) = false := beq_eq_false_iff_ne.2 (by omega)
                  by_cases q3 : c = 32
                  · have e3 := decide_eq_true q3
                    have b3 : (c == 32) = true := beq_iff_eq.2 q3
                    by_cases q2 : c = 35
                    · omega
                    · have e2 := decide_eq_false q2
                      have b2 : (c == 35) = false := beq_eq_false_iff_ne.2 q2
                      by_cases q4 : m + 1 = f1.size
                      · have e4 := decide_eq_true q4
                        rw [e4] at bb1 bb2
                        have HEB := Lib.hid (HB2.out (by rw [HBK.out, e1, e2, e3, e4]; rfl))
                        clear e1 e2 e3 e4 q1 q2 q3 q4
                        go_wp2_with (go_at_call 49; refine (dn_special.calls c false _ HSPE.out).mono ?_; rintro e w' ⟨rfl, ⟨nq, rfl⟩⟩; have HTn := Aside0.mk (HT.out.drewN nq); clear HT; have HT := HTn; clear HTn)
                        go_wp2_with fail
                        refine (bwriteByte w.heap.size w.heap.size _ 92 _ HT.out.bld (by rw [byteCells_len, List.length_append]; have h1 := HMX.out; have h2 := HBL.out; rw [HEB.out, List.length_append] at h1; simp at h1; omega) HWQ.out).mono ?_
                        rintro e w5 ⟨rfl, hB5, hb5, ho5⟩
                        have HT5 := Aside0.mk (HT.out.step (bs' := Bs ++ escTo f1.data.toList m ++ [92]) hb5 (by rw [byteCells_append]; exact hB5) ho5 HRN.out)
                        have HW5 := Lib.hid HT5.out.below.size
                        clear hB5 hb5 ho5
                        go_wp2_with fail
                        refine (bwriteByte w.heap.size w.heap.size _ c _ HT5.out.bld (by rw [byteCells_len, List.length_append, List.length_append]; have h1 := HMX.out; have h2 := HBL.out; rw [HEB.out, List.length_append] at h1; simp at h1 ⊢; omega) HW5.out).mono ?_
                        rintro e w6 ⟨rfl, hB6, hb6, ho6⟩
                        have HT6 := Aside0.mk (HT5.out.step (bs' := Bs ++ escTo f1.data.toList (m + 1)) hb6 (by rw [HEB.out, show Bs ++ (escTo f1.data.toList m ++ [92, u]) = (Bs ++ escTo f1.data.toList m ++ [92]) ++ [u] by simp, byteCells_append]; rw [← HCU.out] at hB6; exact hB6) ho6 HRN.out)
                        clear hB6 hb6 ho6
                        go_wp2_with fail
                        exact ⟨⟨m + 1, by omega, by go_num, HT6⟩, by simp [intOf]; omega⟩
                      · have e4 := decide_eq_false q4
                        rw [e4] at bb1 bb2
                        have HEB := Lib.hid (HB1.out (by rw [HBK.out, e1, e2, e3, e4]; rfl))
                        clear e1 e2 e3 e4 q1 q2 q3 q4
                        go_wp2_with (go_at_call 49; refine (dn_special.calls c false _ HSPE.out).mono ?_; rintro e w' ⟨rfl, ⟨nq, rfl⟩⟩; have HTn := Aside0.mk (HT.out.drewN nq); clear HT; have HT := HTn; clear HTn)
                        go_wp2_with fail
                        refine (bwriteByte w.heap.size w.heap.size _ c _ HT.out.bld (by rw [byteCells_len, List.length_append]; have h1 := HMX.out; have h2 := HBL.out; rw [HEB.out, List.length_append] at h1; simp at h1; omega) HWQ.out).mono ?_
                        rintro e w6 ⟨rfl, hB6, hb6, ho6⟩
                        have HT6 := Aside0.mk (HT.out.step (bs' := Bs ++ escTo f1.data.toList (m + 1)) hb6 (by rw [HEB.out, ← List.append_assoc, byteCells_append]; rw [← HCU.out] at hB6; exact hB6) ho6 HRN.out)
                        clear hB6 hb6 ho6
                        go_wp2_with fail
                        exact ⟨⟨m + 1, by omega, by go_num, HT6⟩, by simp [intOf]; omega⟩
                  · have e3 := decide_eq_false q3
                    have b3 : (c == 32) = false := beq_eq_false_iff_ne.2 q3
                    by_cases q2 : c = 35
                    · have e2 := decide_eq_true q2
                      have b2 : (c == 35) = true := beq_iff_eq.2 q2
                      by_cases q4 : m + 1 = f1.size
                      · have e4 := decide_eq_true q4
                        rw [e4] at bb1 bb2
                        have HEB := Lib.hid (HB1.out (by rw [HBK.out, e1, e2, e3, e4]; rfl))
                        clear e1 e2 e3 e4 q1 q2 q3 q4
                        go_wp2_with (go_at_call 49; refine (dn_special.calls c false _ HSPE.out).mono ?_; rintro e w' ⟨rfl, ⟨nq, rfl⟩⟩; have HTn := Aside0.mk (HT.out.drewN nq); clear HT; have HT := HTn; clear HTn)
                        go_wp2_with fail
                        refine (bwriteByte w.heap.size w.heap.size _ c _ HT.out.bld (by rw [byteCells_len, List.length_append]; have h1 := HMX.out; have h2 := HBL.out; rw [HEB.out, List.length_append] at h1; simp at h1; omega) HWQ.out).mono ?_
                        rintro e w6 ⟨rfl, hB6, hb6, ho6⟩
                        have HT6 := Aside0.mk (HT.out.step (bs' := Bs ++ escTo f1.data.toList (m + 1)) hb6 (by rw [HEB.out, ← List.append_assoc, byteCells_append]; rw [← HCU.out] at hB6; exact hB6) ho6 HRN.out)
                        clear hB6 hb6 ho6
                        go_wp2_with fail
                        exact ⟨⟨m + 1, by omega, by go_num, HT6⟩, by simp [intOf]; omega⟩
                      · have e4 := decide_eq_false q4
                        rw [e4] at bb1 bb2
                        have HEB := Lib.hid (HB1.out (by rw [HBK.out, e1, e2, e3, e4]; rfl))
                        clear e1 e2 e3 e4 q1 q2 q3 q4
                        go_wp2_with (go_at_call 49; refine (dn_special.calls c false _ HSPE.out).mono ?_; rintro e w' ⟨rfl, ⟨nq, rfl⟩⟩; have HTn := Aside0.mk (HT.out.drewN nq); clear HT; have HT := HTn; clear HTn)
                        go_wp2_with fail
                        refine (bwriteByte w.heap.size w.heap.size _ c _ HT.out.bld (by rw [byteCells_len, List.length_append]; have h1 := HMX.out; have h2 := HBL.out; rw [HEB.out, List.length_append] at h1; simp at h1; omega) HWQ.out).mono ?_
                        rintro e w6 ⟨rfl, hB6, hb6, ho6⟩
                        have HT6 := Aside0.mk (HT.out.step (bs' := Bs ++ escTo f1.data.toList (m + 1)) hb6 (by rw [HEB.out, ← List.append_assoc, byteCells_append]; rw [← HCU.out] at hB6; exact hB6) ho6 HRN.out)
                        clear hB6 hb6 ho6
                        go_wp2_with fail
                        exact ⟨⟨m + 1, by omega, by go_num, HT6⟩, by simp [intOf]; omega⟩
                    · have e2 := decide_eq_false q2
                      have b2 : (c == 35) = false := beq_eq_false_iff_ne.2 q2
                      by_cases q4 : m + 1 = f1.size
                      · have e4 := decide_eq_true q4
                        rw [e4] at bb1 bb2
                        have HEB := Lib.hid (HB1.out (by rw [HBK.out, e1, e2, e3, e4]; rfl))
                        clear e1 e2 e3 e4 q1 q2 q3 q4
                        go_wp2_with (go_at_call 49; refine (dn_special.calls c false _ HSPE.out).mono ?_; rintro e w' ⟨rfl, ⟨nq, rfl⟩⟩; have HTn := Aside0.mk (HT.out.drewN nq); clear HT; have HT := HTn; clear HTn)
                        go_wp2_with fail
                        refine (bwriteByte w.heap.size w.heap.size _ c _ HT.out.bld (by rw [byteCells_len, List.length_append]; have h1 := HMX.out; have h2 := HBL.out; rw [HEB.out, List.length_append] at h1; simp at h1; omega) HWQ.out).mono ?_
                        rintro e w6 ⟨rfl, hB6, hb6, ho6⟩
                        have HT6 := Aside0.mk (HT.out.step (bs' := Bs ++ escTo f1.data.toList (m + 1)) hb6 (by rw [HEB.out, ← List.append_assoc, byteCells_append]; rw [← HCU.out] at hB6; exact hB6) ho6 HRN.out)
                        clear hB6 hb6 ho6
                        go_wp2_with fail
                        exact ⟨⟨m + 1, by omega, by go_num, HT6⟩, by simp [intOf]; omega⟩
                      · have e4 := decide_eq_false q4
                        rw [e4] at bb1 bb2
                        have HEB := Lib.hid (HB1.out (by rw [HBK.out, e1, e2, e3, e4]; rfl))
                        clear e1 e2 e3 e4 q1 q2 q3 q4
                        go_wp2_with (go_at_call 49; refine (dn_special.calls c false _ HSPE.out).mono ?_; rintro e w' ⟨rfl, ⟨nq, rfl⟩⟩; have HTn := Aside0.mk (HT.out.drewN nq); clear HT; have HT := HTn; clear HTn)
                        go_wp2_with fail
                        refine (bwriteByte w.heap.size w.heap.size _ c _ HT.out.bld (by rw [byteCells_len, List.length_append]; have h1 := HMX.out; have h2 := HBL.out; rw [HEB.out, List.length_append] at h1; simp at h1; omega) HWQ.out).mono ?_
                        rintro e w6 ⟨rfl, hB6, hb6, ho6⟩
                        have HT6 := Aside0.mk (HT.out.step (bs' := Bs ++ escTo f1.data.toList (m + 1)) hb6 (by rw [HEB.out, ← List.append_assoc, byteCells_append]; rw [← HCU.out] at hB6; exact hB6) ho6 HRN.out)
                        clear hB6 hb6 ho6
                        go_wp2_with fail
                        exact ⟨⟨m + 1, by omega, by go_num, HT6⟩, by simp [intOf]; omega⟩
          · have hge : ¬ (m : Int) < (f1.size : Int) := by omega
            have hme : m = f1.data.toList.length := by rw [← size_len]; omega
            have HME := Lib.hid hme
            clear hme
            have hlt2 : w.heap.size < wr.heap.size := by rcases HT.out.bld with h | h <;> exact h.lt
            have HL2 := Lib.hid hlt2
            clear hlt2
            go_wp2
            refine ⟨⟨k + 1, by omega, by go_num, ⟨HT.out.below⟩, ⟨HL2.out⟩, ⟨?_⟩⟩, by simp [intOf]; omega⟩
            rw [HSUC.out]
            have hfin := HT.out.bld
            rw [HME.out] at hfin
            exact hfin
    · obtain rfl : k = l0.length := by omega
      have hle : w.heap.size ≤ wo.heap.size := Nat.le_of_lt HZ.out
      have HLE := Lib.hid hle
      have hnlt : ¬ (l0.length : Int) < (l0.length : Int) := by omega
      clear hle hk hlt
      go_wp2_with fail
      refine (Tryd.Builder_String_any w.heap.size w.heap.size (textTo l0 l0.length) _ HI.out HLE.out).mono ?_
      rintro e w5 ⟨rfl, hb5⟩
      have HB5 := Aside0.mk (HB.out.trans hb5)
      clear hb5
      go_wp2
      go_ret
      exact ⟨rfl, HB5.out⟩
theorem textL_len (l : List SR) : l.length ≤ (textL l).length + 1 := by
  have h : ∀ k, k ≤ (textTo l k).length + 1 := by
    intro k
    induction k with
    | zero => omega
    | succ k ih =>
      rw [textTo_succ, List.length_append, List.length_append]
      have : 1 ≤ (rdnB (l.getD k z53).f0.data.toList (l.getD k z53).f1.data.toList).length := by unfold rdnB; simp; omega
      omega
  exact h _
theorem dn_Text.calls (A0 : Option Addr) (c0 : Nat) (l0 : List SR) (r : ByteArray) (w : World) (hr0 : Kd.C k53 w A0 l0.length l0) (hc0 : l0.length ≤ c0) (h : dn_Text.f l0 = some r) :
    Calls Tryd.prog 28 #[.slice A0 l0.length c0] w fun e w' => e = .returned (.string r) ∧ Below w.heap.size w w' := by
  unfold dn_Text.f at h
  by_cases hs : (textL l0).length ≤ 140737488351231
  · rw [if_pos hs] at h
    obtain rfl := Option.some.inj h
    exact dn_Text.any A0 c0 l0 w hr0 hc0 (by omega) (by have := textL_len l0; omega)
  · rw [if_neg hs] at h
    cases h
end Go.Proofs.YthfpaoacjpjnfaaDoor.P

namespace Go.Proofs.YthfpaoacjpjnfaaDoor.P
open Go.RowKit Go.Proofs.YthfpaoacjpjnfaaDoorW.PrintWords Go.Proofs.YthfpaoacjpjnfaaDoorW.PrintLast Go.Proofs.YthfpaoacjpjnfaaDoorW.PrintMore
attribute [local go_sem] max2_int min2_int max_two min_two max_three min_three max_four min_four
set_option linter.unusedVariables false
set_option linter.unusedSimpArgs false
def dn_lower.f (a0 : Int) : Option (Int) := if 65 ≤ a0 then (if a0 ≤ 90 then (some ((a0 + 32) % 256)) else (some a0)) else (some a0)
set_option maxHeartbeats 8000000 in
set_option maxRecDepth 100000 in
theorem dn_lower.calls (a0 : Int) (r : Int) (w : World) (h : dn_lower.f a0 = some r) :
  Calls Tryd.prog 32 #[.int .u8 a0] w fun e w' => e = .returned (.int .u8 r) ∧ Drawn0 w w' := by
 have H : (if 65 ≤ a0 then (if a0 ≤ 90 then (some ((a0 + 32) % 256)) else (some a0)) else (some a0)) = some r := h
 clear h
 by_cases c2 : 65 ≤ a0
 ·rw [if_pos c2] at H
  have c2b0 : decide (65 ≤ a0) = true := decide_eq_true c2
  clear c2
  by_cases c3 : a0 ≤ 90
  ·rw [if_pos c3] at H
   have c3b0 : decide (a0 ≤ 90) = true := decide_eq_true c3
   clear c3
   obtain rfl := Option.some.inj H
   go_enter Tryd.func32, Tryd.ntmps32
   go_wp2
   go_ret
   exact ⟨by first | rfl | (simp; done) | (simp [*]; done) | (simp [*, i64_w, i32_w, u8_w]; done) | (simp only [bneNil, beqNil]; done) | (simp only [bneNil, beqNil]; simp; done) | (simp only [bneNil, beqNil]; simp [*]; done), by repeat (first | exact Drawn0.refl _ | apply Drawn0.step)⟩
  ·rw [if_neg c3] at H
   have c3b0 : decide (a0 ≤ 90) = false := decide_eq_false c3
   clear c3
   obtain rfl := Option.some.inj H
   go_enter Tryd.func32, Tryd.ntmps32
   go_wp2
   go_ret
   exact ⟨by first | rfl | (simp; done) | (simp [*]; done) | (simp [*, i64_w, i32_w, u8_w]; done) | (simp only [bneNil, beqNil]; done) | (simp only [bneNil, beqNil]; simp; done) | (simp only [bneNil, beqNil]; simp [*]; done), by repeat (first | exact Drawn0.refl _ | apply Drawn0.step)⟩
 ·rw [if_neg c2] at H
  have c2b0 : decide (65 ≤ a0) = false := decide_eq_false c2
  clear c2
  obtain rfl := Option.some.inj H
  go_enter Tryd.func32, Tryd.ntmps32
  go_wp2
  go_ret
  exact ⟨by first | rfl | (simp; done) | (simp [*]; done) | (simp [*, i64_w, i32_w, u8_w]; done) | (simp only [bneNil, beqNil]; done) | (simp only [bneNil, beqNil]; simp; done) | (simp only [bneNil, beqNil]; simp [*]; done), by repeat (first | exact Drawn0.refl _ | apply Drawn0.step)⟩
end Go.Proofs.YthfpaoacjpjnfaaDoor.P

namespace Go.Proofs.YthfpaoacjpjnfaaDoor.P
open Go.RowKit Go.Proofs.YthfpaoacjpjnfaaDoorW.PrintWords Go.Proofs.YthfpaoacjpjnfaaDoorW.PrintLast Go.Proofs.YthfpaoacjpjnfaaDoorW.PrintMore
set_option linter.unusedVariables false
set_option linter.unusedSimpArgs false
theorem dn_lower_eq {c : Int} (h : 0 ≤ c ∧ c ≤ 255) : dn_lower.f c = some (lowI c) := by
  unfold dn_lower.f lowI
  by_cases h1 : 65 ≤ c <;> by_cases h2 : c ≤ 90 <;> simp [h1, h2]
  omega
def dn_lowered.f (a0 : ByteArray) : Option ByteArray := if a0.size ≤ 9223372036854775807 then some (lowS a0) else none
theorem dn_lowered.any (a0 : ByteArray) (w : World) (hs : a0.size ≤ 9223372036854775807) :
    Calls Tryd.prog 23 #[.string a0] w fun e w' => e = .returned (.string (lowS a0)) ∧ Below w.heap.size w w' := by
  have hcv := fun W => Lib.run_convert_string_bytes (P := Tryd.prog) W 9 23 5 a0 (u := .string) Tryd.underlying9 Tryd.underlying23 Tryd.underlying5
  go_enter Tryd.func23, Tryd.ntmps23
  go_wp2
  go_loopw [10] (fun i wr => ∃ k : Nat, k ≤ a0.size ∧ i = .int .i64 k ∧ Aside0 (Below w.heap.size w wr) ∧ Aside0 (BRow wr w.heap.size a0.size (lowTo a0 k))) (fun i _ => a0.size - (intOf i).toNat)
  case atStart => exact ⟨0, Nat.zero_le _, rfl, ⟨Lib.bytesWorld_below _ _ _⟩, ⟨by rw [lowTo_zero]; exact brow_conv w a0⟩⟩
  case round =>
    obtain ⟨k, hk, rfl, HB, HR⟩ := hrel
    by_cases hlt : k < a0.size
    · have hc := HR.out.cell k hlt
      have hz := HR.out.free k hlt
      rw [lowTo_here] at hc
      obtain ⟨c, hcc⟩ : ∃ c : Int, ((a0.data.toList.getD k 0).toNat : Int) = c := ⟨_, rfl⟩
      rw [hcc] at hc
      have hcr : 0 ≤ c ∧ c ≤ 255 := by have := (a0.data.toList.getD k 0).toNat_lt; omega
      have HC := Lib.hid hcc
      clear hcc
      have HL := Lib.hid (dn_lower_eq hcr)
      go_wp2_with (go_at_call 32; refine (dn_lower.calls _ _ _ HL.out).mono ?_; rintro e w' ⟨rfl, ⟨nq, rfl⟩⟩)
      refine ⟨⟨k + 1, by omega, by go_num, ⟨?_⟩, ⟨?_⟩⟩, by simp [intOf]; omega⟩
      · exact (pw_below_drewN HB.out nq).setCell (Nat.le_refl _) _
      · exact lowTo_set (brow_drewN HR.out nq) hlt HC.out
    · have hge : ¬ (k : Int) < (a0.size : Int) := by omega
      have hst := fun cap => brow_string (P := Tryd.prog) HR.out cap 23 5 9 Tryd.underlying23 Tryd.underlying5 Tryd.underlying9
      rw [lowTo_all a0 k hlt] at hst
      go_wp2
      go_ret
      exact ⟨rfl, HB.out⟩
theorem dn_lowered.calls (a0 : ByteArray) (r : ByteArray) (w : World) (h : dn_lowered.f a0 = some r) :
    Calls Tryd.prog 23 #[.string a0] w fun e w' => e = .returned (.string r) ∧ Below w.heap.size w w' := by
  unfold dn_lowered.f at h
  by_cases hs : a0.size ≤ 9223372036854775807
  · rw [if_pos hs] at h
    obtain rfl := Option.some.inj h
    exact dn_lowered.any a0 w hs
  · rw [if_neg hs] at h
    cases h
end Go.Proofs.YthfpaoacjpjnfaaDoor.P

namespace Go.Proofs.YthfpaoacjpjnfaaDoor.P
open Go.RowKit Go.Proofs.YthfpaoacjpjnfaaDoorW.PrintWords Go.Proofs.YthfpaoacjpjnfaaDoorW.PrintLast Go.Proofs.YthfpaoacjpjnfaaDoorW.PrintMore
set_option linter.unusedVariables false
set_option linter.unusedSimpArgs false
def foldL (l : List UInt8) : List UInt8 := sq ((Lib.trimB l 32).map lowB)
def dn_Fold.f (a0 : ByteArray) : Option ByteArray := if a0.size ≤ 140737488351232 then some (mk (foldL a0.data.toList)) else none
theorem trimB_len (l : List UInt8) : (Lib.trimB l 32).length ≤ l.length := by
  unfold Lib.trimB Lib.trimLeftB Lib.trimRightB
  refine Nat.le_trans (List.dropWhile_suffix _).length_le ?_
  rw [List.length_reverse]
  refine Nat.le_trans (List.dropWhile_suffix _).length_le ?_
  rw [List.length_reverse]
  exact Nat.le_refl _
theorem trimB_head (l : List UInt8) (h : 0 < (Lib.trimB l 32).length) : (Lib.trimB l 32).getD 0 0 ≠ 32 := by
  unfold Lib.trimB Lib.trimLeftB at *
  have := List.head?_dropWhile_not (p := fun x : UInt8 => x == 32) (l := Lib.trimRightB l 32)
  rw [List.getD_eq_getElem?_getD, ← List.head?_eq_getElem?]
  cases hh : (List.dropWhile (fun x : UInt8 => x == 32) (Lib.trimRightB l 32)).head? with
  | none => rw [List.head?_eq_none_iff] at hh; rw [hh] at h; exact absurd h (by simp)
  | some c =>
    rw [hh] at this
    simpa using this
theorem lowB_blank (c : UInt8) : lowB c = 32 ↔ c = 32 := byteAll (p := fun c => lowB c = 32 ↔ c = 32) (by decide +kernel) c
set_option maxHeartbeats 8000000 in
theorem dn_Fold.any (a0 : ByteArray) (w : World) (hs : a0.size ≤ 140737488351232) :
    Calls Tryd.prog 15 #[.string a0] w fun e w' => e = .returned (.string (mk (foldL a0.data.toList))) ∧ Below w.heap.size w w' := by
  have hcv := fun W s => Lib.run_convert_string_bytes (P := Tryd.prog) W 9 23 5 s (u := .string) Tryd.underlying9 Tryd.underlying23 Tryd.underlying5
  have hT : strings_Trim.f a0 ⟨#[32]⟩ = some (mk (Lib.trimB a0.data.toList 32)) := by
    unfold strings_Trim.f; rw [if_pos ⟨rfl, by omega⟩]
  have hlen := trimB_len a0.data.toList
  rw [← size_len, ← mk_size] at hlen
  have hL : dn_lowered.f (mk (Lib.trimB a0.data.toList 32)) = some (lowS (mk (Lib.trimB a0.data.toList 32))) := by
    unfold dn_lowered.f; rw [if_pos (by omega)]
  obtain ⟨T, hTe⟩ : ∃ T, mk (Lib.trimB a0.data.toList 32) = T := ⟨_, rfl⟩
  have hhead := trimB_head a0.data.toList
  have hTd : T.data.toList = Lib.trimB a0.data.toList 32 := by rw [← hTe]
  rw [← hTd] at hhead
  obtain ⟨S, hSe⟩ : ∃ S, lowS T = S := ⟨_, rfl⟩
  have hSd : S.data.toList = (Lib.trimB a0.data.toList 32).map lowB := by rw [← hSe, lowS_data, hTd]
  have hSs : S.size = T.size := by rw [← hSe, lowS_size]
  have hfold : foldL a0.data.toList = sq S.data.toList := by unfold foldL; rw [hSd]
  have hsh : 0 < S.data.toList.length → S.data.toList.getD 0 0 ≠ 32 := by
    rw [hSd, ← hTd, List.length_map]
    intro h
    have h2 := hhead h
    rw [List.getD_eq_getElem?_getD, List.getElem?_map, List.getElem?_eq_getElem h]
    rw [List.getD_eq_getElem?_getD, List.getElem?_eq_getElem h] at h2
    intro h3
    exact h2 ((lowB_blank _).1 h3)
  rw [hTe] at hT hL hlen
  rw [hSe] at hL
  rw [hfold]
  have hS : S.size ≤ 140737488351232 := by omega
  have HT := Lib.hid hT
  have HL := Lib.hid hL
  have HSH := Lib.hid hsh
  clear hT hL hlen hTe hhead hTd hSe hSd hSs hfold hsh hs
  go_enter Tryd.func15, Tryd.ntmps15
  go_wp2_with (first
    | (go_at_call 24; refine (strings_Trim.calls _ _ _ _ HT.out).mono ?_; rintro e w' ⟨rfl, ⟨n1, rfl⟩⟩)
    | (go_at_call 23; refine (dn_lowered.calls _ _ _ HL.out).mono ?_; rintro e w1 ⟨rfl, hb1⟩))
  have hb0 : Below w.heap.size w w1 := (pw_below_drewN (Below.refl _ _) n1).trans hb1
  have HB1 := Aside0.mk hb0
  have hsz := Aside0.mk hb0.size
  clear hb0 hb1
  go_loopw [3, 11] (fun b i wr => ∃ k : Nat, k ≤ S.size ∧ i = .int .i64 k ∧ Aside0 (Below w.heap.size w wr) ∧ Aside0 (w1.heap.size < wr.heap.size) ∧ Aside0 (BRow wr w1.heap.size S.size (fun j => ((S.data.toList.getD j 0).toNat : Int))) ∧ Aside0 (Kd.R (Kd.int .u8) 5 wr w.heap.size (fun q => q ≠ w1.heap.size) b (numsB (sq (S.data.toList.take k))))) (fun _ i _ => S.size - (intOf i).toNat)
  case atStart => exact ⟨0, Nat.zero_le _, rfl, ⟨HB1.out.trans ((Lib.bytesWorld_below _ _ _).mono hsz.out)⟩, ⟨by rw [Lib.bytesWorld_size]; omega⟩, ⟨brow_conv _ S⟩, ⟨Kd.R_nil _ _ _ _ _⟩⟩
  case round =>
    obtain ⟨k, hk, rfl, HB, HZ, HR, HO⟩ := hrel
    obtain ⟨B, hB⟩ : ∃ B, sq (S.data.toList.take k) = B := ⟨_, rfl⟩
    rw [hB] at HO
    have HBk := Lib.hid hB
    clear hB
    obtain ⟨A3, c3, rfl⟩ := Kd.R_slice HO.out
    by_cases hlt : k < S.size
    · have hc := HR.out.cell k hlt
      have hz := HR.out.free k hlt
      have hkl : k < S.data.toList.length := by rw [← size_len]; exact hlt
      have hst := sq_take S.data.toList k hkl
      have hne := sq_take_ne S.data.toList k
      have hln := sq_take_len S.data.toList k (by omega)
      have h032 := fun (h : k = 0) (h2 : S.data.toList.getD k 0 = 32) => HSH.out (by omega) (by rw [h] at h2; exact h2)
      obtain ⟨u, hu⟩ : ∃ u : UInt8, S.data.toList.getD k 0 = u := ⟨_, rfl⟩
      rw [hu] at hc hst h032
      rw [HBk.out] at hst hne hln
      have hclen : (numsB B).length = B.length := numsB_len B
      have hub : (numsB B).length ≤ 140737488351232 := by rw [hclen]; omega
      by_cases hu32 : u = 32
      · subst hu32
        have hk0 : 0 < k := Nat.pos_of_ne_zero fun h => h032 h rfl
        have hBne := hne hk0 (by omega)
        have hn1 : 1 ≤ (numsB B).length := by rw [hclen]; exact List.length_pos_iff.2 hBne
        obtain ⟨v, hv⟩ : ∃ v : UInt8, B.getLast hBne = v := ⟨_, rfl⟩
        have hrd := numsB_last B hBne
        rw [hv, ← hclen] at hrd
        have hlast : B.getLast? = some v := by rw [List.getLast?_eq_some_getLast hBne, hv]
        obtain ⟨ad, e1, hx⟩ := Kd.at_int (Kd.R_reads' HO.out).2.2 (((numsB B).length : Int) - 1) (by omega) (by omega)
        rw [hrd, show (((numsB B).length : Int) - 1).toNat = (numsB B).length - 1 from by omega] at hx
        subst e1
        have hLB := Lib.hid hclen
        clear hclen hrd hv hne h032 hBne
        by_cases hv32 : v = 32
        · subst hv32
          have hsn : sq (S.data.toList.take (k + 1)) = B := by rw [hst]; unfold sqStep; rw [if_pos ⟨rfl, hlast⟩]
          have HST := Lib.hid hsn
          clear hsn hst hlast
          go_wp2
          refine ⟨⟨k + 1, by omega, by go_num, HB, HZ, HR, ⟨?_⟩⟩, by simp [intOf]; omega⟩
          rw [HST.out]; exact HO.out
        · have hsn : numsB (sq (S.data.toList.take (k + 1))) = numsB B ++ [32] := by
            rw [hst]; unfold sqStep
            rw [if_neg (by rw [hlast]; intro h; exact hv32 (Option.some.inj h.2)), numsB_snoc]; rfl
          have HST := Lib.hid hsn
          have hv2 : ¬ (v.toNat : Int) = 32 := fun h => hv32 ((u8_32 v).1 h)
          obtain ⟨vi, hvi⟩ : ∃ vi : Int, (v.toNat : Int) = vi := ⟨_, rfl⟩
          rw [hvi] at hx hv2
          have bv : (vi == 32) = false := beq_eq_false_iff_ne.2 hv2
          clear hsn hst hlast hvi hv2 hv32
          go_wp2_with ((with_reducible refine gate_builtin (b := .append) (xs := #[.tmp 26, .tmp 28]) rfl ?_); at_builtin; refine Kd.R_append (Kd.int .u8) (w0 := w) w.heap.size rfl (.tmp 26) (.tmp 28) 23 5 (.int .u8 0) 1 rfl Tryd.underlying23 info5 rfl (by decide) (by omega) _ (numsB B) 32 [.int .u8 32] (fun q => q ≠ w1.heap.size) (fun _ => False) rfl rfl ?aP (fun _ hk => hk.elim) ?aF ?aO ?aB ?aS ?aL ?_; (case aP => exact rfl); (case aB => exact HB.out); (case aF => exact (fun q hq e => by have := HZ.out; omega)); (case aO => exact HO.out); (case aS => exact HB.out.size); (case aL => have := numsB_len B; omega); intro v' w' ho hb hg hat; have HO2 := Aside0.mk ho; have HB2 := Aside0.mk hb; have HG2 := Aside0.mk hg; clear ho hb hg hat)
          refine ⟨⟨k + 1, by omega, by go_num, HB2, ⟨Nat.lt_of_lt_of_le HZ.out HG2.out.size⟩, ⟨?_⟩, ⟨?_⟩⟩, by simp [intOf]; omega⟩
          · exact brow_block HR.out (HG2.out.block _ HZ.out (fun e => (HO.out.1 _ e.symm) rfl))
          · rw [HST.out]; exact HO2.out
      · have hsn : numsB (sq (S.data.toList.take (k + 1))) = numsB B ++ [(u.toNat : Int)] := by
          rw [hst]; unfold sqStep
          rw [if_neg (fun h => hu32 h.1), numsB_snoc]
        have hu2 : ¬ (u.toNat : Int) = 32 := fun h => hu32 ((u8_32 u).1 h)
        obtain ⟨ui, hui⟩ : ∃ ui : Int, (u.toNat : Int) = ui := ⟨_, rfl⟩
        rw [hui] at hc hu2 hsn
        have HST := Lib.hid hsn
        have bu : (ui == 32) = false := beq_eq_false_iff_ne.2 hu2
        clear hsn hst hne h032 hclen hui hu2 hu32
        go_wp2_with ((with_reducible refine gate_builtin (b := .append) (xs := #[.tmp 26, .tmp 28]) rfl ?_); at_builtin; refine Kd.R_append (Kd.int .u8) (w0 := w) w.heap.size rfl (.tmp 26) (.tmp 28) 23 5 (.int .u8 0) 1 rfl Tryd.underlying23 info5 rfl (by decide) (by omega) _ (numsB B) ui [.int .u8 ui] (fun q => q ≠ w1.heap.size) (fun _ => False) rfl rfl ?aP (fun _ hk => hk.elim) ?aF ?aO ?aB ?aS ?aL ?_; (case aP => exact rfl); (case aB => exact HB.out); (case aF => exact (fun q hq e => by have := HZ.out; omega)); (case aO => exact HO.out); (case aS => exact HB.out.size); (case aL => have := numsB_len B; omega); intro v' w' ho hb hg hat; have HO2 := Aside0.mk ho; have HB2 := Aside0.mk hb; have HG2 := Aside0.mk hg; clear ho hb hg hat)
        refine ⟨⟨k + 1, by omega, by go_num, HB2, ⟨Nat.lt_of_lt_of_le HZ.out HG2.out.size⟩, ⟨?_⟩, ⟨?_⟩⟩, by simp [intOf]; omega⟩
        · exact brow_block HR.out (HG2.out.block _ HZ.out (fun e => (HO.out.1 _ e.symm) rfl))
        · rw [HST.out]; exact HO2.out
    · have hge : ¬ (k : Int) < (S.size : Int) := by omega
      have hall := HO.out
      have hBk := HBk.out
      rw [List.take_of_length_le (by rw [← size_len]; omega)] at hBk
      have HBl := Lib.hid hBk
      clear hBk
      have hst := own_string (P := Tryd.prog) Tryd.underlying23 Tryd.underlying5 Tryd.underlying9 (Kd.own_of_R hall)
      rw [strOf_numsB] at hst
      clear hall
      go_wp2
      go_ret
      exact ⟨by rw [HBl.out]; rfl, HB.out⟩
theorem dn_Fold.calls (a0 : ByteArray) (r : ByteArray) (w : World) (h : dn_Fold.f a0 = some r) :
    Calls Tryd.prog 15 #[.string a0] w fun e w' => e = .returned (.string r) ∧ Below w.heap.size w w' := by
  unfold dn_Fold.f at h
  by_cases hs : a0.size ≤ 140737488351232
  · rw [if_pos hs] at h
    obtain rfl := Option.some.inj h
    exact dn_Fold.any a0 w hs
  · rw [if_neg hs] at h
    cases h
end Go.Proofs.YthfpaoacjpjnfaaDoor.P

namespace Go.Proofs.YthfpaoacjpjnfaaDoor.P
open Go.RowKit Go.Proofs.YthfpaoacjpjnfaaDoorW.PrintWords Go.Proofs.YthfpaoacjpjnfaaDoorW.PrintLast Go.Proofs.YthfpaoacjpjnfaaDoorW.PrintMore
attribute [local go_sem] max2_int min2_int max_two min_two max_three min_three max_four min_four
set_option linter.unusedVariables false
set_option linter.unusedSimpArgs false
def dn_letter.f (a0 : Int) : Option (Bool) := (dn_lower.f a0).bind fun t104 => (if 97 ≤ t104 then ((dn_lower.f a0).bind fun t105 => (some (decide (t105 ≤ 122)))) else (some false))
set_option maxHeartbeats 8000000 in
set_option maxRecDepth 100000 in
theorem dn_letter.calls (a0 : Int) (r : Bool) (w : World) (h : dn_letter.f a0 = some r) :
  Calls Tryd.prog 60 #[.int .u8 a0] w fun e w' => e = .returned (.bool r) ∧ Drawn0 w w' := by
 have H : ((dn_lower.f a0).bind fun t104 => (if 97 ≤ t104 then ((dn_lower.f a0).bind fun t105 => (some (decide (t105 ≤ 122)))) else (some false))) = some r := h
 clear h
 replace H := Option.bind_eq_some_iff.mp H
 obtain ⟨t104, A20, H⟩ := H
 replace H : (if 97 ≤ t104 then ((dn_lower.f a0).bind fun t105 => (some (decide (t105 ≤ 122)))) else (some false)) = some r := H
 have A2 := Aside0.mk A20
 clear A20
 by_cases c3 : 97 ≤ t104
 ·rw [if_pos c3] at H
  have c3b0 : decide (97 ≤ t104) = true := decide_eq_true c3
  clear c3
  replace H := Option.bind_eq_some_iff.mp H
  obtain ⟨t105, A40, H⟩ := H
  replace H : (some (decide (t105 ≤ 122))) = some r := H
  have A4 := Aside0.mk A40
  clear A40
  obtain rfl := Option.some.inj H
  go_enter Tryd.func60, Tryd.ntmps60
  go_wp2_with (first | ((with_reducible refine gate_callee (f := 32) rfl ?_); refine goesL_ (some 4) rfl rfl Tryd.func32 (by kernel_rfl) rfl #[.int .u8 a0] rfl (by (try simp only [List.map_toArray, List.map_cons, List.map_nil]); first | done | rfl | (simp only [List.length_drop, List.length_take]; rfl)) ?_; (with_reducible refine (dn_lower.calls a0 t104 _ A2.out).mono ?_); rintro e w' ⟨rfl, ⟨nd, rfl⟩⟩; refine ⟨_, rfl, ?_⟩) | (go_at_call 32; (with_reducible refine (dn_lower.calls a0 t105 _ A4.out).mono ?_); rintro e w' ⟨rfl, ⟨nd, rfl⟩⟩))
  go_ret
  exact ⟨by first | rfl | (simp; done) | (simp [*]; done) | (simp [*, i64_w, i32_w, u8_w]; done) | (simp only [bneNil, beqNil]; done) | (simp only [bneNil, beqNil]; simp; done) | (simp only [bneNil, beqNil]; simp [*]; done), by repeat (first | exact Drawn0.refl _ | apply Drawn0.step)⟩
 ·rw [if_neg c3] at H
  have c3b0 : decide (97 ≤ t104) = false := decide_eq_false c3
  clear c3
  obtain rfl := Option.some.inj H
  go_enter Tryd.func60, Tryd.ntmps60
  go_wp2_with (first | ((with_reducible refine gate_callee (f := 32) rfl ?_); refine goesL_ (some 4) rfl rfl Tryd.func32 (by kernel_rfl) rfl #[.int .u8 a0] rfl (by (try simp only [List.map_toArray, List.map_cons, List.map_nil]); first | done | rfl | (simp only [List.length_drop, List.length_take]; rfl)) ?_; (with_reducible refine (dn_lower.calls a0 t104 _ A2.out).mono ?_); rintro e w' ⟨rfl, ⟨nd, rfl⟩⟩; refine ⟨_, rfl, ?_⟩))
  go_ret
  exact ⟨by first | rfl | (simp; done) | (simp [*]; done) | (simp [*, i64_w, i32_w, u8_w]; done) | (simp only [bneNil, beqNil]; done) | (simp only [bneNil, beqNil]; simp; done) | (simp only [bneNil, beqNil]; simp [*]; done), by repeat (first | exact Drawn0.refl _ | apply Drawn0.step)⟩
end Go.Proofs.YthfpaoacjpjnfaaDoor.P

namespace Go.Proofs.YthfpaoacjpjnfaaDoor.P
open Go.RowKit Go.Proofs.YthfpaoacjpjnfaaDoorW.PrintWords Go.Proofs.YthfpaoacjpjnfaaDoorW.PrintLast Go.Proofs.YthfpaoacjpjnfaaDoorW.PrintMore
set_option linter.unusedVariables false
set_option linter.unusedSimpArgs false
theorem dn_letter_eq (c : UInt8) : dn_letter.f (c.toNat : Int) = some (isLtr c) := byteAll (p := fun c => dn_letter.f (c.toNat : Int) = some (isLtr c)) (by decide +kernel) c
theorem inName_digit (c : UInt8) (h : isLtr c = false) : inName c = ((decide ((48 : Int) ≤ (c.toNat : Int)) && decide ((c.toNat : Int) ≤ 57)) || decide ((c.toNat : Int) = 45)) :=
  byteAll (p := fun c => isLtr c = false → inName c = ((decide ((48 : Int) ≤ (c.toNat : Int)) && decide ((c.toNat : Int) ≤ 57)) || decide ((c.toNat : Int) = 45))) (by decide +kernel) c h
theorem inName_ltr (c : UInt8) (h : isLtr c = true) : inName c = true := by unfold inName; rw [h]; rfl
def dn_typed.f (a0 : ByteArray) : Option Bool := some (typedL a0.data.toList)
set_option maxHeartbeats 8000000 in
theorem dn_typed.calls (a0 : ByteArray) (r : Bool) (w : World) (h : dn_typed.f a0 = some r) :
    Calls Tryd.prog 43 #[.string a0] w fun e w' => e = .returned (.bool r) ∧ Below w.heap.size w w' := by
  obtain rfl := Option.some.inj h
  clear h
  have hcv := fun W => Lib.run_convert_string_bytes (P := Tryd.prog) W 9 23 5 a0 (u := .string) Tryd.underlying9 Tryd.underlying23 Tryd.underlying5
  by_cases h0 : a0.toList = []
  · have hr : typedL a0.data.toList = false := by rw [← toList_data, h0]; rfl
    have b0 : (a0.toList == ([] : List UInt8)) = true := beq_iff_eq.2 h0
    rw [hr]
    clear hr h0
    go_enter Tryd.func43, Tryd.ntmps43
    go_wp2
    go_ret
    exact ⟨rfl, Below.refl _ _⟩
  · have b0 : (a0.toList == ([] : List UInt8)) = false := beq_eq_false_iff_ne.2 h0
    have hp : 0 < a0.size := Nat.pos_of_ne_zero fun h => h0 ((toList_nil_iff a0).2 h)
    have he : a0.data.toList.isEmpty = false := by rw [← toList_data]; cases hh : a0.toList with | nil => exact absurd hh h0 | cons _ _ => rfl
    by_cases h3 : a0.size ≤ 30
    · have d3 : decide (30 < a0.size) = false := decide_eq_false (by omega)
      have d3' : decide ((30 : Int) < (a0.size : Int)) = false := decide_eq_false (by omega)
      have hx0 : ∀ h : 0 < a0.size, ((a0[0]'h).toNat : Int) = bt a0 0 := bt_at a0 0
      have qi0 : ((0 : Int) < (a0.size : Int)) = True := eq_true (by omega)
      have q0 : (0 < a0.size) = True := eq_true hp
      have hs : a0.size ≤ 9223372036854775807 := by omega
      clear hp
      have hL0 := dn_letter_eq (a0.data.toList.getD 0 0)
      rw [← bt_nat a0 0] at hL0
      have HL0 := Lib.hid hL0
      clear hL0
      by_cases hl : isLtr (a0.data.toList.getD 0 0) = true
      · rw [hl] at HL0
        have hr : typedL a0.data.toList = a0.data.toList.all inName := by
          unfold typedL
          rw [he, hl, decide_eq_true (by rw [← size_len]; exact h3)]
          rfl
        obtain ⟨R, hR⟩ : ∃ R, a0.data.toList.all inName = R := ⟨_, rfl⟩
        rw [hr, hR]
        clear hr
        have HALL := Lib.hid hR
        clear hR
        go_enter Tryd.func43, Tryd.ntmps43
        go_wp2_with (go_at_call 60; refine (dn_letter.calls _ _ _ HL0.out).mono ?_; rintro e w' ⟨rfl, ⟨nq, rfl⟩⟩)
        go_loopw [21] (fun i wr => ∃ k : Nat, k ≤ a0.size ∧ i = .int .i64 k ∧ Aside0 (Below w.heap.size w wr) ∧ Aside0 (BRow wr w.heap.size a0.size (fun j => ((a0.data.toList.getD j 0).toNat : Int))) ∧ Aside0 ((a0.data.toList.take k).all inName = true)) (fun i _ => a0.size - (intOf i).toNat)
        case atStart => exact ⟨0, Nat.zero_le _, rfl, ⟨below_convN _ _ _⟩, ⟨brow_convN _ _ _⟩, ⟨rfl⟩⟩
        case round =>
          clear hx0
          obtain ⟨k, hk, rfl, HB, HR, HA⟩ := hrel
          by_cases hlt : k < a0.size
          · have hc := HR.out.cell k hlt
            have hz := HR.out.free k hlt
            have hL := dn_letter_eq (a0.data.toList.getD k 0)
            have hsn := all_take_succ inName a0.data.toList k (by rw [← size_len]; exact hlt)
            rw [HA.out, Bool.true_and] at hsn
            obtain ⟨u, hu⟩ : ∃ u : UInt8, a0.data.toList.getD k 0 = u := ⟨_, rfl⟩
            have hf := fun (h : inName u = false) => all_false_of (p := inName) (l := a0.data.toList) (k := k) (by rw [← size_len]; exact hlt) (by rw [hu]; exact h)
            rw [hu] at hc hL hsn
            have HF := Lib.hid hf
            clear hf hu
            have hdig := inName_digit u
            have hlet := inName_ltr u
            obtain ⟨c, hcc⟩ : ∃ c : Int, (u.toNat : Int) = c := ⟨_, rfl⟩
            rw [hcc] at hc hL hdig
            have hcr : 0 ≤ c ∧ c ≤ 255 := by have := u.toNat_lt; omega
            have hc0 : 0 ≤ c := hcr.1
            have hc1 : c ≤ 255 := hcr.2
            clear hcr hcc
            have HL := Lib.hid hL
            have HS := Lib.hid hsn
            clear hL hsn
            cases hb : isLtr u with
            | true =>
              rw [hb] at HL
              have hn := hlet hb
              have HN := Lib.hid hn
              clear hn hdig hlet hb
              go_wp2_with (go_at_call 60; refine (dn_letter.calls _ _ _ HL.out).mono ?_; rintro e w' ⟨rfl, ⟨nq2, rfl⟩⟩)
              refine ⟨⟨k + 1, by omega, by go_num, ⟨pw_below_drewN HB.out nq2⟩, ⟨brow_drewN HR.out nq2⟩, ⟨?_⟩⟩, by simp [intOf]; omega⟩
              rw [HS.out]; exact HN.out
            | false =>
              rw [hb] at HL
              have hn := hdig hb
              clear hdig hlet hb
              by_cases h1 : 48 ≤ c ∧ c ≤ 57
              · have hn2 : inName u = true := by rw [hn, decide_eq_true h1.1, decide_eq_true h1.2]; rfl
                have HN := Lib.hid hn2
                clear hn hn2
                have d1 : decide (48 ≤ c) = true := decide_eq_true h1.1
                have d2 : decide (c ≤ 57) = true := decide_eq_true h1.2
                clear h1
                go_wp2_with (go_at_call 60; refine (dn_letter.calls _ _ _ HL.out).mono ?_; rintro e w' ⟨rfl, ⟨nq2, rfl⟩⟩)
                refine ⟨⟨k + 1, by omega, by go_num, ⟨pw_below_drewN HB.out nq2⟩, ⟨brow_drewN HR.out nq2⟩, ⟨?_⟩⟩, by simp [intOf]; omega⟩
                rw [HS.out]; exact HN.out
              · by_cases h2 : c = 45
                · have hn2 : inName u = true := by rw [hn, decide_eq_true h2]; simp
                  have HN := Lib.hid hn2
                  clear hn hn2 h1
                  subst h2
                  go_wp2_with (go_at_call 60; refine (dn_letter.calls _ _ _ HL.out).mono ?_; rintro e w' ⟨rfl, ⟨nq2, rfl⟩⟩)
                  refine ⟨⟨k + 1, by omega, by go_num, ⟨pw_below_drewN HB.out nq2⟩, ⟨brow_drewN HR.out nq2⟩, ⟨?_⟩⟩, by simp [intOf]; omega⟩
                  rw [HS.out]; exact HN.out
                · have hn2 : inName u = false := by
                    rw [hn, decide_eq_false h2, Bool.or_false, Bool.and_eq_false_iff]
                    by_cases h3 : 48 ≤ c
                    · exact .inr (decide_eq_false (by omega))
                    · exact .inl (decide_eq_false h3)
                  have HN := Lib.hid (HF.out hn2)
                  clear hn hn2
                  have b2 : (c == 45) = false := beq_eq_false_iff_ne.2 h2
                  have b3 : (c != 45) = true := bne_iff_ne.2 h2
                  clear h2
                  by_cases h3 : 48 ≤ c
                  · have d1 : decide (48 ≤ c) = true := decide_eq_true h3
                    have d2 : decide (c ≤ 57) = false := decide_eq_false (by omega)
                    clear h1
                    go_wp2_with (go_at_call 60; refine (dn_letter.calls _ _ _ HL.out).mono ?_; rintro e w' ⟨rfl, ⟨nq2, rfl⟩⟩)
                    go_ret
                    obtain rfl : R = false := HALL.out.symm.trans HN.out
                    exact ⟨rfl, pw_below_drewN HB.out nq2⟩
                  · have d1 : decide (48 ≤ c) = false := decide_eq_false h3
                    clear h1
                    go_wp2_with (go_at_call 60; refine (dn_letter.calls _ _ _ HL.out).mono ?_; rintro e w' ⟨rfl, ⟨nq2, rfl⟩⟩)
                    go_ret
                    obtain rfl : R = false := HALL.out.symm.trans HN.out
                    exact ⟨rfl, pw_below_drewN HB.out nq2⟩
          · have hge : ¬ (k : Int) < (a0.size : Int) := by omega
            have hall := HA.out
            rw [List.take_of_length_le (by rw [← size_len]; omega)] at hall
            have HN := Lib.hid hall
            clear hall
            go_wp2
            go_ret
            obtain rfl : R = true := HALL.out.symm.trans HN.out
            exact ⟨rfl, HB.out⟩
      · have hl : isLtr (a0.data.toList.getD 0 0) = false := by simpa using hl
        rw [hl] at HL0
        have hr : typedL a0.data.toList = false := by unfold typedL; rw [hl]; simp
        rw [hr]
        clear hr
        go_enter Tryd.func43, Tryd.ntmps43
        go_wp2_with (go_at_call 60; refine (dn_letter.calls _ _ _ HL0.out).mono ?_; rintro e w' ⟨rfl, ⟨nq, rfl⟩⟩)
        go_ret
        exact ⟨rfl, pw_below_drewN (Below.refl _ _) nq⟩
    · have hr : typedL a0.data.toList = false := by unfold typedL; rw [decide_eq_false (by rw [← size_len]; exact h3)]; simp
      have d3 : decide (30 < a0.size) = true := decide_eq_true (by omega)
      rw [hr]
      clear hr
      go_enter Tryd.func43, Tryd.ntmps43
      go_wp2
      go_ret
      exact ⟨rfl, Below.refl _ _⟩
end Go.Proofs.YthfpaoacjpjnfaaDoor.P

namespace Go.Proofs.YthfpaoacjpjnfaaDoor.P
open Go.RowKit Go.Proofs.YthfpaoacjpjnfaaDoorW.PrintWords Go.Proofs.YthfpaoacjpjnfaaDoorW.PrintLast Go.Proofs.YthfpaoacjpjnfaaDoorW.PrintMore
set_option linter.unusedVariables false
set_option linter.unusedSimpArgs false
theorem below_growB (w : World) (k : Nat) (os : Array Obj) : Below w.heap.size w (Go.Sort.grow (w.drewN k) os) :=
  ⟨rfl, rfl, rfl, by simp [Go.Sort.grow], fun i hi => by simp [Go.Sort.grow, Array.getElem?_append, hi]⟩
theorem itoaB (n : Int) (h0 : -9223372036854775808 ≤ n) (h1 : n ≤ 9223372036854775807) (w : World) (hG : Gl w) :
    Calls Tryd.prog 25 #[.int .i64 n] w fun e w' => e = .returned (.string (mk (Lib.itoa n))) ∧ Below w.heap.size w w' := by
  refine (Tryd.strconv_Itoa n h0 h1 w hG.pow).mono ?_
  rintro e w' ⟨rfl, k, os, rfl⟩
  exact ⟨rfl, below_growB w k os⟩
theorem atoiB (s : ByteArray) (v : Int) (hm : s.size ≤ 281474976710656) (h : Lib.atoiAll s.data.toList = .ok v) (w : World) :
    Calls Tryd.prog 9 #[.string s] w fun e w' => e = .returned (.tuple #[.int .i64 v, .nilIface]) ∧ Below w.heap.size w w' := by
  refine (Tryd.strconv_Atoi_ok s (by omega) v h w).mono ?_
  rintro e w' ⟨rfl, hw⟩
  rcases hw with rfl | ⟨t, rfl⟩
  · exact ⟨rfl, Below.refl _ _⟩
  · exact ⟨rfl, Lib.bytesWorld_below _ _ _⟩
theorem atoiNo (s : ByteArray) (hm : s.size ≤ 281474976710656) (h : ∀ v, Lib.atoiAll s.data.toList ≠ .ok v) (w : World) (hG : Gl w) :
    Calls Tryd.prog 9 #[.string s] w fun e w' => ∃ (n : Int) (N : Nat), e = .returned (.tuple #[.int .i64 n, .iface 44 (.pointer (some ⟨N, 0, none⟩))]) ∧ Below w.heap.size w w' := by
  cases hh : Lib.atoiAll s.data.toList with
  | ok v => exact absurd hh (h v)
  | range =>
    obtain ⟨t, p, hv⟩ := hG.rng
    refine (Tryd.strconv_Atoi_range s hm hh _ w hv (.inr ⟨t, p, rfl⟩)).mono ?_
    rintro e w' ⟨N, rfl, _, _, hb⟩
    exact ⟨_, N, rfl, hb⟩
  | _ =>
    obtain ⟨t, p, hv⟩ := hG.syn
    refine (Tryd.strconv_Atoi_syntax s hm hh _ w hv (.inr ⟨t, p, rfl⟩)).mono ?_
    rintro e w' ⟨N, rfl, _, _, hb⟩
    exact ⟨_, N, rfl, hb⟩
theorem trimPB (s : ByteArray) (w : World) :
    Calls Tryd.prog 26 #[.string s, .string ⟨#[45]⟩] w fun e w' => e = .returned (.string (mk (Lib.trimPrefix s.data.toList [45]))) ∧ w' = w := Tryd.strings_TrimPrefix s ⟨#[45]⟩ w
def numberL (l : List UInt8) : Bool :=
  match Lib.atoiAll l with
  | .ok v => (Lib.itoa v == l) && decide ((Lib.trimPrefix l [45]).length ≤ 15)
  | _ => false
def match_number.f (a0 : ByteArray) : Option Bool := if a0.size ≤ 281474976710656 then some (numberL a0.data.toList) else none
theorem atoi_range {l : List UInt8} {v : Int} (h : Lib.atoiAll l = .ok v) : -9223372036854775808 ≤ v ∧ v ≤ 9223372036854775807 := by
  cases l with
  | nil => exact absurd h (by simp [Lib.atoiAll])
  | cons c r =>
    simp only [Lib.atoiAll] at h
    cases hp : Lib.parseMag (if c.toNat = 43 ∨ c.toNat = 45 then r else c :: r) with
    | ok u =>
      rw [hp] at h
      simp only at h
      split at h
      · exact absurd h (by simp)
      · split at h
        · exact absurd h (by simp)
        · injection h with h
          subst h
          split <;> omega
    | _ => rw [hp] at h; exact absurd h (by simp)
set_option maxHeartbeats 8000000 in
theorem match_number.any (s : ByteArray) (hm : s.size ≤ 281474976710656) (w : World) (hG : Gl w) :
    Calls Tryd.prog 16 #[.string s] w fun e w' => e = .returned (.bool (numberL s.data.toList)) ∧ Below w.heap.size w w' := by
  have HG := Lib.hid hG
  clear hG
  by_cases hv : ∃ v, Lib.atoiAll s.data.toList = .ok v
  · obtain ⟨v, hv⟩ := hv
    have hr := atoi_range hv
    have hnum : numberL s.data.toList = ((Lib.itoa v == s.data.toList) && decide ((Lib.trimPrefix s.data.toList [45]).length ≤ 15)) := by unfold numberL; rw [hv]
    rw [hnum]
    have HV := Lib.hid hv
    have HR := Lib.hid hr
    clear hv hr hnum
    obtain ⟨I, hI⟩ : ∃ I, mk (Lib.itoa v) = I := ⟨_, rfl⟩
    have hId : I.toList = Lib.itoa v := by rw [← hI, mk_toList]
    have hit := fun W hW => itoaB v HR.out.1 HR.out.2 W hW
    rw [hI] at hit
    have HIT := Lib.hid hit
    clear hit hI
    by_cases he : I.toList = s.toList
    · have b1 : (I.toList == s.toList) = true := beq_iff_eq.2 he
      have hb : (Lib.itoa v == s.data.toList) = true := by rw [← hId, ← toList_data, b1]
      rw [hb, Bool.true_and]
      have HE := Lib.hid he
      clear he hb hId
      obtain ⟨D, hD⟩ : ∃ D, mk (Lib.trimPrefix s.data.toList [45]) = D := ⟨_, rfl⟩
      have htp := fun W => trimPB s W
      have hDs : (Lib.trimPrefix s.data.toList [45]).length = D.size := by rw [← hD, mk_size]
      rw [hDs]
      rw [hD] at htp
      have HTP := Lib.hid htp
      clear htp hD hDs
      go_enter Tryd.func16, Tryd.ntmps16
      go_wp2_with (first
        | (go_at_call 9; refine (atoiB s v hm HV.out _).mono ?_; rintro e w1 ⟨rfl, hb1⟩; have HB1 := Lib.hid hb1; clear hb1)
        | (go_at_call 25; refine (HIT.out _ (HG.out.below HB1.out)).mono ?_; rintro e w2 ⟨rfl, hb2⟩; have HB2 := Lib.hid hb2; clear hb2)
        | (go_at_call 26; refine (HTP.out _).mono ?_; rintro e w' ⟨rfl, rfl⟩))
      have hd : decide ((D.size : Int) ≤ 15) = decide (D.size ≤ 15) := decide_eq_decide.2 (by omega)
      have HD := Lib.hid hd
      clear hd
      go_ret
      exact ⟨by rw [← HD.out]; rfl, HB1.out.trans (HB2.out.mono HB1.out.size)⟩
    · have b1 : (I.toList == s.toList) = false := beq_eq_false_iff_ne.2 he
      have hb : (Lib.itoa v == s.data.toList) = false := by rw [← hId, ← toList_data, b1]
      rw [hb, Bool.false_and]
      clear he hb hId
      go_enter Tryd.func16, Tryd.ntmps16
      go_wp2_with (first
        | (go_at_call 9; refine (atoiB s v hm HV.out _).mono ?_; rintro e w1 ⟨rfl, hb1⟩; have HB1 := Lib.hid hb1; clear hb1)
        | (go_at_call 25; refine (HIT.out _ (HG.out.below HB1.out)).mono ?_; rintro e w2 ⟨rfl, hb2⟩; have HB2 := Lib.hid hb2; clear hb2))
      go_ret
      exact ⟨rfl, HB1.out.trans (HB2.out.mono HB1.out.size)⟩
  · have hno : ∀ v, Lib.atoiAll s.data.toList ≠ .ok v := fun v h => hv ⟨v, h⟩
    have hnum : numberL s.data.toList = false := by
      unfold numberL
      split
      · rename_i v h; exact absurd h (hno v)
      · rfl
    rw [hnum]
    have HNO := Lib.hid hno
    clear hno hnum hv
    go_enter Tryd.func16, Tryd.ntmps16
    go_wp2_with (first
      | (go_at_call 9; refine (atoiNo s hm HNO.out _ HG.out).mono ?_; rintro e w1 ⟨n, N, rfl, hb1⟩; have HB1 := Lib.hid hb1; clear hb1))
    go_ret
    exact ⟨rfl, HB1.out⟩
theorem match_number.calls (a0 : ByteArray) (r : Bool) (w : World) (hG : Gl w) (h : match_number.f a0 = some r) :
    Calls Tryd.prog 16 #[.string a0] w fun e w' => e = .returned (.bool r) ∧ Below w.heap.size w w' := by
  unfold match_number.f at h
  by_cases hs : a0.size ≤ 281474976710656
  · rw [if_pos hs] at h
    obtain rfl := Option.some.inj h
    exact match_number.any a0 hs w hG
  · rw [if_neg hs] at h
    cases h
end Go.Proofs.YthfpaoacjpjnfaaDoor.P


namespace Go.Proofs.YthfpaoacjpjnfaaDoor.P
open Go.Proofs.YthfpaoacjpjnfaaDoorW.PrintWords
set_option linter.unusedVariables false
set_option linter.unusedSimpArgs false
end Go.Proofs.YthfpaoacjpjnfaaDoor.P

namespace Go.Proofs.YthfpaoacjpjnfaaDoor.P
open Go.RowKit Go.Proofs.YthfpaoacjpjnfaaDoorW.PrintWords Go.Proofs.YthfpaoacjpjnfaaDoorW.PrintLast Go.Proofs.YthfpaoacjpjnfaaDoorW.PrintMore
attribute [local go_sem] max2_int min2_int max_two min_two max_three min_three max_four min_four
set_option linter.unusedVariables false
set_option linter.unusedSimpArgs false
def dn_digit.f (a0 : Int) : Option (Int) := (dn_lower.f a0).bind fun t107 => ((strings_IndexByte.f (⟨#[48, 49, 50, 51, 52, 53, 54, 55, 56, 57, 97, 98, 99, 100, 101, 102]⟩ : ByteArray) t107).bind fun t108 => (some t108))
set_option maxHeartbeats 8000000 in
set_option maxRecDepth 100000 in
theorem dn_digit.calls (a0 : Int) (r : Int) (w : World) (h : dn_digit.f a0 = some r) :
  Calls Tryd.prog 72 #[.int .u8 a0] w fun e w' => e = .returned (.int .i64 r) ∧ Drawn0 w w' := by
 have H : ((dn_lower.f a0).bind fun t107 => ((strings_IndexByte.f (⟨#[48, 49, 50, 51, 52, 53, 54, 55, 56, 57, 97, 98, 99, 100, 101, 102]⟩ : ByteArray) t107).bind fun t108 => (some t108))) = some r := h
 clear h
 replace H := Option.bind_eq_some_iff.mp H
 obtain ⟨t107, A20, H⟩ := H
 replace H : ((strings_IndexByte.f (⟨#[48, 49, 50, 51, 52, 53, 54, 55, 56, 57, 97, 98, 99, 100, 101, 102]⟩ : ByteArray) t107).bind fun t108 => (some t108)) = some r := H
 have A2 := Aside0.mk A20
 clear A20
 replace H := Option.bind_eq_some_iff.mp H
 obtain ⟨t108, A30, H⟩ := H
 replace H : (some t108) = some r := H
 have A3 := Aside0.mk A30
 clear A30
 obtain rfl := Option.some.inj H
 go_enter Tryd.func72, Tryd.ntmps72
 go_wp2_with (first | ((with_reducible refine gate_callee (f := 32) rfl ?_); refine goesL_ (some 4) rfl rfl Tryd.func32 (by kernel_rfl) rfl #[.int .u8 a0] rfl (by (try simp only [List.map_toArray, List.map_cons, List.map_nil]); first | done | rfl | (simp only [List.length_drop, List.length_take]; rfl)) ?_; (with_reducible refine (dn_lower.calls a0 t107 _ A2.out).mono ?_); rintro e w' ⟨rfl, ⟨nd, rfl⟩⟩; refine ⟨_, rfl, ?_⟩) | ((with_reducible refine gate_callee (f := 63) rfl ?_); refine goesL_ (some 5) rfl rfl Tryd.func63 (by kernel_rfl) rfl #[.string (⟨#[48, 49, 50, 51, 52, 53, 54, 55, 56, 57, 97, 98, 99, 100, 101, 102]⟩ : ByteArray), .int .u8 t107] rfl (by (try simp only [List.map_toArray, List.map_cons, List.map_nil]); first | done | rfl | (simp only [List.length_drop, List.length_take]; rfl)) ?_; (with_reducible refine (strings_IndexByte.calls (⟨#[48, 49, 50, 51, 52, 53, 54, 55, 56, 57, 97, 98, 99, 100, 101, 102]⟩ : ByteArray) t107 t108 _ A3.out).mono ?_); rintro e w' ⟨rfl, ⟨nd, rfl⟩⟩; refine ⟨_, rfl, ?_⟩))
 go_ret
 exact ⟨by first | rfl | (simp; done) | (simp [*]; done) | (simp [*, i64_w, i32_w, u8_w]; done) | (simp only [bneNil, beqNil]; done) | (simp only [bneNil, beqNil]; simp; done) | (simp only [bneNil, beqNil]; simp [*]; done), by repeat (first | exact Drawn0.refl _ | apply Drawn0.step)⟩
end Go.Proofs.YthfpaoacjpjnfaaDoor.P

namespace Go.Proofs.YthfpaoacjpjnfaaDoor.P
open Go.RowKit Go.Proofs.YthfpaoacjpjnfaaDoorW.PrintWords Go.Proofs.YthfpaoacjpjnfaaDoorW.PrintLast Go.Proofs.YthfpaoacjpjnfaaDoorW.PrintMore
attribute [local go_sem] max2_int min2_int max_two min_two max_three min_three max_four min_four
set_option linter.unusedVariables false
set_option linter.unusedSimpArgs false
mutual
def dn_escaped.j0 : Nat → ByteArray → Bool → Option (Int × Int)
 | 0, _, _ => none
 | k + 1, x0, x7 => if x7 = true then (if 0 < (x0.size : Int) then (some (bt x0 0, 1)) else (none)) else (if (x0.size : Int) > 1 then (if 0 < (x0.size : Int) then ((dn_digit.f (bt x0 0)).bind fun t110 => (if t110 ≥ 0 then (if 1 < (x0.size : Int) then ((dn_digit.f (bt x0 1)).bind fun t111 => (dn_escaped.j1 k x0 (decide (t111 ≥ 0)))) else (none)) else (dn_escaped.j1 k x0 false))) else (none)) else (dn_escaped.j1 k x0 false))
def dn_escaped.j1 : Nat → ByteArray → Bool → Option (Int × Int)
 | 0, _, _ => none
 | k + 1, x0, x28 => if x28 = true then (if 0 < (x0.size : Int) then ((dn_digit.f (bt x0 0)).bind fun t112 => (if 1 < (x0.size : Int) then ((dn_digit.f (bt x0 1)).bind fun t113 => (some ((Go.bits .or .i64 (wrap64 (t112 * 16)) t113) % 256, 2))) else (none))) else (none)) else (some (0, 0))
end
def dn_escaped.f (k : Nat) (a0 : ByteArray) : Option (Int × Int) := if a0.toList = ([] : List UInt8) then (some (0, 0)) else (if 0 < (a0.size : Int) then ((dn_special.f (bt a0 0)).bind fun t109 => (if t109 = true then (dn_escaped.j0 k a0 true) else (if (bt a0 0) = 61 then (dn_escaped.j0 k a0 true) else (if (bt a0 0) = 35 then (dn_escaped.j0 k a0 true) else (dn_escaped.j0 k a0 ((bt a0 0) == 32)))))) else (none))
set_option maxHeartbeats 8000000 in
set_option maxRecDepth 100000 in
theorem dn_escaped.calls (k : Nat) (a0 : ByteArray) (r1 : Int) (r2 : Int) (w : World) (h : dn_escaped.f k a0 = some (r1, r2)) :
  Calls Tryd.prog 61 #[.string a0] w fun e w' => e = .returned (.tuple #[.int .u8 r1, .int .i64 r2]) ∧ Drawn0 w w' := by
 have H : (if a0.toList = ([] : List UInt8) then (some (0, 0)) else (if 0 < (a0.size : Int) then ((dn_special.f (bt a0 0)).bind fun t109 => (if t109 = true then (dn_escaped.j0 k a0 true) else (if (bt a0 0) = 61 then (dn_escaped.j0 k a0 true) else (if (bt a0 0) = 35 then (dn_escaped.j0 k a0 true) else (dn_escaped.j0 k a0 ((bt a0 0) == 32)))))) else (none))) = some (r1, r2) := h
 clear h
 by_cases c2 : a0.toList = ([] : List UInt8)
 ·rw [if_pos c2] at H
  have c2b0 : (a0.toList == ([] : List UInt8)) = true := beq_iff_eq.mpr c2
  have c2b1 : (a0.toList != ([] : List UInt8)) = false := bne_eq_false_iff_eq.mpr c2
  clear c2
  simp only [Option.some.injEq, Prod.mk.injEq] at H
  obtain ⟨rfl, rfl⟩ := H
  go_enter Tryd.func61, Tryd.ntmps61
  go_wp2
  repeat (go_quiet (fail); try go_wp2)
  go_ret2
  exact ⟨by first | rfl | (simp; done) | (simp [*]; done) | (simp [*, i64_w, i32_w, u8_w]; done) | (simp only [bneNil, beqNil]; done) | (simp only [bneNil, beqNil]; simp; done) | (simp only [bneNil, beqNil]; simp [*]; done), by repeat (first | exact Drawn0.refl _ | apply Drawn0.step)⟩
 ·rw [if_neg c2] at H
  have c2b0 : (a0.toList == ([] : List UInt8)) = false := beq_eq_false_iff_ne.mpr c2
  have c2b1 : (a0.toList != ([] : List UInt8)) = true := bne_iff_ne.mpr c2
  have HC3 := Aside0.mk H
  clear H
  go_enter Tryd.func61, Tryd.ntmps61
  go_upto_region 3 with (fail)
  repeat (go_quiet (fail); go_upto_region 3 with (fail))
  go_cut [7] (fun v7 wc => ∃ (kq : Nat) (x7_2 : Bool), v7 = .bool x7_2 ∧ Aside0 (dn_escaped.j0 kq a0 x7_2 = some (r1, r2)) ∧ Aside0 (kq ≤ k) ∧ Drawn0 w wc)
  case first =>
   have H := HC3.out
   clear HC3
   by_cases c4 : 0 < (a0.size : Int)
   ·rw [if_pos c4] at H
    have c4b0 : decide (0 < (a0.size : Int)) = true := decide_eq_true c4
    have c4b1 : decide (0 < a0.size) = true := decide_eq_true (by omega)
    clear c4
    (first | rw [c4b0] | (simp only [i64_w, i32_w]; rw [c4b0]) | skip)
    replace H := Option.bind_eq_some_iff.mp H
    obtain ⟨t109, A60, H⟩ := H
    replace H : (if t109 = true then (dn_escaped.j0 k a0 true) else (if (bt a0 0) = 61 then (dn_escaped.j0 k a0 true) else (if (bt a0 0) = 35 then (dn_escaped.j0 k a0 true) else (dn_escaped.j0 k a0 ((bt a0 0) == 32))))) = some (r1, r2) := H
    have A6 := Aside0.mk A60
    clear A60
    by_cases c7 : t109 = true
    ·subst c7
     have H1 : (dn_escaped.j0 k a0 true) = some (r1, r2) := by rw [if_pos rfl] at H; exact H
     clear H
     have H := H1
     clear H1
     have H' := Aside0.mk H
     clear H
     have p5 : 0 ≤ (0 : Int) := (by omega)
     have q5 : 0 < a0.size := (by have : (0 : Int) < (a0.size : Int) := of_decide_eq_true (by first | (with_reducible assumption) | assumption); omega)
     have hx5 : ∀ h : 0 < a0.size, ((a0[0]'h).toNat : Int) = bt a0 0 := bt_at a0 0
     clear p5
     have qi5 : (0 < (a0.size : Int)) = True := eq_true (of_decide_eq_true (by first | (with_reducible assumption) | assumption))
     replace q5 := eq_true q5
     go_wp2_with (first | (go_at_call 49; (with_reducible refine (dn_special.calls (bt a0 0) true _ A6.out).mono ?_); rintro e w' ⟨rfl, ⟨nd, rfl⟩⟩; (try first | exact ⟨rfl, _, World.drewN_drewN _ _ _⟩ | exact ⟨rfl, _, Eq.trans (World.drewN_drewN _ _ _) (congrArg (World.drewN _) (Nat.add_assoc _ _ _))⟩)))
     repeat (go_quiet (first | (go_at_call 49; (with_reducible refine (dn_special.calls (bt a0 0) true _ A6.out).mono ?_); rintro e w' ⟨rfl, ⟨nd, rfl⟩⟩; (try first | exact ⟨rfl, _, World.drewN_drewN _ _ _⟩ | exact ⟨rfl, _, Eq.trans (World.drewN_drewN _ _ _) (congrArg (World.drewN _) (Nat.add_assoc _ _ _))⟩))); try go_wp2_with (first | (go_at_call 49; (with_reducible refine (dn_special.calls (bt a0 0) true _ A6.out).mono ?_); rintro e w' ⟨rfl, ⟨nd, rfl⟩⟩; (try first | exact ⟨rfl, _, World.drewN_drewN _ _ _⟩ | exact ⟨rfl, _, Eq.trans (World.drewN_drewN _ _ _) (congrArg (World.drewN _) (Nat.add_assoc _ _ _))⟩))))
     go_meet
     case rel => exact ⟨_, (true), (by first | rfl | (simp; done) | (simp [*]; done) | (simp [*, i64_w, i32_w, u8_w]; done) | (simp only [bneNil, beqNil]; done) | (simp only [bneNil, beqNil]; simp; done) | (simp only [bneNil, beqNil]; simp [*]; done)), H', ⟨by first | omega | exact Nat.le_refl _⟩, by repeat (first | exact Drawn0.refl _ | apply Drawn0.step)⟩
    ·replace c7 := Bool.eq_false_iff.mpr c7
     subst c7
     have H1 : (if (bt a0 0) = 61 then (dn_escaped.j0 k a0 true) else (if (bt a0 0) = 35 then (dn_escaped.j0 k a0 true) else (dn_escaped.j0 k a0 ((bt a0 0) == 32)))) = some (r1, r2) := by rw [if_neg (show ¬ (false = true) by decide)] at H; exact H
     clear H
     have H := H1
     clear H1
     by_cases c9 : (bt a0 0) = 61
     ·rw [if_pos c9] at H
      have c9b0 : ((bt a0 0) == 61) = true := beq_iff_eq.mpr c9
      have c9b1 : ((bt a0 0) != 61) = false := bne_eq_false_iff_eq.mpr c9
      clear c9
      have H' := Aside0.mk H
      clear H
      have p5 : 0 ≤ (0 : Int) := (by omega)
      have q5 : 0 < a0.size := (by have : (0 : Int) < (a0.size : Int) := of_decide_eq_true (by first | (with_reducible assumption) | assumption); omega)
      have hx5 : ∀ h : 0 < a0.size, ((a0[0]'h).toNat : Int) = bt a0 0 := bt_at a0 0
      clear p5
      have qi5 : (0 < (a0.size : Int)) = True := eq_true (of_decide_eq_true (by first | (with_reducible assumption) | assumption))
      replace q5 := eq_true q5
      go_wp2_with (first | (go_at_call 49; (with_reducible refine (dn_special.calls (bt a0 0) false _ A6.out).mono ?_); rintro e w' ⟨rfl, ⟨nd, rfl⟩⟩; (try first | exact ⟨rfl, _, World.drewN_drewN _ _ _⟩ | exact ⟨rfl, _, Eq.trans (World.drewN_drewN _ _ _) (congrArg (World.drewN _) (Nat.add_assoc _ _ _))⟩); have p8 : 0 ≤ (0 : Int) := (by omega); have q8 : 0 < a0.size := (by have : (0 : Int) < (a0.size : Int) := of_decide_eq_true (by first | (with_reducible assumption) | assumption); omega); have hx8 : ∀ h : 0 < a0.size, ((a0[0]'h).toNat : Int) = bt a0 0 := bt_at a0 0; clear p8; have qi8 : (0 < (a0.size : Int)) = True := eq_true (of_decide_eq_true (by first | (with_reducible assumption) | assumption)); replace q8 := eq_true q8))
      repeat (go_quiet (first | (go_at_call 49; (with_reducible refine (dn_special.calls (bt a0 0) false _ A6.out).mono ?_); rintro e w' ⟨rfl, ⟨nd, rfl⟩⟩; (try first | exact ⟨rfl, _, World.drewN_drewN _ _ _⟩ | exact ⟨rfl, _, Eq.trans (World.drewN_drewN _ _ _) (congrArg (World.drewN _) (Nat.add_assoc _ _ _))⟩); have p8 : 0 ≤ (0 : Int) := (by omega); have q8 : 0 < a0.size := (by have : (0 : Int) < (a0.size : Int) := of_decide_eq_true (by first | (with_reducible assumption) | assumption); omega); have hx8 : ∀ h : 0 < a0.size, ((a0[0]'h).toNat : Int) = bt a0 0 := bt_at a0 0; clear p8; have qi8 : (0 < (a0.size : Int)) = True := eq_true (of_decide_eq_true (by first | (with_reducible assumption) | assumption)); replace q8 := eq_true q8)); try go_wp2_with (first | (go_at_call 49; (with_reducible refine (dn_special.calls (bt a0 0) false _ A6.out).mono ?_); rintro e w' ⟨rfl, ⟨nd, rfl⟩⟩; (try first | exact ⟨rfl, _, World.drewN_drewN _ _ _⟩ | exact ⟨rfl, _, Eq.trans (World.drewN_drewN _ _ _) (congrArg (World.drewN _) (Nat.add_assoc _ _ _))⟩); have p8 : 0 ≤ (0 : Int) := (by omega); have q8 : 0 < a0.size := (by have : (0 : Int) < (a0.size : Int) := of_decide_eq_true (by first | (with_reducible assumption) | assumption); omega); have hx8 : ∀ h : 0 < a0.size, ((a0[0]'h).toNat : Int) = bt a0 0 := bt_at a0 0; clear p8; have qi8 : (0 < (a0.size : Int)) = True := eq_true (of_decide_eq_true (by first | (with_reducible assumption) | assumption)); replace q8 := eq_true q8)))
      go_meet
      case rel => exact ⟨_, (true), (by first | rfl | (simp; done) | (simp [*]; done) | (simp [*, i64_w, i32_w, u8_w]; done) | (simp only [bneNil, beqNil]; done) | (simp only [bneNil, beqNil]; simp; done) | (simp only [bneNil, beqNil]; simp [*]; done)), H', ⟨by first | omega | exact Nat.le_refl _⟩, by repeat (first | exact Drawn0.refl _ | apply Drawn0.step)⟩
     ·rw [if_neg c9] at H
      have c9b0 : ((bt a0 0) == 61) = false := beq_eq_false_iff_ne.mpr c9
      have c9b1 : ((bt a0 0) != 61) = true := bne_iff_ne.mpr c9
      by_cases c11 : (bt a0 0) = 35
      ·rw [if_pos c11] at H
       have c11b0 : ((bt a0 0) == 35) = true := beq_iff_eq.mpr c11
       have c11b1 : ((bt a0 0) != 35) = false := bne_eq_false_iff_eq.mpr c11
       clear c11
       have H' := Aside0.mk H
       clear H
       have p5 : 0 ≤ (0 : Int) := (by omega)
       have q5 : 0 < a0.size := (by have : (0 : Int) < (a0.size : Int) := of_decide_eq_true (by first | (with_reducible assumption) | assumption); omega)
       have hx5 : ∀ h : 0 < a0.size, ((a0[0]'h).toNat : Int) = bt a0 0 := bt_at a0 0
       clear p5
       have qi5 : (0 < (a0.size : Int)) = True := eq_true (of_decide_eq_true (by first | (with_reducible assumption) | assumption))
       replace q5 := eq_true q5
       go_wp2_with (first | (go_at_call 49; (with_reducible refine (dn_special.calls (bt a0 0) false _ A6.out).mono ?_); rintro e w' ⟨rfl, ⟨nd, rfl⟩⟩; (try first | exact ⟨rfl, _, World.drewN_drewN _ _ _⟩ | exact ⟨rfl, _, Eq.trans (World.drewN_drewN _ _ _) (congrArg (World.drewN _) (Nat.add_assoc _ _ _))⟩); have p8 : 0 ≤ (0 : Int) := (by omega); have q8 : 0 < a0.size := (by have : (0 : Int) < (a0.size : Int) := of_decide_eq_true (by first | (with_reducible assumption) | assumption); omega); have hx8 : ∀ h : 0 < a0.size, ((a0[0]'h).toNat : Int) = bt a0 0 := bt_at a0 0; clear p8; have qi8 : (0 < (a0.size : Int)) = True := eq_true (of_decide_eq_true (by first | (with_reducible assumption) | assumption)); replace q8 := eq_true q8; have p10 : 0 ≤ (0 : Int) := (by omega); have q10 : 0 < a0.size := (by have : (0 : Int) < (a0.size : Int) := of_decide_eq_true (by first | (with_reducible assumption) | assumption); omega); have hx10 : ∀ h : 0 < a0.size, ((a0[0]'h).toNat : Int) = bt a0 0 := bt_at a0 0; clear p10; have qi10 : (0 < (a0.size : Int)) = True := eq_true (of_decide_eq_true (by first | (with_reducible assumption) | assumption)); replace q10 := eq_true q10))
       repeat (go_quiet (first | (go_at_call 49; (with_reducible refine (dn_special.calls (bt a0 0) false _ A6.out).mono ?_); rintro e w' ⟨rfl, ⟨nd, rfl⟩⟩; (try first | exact ⟨rfl, _, World.drewN_drewN _ _ _⟩ | exact ⟨rfl, _, Eq.trans (World.drewN_drewN _ _ _) (congrArg (World.drewN _) (Nat.add_assoc _ _ _))⟩); have p8 : 0 ≤ (0 : Int) := (by omega); have q8 : 0 < a0.size := (by have : (0 : Int) < (a0.size : Int) := of_decide_eq_true (by first | (with_reducible assumption) | assumption); omega); have hx8 : ∀ h : 0 < a0.size, ((a0[0]'h).toNat : Int) = bt a0 0 := bt_at a0 0; clear p8; have qi8 : (0 < (a0.size : Int)) = True := eq_true (of_decide_eq_true (by first | (with_reducible assumption) | assumption)); replace q8 := eq_true q8; have p10 : 0 ≤ (0 : Int) := (by omega); have q10 : 0 < a0.size := (by have : (0 : Int) < (a0.size : Int) := of_decide_eq_true (by first | (with_reducible assumption) | assumption); omega); have hx10 : ∀ h : 0 < a0.size, ((a0[0]'h).toNat : Int) = bt a0 0 := bt_at a0 0; clear p10; have qi10 : (0 < (a0.size : Int)) = True := eq_true (of_decide_eq_true (by first | (with_reducible assumption) | assumption)); replace q10 := eq_true q10)); try go_wp2_with (first | (go_at_call 49; (with_reducible refine (dn_special.calls (bt a0 0) false _ A6.out).mono ?_); rintro e w' ⟨rfl, ⟨nd, rfl⟩⟩; (try first | exact ⟨rfl, _, World.drewN_drewN _ _ _⟩ | exact ⟨rfl, _, Eq.trans (World.drewN_drewN _ _ _) (congrArg (World.drewN _) (Nat.add_assoc _ _ _))⟩); have p8 : 0 ≤ (0 : Int) := (by omega); have q8 : 0 < a0.size := (by have : (0 : Int) < (a0.size : Int) := of_decide_eq_true (by first | (with_reducible assumption) | assumption); omega); have hx8 : ∀ h : 0 < a0.size, ((a0[0]'h).toNat : Int) = bt a0 0 := bt_at a0 0; clear p8; have qi8 : (0 < (a0.size : Int)) = True := eq_true (of_decide_eq_true (by first | (with_reducible assumption) | assumption)); replace q8 := eq_true q8; have p10 : 0 ≤ (0 : Int) := (by omega); have q10 : 0 < a0.size := (by have : (0 : Int) < (a0.size : Int) := of_decide_eq_true (by first | (with_reducible assumption) | assumption); omega); have hx10 : ∀ h : 0 < a0.size, ((a0[0]'h).toNat : Int) = bt a0 0 := bt_at a0 0; clear p10; have qi10 : (0 < (a0.size : Int)) = True := eq_true (of_decide_eq_true (by first | (with_reducible assumption) | assumption)); replace q10 := eq_true q10)))
       go_meet
       case rel => exact ⟨_, (true), (by first | rfl | (simp; done) | (simp [*]; done) | (simp [*, i64_w, i32_w, u8_w]; done) | (simp only [bneNil, beqNil]; done) | (simp only [bneNil, beqNil]; simp; done) | (simp only [bneNil, beqNil]; simp [*]; done)), H', ⟨by first | omega | exact Nat.le_refl _⟩, by repeat (first | exact Drawn0.refl _ | apply Drawn0.step)⟩
      ·rw [if_neg c11] at H
       have c11b0 : ((bt a0 0) == 35) = false := beq_eq_false_iff_ne.mpr c11
       have c11b1 : ((bt a0 0) != 35) = true := bne_iff_ne.mpr c11
       have H' := Aside0.mk H
       clear H
       have p5 : 0 ≤ (0 : Int) := (by omega)
       have q5 : 0 < a0.size := (by have : (0 : Int) < (a0.size : Int) := of_decide_eq_true (by first | (with_reducible assumption) | assumption); omega)
       have hx5 : ∀ h : 0 < a0.size, ((a0[0]'h).toNat : Int) = bt a0 0 := bt_at a0 0
       clear p5
       have qi5 : (0 < (a0.size : Int)) = True := eq_true (of_decide_eq_true (by first | (with_reducible assumption) | assumption))
       replace q5 := eq_true q5
       go_wp2_with (first | (go_at_call 49; (with_reducible refine (dn_special.calls (bt a0 0) false _ A6.out).mono ?_); rintro e w' ⟨rfl, ⟨nd, rfl⟩⟩; (try first | exact ⟨rfl, _, World.drewN_drewN _ _ _⟩ | exact ⟨rfl, _, Eq.trans (World.drewN_drewN _ _ _) (congrArg (World.drewN _) (Nat.add_assoc _ _ _))⟩); have p8 : 0 ≤ (0 : Int) := (by omega); have q8 : 0 < a0.size := (by have : (0 : Int) < (a0.size : Int) := of_decide_eq_true (by first | (with_reducible assumption) | assumption); omega); have hx8 : ∀ h : 0 < a0.size, ((a0[0]'h).toNat : Int) = bt a0 0 := bt_at a0 0; clear p8; have qi8 : (0 < (a0.size : Int)) = True := eq_true (of_decide_eq_true (by first | (with_reducible assumption) | assumption)); replace q8 := eq_true q8; have p10 : 0 ≤ (0 : Int) := (by omega); have q10 : 0 < a0.size := (by have : (0 : Int) < (a0.size : Int) := of_decide_eq_true (by first | (with_reducible assumption) | assumption); omega); have hx10 : ∀ h : 0 < a0.size, ((a0[0]'h).toNat : Int) = bt a0 0 := bt_at a0 0; clear p10; have qi10 : (0 < (a0.size : Int)) = True := eq_true (of_decide_eq_true (by first | (with_reducible assumption) | assumption)); replace q10 := eq_true q10; have p12 : 0 ≤ (0 : Int) := (by omega); have q12 : 0 < a0.size := (by have : (0 : Int) < (a0.size : Int) := of_decide_eq_true (by first | (with_reducible assumption) | assumption); omega); have hx12 : ∀ h : 0 < a0.size, ((a0[0]'h).toNat : Int) = bt a0 0 := bt_at a0 0; clear p12; have qi12 : (0 < (a0.size : Int)) = True := eq_true (of_decide_eq_true (by first | (with_reducible assumption) | assumption)); replace q12 := eq_true q12))
       repeat (go_quiet (first | (go_at_call 49; (with_reducible refine (dn_special.calls (bt a0 0) false _ A6.out).mono ?_); rintro e w' ⟨rfl, ⟨nd, rfl⟩⟩; (try first | exact ⟨rfl, _, World.drewN_drewN _ _ _⟩ | exact ⟨rfl, _, Eq.trans (World.drewN_drewN _ _ _) (congrArg (World.drewN _) (Nat.add_assoc _ _ _))⟩); have p8 : 0 ≤ (0 : Int) := (by omega); have q8 : 0 < a0.size := (by have : (0 : Int) < (a0.size : Int) := of_decide_eq_true (by first | (with_reducible assumption) | assumption); omega); have hx8 : ∀ h : 0 < a0.size, ((a0[0]'h).toNat : Int) = bt a0 0 := bt_at a0 0; clear p8; have qi8 : (0 < (a0.size : Int)) = True := eq_true (of_decide_eq_true (by first | (with_reducible assumption) | assumption)); replace q8 := eq_true q8; have p10 : 0 ≤ (0 : Int) := (by omega); have q10 : 0 < a0.size := (by have : (0 : Int) < (a0.size : Int) := of_decide_eq_true (by first | (with_reducible assumption) | assumption); omega); have hx10 : ∀ h : 0 < a0.size, ((a0[0]'h).toNat : Int) = bt a0 0 := bt_at a0 0; clear p10; have qi10 : (0 < (a0.size : Int)) = True := eq_true (of_decide_eq_true (by first | (with_reducible assumption) | assumption)); replace q10 := eq_true q10; have p12 : 0 ≤ (0 : Int) := (by omega); have q12 : 0 < a0.size := (by have : (0 : Int) < (a0.size : Int) := of_decide_eq_true (by first | (with_reducible assumption) | assumption); omega); have hx12 : ∀ h : 0 < a0.size, ((a0[0]'h).toNat : Int) = bt a0 0 := bt_at a0 0; clear p12; have qi12 : (0 < (a0.size : Int)) = True := eq_true (of_decide_eq_true (by first | (with_reducible assumption) | assumption)); replace q12 := eq_true q12)); try go_wp2_with (first | (go_at_call 49; (with_reducible refine (dn_special.calls (bt a0 0) false _ A6.out).mono ?_); rintro e w' ⟨rfl, ⟨nd, rfl⟩⟩; (try first | exact ⟨rfl, _, World.drewN_drewN _ _ _⟩ | exact ⟨rfl, _, Eq.trans (World.drewN_drewN _ _ _) (congrArg (World.drewN _) (Nat.add_assoc _ _ _))⟩); have p8 : 0 ≤ (0 : Int) := (by omega); have q8 : 0 < a0.size := (by have : (0 : Int) < (a0.size : Int) := of_decide_eq_true (by first | (with_reducible assumption) | assumption); omega); have hx8 : ∀ h : 0 < a0.size, ((a0[0]'h).toNat : Int) = bt a0 0 := bt_at a0 0; clear p8; have qi8 : (0 < (a0.size : Int)) = True := eq_true (of_decide_eq_true (by first | (with_reducible assumption) | assumption)); replace q8 := eq_true q8; have p10 : 0 ≤ (0 : Int) := (by omega); have q10 : 0 < a0.size := (by have : (0 : Int) < (a0.size : Int) := of_decide_eq_true (by first | (with_reducible assumption) | assumption); omega); have hx10 : ∀ h : 0 < a0.size, ((a0[0]'h).toNat : Int) = bt a0 0 := bt_at a0 0; clear p10; have qi10 : (0 < (a0.size : Int)) = True := eq_true (of_decide_eq_true (by first | (with_reducible assumption) | assumption)); replace q10 := eq_true q10; have p12 : 0 ≤ (0 : Int) := (by omega); have q12 : 0 < a0.size := (by have : (0 : Int) < (a0.size : Int) := of_decide_eq_true (by first | (with_reducible assumption) | assumption); omega); have hx12 : ∀ h : 0 < a0.size, ((a0[0]'h).toNat : Int) = bt a0 0 := bt_at a0 0; clear p12; have qi12 : (0 < (a0.size : Int)) = True := eq_true (of_decide_eq_true (by first | (with_reducible assumption) | assumption)); replace q12 := eq_true q12)))
       go_meet
       case rel => exact ⟨_, (((bt a0 0) == 32)), (by first | rfl | (simp; done) | (simp [*]; done) | (simp [*, i64_w, i32_w, u8_w]; done) | (simp only [bneNil, beqNil]; done) | (simp only [bneNil, beqNil]; simp; done) | (simp only [bneNil, beqNil]; simp [*]; done)), H', ⟨by first | omega | exact Nat.le_refl _⟩, by repeat (first | exact Drawn0.refl _ | apply Drawn0.step)⟩
   ·rw [if_neg c4] at H
    exact absurd H (by simp)
  case rest =>
   clear HC3
   try clear c1
   try clear p1
   try clear q1
   try clear hx1
   try clear qi1
   try clear c2
   try clear c2b0
   try clear c2b1
   try clear p2
   try clear c4
   try clear c4b0
   try clear c4b1
   try clear p5
   try clear q5
   try clear hx5
   try clear qi5
   try clear c6
   try clear c7
   try clear p8
   try clear q8
   try clear hx8
   try clear qi8
   try clear c9
   try clear c9b0
   try clear c9b1
   try clear p10
   try clear q10
   try clear hx10
   try clear qi10
   try clear c11
   try clear c11b0
   try clear c11b1
   try clear p12
   try clear q12
   try clear hx12
   try clear qi12
   try clear p10
   try clear p12
   try clear p5
   try clear p8
   try clear q10
   try clear q12
   try clear q5
   try clear q8
   obtain ⟨kq, x7_2, rfl, HA, HJ2, ⟨mc2, rfl⟩⟩ := hcut
   cases kq with
   | zero => exact absurd HA.out (by simp [dn_escaped.j0])
   | succ kj2 =>
    have H := HA.out
    clear HA
    simp only [dn_escaped.j0] at H
    by_cases c13 : x7_2 = true
    ·subst c13
     have H1 : (if 0 < (a0.size : Int) then (some (bt a0 0, 1)) else (none)) = some (r1, r2) := by rw [if_pos rfl] at H; exact H
     clear H
     have H := H1
     clear H1
     by_cases c14 : 0 < (a0.size : Int)
     ·rw [if_pos c14] at H
      have c14b0 : decide (0 < (a0.size : Int)) = true := decide_eq_true c14
      have c14b1 : decide (0 < a0.size) = true := decide_eq_true (by omega)
      clear c14
      simp only [Option.some.injEq, Prod.mk.injEq] at H
      obtain ⟨rfl, rfl⟩ := H
      have p15 : 0 ≤ (0 : Int) := (by omega)
      have q15 : 0 < a0.size := (by have : (0 : Int) < (a0.size : Int) := of_decide_eq_true (by first | (with_reducible assumption) | assumption); omega)
      have hx15 : ∀ h : 0 < a0.size, ((a0[0]'h).toNat : Int) = bt a0 0 := bt_at a0 0
      clear p15
      have qi15 : (0 < (a0.size : Int)) = True := eq_true (of_decide_eq_true (by first | (with_reducible assumption) | assumption))
      replace q15 := eq_true q15
      go_wp2
      repeat (go_quiet (fail); try go_wp2)
      go_ret2
      exact ⟨by first | rfl | (simp; done) | (simp [*]; done) | (simp [*, i64_w, i32_w, u8_w]; done) | (simp only [bneNil, beqNil]; done) | (simp only [bneNil, beqNil]; simp; done) | (simp only [bneNil, beqNil]; simp [*]; done), by repeat (first | exact Drawn0.refl _ | apply Drawn0.step)⟩
     ·rw [if_neg c14] at H
      exact absurd H (by simp)
    ·replace c13 := Bool.eq_false_iff.mpr c13
     subst c13
     have H1 : (if (a0.size : Int) > 1 then (if 0 < (a0.size : Int) then ((dn_digit.f (bt a0 0)).bind fun t110 => (if t110 ≥ 0 then (if 1 < (a0.size : Int) then ((dn_digit.f (bt a0 1)).bind fun t111 => (dn_escaped.j1 kj2 a0 (decide (t111 ≥ 0)))) else (none)) else (dn_escaped.j1 kj2 a0 false))) else (none)) else (dn_escaped.j1 kj2 a0 false)) = some (r1, r2) := by rw [if_neg (show ¬ (false = true) by decide)] at H; exact H
     clear H
     have H := H1
     clear H1
     have HC16 := Aside0.mk H
     clear H
     go_upto_region 5 with (fail)
     repeat (go_quiet (fail); go_upto_region 5 with (fail))
     go_cut [28] (fun v28 wc => ∃ (kq : Nat) (x28_15 : Bool), v28 = .bool x28_15 ∧ Aside0 (dn_escaped.j1 kq a0 x28_15 = some (r1, r2)) ∧ Aside0 (kq ≤ kj2) ∧ Drawn0 w wc)
     case first =>
      have H := HC16.out
      clear HC16
      by_cases c17 : (a0.size : Int) > 1
      ·rw [if_pos c17] at H
       have c17b0 : decide (1 < (a0.size : Int)) = true := decide_eq_true c17
       have c17b1 : decide (1 < a0.size) = true := decide_eq_true (by omega)
       clear c17
       (first | rw [c17b0] | (simp only [i64_w, i32_w]; rw [c17b0]) | skip)
       by_cases c18 : 0 < (a0.size : Int)
       ·rw [if_pos c18] at H
        have c18b0 : decide (0 < (a0.size : Int)) = true := decide_eq_true c18
        have c18b1 : decide (0 < a0.size) = true := decide_eq_true (by omega)
        clear c18
        replace H := Option.bind_eq_some_iff.mp H
        obtain ⟨t110, A200, H⟩ := H
        replace H : (if t110 ≥ 0 then (if 1 < (a0.size : Int) then ((dn_digit.f (bt a0 1)).bind fun t111 => (dn_escaped.j1 kj2 a0 (decide (t111 ≥ 0)))) else (none)) else (dn_escaped.j1 kj2 a0 false)) = some (r1, r2) := H
        have A20 := Aside0.mk A200
        clear A200
        by_cases c21 : t110 ≥ 0
        ·rw [if_pos c21] at H
         have c21b0 : decide (0 ≤ t110) = true := decide_eq_true c21
         clear c21
         by_cases c22 : 1 < (a0.size : Int)
         ·rw [if_pos c22] at H
          have c22b0 : decide (1 < (a0.size : Int)) = true := decide_eq_true c22
          have c22b1 : decide (1 < a0.size) = true := decide_eq_true (by omega)
          clear c22
          replace H := Option.bind_eq_some_iff.mp H
          obtain ⟨t111, A240, H⟩ := H
          replace H : (dn_escaped.j1 kj2 a0 (decide (t111 ≥ 0))) = some (r1, r2) := H
          have A24 := Aside0.mk A240
          clear A240
          have H' := Aside0.mk H
          clear H
          have p19 : 0 ≤ (0 : Int) := (by omega)
          have q19 : 0 < a0.size := (by have : (0 : Int) < (a0.size : Int) := of_decide_eq_true (by first | (with_reducible assumption) | assumption); omega)
          have hx19 : ∀ h : 0 < a0.size, ((a0[0]'h).toNat : Int) = bt a0 0 := bt_at a0 0
          clear p19
          have qi19 : (0 < (a0.size : Int)) = True := eq_true (of_decide_eq_true (by first | (with_reducible assumption) | assumption))
          replace q19 := eq_true q19
          go_wp2_with (first | (go_at_call 72; (with_reducible refine (dn_digit.calls (bt a0 0) t110 _ A20.out).mono ?_); rintro e w' ⟨rfl, ⟨nd, rfl⟩⟩; (try first | exact ⟨rfl, _, World.drewN_drewN _ _ _⟩ | exact ⟨rfl, _, Eq.trans (World.drewN_drewN _ _ _) (congrArg (World.drewN _) (Nat.add_assoc _ _ _))⟩); have p23 : 0 ≤ (1 : Int) := (by omega); have q23 : 1 < a0.size := (by have : (1 : Int) < (a0.size : Int) := of_decide_eq_true (by first | (with_reducible assumption) | assumption); omega); have hx23 : ∀ h : 1 < a0.size, ((a0[1]'h).toNat : Int) = bt a0 1 := bt_at a0 1; clear p23; have qi23 : (1 < (a0.size : Int)) = True := eq_true (of_decide_eq_true (by first | (with_reducible assumption) | assumption)); replace q23 := eq_true q23) | (go_at_call 72; (with_reducible refine (dn_digit.calls (bt a0 1) t111 _ A24.out).mono ?_); rintro e w' ⟨rfl, ⟨nd, rfl⟩⟩; (try first | exact ⟨rfl, _, World.drewN_drewN _ _ _⟩ | exact ⟨rfl, _, Eq.trans (World.drewN_drewN _ _ _) (congrArg (World.drewN _) (Nat.add_assoc _ _ _))⟩)))
          repeat (go_quiet (first | (go_at_call 72; (with_reducible refine (dn_digit.calls (bt a0 0) t110 _ A20.out).mono ?_); rintro e w' ⟨rfl, ⟨nd, rfl⟩⟩; (try first | exact ⟨rfl, _, World.drewN_drewN _ _ _⟩ | exact ⟨rfl, _, Eq.trans (World.drewN_drewN _ _ _) (congrArg (World.drewN _) (Nat.add_assoc _ _ _))⟩); have p23 : 0 ≤ (1 : Int) := (by omega); have q23 : 1 < a0.size := (by have : (1 : Int) < (a0.size : Int) := of_decide_eq_true (by first | (with_reducible assumption) | assumption); omega); have hx23 : ∀ h : 1 < a0.size, ((a0[1]'h).toNat : Int) = bt a0 1 := bt_at a0 1; clear p23; have qi23 : (1 < (a0.size : Int)) = True := eq_true (of_decide_eq_true (by first | (with_reducible assumption) | assumption)); replace q23 := eq_true q23) | (go_at_call 72; (with_reducible refine (dn_digit.calls (bt a0 1) t111 _ A24.out).mono ?_); rintro e w' ⟨rfl, ⟨nd, rfl⟩⟩; (try first | exact ⟨rfl, _, World.drewN_drewN _ _ _⟩ | exact ⟨rfl, _, Eq.trans (World.drewN_drewN _ _ _) (congrArg (World.drewN _) (Nat.add_assoc _ _ _))⟩))); try go_wp2_with (first | (go_at_call 72; (with_reducible refine (dn_digit.calls (bt a0 0) t110 _ A20.out).mono ?_); rintro e w' ⟨rfl, ⟨nd, rfl⟩⟩; (try first | exact ⟨rfl, _, World.drewN_drewN _ _ _⟩ | exact ⟨rfl, _, Eq.trans (World.drewN_drewN _ _ _) (congrArg (World.drewN _) (Nat.add_assoc _ _ _))⟩); have p23 : 0 ≤ (1 : Int) := (by omega); have q23 : 1 < a0.size := (by have : (1 : Int) < (a0.size : Int) := of_decide_eq_true (by first | (with_reducible assumption) | assumption); omega); have hx23 : ∀ h : 1 < a0.size, ((a0[1]'h).toNat : Int) = bt a0 1 := bt_at a0 1; clear p23; have qi23 : (1 < (a0.size : Int)) = True := eq_true (of_decide_eq_true (by first | (with_reducible assumption) | assumption)); replace q23 := eq_true q23) | (go_at_call 72; (with_reducible refine (dn_digit.calls (bt a0 1) t111 _ A24.out).mono ?_); rintro e w' ⟨rfl, ⟨nd, rfl⟩⟩; (try first | exact ⟨rfl, _, World.drewN_drewN _ _ _⟩ | exact ⟨rfl, _, Eq.trans (World.drewN_drewN _ _ _) (congrArg (World.drewN _) (Nat.add_assoc _ _ _))⟩))))
          go_meet
          case rel => exact ⟨_, (decide (t111 ≥ 0)), (by first | rfl | (simp; done) | (simp [*]; done) | (simp [*, i64_w, i32_w, u8_w]; done) | (simp only [bneNil, beqNil]; done) | (simp only [bneNil, beqNil]; simp; done) | (simp only [bneNil, beqNil]; simp [*]; done)), H', ⟨by have := HJ2.out; first | omega | exact Nat.le_refl _⟩, by repeat (first | exact Drawn0.refl _ | apply Drawn0.step)⟩
         ·rw [if_neg c22] at H
          exact absurd H (by simp)
        ·rw [if_neg c21] at H
         have c21b0 : decide (0 ≤ t110) = false := decide_eq_false c21
         clear c21
         have H' := Aside0.mk H
         clear H
         have p19 : 0 ≤ (0 : Int) := (by omega)
         have q19 : 0 < a0.size := (by have : (0 : Int) < (a0.size : Int) := of_decide_eq_true (by first | (with_reducible assumption) | assumption); omega)
         have hx19 : ∀ h : 0 < a0.size, ((a0[0]'h).toNat : Int) = bt a0 0 := bt_at a0 0
         clear p19
         have qi19 : (0 < (a0.size : Int)) = True := eq_true (of_decide_eq_true (by first | (with_reducible assumption) | assumption))
         replace q19 := eq_true q19
         go_wp2_with (first | (go_at_call 72; (with_reducible refine (dn_digit.calls (bt a0 0) t110 _ A20.out).mono ?_); rintro e w' ⟨rfl, ⟨nd, rfl⟩⟩; (try first | exact ⟨rfl, _, World.drewN_drewN _ _ _⟩ | exact ⟨rfl, _, Eq.trans (World.drewN_drewN _ _ _) (congrArg (World.drewN _) (Nat.add_assoc _ _ _))⟩)))
         repeat (go_quiet (first | (go_at_call 72; (with_reducible refine (dn_digit.calls (bt a0 0) t110 _ A20.out).mono ?_); rintro e w' ⟨rfl, ⟨nd, rfl⟩⟩; (try first | exact ⟨rfl, _, World.drewN_drewN _ _ _⟩ | exact ⟨rfl, _, Eq.trans (World.drewN_drewN _ _ _) (congrArg (World.drewN _) (Nat.add_assoc _ _ _))⟩))); try go_wp2_with (first | (go_at_call 72; (with_reducible refine (dn_digit.calls (bt a0 0) t110 _ A20.out).mono ?_); rintro e w' ⟨rfl, ⟨nd, rfl⟩⟩; (try first | exact ⟨rfl, _, World.drewN_drewN _ _ _⟩ | exact ⟨rfl, _, Eq.trans (World.drewN_drewN _ _ _) (congrArg (World.drewN _) (Nat.add_assoc _ _ _))⟩))))
         go_meet
         case rel => exact ⟨_, (false), (by first | rfl | (simp; done) | (simp [*]; done) | (simp [*, i64_w, i32_w, u8_w]; done) | (simp only [bneNil, beqNil]; done) | (simp only [bneNil, beqNil]; simp; done) | (simp only [bneNil, beqNil]; simp [*]; done)), H', ⟨by have := HJ2.out; first | omega | exact Nat.le_refl _⟩, by repeat (first | exact Drawn0.refl _ | apply Drawn0.step)⟩
       ·rw [if_neg c18] at H
        exact absurd H (by simp)
      ·rw [if_neg c17] at H
       have c17b0 : decide (1 < (a0.size : Int)) = false := decide_eq_false c17
       have c17b1 : decide (1 < a0.size) = false := decide_eq_false (by omega)
       clear c17
       (first | rw [c17b0] | (simp only [i64_w, i32_w]; rw [c17b0]) | skip)
       have H' := Aside0.mk H
       clear H
       go_wp2
       repeat (go_quiet (fail); try go_wp2)
       go_meet
       case rel => exact ⟨_, (false), (by first | rfl | (simp; done) | (simp [*]; done) | (simp [*, i64_w, i32_w, u8_w]; done) | (simp only [bneNil, beqNil]; done) | (simp only [bneNil, beqNil]; simp; done) | (simp only [bneNil, beqNil]; simp [*]; done)), H', ⟨by have := HJ2.out; first | omega | exact Nat.le_refl _⟩, by repeat (first | exact Drawn0.refl _ | apply Drawn0.step)⟩
     case rest =>
      clear HC16
      try clear c1
      try clear p1
      try clear q1
      try clear hx1
      try clear qi1
      try clear c2
      try clear c2b0
      try clear c2b1
      try clear p2
      try clear q2
      try clear hx2
      try clear qi2
      try clear c4
      try clear c4b0
      try clear c4b1
      try clear p5
      try clear q5
      try clear hx5
      try clear qi5
      try clear c6
      try clear c7
      try clear p8
      try clear q8
      try clear hx8
      try clear qi8
      try clear c9
      try clear c9b0
      try clear c9b1
      try clear p10
      try clear q10
      try clear hx10
      try clear qi10
      try clear c11
      try clear c11b0
      try clear c11b1
      try clear p12
      try clear q12
      try clear hx12
      try clear qi12
      try clear c13
      try clear c14
      try clear c14b0
      try clear c14b1
      try clear p15
      try clear q15
      try clear hx15
      try clear qi15
      try clear c17
      try clear c17b0
      try clear c17b1
      try clear c18
      try clear c18b0
      try clear c18b1
      try clear p19
      try clear q19
      try clear hx19
      try clear qi19
      try clear c21
      try clear c21b0
      try clear c22
      try clear c22b0
      try clear c22b1
      try clear p23
      try clear q23
      try clear hx23
      try clear qi23
      try clear p1
      try clear p10
      try clear p12
      try clear p15
      try clear p19
      try clear p2
      try clear p23
      try clear p5
      try clear p8
      try clear q1
      try clear q10
      try clear q12
      try clear q15
      try clear q19
      try clear q23
      try clear q5
      try clear q8
      obtain ⟨kq, x28_15, rfl, HA, HJ15, ⟨mc15, rfl⟩⟩ := hcut
      cases kq with
      | zero => exact absurd HA.out (by simp [dn_escaped.j1])
      | succ kj15 =>
       have H := HA.out
       clear HA
       simp only [dn_escaped.j1] at H
       by_cases c25 : x28_15 = true
       ·subst c25
        have H1 : (if 0 < (a0.size : Int) then ((dn_digit.f (bt a0 0)).bind fun t112 => (if 1 < (a0.size : Int) then ((dn_digit.f (bt a0 1)).bind fun t113 => (some ((Go.bits .or .i64 (wrap64 (t112 * 16)) t113) % 256, 2))) else (none))) else (none)) = some (r1, r2) := by rw [if_pos rfl] at H; exact H
        clear H
        have H := H1
        clear H1
        by_cases c26 : 0 < (a0.size : Int)
        ·rw [if_pos c26] at H
         have c26b0 : decide (0 < (a0.size : Int)) = true := decide_eq_true c26
         have c26b1 : decide (0 < a0.size) = true := decide_eq_true (by omega)
         clear c26
         replace H := Option.bind_eq_some_iff.mp H
         obtain ⟨t112, A280, H⟩ := H
         replace H : (if 1 < (a0.size : Int) then ((dn_digit.f (bt a0 1)).bind fun t113 => (some ((Go.bits .or .i64 (wrap64 (t112 * 16)) t113) % 256, 2))) else (none)) = some (r1, r2) := H
         have A28 := Aside0.mk A280
         clear A280
         by_cases c29 : 1 < (a0.size : Int)
         ·rw [if_pos c29] at H
          have c29b0 : decide (1 < (a0.size : Int)) = true := decide_eq_true c29
          have c29b1 : decide (1 < a0.size) = true := decide_eq_true (by omega)
          clear c29
          replace H := Option.bind_eq_some_iff.mp H
          obtain ⟨t113, A310, H⟩ := H
          replace H : (some ((Go.bits .or .i64 (wrap64 (t112 * 16)) t113) % 256, 2)) = some (r1, r2) := H
          have A31 := Aside0.mk A310
          clear A310
          simp only [Option.some.injEq, Prod.mk.injEq] at H
          obtain ⟨rfl, rfl⟩ := H
          have p27 : 0 ≤ (0 : Int) := (by omega)
          have q27 : 0 < a0.size := (by have : (0 : Int) < (a0.size : Int) := of_decide_eq_true (by first | (with_reducible assumption) | assumption); omega)
          have hx27 : ∀ h : 0 < a0.size, ((a0[0]'h).toNat : Int) = bt a0 0 := bt_at a0 0
          clear p27
          have qi27 : (0 < (a0.size : Int)) = True := eq_true (of_decide_eq_true (by first | (with_reducible assumption) | assumption))
          replace q27 := eq_true q27
          go_wp2_with (first | (go_at_call 72; (with_reducible refine (dn_digit.calls (bt a0 0) t112 _ A28.out).mono ?_); rintro e w' ⟨rfl, ⟨nd, rfl⟩⟩; (try first | exact ⟨rfl, _, World.drewN_drewN _ _ _⟩ | exact ⟨rfl, _, Eq.trans (World.drewN_drewN _ _ _) (congrArg (World.drewN _) (Nat.add_assoc _ _ _))⟩); have p30 : 0 ≤ (1 : Int) := (by omega); have q30 : 1 < a0.size := (by have : (1 : Int) < (a0.size : Int) := of_decide_eq_true (by first | (with_reducible assumption) | assumption); omega); have hx30 : ∀ h : 1 < a0.size, ((a0[1]'h).toNat : Int) = bt a0 1 := bt_at a0 1; clear p30; have qi30 : (1 < (a0.size : Int)) = True := eq_true (of_decide_eq_true (by first | (with_reducible assumption) | assumption)); replace q30 := eq_true q30) | (go_at_call 72; (with_reducible refine (dn_digit.calls (bt a0 1) t113 _ A31.out).mono ?_); rintro e w' ⟨rfl, ⟨nd, rfl⟩⟩; (try first | exact ⟨rfl, _, World.drewN_drewN _ _ _⟩ | exact ⟨rfl, _, Eq.trans (World.drewN_drewN _ _ _) (congrArg (World.drewN _) (Nat.add_assoc _ _ _))⟩)))
          repeat (go_quiet (first | (go_at_call 72; (with_reducible refine (dn_digit.calls (bt a0 0) t112 _ A28.out).mono ?_); rintro e w' ⟨rfl, ⟨nd, rfl⟩⟩; (try first | exact ⟨rfl, _, World.drewN_drewN _ _ _⟩ | exact ⟨rfl, _, Eq.trans (World.drewN_drewN _ _ _) (congrArg (World.drewN _) (Nat.add_assoc _ _ _))⟩); have p30 : 0 ≤ (1 : Int) := (by omega); have q30 : 1 < a0.size := (by have : (1 : Int) < (a0.size : Int) := of_decide_eq_true (by first | (with_reducible assumption) | assumption); omega); have hx30 : ∀ h : 1 < a0.size, ((a0[1]'h).toNat : Int) = bt a0 1 := bt_at a0 1; clear p30; have qi30 : (1 < (a0.size : Int)) = True := eq_true (of_decide_eq_true (by first | (with_reducible assumption) | assumption)); replace q30 := eq_true q30) | (go_at_call 72; (with_reducible refine (dn_digit.calls (bt a0 1) t113 _ A31.out).mono ?_); rintro e w' ⟨rfl, ⟨nd, rfl⟩⟩; (try first | exact ⟨rfl, _, World.drewN_drewN _ _ _⟩ | exact ⟨rfl, _, Eq.trans (World.drewN_drewN _ _ _) (congrArg (World.drewN _) (Nat.add_assoc _ _ _))⟩))); try go_wp2_with (first | (go_at_call 72; (with_reducible refine (dn_digit.calls (bt a0 0) t112 _ A28.out).mono ?_); rintro e w' ⟨rfl, ⟨nd, rfl⟩⟩; (try first | exact ⟨rfl, _, World.drewN_drewN _ _ _⟩ | exact ⟨rfl, _, Eq.trans (World.drewN_drewN _ _ _) (congrArg (World.drewN _) (Nat.add_assoc _ _ _))⟩); have p30 : 0 ≤ (1 : Int) := (by omega); have q30 : 1 < a0.size := (by have : (1 : Int) < (a0.size : Int) := of_decide_eq_true (by first | (with_reducible assumption) | assumption); omega); have hx30 : ∀ h : 1 < a0.size, ((a0[1]'h).toNat : Int) = bt a0 1 := bt_at a0 1; clear p30; have qi30 : (1 < (a0.size : Int)) = True := eq_true (of_decide_eq_true (by first | (with_reducible assumption) | assumption)); replace q30 := eq_true q30) | (go_at_call 72; (with_reducible refine (dn_digit.calls (bt a0 1) t113 _ A31.out).mono ?_); rintro e w' ⟨rfl, ⟨nd, rfl⟩⟩; (try first | exact ⟨rfl, _, World.drewN_drewN _ _ _⟩ | exact ⟨rfl, _, Eq.trans (World.drewN_drewN _ _ _) (congrArg (World.drewN _) (Nat.add_assoc _ _ _))⟩))))
          go_ret2
          exact ⟨by first | rfl | (simp; done) | (simp [*]; done) | (simp [*, i64_w, i32_w, u8_w]; done) | (simp only [bneNil, beqNil]; done) | (simp only [bneNil, beqNil]; simp; done) | (simp only [bneNil, beqNil]; simp [*]; done), by repeat (first | exact Drawn0.refl _ | apply Drawn0.step)⟩
         ·rw [if_neg c29] at H
          exact absurd H (by simp)
        ·rw [if_neg c26] at H
         exact absurd H (by simp)
       ·replace c25 := Bool.eq_false_iff.mpr c25
        subst c25
        have H1 : (some (0, 0)) = some (r1, r2) := by rw [if_neg (show ¬ (false = true) by decide)] at H; exact H
        clear H
        have H := H1
        clear H1
        simp only [Option.some.injEq, Prod.mk.injEq] at H
        obtain ⟨rfl, rfl⟩ := H
        go_wp2
        repeat (go_quiet (fail); try go_wp2)
        go_ret2
        exact ⟨by first | rfl | (simp; done) | (simp [*]; done) | (simp [*, i64_w, i32_w, u8_w]; done) | (simp only [bneNil, beqNil]; done) | (simp only [bneNil, beqNil]; simp; done) | (simp only [bneNil, beqNil]; simp [*]; done), by repeat (first | exact Drawn0.refl _ | apply Drawn0.step)⟩
end Go.Proofs.YthfpaoacjpjnfaaDoor.P
