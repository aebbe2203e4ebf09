/- Part 2 of 7 of the proof. See the last part. -/
import Derived.Test.YthfpaoacjpjnfaaGreatDoorMELogic1
import Derived.Test.YthfpaoacjpjnfaaGreatDoorChecked
import Derived.WalkKit
import Derived.KernelRfl
import Derived.Lib.ConvBytes
import Derived.Lib.AtoiErrMem
import Derived.Lib.Hide
import Derived.Lib.LaidTab
import Derived.Lib.ItoaNum
import Derived.OwnWalk
import Derived.Laws.BytesArg
import Derived.Test.YthfpaoacjpjnfaaGreatDoorRows
import Derived.Stop.LaidErr
import Derived.Shelf.Vars
import Derived.Lay
import Derived.Deep.DeepHandedRow
import Derived.ShutString
import Derived.Shelf.Strings.Builder1
import Derived.Shelf.Strings.Trim
import Derived.Shelf.Small.Utf8
import Derived.Shelf.Small.Strs
import Derived.Shelf.Small.Wraps
import Derived.Shelf.Strings.BuilderF
import Derived.Shelf.Strings.BuilderK
import Derived.Shelf.Strconv.Atoi
import Derived.Shelf.Strconv.Itoa0
import Derived.Shelf.Strconv.Itoa1
import Derived.Shelf.LaysM
import Derived.Shelf.Strconv.Itoa2
import Derived.Shelf.Strconv.Itoa3
import Derived.Shelf.Strconv.AtoiErrFast
import Derived.Shelf.Strconv.ParseIntEmpty
import Derived.Shelf.Strconv.AtoiFail
import Derived.Shelf.Strconv.Clone
import Derived.Shelf.Strconv.SyntaxError
import Derived.Shelf.LaysC
import Derived.Shelf.Strconv.ToError
import Derived.Shelf.Strconv.AtoiErr
import Derived.Shelf.Strconv.Lower
import Derived.Shelf.Strconv.ParseUint10
import Derived.Shelf.Strconv.ParseUint10Empty
import Derived.Shelf.Strconv.ParseUint10Any
import Derived.Shelf.Strconv.ParseInt10
import Derived.Shelf.Strconv.AtoiLong
import Derived.Shelf.Strconv.AtoiInnerAll
import Derived.Shelf.Strconv.RangeError
import Derived.Shelf.Strconv.ToErrorRange
import Derived.Shelf.Strconv.AtoiAll
import Derived.Shelf.Strconv.ErrVarAll
import Derived.Shelf.Strings.Search1
import Derived.Shelf.Strings.Search2
import Derived.Shelf.Strings.Cut
import Derived.Shelf.Strings.Shaped
import Derived.Shelf.Strings.Prefix
import Derived.Shelf.Strings.Runes
import Derived.Shelf.Strings.AsciiSet
import Derived.Shelf.Unicode.DecodeSlow
import Derived.Shelf.Strings.BuilderCap
import Derived.Ground.Names2Prog
import Derived.Shelf.Slices.Clone
import Derived.Test.YthfpaoacjpjnfaaGreatDoorProg
import Derived.Lib.OthersKept
import Derived.StillTailTactics
import Derived.WideLaws
import Derived.Shelf.Abstract
import Derived.Deep.RegionHeld3
import Derived.Lib.AtoiTie
import Derived.BigQuiet
set_option linter.unusedVariables false
set_option linter.unusedSimpArgs false

namespace Go.Proofs.YthfpaoacjpjnfaaGreatDoor.P
open Go.Proofs.YthfpaoacjpjnfaaGreatDoorW.PrintWords
theorem kM {p:UInt8→Prop} [DecidablePred p] (h:∀ n:Fin 256,p (UInt8.ofNat n.val)) (c:UInt8):p c:=by
  have:=h ⟨c.toNat,c.toNat_lt⟩
  simpa using this
abbrev mk (l:List UInt8):ByteArray:=⟨l.toArray⟩
theorem mk_data (l:List UInt8):(mk l).data.toList=l:=rfl
theorem wJ (s:ByteArray):mk s.data.toList=s:=rfl
theorem dU (s:ByteArray):s.size=s.data.toList.length:=by rw [Array.length_toList];rfl
theorem iX (l:List UInt8):(mk l).size=l.length:=by rw [dU]
theorem toList_data (s:ByteArray):s.toList=s.data.toList:=ByteArray.toList_eq s
theorem gV (l:List UInt8):(mk l).toList=l:=by rw [toList_data]
theorem qU {s t:ByteArray} (h:s.data.toList=t.data.toList):s=t:=by rw [← wJ s,← wJ t,h]
theorem jZ (s:ByteArray):s.toList=[]↔s.size=0:=by
  rw [toList_data,dU]
  exact ⟨fun h=>by rw [h];rfl,fun h=>List.eq_nil_of_length_eq_zero h⟩
theorem xW (s:ByteArray) (i:Int):bt s i=((s.data.toList.getD i.toNat 0).toNat:Int):=by
  unfold bt
  split
  · rename_i h
    rw [List.getD_eq_getElem?_getD,List.getElem?_eq_getElem (by rw [← dU];exact h)]
    rfl
  · rename_i h
    rw [List.getD_eq_getElem?_getD,List.getElem?_eq_none (by rw [← dU];omega)]
    rfl
theorem qK (s:ByteArray) (k:Nat):bt s (k:Int)=((s.data.toList.getD k 0).toNat:Int):=by rw [xW,Int.toNat_natCast]
theorem ja (s t:ByteArray):(s++t).data.toList=s.data.toList++t.data.toList:=by simp
def jr (c:UInt8):Bool:=(decide (97≤c) && decide (c≤122)) || (decide (65≤c) && decide (c≤90))
def fH (c:UInt8):Bool:=jr c || (decide (48≤c) && decide (c≤57)) || decide (c=45)
def gp (l:List UInt8):Bool:=!l.isEmpty && decide (l.length≤30) && jr (l.getD 0 0) && l.all fH
def ng (c:UInt8):UInt8:=if 65≤c∧c≤90 then c+32 else c
def jm (b:List UInt8) (c:UInt8):List UInt8:=if c=32∧b.getLast?=some 32 then b else b++[c]
def sq (l:List UInt8):List UInt8:=l.foldl jm []
theorem vW (l:List UInt8) (c:UInt8):sq (l++[c])=jm (sq l) c:=by unfold sq;rw [List.foldl_append];rfl
theorem mV (l:List UInt8) (k:Nat) (h:k < l.length):l.take (k+1)=l.take k++[l.getD k 0]:=by
  rw [List.take_succ_eq_append_getElem h,List.getD_eq_getElem?_getD,List.getElem?_eq_getElem h];rfl
theorem pF (l:List UInt8) (k:Nat) (h:k < l.length):sq (l.take (k+1))=jm (sq (l.take k)) (l.getD k 0):=by rw [mV l k h,vW]
theorem tC (b:List UInt8) (c:UInt8):jm b c≠[]:=by
  unfold jm
  split
  · rename_i h
    intro hb
    rw [hb] at h
    exact absurd h.2 (by simp)
  · simp
theorem q8 (l:List UInt8) (k:Nat) (h0:0 < k) (h:k≤l.length):sq (l.take k)≠[]:=by
  obtain ⟨j,rfl⟩:∃ j,k=j+1:=⟨k - 1,by omega⟩
  rw [pF l j (by omega)]
  exact tC _ _
theorem rz (b:List UInt8) (c:UInt8):(jm b c).length≤b.length+1:=by
  unfold jm
  split
  · omega
  · simp
theorem kg (l:List UInt8):∀ k,k≤l.length→(sq (l.take k)).length≤k
  | 0,_=>by simp [sq]
  | k+1,h=>by
    rw [pF l k (by omega)]
    have:=rz (sq (l.take k)) (l.getD k 0)
    have:=kg l k (by omega)
    omega
def gI (l:List UInt8):List Int:=l.map fun c=>(c.toNat:Int)
theorem ma (l:List UInt8):(gI l).length=l.length:=by simp [gI]
theorem nD (l:List UInt8) (c:UInt8):gI (l++[c])=gI l++[(c.toNat:Int)]:=by simp [gI]
theorem qy (l:List UInt8):strOfNums (gI l)=mk l:=by
  apply qU
  rw [strOfNums_data,mk_data]
  unfold gI
  rw [List.map_map]
  conv=>rhs;rw [← List.map_id l]
  refine List.map_congr_left fun c _=>?_
  simp
theorem qD (l:List UInt8) (h:l≠[]):rd (gI l) ((l.length:Int) - 1)=((l.getLast h).toNat:Int):=by
  unfold rd gI
  have h1:0 < l.length:=List.length_pos_iff.2 h
  rw [show ((l.length:Int) - 1).toNat=l.length - 1 by omega,List.getD_eq_getElem?_getD,List.getElem?_map,List.getElem?_eq_getElem (by omega),List.getLast_eq_getElem]
  rfl
theorem wF (u:UInt8):((u.toNat:Int)=32)↔u=32:=kM (p:=fun u=>((u.toNat:Int)=32)↔u=32) (by decide +kernel) u
def nH (c:UInt8):Bool:=c == 44 || c == 43 || c == 34 || c == 92 || c == 60 || c == 62 || c == 59
def yl (n:UInt8):UInt8:=if n < 10 then 48+n else 87+n
def oddB (c:UInt8):Bool:=decide (c < 32) || decide (126 < c)
end Go.Proofs.YthfpaoacjpjnfaaGreatDoor.P

namespace Go.Proofs.YthfpaoacjpjnfaaGreatDoor.P
open Go.RowKit Go.Proofs.YthfpaoacjpjnfaaGreatDoorW.PrintWords Go.Proofs.YthfpaoacjpjnfaaGreatDoorW.PrintLast Go.Proofs.YthfpaoacjpjnfaaGreatDoorW.PrintMore
structure Gl (w:World):Prop where
  maxLen:∃ m,w.cell? ⟨0,0,none⟩=some (.int .i64 m)
  syn:∃ tp p,w.cell? ⟨1,0,none⟩=some (.iface tp p)
  rng:∃ tp p,w.cell? ⟨2,0,none⟩=some (.iface tp p)
  pow:Lib.TabIs Tryz.prog w "internal/strconv.uint64pow10" .u64 Lib.pow10Tab
theorem jG:Tryz.prog.globalNamed "internal/strconv.uint64pow10" = some 5:=by kernel_rfl
theorem xn {w:World} {zs:List Int} {k:IntKind} (h:Lib.TabIs Tryz.prog w "internal/strconv.uint64pow10" k zs):5 < w.heap.size:=by
  unfold Lib.TabIs World.var? at h
  rw [jG] at h
  simp only [Option.bind_some] at h
  rcases Nat.lt_or_ge 5 w.heap.size with h'|h'
  · exact h'
  · simp [Array.getElem?_eq_none h'] at h
theorem tF {w w':World} {zs:List Int} {k:IntKind} (h:Lib.TabIs Tryz.prog w "internal/strconv.uint64pow10" k zs) (hb:Below w.heap.size w w'):Lib.TabIs Tryz.prog w' "internal/strconv.uint64pow10" k zs:=by
  have hlt:=xn h
  unfold Lib.TabIs World.var? at h ⊢
  rw [jG] at h ⊢
  simp only [Option.bind_some] at h ⊢
  rw [hb.block _ hlt]
  exact h
theorem Gl.below {w w':World} (h:Gl w) (hb:Below w.heap.size w w'):Gl w':=by
  obtain ⟨m,hm⟩:=h.maxLen
  obtain ⟨t1,p1,h1⟩:=h.syn
  obtain ⟨t2,p2,h2⟩:=h.rng
  exact ⟨⟨m,gm hb hm⟩,⟨t1,p1,gm hb h1⟩,⟨t2,p2,gm hb h2⟩,tF h.pow hb⟩
theorem Gl.drewN {w:World} (h:Gl w) (n:Nat):Gl (w.drewN n):=h.below (ae (Below.refl _ _) n)
theorem bU (n:Int):IntKind.u8.wrap n=n % 256:=by first|rfl|simp [IntKind.wrap]|(unfold IntKind.wrap;rfl)
theorem ay (l:List UInt8):(l != [])=!l.isEmpty:=by cases l <;> rfl
theorem ax (l:List UInt8):(l == [])=l.isEmpty:=by cases l <;> rfl
def l9 (c:Int):Int:=if 65≤c∧c≤90 then c+32 else c
def gq (s:ByteArray):ByteArray:=⟨s.data.map ng⟩
theorem kH (s:ByteArray):(gq s).data.toList=s.data.toList.map ng:=by unfold gq;rw [Array.toList_map]
theorem tq (s:ByteArray):(gq s).size=s.size:=by rw [dU,kH,List.length_map,← dU]
structure iK (w:World) (B n:Nat) (f:Nat→Int):Prop where
  cell:∀ j,j < n→w.cell? ⟨B,j,none⟩=some (.int .u8 (f j))
  free:∀ j,j < n→w.frozen? ⟨B,j,none⟩=false
theorem iM (w:World) (s:ByteArray):iK (Lib.bytesWorld w 5 s) w.heap.size s.size (fun j=>((s.data.toList.getD j 0).toNat:Int)):=by
  refine ⟨fun j hj=>Lib.bytesWorld_cell w 5 s j hj,fun j hj=>?_⟩
  have h:=Lib.bytesWorld_at_new w 5 s
  have hb:s.size≤(Lib.bytesCells w 5 s).size:=by simp [Lib.bytesCells]
  simp [World.frozen?,h]
  omega
theorem heap_drewN (w:World) (n:Nat):(w.drewN n).heap=w.heap:=by simp
theorem nK (w:World) (n:Nat) (s:ByteArray):iK (Lib.bytesWorld (w.drewN n) 5 s) w.heap.size s.size (fun j=>((s.data.toList.getD j 0).toNat:Int)):=by
  have h:=iM (w.drewN n) s
  rw [heap_drewN] at h
  exact h
theorem qa (w:World) (n:Nat) (s:ByteArray):Below w.heap.size w (Lib.bytesWorld (w.drewN n) 5 s):=by
  have h:=Lib.bytesWorld_below (w.drewN n) 5 s
  rw [heap_drewN] at h
  exact (ae (Below.refl _ _) n).trans h
theorem tZ {w:World} {B n:Nat} {f:Nat→Int} (h:iK w B n f) (k:Nat) (hk:k < n) (v:Int):iK (w.setCell ⟨B,k,none⟩ (.int .u8 v)) B n (fun j=>if j=k then v else f j):=by
  refine ⟨fun j hj=>?_,fun j hj=>by rw [World.frozen?_setCell];exact h.free j hj⟩
  by_cases e:j=k
  · subst e
    rw [World.cell?_setCell_same _ _ _ (h.cell j hj),if_pos rfl]
  · rw [World.cell?_setCell_other _ _ _ _ (by intro he;injection he with _ h2;omega),if_neg e]
    exact h.cell j hj
theorem qM {w:World} {B n:Nat} {f:Nat→Int} (h:iK w B n f) (m:Nat):iK (w.drewN m) B n f:=by
  refine ⟨fun j hj=>?_,fun j hj=>?_⟩
  · simpa using h.cell j hj
  · simpa using h.free j hj
theorem nz {w:World} {B n:Nat} {f g:Nat→Int} (h:iK w B n f) (e:∀ j,j < n→f j=g j):iK w B n g :=
  ⟨fun j hj=>by rw [← e j hj];exact h.cell j hj,h.free⟩
theorem qW {w w':World} {B n:Nat} {f:Nat→Int} (h:iK w B n f) (hB:B < w.heap.size) (hb:Below w.heap.size w w'):iK w' B n f :=
  ⟨fun j hj=>by rw [hb.cell (p:=⟨B,j,none⟩) hB];exact h.cell j hj,fun j hj=>by rw [hb.frozen (p:=⟨B,j,none⟩) hB];exact h.free j hj⟩
theorem nS {w w':World} {B n:Nat} {f:Nat→Int} (h:iK w B n f) (hb:w'.heap[B]?=w.heap[B]?):iK w' B n f :=
  ⟨fun j hj=>by rw [World.cell?_of_block (a:=⟨B,j,none⟩) hb];exact h.cell j hj,fun j hj=>by rw [World.frozen?_of_block (a:=⟨B,j,none⟩) hb];exact h.free j hj⟩
theorem jc {P:Program} {w:World} {B n:Nat} {f:Nat→Int} (h:iK w B n f) (cap src e dst:Nat) (hs:P.underlying src=some (.slice e)) (he:P.underlying e=some (.int .u8)) (hd:P.underlying dst=some .string) :
    (convert src dst (.slice (some ⟨B,0,none⟩) n cap)).run P w=.ok (.string (strOfNums ((List.range n).map f))) w:=by
  refine run_convert_bytes_arg w src e hs he B 0 n cap ((List.range n).map f) (by simp) (fun i hi=>?_) dst hd
  rw [Nat.zero_add,h.cell i hi]
  simp [List.getD,hi]
theorem tO (c:UInt8):l9 (c.toNat:Int)=((ng c).toNat:Int):=by
  unfold l9 ng
  have h:=c.toNat_lt
  simp only [UInt8.le_iff_toNat_le]
  have e1:(65:UInt8).toNat=65:=rfl
  have e2:(90:UInt8).toNat=90:=rfl
  rw [e1,e2]
  by_cases hc:65≤c.toNat∧c.toNat≤90
  · rw [if_pos (by omega),if_pos hc,UInt8.toNat_add]
    have e3:(32:UInt8).toNat=32:=rfl
    rw [e3];omega
  · rw [if_neg (by omega),if_neg hc]
theorem qJ (s:ByteArray):strOfNums ((List.range s.size).map fun j=>l9 ((s.data.toList.getD j 0).toNat:Int))=gq s:=by
  unfold strOfNums gq
  congr 1
  apply Array.ext
  · rw [List.size_toArray,List.length_map,List.length_map,List.length_range,Array.size_map];rfl
  · intro i h1 h2
    rw [Array.size_map] at h2
    rw [List.getElem_toArray,List.getElem_map,List.getElem_map,List.getElem_range,Array.getElem_map,tO]
    have e:s.data.toList.getD i 0=s.data[i]:=by
      rw [List.getD_eq_getElem?_getD,List.getElem?_eq_getElem (by simpa using h2)];rfl
    rw [e]
    simp
def iI (s:ByteArray) (k:Nat):Nat→Int:=fun j=>if j < k then l9 ((s.data.toList.getD j 0).toNat:Int) else ((s.data.toList.getD j 0).toNat:Int)
theorem jF (s:ByteArray):iI s 0=fun j=>((s.data.toList.getD j 0).toNat:Int):=by funext j;simp [iI]
theorem jL (s:ByteArray) (k:Nat):iI s k k=((s.data.toList.getD k 0).toNat:Int):=by simp [iI]
theorem kv (s:ByteArray) (k:Nat) (h:¬ k < s.size):strOfNums ((List.range s.size).map (iI s k))=gq s:=by
  rw [← qJ]
  congr 1
  refine List.map_congr_left fun j hj=>?_
  unfold iI
  rw [if_pos (by have:=List.mem_range.1 hj;omega)]
theorem kF {w:World} {B:Nat} {s:ByteArray} {k:Nat} (h:iK w B s.size (iI s k)) (hk:k < s.size) {c:Int} (hc:((s.data.toList.getD k 0).toNat:Int)=c):iK (w.setCell ⟨B,k,none⟩ (.int .u8 (l9 c))) B s.size (iI s (k+1)):=by
  refine nz (tZ h k hk (l9 c)) fun j hj=>?_
  unfold iI
  by_cases e1:j=k
  · subst e1;rw [if_pos rfl,if_pos (by omega),hc]
  · rw [if_neg e1]
    by_cases e2:j < k
    · rw [if_pos e2,if_pos (by omega)]
    · rw [if_neg e2,if_neg (by omega)]
theorem iA {w:World} {B:Nat} {s:ByteArray} {k:Nat} (h:iK w B s.size (iI s k)) {c:Int} (hc:((s.data.toList.getD k 0).toNat:Int)=c) (hl:l9 c=c):iK w B s.size (iI s (k+1)):=by
  refine nz h fun j hj=>?_
  unfold iI
  by_cases e1:j=k
  · subst e1;rw [if_neg (by omega),if_pos (by omega),hc,hl]
  · by_cases e2:j < k
    · rw [if_pos e2,if_pos (by omega)]
    · rw [if_neg e2,if_neg (by omega)]
theorem oZ {c:Int} (h1:65≤c) (h2:c≤90):l9 c=c+32:=by unfold l9;rw [if_pos ⟨h1,h2⟩]
theorem jy {c:Int} (h:¬ (65≤c∧c≤90)):l9 c=c:=by unfold l9;rw [if_neg h]
end Go.Proofs.YthfpaoacjpjnfaaGreatDoor.P


namespace Go.Proofs.YthfpaoacjpjnfaaGreatDoor.P
open Go.RowKit Go.ChangeShapes
theorem own:ownKnob Tryz.prog.godebug=none:=by kernel_rfl
theorem laidOut:laidOutB Tryz.prog=true:=by kernel_rfl
def LAID:List (String × DataW Unit):=[("math/bits.deBruijn32tab", Rows.laid_math_bits_deBruijn32tab),("math/bits.deBruijn64tab", Rows.laid_math_bits_deBruijn64tab),("internal/strconv.uint64pow10", Rows.laid_internal_strconv_uint64pow10),("unicode/utf8.acceptRanges", Rows.laid_unicode_utf8_acceptRanges),("strconv.ErrRange", Rows.laid_strconv_ErrRange),("strconv.ErrSyntax", Rows.laid_strconv_ErrSyntax),("unicode/utf8.first", Rows.laid_unicode_utf8_first)]
theorem rq {w:World} (h:laidMetH Tryz.prog LAID w):laidMet Tryz.prog LAID w:=by
  have e:(LAID.filter fun x=>x.2.handleName?.isSome)=[]:=by kernel_rfl
  unfold laidMetH at h
  rw [e] at h
  exact h
theorem wB {w:World} (h:laidMet Tryz.prog LAID w):laidMetH Tryz.prog LAID w:=by
  have e:(LAID.filter fun x=>x.2.handleName?.isSome)=[]:=by kernel_rfl
  unfold laidMetH
  rw [e]
  exact h
theorem gES:Tryz.prog.globalNamed "strconv.ErrSyntax" = some 1:=by kernel_rfl
theorem wh:(Tryz.prog.globals[1]?).map (·.type)=some 95:=by kernel_rfl
theorem gER:Tryz.prog.globalNamed "strconv.ErrRange" = some 2:=by kernel_rfl
theorem vV:(Tryz.prog.globals[2]?).map (·.type)=some 95:=by kernel_rfl
theorem uT:(Tryz.prog.globals[5]?).map (·.type)=some 170:=by kernel_rfl
theorem rH:Tryz.prog.cellsOf 169=1:=by kernel_rfl
theorem cellsS:Tryz.prog.cellsOf 9=1:=by kernel_rfl
theorem xm:Tryz.prog.cellsOf 57=1:=by kernel_rfl
theorem uK:Tryz.prog.cellsOf 170=20:=by kernel_rfl
theorem star : "*" ++ "errors.errorString" = "*errors.errorString" := by decide
theorem wO (u:TypeId) (h:Tryz.prog.typeName? 3 u=some "*errors.errorString"):u=167 :=
  typeName_ptr_named (nm := "errors.errorString") (by rw [star];kernel_rfl) (by kernel_rfl) (by decide) u (by rw [star];exact h)
theorem yj {W:World} (hL:laidMetH Tryz.prog LAID W) (hsh:W.ShapedOpen Tryz.prog):Gl W:=by
  have h:=rq hL
  have hpow:=Lib.tabIs_of_head (zs:=Lib.pow10Tab) (k:=.u64) (rest:=_) jG uT Tryz.underlying170 Tryz.underlying57 xm uK h.tail.tail
  obtain ⟨a1,s1,hv1,-,-,-⟩:=laid_sentinel h.tail.tail.tail.tail gER vV Tryz.underlying95 wO Tryz.underlying167 Tryz.underlying169 rfl rfl Tryz.underlying9 rH cellsS
  obtain ⟨a0,s0,hv0,-,-,-⟩:=laid_sentinel h.tail.tail.tail.tail.tail gES wh Tryz.underlying95 wO Tryz.underlying167 Tryz.underlying169 rfl rfl Tryz.underlying9 rH cellsS
  refine ⟨cell_of_shapedOpen_int (P:=Tryz.prog) (g:=0) (t:=3) (zero:=#[.int .i64 0]) hsh (of_decide_eq_true (by kernel_rfl)) (by kernel_rfl) rfl (by kernel_rfl) (by kernel_rfl) Tryz.underlying3,⟨167,.pointer (some a0),?_⟩,⟨167,.pointer (some a1),?_⟩,hpow⟩
  · have h0:=World.var?_cell gES hv0 0
    simpa using h0
  · have h0:=World.var?_cell gER hv1 0
    simpa using h0
noncomputable def l6 (os:Os):World:=World.laidAll Tryz.prog os LAID
set_option maxRecDepth 100000 in
theorem uS (os:Os) (args:Array Value):laidMetH Tryz.prog LAID ((l6 os).forCall (fun _ _=>0) ⟨#[],args,[]⟩).memory :=
  wB (laidMet_laidAll args (by kernel_rfl) (by kernel_rfl))
theorem yo {n:Int} (h:(Lit.int .u8 n).wf=true):0≤n∧n≤255:=by simpa [Lit.wf,IntKind.min,IntKind.max,IntKind.signed,IntKind.bits] using h
end Go.Proofs.YthfpaoacjpjnfaaGreatDoor.P

namespace Go.Proofs.YthfpaoacjpjnfaaGreatDoor.P
open Go.RowKit Go.Proofs.YthfpaoacjpjnfaaGreatDoorW.PrintWords Go.Proofs.YthfpaoacjpjnfaaGreatDoorW.PrintLast Go.Proofs.YthfpaoacjpjnfaaGreatDoorW.PrintMore
attribute [local go_sem] dW dZ eP eQ dL dM dY dX
def xP:Option Int→Value
 | none=>.nilIface
 | some c=>.iface 0 (.int .i64 c)
theorem aM:xP none=.nilIface:=rfl
theorem aK (c:Int):xP (some c)=.iface 0 (.int .i64 c):=rfl
theorem info3:(Tryz.prog.info? 3).map (fun i=>(i.zero,i.size,i.bytes))=some (some (.int .i64 0),1,8):=by kernel_rfl
theorem info5:(Tryz.prog.info? 5).map (fun i=>(i.zero,i.size,i.bytes))=some (some (.int .u8 0),1,1):=by kernel_rfl
theorem vC:(Tryz.prog.info? 9).map (fun i=>(i.zero,i.size,i.bytes))=some (some (.string ⟨#[]⟩),1,16):=by kernel_rfl
theorem wY:(Tryz.prog.info? 25).map (fun i=>(i.zero,i.size,i.bytes))=some (some (.agg #[(.int .i64 0),(.string ⟨#[]⟩),(.string ⟨#[]⟩),(.slice none 0 0),(.slice none 0 0)]),5,88):=by kernel_rfl
theorem pX:(Tryz.prog.info? 45).map (fun i=>(i.zero,i.size,i.bytes))=some (some (.agg #[(.string ⟨#[]⟩),(.slice none 0 0)]),2,40):=by kernel_rfl
def gZ (xs:List (List ByteArray)) (i:Int):(List ByteArray):=xs.getD i.toNat ([]:List ByteArray)
theorem yf {w:World} {A:Option Addr} {n:Nat} {xs:List (List ByteArray)} (h:Kd.C (Kd.slice 9 Kd.string) w A n xs) (i:Int) (h0:0≤i) (h1:i < n):∃ ad A0 c0,A=some ad∧w.cell? (ad.add i.toNat)=some (.slice A0 (gZ xs i).length c0)∧(gZ xs i).length≤c0∧Kd.string.C w A0 (gZ xs i).length (gZ xs i):=by
 obtain ⟨ad,c,e,_,hK,hc0⟩:=Kd.oM h ([]:List ByteArray) i h0 h1
 have hc:∀ j u,c[j]?=some u→w.cell? (ad.add (i.toNat * 1+j))=some u:=hc0
 obtain ⟨A0,c0,rfl,l0,g0⟩:=hK
 exact ⟨ad,A0,c0,e,by have hq:=hc 0 _ rfl;rwa [Nat.mul_one,Nat.add_zero] at hq,l0,g0⟩
structure S25 where
 f0:Int
 f1:ByteArray
 f2:ByteArray
 f3:(List ByteArray)
 f4:(List S25)
def z25:S25:=⟨(0:Int),(⟨#[]⟩:ByteArray),(⟨#[]⟩:ByteArray),([]:List ByteArray),([]:List S25)⟩
def F25 (d:Kd S25):Kd S25:=Kd.iso (Kd.pair (Kd.int .i64) (Kd.pair Kd.string (Kd.pair Kd.string (Kd.pair (Kd.slice 9 Kd.string) (Kd.slice 25 d))))) (fun x:S25=>(x.f0,x.f1,x.f2,x.f3,x.f4))
theorem um:Kd.lM F25:=Kd.uk _ (Kd.kw (Kd.jO _) (Kd.kw (Kd.jO _) (Kd.kw (Kd.jO _) (Kd.kw (Kd.jO _) (Kd.qE 25 Kd.vF)))))
theorem yn:Kd.Sub F25 [9,25]:=Kd.vJ _ (Kd.lC (Kd.kK _ (by decide)) (Kd.lC (Kd.kK _ (by decide)) (Kd.lC (Kd.kK _ (by decide)) (Kd.lC (Kd.kK _ (by decide)) (Kd.sS 25 (by decide) Kd.xk)))))
theorem ym:∀ n,(Kd.upto F25 5 [9,25] n).sz=5:=Kd.wy (fun _=>rfl)
def k25:Kd S25:=Kd.fix F25 5 [9,25] ym (Kd.vw yn)
theorem lT {w:World} {x:S25} {cs:List Value} (h:k25.K w x cs):∃ A3 c3 A4 c4,cs=[.int .i64 x.f0,.string x.f1,.string x.f2,.slice A3 x.f3.length c3,.slice A4 x.f4.length c4]∧x.f3.length≤c3∧Kd.string.C w A3 x.f3.length x.f3∧x.f4.length≤c4∧k25.C w A4 x.f4.length x.f4:=by
 obtain ⟨n,h⟩:=h
 cases n with
 | zero=>exact h.elim
 | succ n =>
  obtain ⟨_,_,rfl,rfl,⟨_,_,rfl,rfl,⟨_,_,rfl,rfl,⟨_,_,rfl,⟨A3,c3,rfl,l3,g3⟩,⟨A4,c4,rfl,l4,g4⟩⟩⟩⟩⟩:=h
  exact ⟨A3,c3,A4,c4,rfl,l3,g3,l4,Kd.xS g4⟩
theorem wW (w:World) (x:S25) {A3:Option Addr} {c3:Nat} (l3:x.f3.length≤c3) (g3:Kd.string.C w A3 x.f3.length x.f3) {A4:Option Addr} {c4:Nat} (l4:x.f4.length≤c4) (g4:k25.C w A4 x.f4.length x.f4):k25.K w x [.int .i64 x.f0,.string x.f1,.string x.f2,.slice A3 x.f3.length c3,.slice A4 x.f4.length c4]:=by
 obtain ⟨n4,q4⟩:=Kd.qQ um g4
 have r4:=Kd.sW um ym (show n4≤n4 by omega) q4
 exact ⟨n4+1,⟨[.int .i64 x.f0],[.string x.f1,.string x.f2,.slice A3 x.f3.length c3,.slice A4 x.f4.length c4],rfl,rfl,⟨[.string x.f1],[.string x.f2,.slice A3 x.f3.length c3,.slice A4 x.f4.length c4],rfl,rfl,⟨[.string x.f2],[.slice A3 x.f3.length c3,.slice A4 x.f4.length c4],rfl,rfl,⟨[.slice A3 x.f3.length c3],[.slice A4 x.f4.length c4],rfl,⟨A3,c3,rfl,l3,g3⟩,⟨A4,c4,rfl,l4,r4⟩⟩⟩⟩⟩⟩
theorem iO {W:World} {ok:Nat→Prop} {x:S25} {cs:List Value} (h:Kd.FK k25 W ok x cs):∃ A3 c3 A4 c4,cs=[.int .i64 x.f0,.string x.f1,.string x.f2,.slice A3 x.f3.length c3,.slice A4 x.f4.length c4]∧x.f3.length≤c3∧Kd.F Kd.string W ok A3 x.f3.length x.f3∧x.f4.length≤c4∧Kd.F k25 W ok A4 x.f4.length x.f4:=by
 obtain ⟨A3,c3,A4,c4,rfl,l3,_,l4,_⟩:=lT (Kd.gQ h)
 exact ⟨A3,c3,A4,c4,rfl,l3,(fun W' hW=>by obtain ⟨A3_,c3_,A4_,c4_,he,l3_,g3_,l4_,g4_⟩:=lT (h W' hW);injection (Option.some.inj (show some (Value.slice A3 x.f3.length c3)=some (Value.slice A3_ x.f3.length c3_) from congrArg (fun l=>l[3]?) he)) with ha_ _ _;rw [ha_];exact g3_),l4,(fun W' hW=>by obtain ⟨A3_,c3_,A4_,c4_,he,l3_,g3_,l4_,g4_⟩:=lT (h W' hW);injection (Option.some.inj (show some (Value.slice A4 x.f4.length c4)=some (Value.slice A4_ x.f4.length c4_) from congrArg (fun l=>l[4]?) he)) with ha_ _ _;rw [ha_];exact g4_)⟩
theorem gX (W:World) (ok:Nat→Prop) (x:S25) {A3:Option Addr} {c3:Nat} (l3:x.f3.length≤c3) (g3:Kd.F Kd.string W ok A3 x.f3.length x.f3) {A4:Option Addr} {c4:Nat} (l4:x.f4.length≤c4) (g4:Kd.F k25 W ok A4 x.f4.length x.f4):Kd.FK k25 W ok x [.int .i64 x.f0,.string x.f1,.string x.f2,.slice A3 x.f3.length c3,.slice A4 x.f4.length c4]:=fun W2 hW=>wW W2 x l3 (g3 W2 hW) l4 (g4 W2 hW)
def az (xs:List S25) (i:Int):S25:=xs.getD i.toNat z25
theorem jo {w:World} {A:Option Addr} {n:Nat} {xs:List S25} (h:Kd.C k25 w A n xs) (i:Int) (h0:0≤i) (h1:i < n):∃ ad A3 c3 A4 c4,A=some ad∧w.cell? (ad.add (i.toNat * 5))=some (.int .i64 (az xs i).f0)∧w.cell? ⟨(ad.add (i.toNat * 5)).block,(ad.add (i.toNat * 5)).off+1,none⟩=some (.string (az xs i).f1)∧w.cell? ⟨(ad.add (i.toNat * 5)).block,(ad.add (i.toNat * 5)).off+2,none⟩=some (.string (az xs i).f2)∧w.cell? ⟨(ad.add (i.toNat * 5)).block,(ad.add (i.toNat * 5)).off+3,none⟩=some (.slice A3 (az xs i).f3.length c3)∧w.cell? ⟨(ad.add (i.toNat * 5)).block,(ad.add (i.toNat * 5)).off+4,none⟩=some (.slice A4 (az xs i).f4.length c4)∧(az xs i).f3.length≤c3∧Kd.string.C w A3 (az xs i).f3.length (az xs i).f3∧(az xs i).f4.length≤c4∧k25.C w A4 (az xs i).f4.length (az xs i).f4:=by
 obtain ⟨ad,c,e,_,hK,hc0⟩:=Kd.oM h z25 i h0 h1
 have hc:∀ j u,c[j]?=some u→w.cell? (ad.add (i.toNat * 5+j))=some u:=hc0
 obtain ⟨A3,c3,A4,c4,rfl,l3,g3,l4,g4⟩:=lT hK
 exact ⟨ad,A3,c3,A4,c4,e,hc 0 _ rfl,by rw [← eD _ _ 1 (by omega)];exact hc 1 _ rfl,by rw [← eD _ _ 2 (by omega)];exact hc 2 _ rfl,by rw [← eD _ _ 3 (by omega)];exact hc 3 _ rfl,by rw [← eD _ _ 4 (by omega)];exact hc 4 _ rfl,l3,g3,l4,g4⟩
structure S45 where
 f0:ByteArray
 f1:(List ByteArray)
def z45:S45:=⟨(⟨#[]⟩:ByteArray),([]:List ByteArray)⟩
def k45:Kd S45:=Kd.iso (Kd.pair Kd.string (Kd.slice 9 Kd.string)) (fun x:S45=>(x.f0,x.f1))
theorem nP {w:World} {x:S45} {cs:List Value} (h:k45.K w x cs):∃ A1 c1,cs=[.string x.f0,.slice A1 x.f1.length c1]∧x.f1.length≤c1∧Kd.string.C w A1 x.f1.length x.f1:=by
 obtain ⟨_,_,rfl,rfl,⟨A1,c1,rfl,l1,g1⟩⟩:=h
 exact ⟨A1,c1,rfl,l1,g1⟩
theorem uY (w:World) (x:S45) {A1:Option Addr} {c1:Nat} (l1:x.f1.length≤c1) (g1:Kd.string.C w A1 x.f1.length x.f1):k45.K w x [.string x.f0,.slice A1 x.f1.length c1]:=⟨[.string x.f0],[.slice A1 x.f1.length c1],rfl,rfl,⟨A1,c1,rfl,l1,g1⟩⟩
theorem jA {W:World} {ok:Nat→Prop} {x:S45} {cs:List Value} (h:Kd.FK k45 W ok x cs):∃ A1 c1,cs=[.string x.f0,.slice A1 x.f1.length c1]∧x.f1.length≤c1∧Kd.F Kd.string W ok A1 x.f1.length x.f1:=by
 obtain ⟨A1,c1,rfl,l1,_⟩:=nP (Kd.gQ h)
 exact ⟨A1,c1,rfl,l1,(fun W' hW=>by obtain ⟨A1_,c1_,he,l1_,g1_⟩:=nP (h W' hW);injection (Option.some.inj (show some (Value.slice A1 x.f1.length c1)=some (Value.slice A1_ x.f1.length c1_) from congrArg (fun l=>l[1]?) he)) with ha_ _ _;rw [ha_];exact g1_)⟩
theorem jI (W:World) (ok:Nat→Prop) (x:S45) {A1:Option Addr} {c1:Nat} (l1:x.f1.length≤c1) (g1:Kd.F Kd.string W ok A1 x.f1.length x.f1):Kd.FK k45 W ok x [.string x.f0,.slice A1 x.f1.length c1]:=fun W2 hW=>uY W2 x l1 (g1 W2 hW)
def bZ (xs:List S45) (i:Int):S45:=xs.getD i.toNat z45
theorem uP {w:World} {A:Option Addr} {n:Nat} {xs:List S45} (h:Kd.C k45 w A n xs) (i:Int) (h0:0≤i) (h1:i < n):∃ ad A1 c1,A=some ad∧w.cell? (ad.add (i.toNat * 2))=some (.string (bZ xs i).f0)∧w.cell? ⟨(ad.add (i.toNat * 2)).block,(ad.add (i.toNat * 2)).off+1,none⟩=some (.slice A1 (bZ xs i).f1.length c1)∧(bZ xs i).f1.length≤c1∧Kd.string.C w A1 (bZ xs i).f1.length (bZ xs i).f1:=by
 obtain ⟨ad,c,e,_,hK,hc0⟩:=Kd.oM h z45 i h0 h1
 have hc:∀ j u,c[j]?=some u→w.cell? (ad.add (i.toNat * 2+j))=some u:=hc0
 obtain ⟨A1,c1,rfl,l1,g1⟩:=nP hK
 exact ⟨ad,A1,c1,e,hc 0 _ rfl,by rw [← eD _ _ 1 (by omega)];exact hc 1 _ rfl,l1,g1⟩
theorem vM (v0 v1:Value) (w:World):(Instr.field 82 (.agg #[v0,v1]) 0).run Tryz.prog w=.ok v0 w:=by kernel_rfl
theorem wC (v0 v1:Value) (w:World):(Instr.field 82 (.agg #[v0,v1]) 1).run Tryz.prog w=.ok v1 w:=by kernel_rfl
def bA.l0:Nat→List Int→Int→Int→Int→Option (Int)
 | 0,_,_,_,_=>none
 | k+1,x0,x1,x7,x8=>if x8 < x7 then (if 0≤x8 then (if x8 < (x0.length:Int) then (if x1=(rd x0 x8) then (some x8) else (bA.l0 k x0 x1 x7 (wrap64 (x8+1)))) else (none)) else (none)) else (some (-1))
def bA.f (k:Nat) (l0:List Int) (a1:Int):Option (Int):=bA.l0 k l0 a1 (l0.length:Int) 0
theorem bA.mono_l:∀ k,(∀ y0 y1 y2 y3,LeO (bA.l0 k y0 y1 y2 y3) (bA.l0 (k+1) y0 y1 y2 y3))
 | 0=>fun _ _ _ _ r h=>by simp [bA.l0] at h
 | k+1=>by
  have ih0:=bA.mono_l k
  ·intro y0 y1 y2 y3
   unfold bA.l0
   repeat' first
   | (with_reducible exact ih0 _ _ _ _)
   | (with_reducible exact LeO.refl _)
   | (with_reducible exact LeO.none _)
   | (with_reducible refine LeO.ite ?_ ?_)
   | (with_reducible refine LeO.bind ?_ (fun _=>?_))
   | exact ih0 _ _ _ _
   | exact LeO.none _
   | refine LeO.ite ?_ ?_
   | refine LeO.bind ?_ (fun _=>?_)
theorem bA.mono:∀ a0 a1 k,LeO (bA.f k a0 a1) (bA.f (k+1) a0 a1):=by
 intro a0 a1 k
 have ih0:=bA.mono_l k
 unfold bA.f
 repeat' first
   | (with_reducible exact ih0 _ _ _ _)
   | (with_reducible exact LeO.refl _)
   | (with_reducible exact LeO.none _)
   | (with_reducible refine LeO.ite ?_ ?_)
   | (with_reducible refine LeO.bind ?_ (fun _=>?_))
   | exact ih0 _ _ _ _
   | exact LeO.none _
   | refine LeO.ite ?_ ?_
   | refine LeO.bind ?_ (fun _=>?_)
set_option maxHeartbeats 8000000 in
set_option maxRecDepth 100000 in
theorem bA.calls (k:Nat) (A0:Option Addr) (c0:Nat) (l0:List Int) (a1:Int) (r:Int) (w:World) (hr0:Kd.C (Kd.int .i64) w A0 l0.length l0) (hc0:l0.length≤c0) (h:bA.f k l0 a1=some r) :
  Calls Tryz.prog 80 #[.slice A0 l0.length c0,.int .i64 a1] w fun e w'=>e=.returned (.int .i64 r)∧bg w w':=by
 have HR0:=aa.mk hr0
 have HC0:=aa.mk hc0
 clear hr0 hc0
 have H:(bA.l0 k l0 a1 (l0.length:Int) 0)=some r:=h
 clear h
 have H':=aa.mk H
 clear H
 go_enter Tryz.func80,Tryz.ntmps80
 go_wp2
 go_loopg [8] k (fun kq v8 w'=>∃ (x8_1:Int),v8=.int .i64 x8_1∧aa (bA.l0 kq l0 a1 (l0.length:Int) x8_1=some r)∧aa (kq≤k)∧bg w w')
 case atStart=>exact ⟨(0),(by first|rfl|(simp;done)|(simp [*];done)|(simp [*,aT,aU,bU];done)|(simp only [ay,ax];done)|(simp only [ay,ax];simp;done)|(simp only [ay,ax];simp [*];done)),H',⟨Nat.le_refl _⟩,by repeat (first|exact bg.refl _|apply bg.step)⟩
 case round =>
  clear H'
  try clear p2
  obtain ⟨x8_1,rfl,HA,HK1,⟨m1,rfl⟩⟩:=hrel
  cases gk with
  | zero=>exact absurd HA.out (by simp [bA.l0])
  | succ k1 =>
   have H:=HA.out
   clear HA
   simp only [bA.l0] at H
   by_cases c3:x8_1 < (l0.length:Int)
   ·rw [if_pos c3] at H
    have c3b0:decide (x8_1 < (l0.length:Int))=true:=decide_eq_true c3
    clear c3
    by_cases c4:0≤x8_1
    ·rw [if_pos c4] at H
     have c4b0:decide (0≤x8_1)=true:=decide_eq_true c4
     clear c4
     by_cases c5:x8_1 < (l0.length:Int)
     ·rw [if_pos c5] at H
      have c5b0:decide (x8_1 < (l0.length:Int))=true:=decide_eq_true c5
      clear c5
      by_cases c6:a1=(rd l0 x8_1)
      ·rw [if_pos c6] at H
       have c6b0:(a1 == (rd l0 x8_1))=true:=beq_iff_eq.mpr c6
       have c6b1:(a1 != (rd l0 x8_1))=false:=bne_eq_false_iff_eq.mpr c6
       clear c6
       obtain rfl:=Option.some.inj H
       have p117:0≤(x8_1:Int):=of_decide_eq_true (by first|(with_reducible assumption)|assumption)
       have q117:x8_1 < (l0.length:Int):=of_decide_eq_true (by first|(with_reducible assumption)|assumption)
       obtain ⟨ad117,e117,hx117_0⟩:=Kd.fD HR0.out x8_1 p117 q117
       cases e117
       replace p117:=eq_true p117
       replace q117:=eq_true q117
       go_wp2
       go_ret
       exact ⟨by first|rfl|(simp;done)|(simp [*];done)|(simp [*,aT,aU,bU];done)|(simp only [ay,ax];done)|(simp only [ay,ax];simp;done)|(simp only [ay,ax];simp [*];done),by repeat (first|exact bg.refl _|apply bg.step)⟩
      ·rw [if_neg c6] at H
       have c6b0:(a1 == (rd l0 x8_1))=false:=beq_eq_false_iff_ne.mpr c6
       have c6b1:(a1 != (rd l0 x8_1))=true:=bne_iff_ne.mpr c6
       have H':=aa.mk H
       clear H
       have p117:0≤(x8_1:Int):=of_decide_eq_true (by first|(with_reducible assumption)|assumption)
       have q117:x8_1 < (l0.length:Int):=of_decide_eq_true (by first|(with_reducible assumption)|assumption)
       obtain ⟨ad117,e117,hx117_0⟩:=Kd.fD HR0.out x8_1 p117 q117
       cases e117
       replace p117:=eq_true p117
       replace q117:=eq_true q117
       go_wp2
       go_roundg k1
       case measure=>have:=HK1.out;omega
       case rel=>exact ⟨(wrap64 (x8_1+1)),(by first|rfl|(simp;done)|(simp [*];done)|(simp [*,aT,aU,bU];done)|(simp only [ay,ax];done)|(simp only [ay,ax];simp;done)|(simp only [ay,ax];simp [*];done)),H',⟨by have:=HK1.out;omega⟩,by repeat (first|exact bg.refl _|apply bg.step)⟩
     ·rw [if_neg c5] at H
      exact absurd H (by simp)
    ·rw [if_neg c4] at H
     exact absurd H (by simp)
   ·rw [if_neg c3] at H
    have c3b0:decide (x8_1 < (l0.length:Int))=false:=decide_eq_false c3
    clear c3
    obtain rfl:=Option.some.inj H
    go_wp2
    go_ret
    exact ⟨by first|rfl|(simp;done)|(simp [*];done)|(simp [*,aT,aU,bU];done)|(simp only [ay,ax];done)|(simp only [ay,ax];simp;done)|(simp only [ay,ax];simp [*];done),by repeat (first|exact bg.refl _|apply bg.step)⟩
def bD.f (k:Nat) (l0:List Int) (a1:Int):Option (Bool):=(bA.f k l0 a1).bind fun t118=>(some (decide (t118 ≥ 0)))
theorem bD.mono:∀ a0 a1 k,LeO (bD.f k a0 a1) (bD.f (k+1) a0 a1):=by
 intro a0 a1 k
 unfold bD.f
 repeat' first
   | (with_reducible exact bA.mono _ _ _)
   | (with_reducible exact LeO.refl _)
   | (with_reducible exact LeO.none _)
   | (with_reducible refine LeO.ite ?_ ?_)
   | (with_reducible refine LeO.bind ?_ (fun _=>?_))
   | exact bA.mono _ _ _
   | exact LeO.none _
   | refine LeO.ite ?_ ?_
   | refine LeO.bind ?_ (fun _=>?_)
set_option maxHeartbeats 8000000 in
set_option maxRecDepth 100000 in
theorem bD.calls (k:Nat) (A0:Option Addr) (c0:Nat) (l0:List Int) (a1:Int) (r:Bool) (w:World) (hr0:Kd.C (Kd.int .i64) w A0 l0.length l0) (hc0:l0.length≤c0) (h:bD.f k l0 a1=some r) :
  Calls Tryz.prog 53 #[.slice A0 l0.length c0,.int .i64 a1] w fun e w'=>e=.returned (.bool r)∧bg w w':=by
 have HR0:=aa.mk hr0
 have HC0:=aa.mk hc0
 clear hr0 hc0
 have H:((bA.f k l0 a1).bind fun t118=>(some (decide (t118 ≥ 0))))=some r:=h
 clear h
 replace H:=Option.bind_eq_some_iff.mp H
 obtain ⟨t118,A30,H⟩:=H
 replace H:(some (decide (t118 ≥ 0)))=some r:=H
 have A3:=aa.mk A30
 clear A30
 obtain rfl:=Option.some.inj H
 go_enter Tryz.func53,Tryz.ntmps53
 go_wp2_with (first|((with_reducible refine aV (f:=80) rfl ?_);refine bJ (some 7) rfl rfl Tryz.func80 (by kernel_rfl) rfl #[.slice A0 l0.length c0,.int .i64 a1] rfl (by (try simp only [List.map_toArray,List.map_cons,List.map_nil]);first|done|rfl|(simp only [List.length_drop,List.length_take];rfl)) ?_;(with_reducible refine (bA.calls k _ _ l0 a1 t118 _ ?side1 ?side2 A3.out).mono ?_);(case side1=>repeat (first|exact HR0.out|(with_reducible refine Kd.aN ?_ _)|(with_reducible refine Kd.aQ ?_ _)|(with_reducible refine Kd.aW ?_)));(case side2=>exact HC0.out);rintro e w' ⟨rfl,⟨nd,rfl⟩⟩;refine ⟨_,rfl,?_⟩))
 go_ret
 exact ⟨by first|rfl|(simp;done)|(simp [*];done)|(simp [*,aT,aU,bU];done)|(simp only [ay,ax];done)|(simp only [ay,ax];simp;done)|(simp only [ay,ax];simp [*];done),by repeat (first|exact bg.refl _|apply bg.step)⟩
def fT.f (k:Nat) (l0:List Int) (a1:Int) (a2:Int):Option (Int):=(bD.f k l0 a1).bind fun t119=>(if t119=true then (some a1) else ((bD.f k l0 2).bind fun t120=>(if t120=true then (some 2) else (some a2))))
set_option maxHeartbeats 8000000 in
set_option maxRecDepth 100000 in
theorem fT.calls (k:Nat) (A0:Option Addr) (c0:Nat) (l0:List Int) (a1:Int) (a2:Int) (r:Int) (w:World) (hr0:Kd.C (Kd.int .i64) w A0 l0.length l0) (hc0:l0.length≤c0) (h:fT.f k l0 a1 a2=some r) :
  Calls Tryz.prog 34 #[.slice A0 l0.length c0,.int .i64 a1,.int .i64 a2] w fun e w'=>e=.returned (.int .i64 r)∧bg w w':=by
 have HR0:=aa.mk hr0
 have HC0:=aa.mk hc0
 clear hr0 hc0
 have H:((bD.f k l0 a1).bind fun t119=>(if t119=true then (some a1) else ((bD.f k l0 2).bind fun t120=>(if t120=true then (some 2) else (some a2)))))=some r:=h
 clear h
 replace H:=Option.bind_eq_some_iff.mp H
 obtain ⟨t119,A40,H⟩:=H
 replace H:(if t119=true then (some a1) else ((bD.f k l0 2).bind fun t120=>(if t120=true then (some 2) else (some a2))))=some r:=H
 have A4:=aa.mk A40
 clear A40
 by_cases c5:t119=true
 ·subst c5
  have H1:(some a1)=some r:=by rw [if_pos rfl] at H;exact H
  clear H
  have H:=H1
  clear H1
  obtain rfl:=Option.some.inj H
  go_enter Tryz.func34,Tryz.ntmps34
  go_wp2_with (first|((with_reducible refine aV (f:=53) rfl ?_);refine bJ (some 10) rfl rfl Tryz.func53 (by kernel_rfl) rfl #[.slice A0 l0.length c0,.int .i64 a1] rfl (by (try simp only [List.map_toArray,List.map_cons,List.map_nil]);first|done|rfl|(simp only [List.length_drop,List.length_take];rfl)) ?_;(with_reducible refine (bD.calls k _ _ l0 a1 true _ ?side1 ?side2 A4.out).mono ?_);(case side1=>repeat (first|exact HR0.out|(with_reducible refine Kd.aN ?_ _)|(with_reducible refine Kd.aQ ?_ _)|(with_reducible refine Kd.aW ?_)));(case side2=>exact HC0.out);rintro e w' ⟨rfl,⟨nd,rfl⟩⟩;refine ⟨_,rfl,?_⟩))
  go_ret
  exact ⟨by first|rfl|(simp;done)|(simp [*];done)|(simp [*,aT,aU,bU];done)|(simp only [ay,ax];done)|(simp only [ay,ax];simp;done)|(simp only [ay,ax];simp [*];done),by repeat (first|exact bg.refl _|apply bg.step)⟩
 ·replace c5:=Bool.eq_false_iff.mpr c5
  subst c5
  have H1:((bD.f k l0 2).bind fun t120=>(if t120=true then (some 2) else (some a2)))=some r:=by rw [if_neg (show ¬ (false=true) by decide)] at H;exact H
  clear H
  have H:=H1
  clear H1
  replace H:=Option.bind_eq_some_iff.mp H
  obtain ⟨t120,A60,H⟩:=H
  replace H:(if t120=true then (some 2) else (some a2))=some r:=H
  have A6:=aa.mk A60
  clear A60
  by_cases c7:t120=true
  ·subst c7
   have H1:(some 2)=some r:=by rw [if_pos rfl] at H;exact H
   clear H
   have H:=H1
   clear H1
   obtain rfl:=Option.some.inj H
   go_enter Tryz.func34,Tryz.ntmps34
   go_wp2_with (first|((with_reducible refine aV (f:=53) rfl ?_);refine bJ (some 10) rfl rfl Tryz.func53 (by kernel_rfl) rfl #[.slice A0 l0.length c0,.int .i64 a1] rfl (by (try simp only [List.map_toArray,List.map_cons,List.map_nil]);first|done|rfl|(simp only [List.length_drop,List.length_take];rfl)) ?_;(with_reducible refine (bD.calls k _ _ l0 a1 false _ ?side1 ?side2 A4.out).mono ?_);(case side1=>repeat (first|exact HR0.out|(with_reducible refine Kd.aN ?_ _)|(with_reducible refine Kd.aQ ?_ _)|(with_reducible refine Kd.aW ?_)));(case side2=>exact HC0.out);rintro e w' ⟨rfl,⟨nd,rfl⟩⟩;refine ⟨_,rfl,?_⟩)|((with_reducible refine aV (f:=53) rfl ?_);refine bJ (some 14) rfl rfl Tryz.func53 (by kernel_rfl) rfl #[.slice A0 l0.length c0,.int .i64 2] rfl (by (try simp only [List.map_toArray,List.map_cons,List.map_nil]);first|done|rfl|(simp only [List.length_drop,List.length_take];rfl)) ?_;(with_reducible refine (bD.calls k _ _ l0 2 true _ ?side1 ?side2 A6.out).mono ?_);(case side1=>repeat (first|exact HR0.out|(with_reducible refine Kd.aN ?_ _)|(with_reducible refine Kd.aQ ?_ _)|(with_reducible refine Kd.aW ?_)));(case side2=>exact HC0.out);rintro e w' ⟨rfl,⟨nd,rfl⟩⟩;refine ⟨_,rfl,?_⟩))
   go_ret
   exact ⟨by first|rfl|(simp;done)|(simp [*];done)|(simp [*,aT,aU,bU];done)|(simp only [ay,ax];done)|(simp only [ay,ax];simp;done)|(simp only [ay,ax];simp [*];done),by repeat (first|exact bg.refl _|apply bg.step)⟩
  ·replace c7:=Bool.eq_false_iff.mpr c7
   subst c7
   have H1:(some a2)=some r:=by rw [if_neg (show ¬ (false=true) by decide)] at H;exact H
   clear H
   have H:=H1
   clear H1
   obtain rfl:=Option.some.inj H
   go_enter Tryz.func34,Tryz.ntmps34
   go_wp2_with (first|((with_reducible refine aV (f:=53) rfl ?_);refine bJ (some 10) rfl rfl Tryz.func53 (by kernel_rfl) rfl #[.slice A0 l0.length c0,.int .i64 a1] rfl (by (try simp only [List.map_toArray,List.map_cons,List.map_nil]);first|done|rfl|(simp only [List.length_drop,List.length_take];rfl)) ?_;(with_reducible refine (bD.calls k _ _ l0 a1 false _ ?side1 ?side2 A4.out).mono ?_);(case side1=>repeat (first|exact HR0.out|(with_reducible refine Kd.aN ?_ _)|(with_reducible refine Kd.aQ ?_ _)|(with_reducible refine Kd.aW ?_)));(case side2=>exact HC0.out);rintro e w' ⟨rfl,⟨nd,rfl⟩⟩;refine ⟨_,rfl,?_⟩)|((with_reducible refine aV (f:=53) rfl ?_);refine bJ (some 14) rfl rfl Tryz.func53 (by kernel_rfl) rfl #[.slice A0 l0.length c0,.int .i64 2] rfl (by (try simp only [List.map_toArray,List.map_cons,List.map_nil]);first|done|rfl|(simp only [List.length_drop,List.length_take];rfl)) ?_;(with_reducible refine (bD.calls k _ _ l0 2 false _ ?side1 ?side2 A6.out).mono ?_);(case side1=>repeat (first|exact HR0.out|(with_reducible refine Kd.aN ?_ _)|(with_reducible refine Kd.aQ ?_ _)|(with_reducible refine Kd.aW ?_)));(case side2=>exact HC0.out);rintro e w' ⟨rfl,⟨nd,rfl⟩⟩;refine ⟨_,rfl,?_⟩))
   go_ret
   exact ⟨by first|rfl|(simp;done)|(simp [*];done)|(simp [*,aT,aU,bU];done)|(simp only [ay,ax];done)|(simp only [ay,ax];simp;done)|(simp only [ay,ax];simp [*];done),by repeat (first|exact bg.refl _|apply bg.step)⟩
def dJ.f (a0:Bool):Option (Int):=if a0=true then (some 1) else (some 0)
set_option maxHeartbeats 8000000 in
set_option maxRecDepth 100000 in
theorem dJ.calls (a0:Bool) (r:Int) (w:World) (h:dJ.f a0=some r) :
  Calls Tryz.prog 36 #[.bool a0] w fun e w'=>e=.returned (.int .i64 r)∧bg w w':=by
 have H:(if a0=true then (some 1) else (some 0))=some r:=h
 clear h
 by_cases c2:a0=true
 ·subst c2
  have H1:(some 1)=some r:=by rw [if_pos rfl] at H;exact H
  clear H
  have H:=H1
  clear H1
  obtain rfl:=Option.some.inj H
  go_enter Tryz.func36,Tryz.ntmps36
  go_wp2
  go_ret
  exact ⟨by first|rfl|(simp;done)|(simp [*];done)|(simp [*,aT,aU,bU];done)|(simp only [ay,ax];done)|(simp only [ay,ax];simp;done)|(simp only [ay,ax];simp [*];done),by repeat (first|exact bg.refl _|apply bg.step)⟩
 ·replace c2:=Bool.eq_false_iff.mpr c2
  subst c2
  have H1:(some 0)=some r:=by rw [if_neg (show ¬ (false=true) by decide)] at H;exact H
  clear H
  have H:=H1
  clear H1
  obtain rfl:=Option.some.inj H
  go_enter Tryz.func36,Tryz.ntmps36
  go_wp2
  go_ret
  exact ⟨by first|rfl|(simp;done)|(simp [*];done)|(simp [*,aT,aU,bU];done)|(simp only [ay,ax];done)|(simp only [ay,ax];simp;done)|(simp only [ay,ax];simp [*];done),by repeat (first|exact bg.refl _|apply bg.step)⟩
def ed.f (a0:ByteArray):Option (Int):=if a0.toList=([117,105,100,110,117,109,98,101,114]:List UInt8) then (some 2) else (if a0.toList=([109,101,109,98,101,114]:List UInt8) then (some 3) else (if a0.toList=([117,115,101,114,112,97,115,115,119,111,114,100]:List UInt8) then (some 4) else (if a0.toList=([111,98,106,101,99,116,99,108,97,115,115]:List UInt8) then (some 1) else (if a0.toList=([99,110]:List UInt8) then (some 1) else (if a0.toList=([115,110]:List UInt8) then (some 1) else (if a0.toList=([111]:List UInt8) then (some 1) else (if a0.toList=([111,117]:List UInt8) then (some 1) else (if a0.toList=([117,105,100]:List UInt8) then (some 1) else (if a0.toList=([109,97,105,108]:List UInt8) then (some 1) else (if a0.toList=([100,101,115,99,114,105,112,116,105,111,110]:List UInt8) then (some 1) else (some 0)))))))))))
set_option maxHeartbeats 8000000 in
set_option maxRecDepth 100000 in
theorem ed.calls (a0:ByteArray) (r:Int) (w:World) (h:ed.f a0=some r) :
  Calls Tryz.prog 54 #[.string a0] w fun e w'=>e=.returned (.int .i64 r)∧bg w w':=by
 have H:(if a0.toList=([117,105,100,110,117,109,98,101,114]:List UInt8) then (some 2) else (if a0.toList=([109,101,109,98,101,114]:List UInt8) then (some 3) else (if a0.toList=([117,115,101,114,112,97,115,115,119,111,114,100]:List UInt8) then (some 4) else (if a0.toList=([111,98,106,101,99,116,99,108,97,115,115]:List UInt8) then (some 1) else (if a0.toList=([99,110]:List UInt8) then (some 1) else (if a0.toList=([115,110]:List UInt8) then (some 1) else (if a0.toList=([111]:List UInt8) then (some 1) else (if a0.toList=([111,117]:List UInt8) then (some 1) else (if a0.toList=([117,105,100]:List UInt8) then (some 1) else (if a0.toList=([109,97,105,108]:List UInt8) then (some 1) else (if a0.toList=([100,101,115,99,114,105,112,116,105,111,110]:List UInt8) then (some 1) else (some 0))))))))))))=some r:=h
 clear h
 by_cases c2:a0.toList=([117,105,100,110,117,109,98,101,114]:List UInt8)
 ·rw [if_pos c2] at H
  have c2b0:(a0.toList == ([117,105,100,110,117,109,98,101,114]:List UInt8))=true:=beq_iff_eq.mpr c2
  have c2b1:(a0.toList != ([117,105,100,110,117,109,98,101,114]:List UInt8))=false:=bne_eq_false_iff_eq.mpr c2
  clear c2
  obtain rfl:=Option.some.inj H
  go_enter Tryz.func54,Tryz.ntmps54
  go_wp2
  go_ret
  exact ⟨by first|rfl|(simp;done)|(simp [*];done)|(simp [*,aT,aU,bU];done)|(simp only [ay,ax];done)|(simp only [ay,ax];simp;done)|(simp only [ay,ax];simp [*];done),by repeat (first|exact bg.refl _|apply bg.step)⟩
 ·rw [if_neg c2] at H
  have c2b0:(a0.toList == ([117,105,100,110,117,109,98,101,114]:List UInt8))=false:=beq_eq_false_iff_ne.mpr c2
  have c2b1:(a0.toList != ([117,105,100,110,117,109,98,101,114]:List UInt8))=true:=bne_iff_ne.mpr c2
  by_cases c3:a0.toList=([109,101,109,98,101,114]:List UInt8)
  ·rw [if_pos c3] at H
   have c3b0:(a0.toList == ([109,101,109,98,101,114]:List UInt8))=true:=beq_iff_eq.mpr c3
   have c3b1:(a0.toList != ([109,101,109,98,101,114]:List UInt8))=false:=bne_eq_false_iff_eq.mpr c3
   clear c3
   obtain rfl:=Option.some.inj H
   go_enter Tryz.func54,Tryz.ntmps54
   go_wp2
   go_ret
   exact ⟨by first|rfl|(simp;done)|(simp [*];done)|(simp [*,aT,aU,bU];done)|(simp only [ay,ax];done)|(simp only [ay,ax];simp;done)|(simp only [ay,ax];simp [*];done),by repeat (first|exact bg.refl _|apply bg.step)⟩
  ·rw [if_neg c3] at H
   have c3b0:(a0.toList == ([109,101,109,98,101,114]:List UInt8))=false:=beq_eq_false_iff_ne.mpr c3
   have c3b1:(a0.toList != ([109,101,109,98,101,114]:List UInt8))=true:=bne_iff_ne.mpr c3
   by_cases c4:a0.toList=([117,115,101,114,112,97,115,115,119,111,114,100]:List UInt8)
   ·rw [if_pos c4] at H
    have c4b0:(a0.toList == ([117,115,101,114,112,97,115,115,119,111,114,100]:List UInt8))=true:=beq_iff_eq.mpr c4
    have c4b1:(a0.toList != ([117,115,101,114,112,97,115,115,119,111,114,100]:List UInt8))=false:=bne_eq_false_iff_eq.mpr c4
    clear c4
    obtain rfl:=Option.some.inj H
    go_enter Tryz.func54,Tryz.ntmps54
    go_wp2
    go_ret
    exact ⟨by first|rfl|(simp;done)|(simp [*];done)|(simp [*,aT,aU,bU];done)|(simp only [ay,ax];done)|(simp only [ay,ax];simp;done)|(simp only [ay,ax];simp [*];done),by repeat (first|exact bg.refl _|apply bg.step)⟩
   ·rw [if_neg c4] at H
    have c4b0:(a0.toList == ([117,115,101,114,112,97,115,115,119,111,114,100]:List UInt8))=false:=beq_eq_false_iff_ne.mpr c4
    have c4b1:(a0.toList != ([117,115,101,114,112,97,115,115,119,111,114,100]:List UInt8))=true:=bne_iff_ne.mpr c4
    by_cases c5:a0.toList=([111,98,106,101,99,116,99,108,97,115,115]:List UInt8)
    ·rw [if_pos c5] at H
     have c5b0:(a0.toList == ([111,98,106,101,99,116,99,108,97,115,115]:List UInt8))=true:=beq_iff_eq.mpr c5
     have c5b1:(a0.toList != ([111,98,106,101,99,116,99,108,97,115,115]:List UInt8))=false:=bne_eq_false_iff_eq.mpr c5
     clear c5
     obtain rfl:=Option.some.inj H
     go_enter Tryz.func54,Tryz.ntmps54
     go_wp2
     go_ret
     exact ⟨by first|rfl|(simp;done)|(simp [*];done)|(simp [*,aT,aU,bU];done)|(simp only [ay,ax];done)|(simp only [ay,ax];simp;done)|(simp only [ay,ax];simp [*];done),by repeat (first|exact bg.refl _|apply bg.step)⟩
    ·rw [if_neg c5] at H
     have c5b0:(a0.toList == ([111,98,106,101,99,116,99,108,97,115,115]:List UInt8))=false:=beq_eq_false_iff_ne.mpr c5
     have c5b1:(a0.toList != ([111,98,106,101,99,116,99,108,97,115,115]:List UInt8))=true:=bne_iff_ne.mpr c5
     by_cases c6:a0.toList=([99,110]:List UInt8)
     ·rw [if_pos c6] at H
      have c6b0:(a0.toList == ([99,110]:List UInt8))=true:=beq_iff_eq.mpr c6
      have c6b1:(a0.toList != ([99,110]:List UInt8))=false:=bne_eq_false_iff_eq.mpr c6
      clear c6
      obtain rfl:=Option.some.inj H
      go_enter Tryz.func54,Tryz.ntmps54
      go_wp2
      go_ret
      exact ⟨by first|rfl|(simp;done)|(simp [*];done)|(simp [*,aT,aU,bU];done)|(simp only [ay,ax];done)|(simp only [ay,ax];simp;done)|(simp only [ay,ax];simp [*];done),by repeat (first|exact bg.refl _|apply bg.step)⟩
     ·rw [if_neg c6] at H
      have c6b0:(a0.toList == ([99,110]:List UInt8))=false:=beq_eq_false_iff_ne.mpr c6
      have c6b1:(a0.toList != ([99,110]:List UInt8))=true:=bne_iff_ne.mpr c6
      by_cases c7:a0.toList=([115,110]:List UInt8)
      ·rw [if_pos c7] at H
       have c7b0:(a0.toList == ([115,110]:List UInt8))=true:=beq_iff_eq.mpr c7
       have c7b1:(a0.toList != ([115,110]:List UInt8))=false:=bne_eq_false_iff_eq.mpr c7
       clear c7
       obtain rfl:=Option.some.inj H
       go_enter Tryz.func54,Tryz.ntmps54
       go_wp2
       go_ret
       exact ⟨by first|rfl|(simp;done)|(simp [*];done)|(simp [*,aT,aU,bU];done)|(simp only [ay,ax];done)|(simp only [ay,ax];simp;done)|(simp only [ay,ax];simp [*];done),by repeat (first|exact bg.refl _|apply bg.step)⟩
      ·rw [if_neg c7] at H
       have c7b0:(a0.toList == ([115,110]:List UInt8))=false:=beq_eq_false_iff_ne.mpr c7
       have c7b1:(a0.toList != ([115,110]:List UInt8))=true:=bne_iff_ne.mpr c7
       by_cases c8:a0.toList=([111]:List UInt8)
       ·rw [if_pos c8] at H
        have c8b0:(a0.toList == ([111]:List UInt8))=true:=beq_iff_eq.mpr c8
        have c8b1:(a0.toList != ([111]:List UInt8))=false:=bne_eq_false_iff_eq.mpr c8
        clear c8
        obtain rfl:=Option.some.inj H
        go_enter Tryz.func54,Tryz.ntmps54
        go_wp2
        go_ret
        exact ⟨by first|rfl|(simp;done)|(simp [*];done)|(simp [*,aT,aU,bU];done)|(simp only [ay,ax];done)|(simp only [ay,ax];simp;done)|(simp only [ay,ax];simp [*];done),by repeat (first|exact bg.refl _|apply bg.step)⟩
       ·rw [if_neg c8] at H
        have c8b0:(a0.toList == ([111]:List UInt8))=false:=beq_eq_false_iff_ne.mpr c8
        have c8b1:(a0.toList != ([111]:List UInt8))=true:=bne_iff_ne.mpr c8
        by_cases c9:a0.toList=([111,117]:List UInt8)
        ·rw [if_pos c9] at H
         have c9b0:(a0.toList == ([111,117]:List UInt8))=true:=beq_iff_eq.mpr c9
         have c9b1:(a0.toList != ([111,117]:List UInt8))=false:=bne_eq_false_iff_eq.mpr c9
         clear c9
         obtain rfl:=Option.some.inj H
         go_enter Tryz.func54,Tryz.ntmps54
         go_wp2
         go_ret
         exact ⟨by first|rfl|(simp;done)|(simp [*];done)|(simp [*,aT,aU,bU];done)|(simp only [ay,ax];done)|(simp only [ay,ax];simp;done)|(simp only [ay,ax];simp [*];done),by repeat (first|exact bg.refl _|apply bg.step)⟩
        ·rw [if_neg c9] at H
         have c9b0:(a0.toList == ([111,117]:List UInt8))=false:=beq_eq_false_iff_ne.mpr c9
         have c9b1:(a0.toList != ([111,117]:List UInt8))=true:=bne_iff_ne.mpr c9
         by_cases c10:a0.toList=([117,105,100]:List UInt8)
         ·rw [if_pos c10] at H
          have c10b0:(a0.toList == ([117,105,100]:List UInt8))=true:=beq_iff_eq.mpr c10
          have c10b1:(a0.toList != ([117,105,100]:List UInt8))=false:=bne_eq_false_iff_eq.mpr c10
          clear c10
          obtain rfl:=Option.some.inj H
          go_enter Tryz.func54,Tryz.ntmps54
          go_wp2
          go_ret
          exact ⟨by first|rfl|(simp;done)|(simp [*];done)|(simp [*,aT,aU,bU];done)|(simp only [ay,ax];done)|(simp only [ay,ax];simp;done)|(simp only [ay,ax];simp [*];done),by repeat (first|exact bg.refl _|apply bg.step)⟩
         ·rw [if_neg c10] at H
          have c10b0:(a0.toList == ([117,105,100]:List UInt8))=false:=beq_eq_false_iff_ne.mpr c10
          have c10b1:(a0.toList != ([117,105,100]:List UInt8))=true:=bne_iff_ne.mpr c10
          by_cases c11:a0.toList=([109,97,105,108]:List UInt8)
          ·rw [if_pos c11] at H
           have c11b0:(a0.toList == ([109,97,105,108]:List UInt8))=true:=beq_iff_eq.mpr c11
           have c11b1:(a0.toList != ([109,97,105,108]:List UInt8))=false:=bne_eq_false_iff_eq.mpr c11
           clear c11
           obtain rfl:=Option.some.inj H
           go_enter Tryz.func54,Tryz.ntmps54
           go_wp2
           go_ret
           exact ⟨by first|rfl|(simp;done)|(simp [*];done)|(simp [*,aT,aU,bU];done)|(simp only [ay,ax];done)|(simp only [ay,ax];simp;done)|(simp only [ay,ax];simp [*];done),by repeat (first|exact bg.refl _|apply bg.step)⟩
          ·rw [if_neg c11] at H
           have c11b0:(a0.toList == ([109,97,105,108]:List UInt8))=false:=beq_eq_false_iff_ne.mpr c11
           have c11b1:(a0.toList != ([109,97,105,108]:List UInt8))=true:=bne_iff_ne.mpr c11
           by_cases c12:a0.toList=([100,101,115,99,114,105,112,116,105,111,110]:List UInt8)
           ·rw [if_pos c12] at H
            have c12b0:(a0.toList == ([100,101,115,99,114,105,112,116,105,111,110]:List UInt8))=true:=beq_iff_eq.mpr c12
            have c12b1:(a0.toList != ([100,101,115,99,114,105,112,116,105,111,110]:List UInt8))=false:=bne_eq_false_iff_eq.mpr c12
            clear c12
            obtain rfl:=Option.some.inj H
            go_enter Tryz.func54,Tryz.ntmps54
            go_wp2
            go_ret
            exact ⟨by first|rfl|(simp;done)|(simp [*];done)|(simp [*,aT,aU,bU];done)|(simp only [ay,ax];done)|(simp only [ay,ax];simp;done)|(simp only [ay,ax];simp [*];done),by repeat (first|exact bg.refl _|apply bg.step)⟩
           ·rw [if_neg c12] at H
            have c12b0:(a0.toList == ([100,101,115,99,114,105,112,116,105,111,110]:List UInt8))=false:=beq_eq_false_iff_ne.mpr c12
            have c12b1:(a0.toList != ([100,101,115,99,114,105,112,116,105,111,110]:List UInt8))=true:=bne_iff_ne.mpr c12
            obtain rfl:=Option.some.inj H
            go_enter Tryz.func54,Tryz.ntmps54
            go_wp2
            go_ret
            exact ⟨by first|rfl|(simp;done)|(simp [*];done)|(simp [*,aT,aU,bU];done)|(simp only [ay,ax];done)|(simp only [ay,ax];simp;done)|(simp only [ay,ax];simp [*];done),by repeat (first|exact bg.refl _|apply bg.step)⟩
end Go.Proofs.YthfpaoacjpjnfaaGreatDoor.P

namespace Go.Proofs.YthfpaoacjpjnfaaGreatDoor.P
open Go.RowKit Go.Proofs.YthfpaoacjpjnfaaGreatDoorW.PrintWords Go.Proofs.YthfpaoacjpjnfaaGreatDoorW.PrintLast Go.Proofs.YthfpaoacjpjnfaaGreatDoorW.PrintMore
def dA.f (a0:ByteArray):Option (ByteArray × Bool):=if a0.size≤9223372036854775807 then (ed.f (gq a0)).bind fun n=>if n=0 then some (⟨#[]⟩,false) else some (gq a0,true) else none
theorem dA.any (a0:ByteArray) (n:Int) (w:World) (hs:a0.size≤9223372036854775807) (hr:ed.f (gq a0)=some n) :
    Calls Tryz.prog 35 #[.string a0] w fun e w'=>e=.returned (if n=0 then .tuple #[.string ⟨#[]⟩,.bool false] else .tuple #[.string (gq a0),.bool true])∧Below w.heap.size w w':=by
  have hcv:=fun W=>Lib.run_convert_string_bytes (P:=Tryz.prog) W 9 34 5 a0 (u:=.string) Tryz.underlying9 Tryz.underlying34 Tryz.underlying5
  have HRL:=Lib.hid hr
  clear hr
  go_enter Tryz.func35,Tryz.ntmps35
  go_wp2
  go_loopw [12] (fun i wr=>∃ k:Nat,k≤a0.size∧i=.int .i64 k∧aa (Below w.heap.size w wr)∧aa (iK wr w.heap.size a0.size (iI a0 k))) (fun i _=>a0.size - (intOf i).toNat)
  case atStart=>exact ⟨0,Nat.zero_le _,rfl,⟨Lib.bytesWorld_below _ _ _⟩,⟨by rw [jF];exact iM w a0⟩⟩
  case round =>
    obtain ⟨k,hk,rfl,HB,HR⟩:=hrel
    by_cases hlt:k < a0.size
    · have hc:=HR.out.cell k hlt
      have hz:=HR.out.free k hlt
      rw [jL] at hc
      obtain ⟨c,hcc⟩:∃ c:Int,((a0.data.toList.getD k 0).toNat:Int)=c:=⟨_,rfl⟩
      rw [hcc] at hc
      have hcr:0≤c∧c≤255:=by have:=(a0.data.toList.getD k 0).toNat_lt;omega
      have hc0:0≤c:=hcr.1
      have hc1:c≤255:=hcr.2
      clear hcr
      have HC:=Lib.hid hcc
      clear hcc
      by_cases h1:65≤c
      · by_cases h2:c≤90
        · have HL:=Lib.hid (oZ h1 h2)
          go_wp2
          refine ⟨⟨k+1,by omega,by go_num,⟨?_⟩,⟨?_⟩⟩,by simp [intOf];omega⟩
          · exact (HB.out).setCell (Nat.le_refl _) _
          · have:=kF HR.out hlt HC.out
            rw [HL.out] at this
            first
            | exact this
            | (rw [show c+97 - 65=c+32 from by omega];exact this)
            | (rw [show ((c+97) - 65) % 256=c+32 from by omega];exact this)
            | (rw [show ((c+97) % 256 - 65) % 256=c+32 from by omega];exact this)
        · have HL:=Lib.hid (jy (c:=c) (by omega))
          have d2:decide (c≤90)=false:=by simpa using h2
          go_wp2
          refine ⟨⟨k+1,by omega,by go_num,HB,⟨iA HR.out HC.out HL.out⟩⟩,by simp [intOf];omega⟩
      · have HL:=Lib.hid (jy (c:=c) (by omega))
        have d1:decide (65≤c)=false:=by simpa using h1
        go_wp2
        refine ⟨⟨k+1,by omega,by go_num,HB,⟨iA HR.out HC.out HL.out⟩⟩,by simp [intOf];omega⟩
    · have hge:¬ (k:Int) < (a0.size:Int):=by omega
      have hst:=fun cap=>jc (P:=Tryz.prog) HR.out cap 34 5 9 Tryz.underlying34 Tryz.underlying5 Tryz.underlying9
      rw [kv a0 k hlt] at hst
      by_cases hn:n=0
      · have b1:(n == 0)=true:=beq_iff_eq.2 hn
        have HN:=Lib.hid hn
        clear hn
        go_wp2_with (go_at_call 54;refine (ed.calls _ _ _ HRL.out).mono ?_;rintro e w' ⟨rfl,⟨nq,rfl⟩⟩)
        go_ret2
        exact ⟨rfl,ae HB.out nq⟩
      · have b1:(n == 0)=false:=beq_eq_false_iff_ne.2 hn
        have HN:=Lib.hid hn
        clear hn
        go_wp2_with (go_at_call 54;refine (ed.calls _ _ _ HRL.out).mono ?_;rintro e w' ⟨rfl,⟨nq,rfl⟩⟩)
        go_ret2
        exact ⟨rfl,ae HB.out nq⟩
theorem dA.calls (a0:ByteArray) (r1:ByteArray) (r2:Bool) (w:World) (h:dA.f a0=some (r1,r2)) :
    Calls Tryz.prog 35 #[.string a0] w fun e w'=>e=.returned (.tuple #[.string r1,.bool r2])∧Below w.heap.size w w':=by
  unfold dA.f at h
  by_cases hs:a0.size≤9223372036854775807
  · rw [if_pos hs] at h
    obtain ⟨n,hn,h⟩:=Option.bind_eq_some_iff.1 h
    refine (dA.any a0 n w hs hn).mono ?_
    rintro e w' ⟨rfl,hb⟩
    refine ⟨?_,hb⟩
    by_cases h0:n=0
    · rw [if_pos h0] at h ⊢
      obtain ⟨rfl,rfl⟩:=Prod.mk.inj (Option.some.inj h)
      rfl
    · rw [if_neg h0] at h ⊢
      obtain ⟨rfl,rfl⟩:=Prod.mk.inj (Option.some.inj h)
      rfl
  · rw [if_neg hs] at h
    cases h
end Go.Proofs.YthfpaoacjpjnfaaGreatDoor.P

namespace Go.Proofs.YthfpaoacjpjnfaaGreatDoor.P
open Go.RowKit Go.Proofs.YthfpaoacjpjnfaaGreatDoorW.PrintWords Go.Proofs.YthfpaoacjpjnfaaGreatDoorW.PrintLast Go.Proofs.YthfpaoacjpjnfaaGreatDoorW.PrintMore
attribute [local go_sem] dW dZ eP eQ dL dM dY dX
def dx.f (a0:ByteArray):Option (Int):=(dA.f a0).bind fun bt131=>((ed.f bt131.1).bind fun t133=>(some t133))
set_option maxHeartbeats 8000000 in
set_option maxRecDepth 100000 in
theorem dx.calls (a0:ByteArray) (r:Int) (w:World) (h:dx.f a0=some r) :
  Calls Tryz.prog 59 #[.string a0] w fun e w'=>e=.returned (.int .i64 r)∧Below w.heap.size w w':=by
 have HB:=aa.mk (Below.refl w.heap.size w)
 have H:((dA.f a0).bind fun bt131=>((ed.f bt131.1).bind fun t133=>(some t133)))=some r:=h
 clear h
 replace H:=Option.bind_eq_some_iff.mp H
 obtain ⟨⟨t131,t132⟩,A20,H⟩:=H
 replace H:((ed.f t131).bind fun t133=>(some t133))=some r:=H
 have A2:=aa.mk A20
 clear A20
 replace H:=Option.bind_eq_some_iff.mp H
 obtain ⟨t133,A30,H⟩:=H
 replace H:(some t133)=some r:=H
 have A3:=aa.mk A30
 clear A30
 obtain rfl:=Option.some.inj H
 go_enter Tryz.func59,Tryz.ntmps59
 go_wp2_with (first|((with_reducible refine aV (f:=35) rfl ?_);refine bJ (some 7) rfl rfl Tryz.func35 (by kernel_rfl) rfl #[.string a0] rfl (by (try simp only [List.map_toArray,List.map_cons,List.map_nil]);first|done|rfl|(simp only [List.length_drop,List.length_take];rfl)) ?_;(with_reducible refine (dA.calls a0 t131 t132 _ A2.out).mono ?_);rintro e w4 ⟨rfl,hb⟩;refine ⟨_,rfl,?_⟩;have n0_:=aa.mk (aD (by repeat (first|(with_reducible first|exact HB.out|apply af|apply ae|apply ag)|exact HB.out)) hb);clear HB;have HB:=n0_;clear n0_;(try clear hb);(try clear hb2);(try clear hk);(try clear hi))|((with_reducible refine aV (f:=54) rfl ?_);refine bJ (some 11) rfl rfl Tryz.func54 (by kernel_rfl) rfl #[.string t131] rfl (by (try simp only [List.map_toArray,List.map_cons,List.map_nil]);first|done|rfl|(simp only [List.length_drop,List.length_take];rfl)) ?_;(with_reducible refine (ed.calls t131 t133 _ A3.out).mono ?_);rintro e w' ⟨rfl,⟨nd,rfl⟩⟩;refine ⟨_,rfl,?_⟩))
 go_ret
 exact ⟨by first|rfl|(simp [aM,aK] <;> rfl)|(simp [*,aM,aK] <;> rfl),by repeat (first|(with_reducible first|exact HB.out|apply af|apply ae|apply ag)|exact HB.out)⟩
end Go.Proofs.YthfpaoacjpjnfaaGreatDoor.P


namespace Go.Proofs
open Go.Shelf
def Tryz.lays160_ren:Go.Shelf.Ren:=⟨fun|160=>86|232=>102|231=>101|227=>103|234=>105|233=>104|236=>107|235=>106|228=>126|271=>129|151=>128|197=>127|120=>149|152=>148|260=>147|137=>139|119=>161|224=>145|225=>144|217=>143|266=>159|n=>n,fun|9=>9|4=>4|3=>3|5=>5|117=>113|116=>112|0=>0|124=>116|21=>21|105=>129|46=>125|119=>162|139=>165|138=>164|n=>n,fun|3=>3|4=>4|n=>n⟩
theorem Tryz.lays160:Go.Proofs.Lays.n160 Tryz.prog Tryz.lays160_ren:={
  mixed:=by kernel_rfl
  f119:=Tryz.func161.trans (congrArg some (by kernel_rfl))
  f120:=Tryz.func149.trans (congrArg some (by kernel_rfl))
  f137:=Tryz.func139.trans (congrArg some (by kernel_rfl))
  f151:=Tryz.func128.trans (congrArg some (by kernel_rfl))
  f152:=Tryz.func148.trans (congrArg some (by kernel_rfl))
  f160:=Tryz.func86.trans (congrArg some (by kernel_rfl))
  f197:=Tryz.func127.trans (congrArg some (by kernel_rfl))
  f217:=Tryz.func143.trans (congrArg some (by kernel_rfl))
  f224:=Tryz.func145.trans (congrArg some (by kernel_rfl))
  f225:=Tryz.func144.trans (congrArg some (by kernel_rfl))
  f227:=Tryz.func103.trans (congrArg some (by kernel_rfl))
  f228:=Tryz.func126.trans (congrArg some (by kernel_rfl))
  f231:=Tryz.func101.trans (congrArg some (by kernel_rfl))
  f232:=Tryz.func102.trans (congrArg some (by kernel_rfl))
  f233:=Tryz.func104.trans (congrArg some (by kernel_rfl))
  f234:=Tryz.func105.trans (congrArg some (by kernel_rfl))
  f235:=Tryz.func106.trans (congrArg some (by kernel_rfl))
  f236:=Tryz.func107.trans (congrArg some (by kernel_rfl))
  f260:=Tryz.func147.trans (congrArg some (by kernel_rfl))
  f266:=Tryz.func159.trans (congrArg some (by kernel_rfl))
  f271:=Tryz.func129.trans (congrArg some (by kernel_rfl))
  t0:=Tryz.underlying0
  a0:=Tryz.isAgg0
  z0:=Tryz.sizeOf0
  v0:=Tryz.zeroValue0
  t3:=Tryz.underlying3
  a3:=Tryz.isAgg3
  z3:=Tryz.sizeOf3
  v3:=Tryz.zeroValue3
  t4:=Tryz.underlying4
  a4:=Tryz.isAgg4
  z4:=Tryz.sizeOf4
  v4:=Tryz.zeroValue4
  t5:=Tryz.underlying5
  a5:=Tryz.isAgg5
  z5:=Tryz.sizeOf5
  v5:=Tryz.zeroValue5
  t9:=Tryz.underlying9
  a9:=Tryz.isAgg9
  z9:=Tryz.sizeOf9
  v9:=Tryz.zeroValue9
  t21:=Tryz.underlying21
  a21:=Tryz.isAgg21
  z21:=Tryz.sizeOf21
  v21:=Tryz.zeroValue21
  t46:=Tryz.underlying125
  a46:=Tryz.isAgg125
  z46:=Tryz.sizeOf125
  v46:=Tryz.zeroValue125
  t105:=Tryz.underlying129
  a105:=Tryz.isAgg129
  z105:=Tryz.sizeOf129
  v105:=Tryz.zeroValue129
  t116:=Tryz.underlying112
  a116:=Tryz.isAgg112
  z116:=Tryz.sizeOf112
  t117:=Tryz.underlying113
  a117:=Tryz.isAgg113
  z117:=Tryz.sizeOf113
  v117:=Tryz.zeroValue113
  t119:=Tryz.underlying162
  a119:=Tryz.isAgg162
  z119:=Tryz.sizeOf162
  t124:=Tryz.underlying116
  a124:=Tryz.isAgg116
  z124:=Tryz.sizeOf116
  v124:=Tryz.zeroValue116
  t138:=Tryz.underlying164
  a138:=Tryz.isAgg164
  z138:=Tryz.sizeOf164
  v138:=Tryz.zeroValue164
  t139:=Tryz.underlying165
  a139:=Tryz.isAgg165
  z139:=Tryz.sizeOf165
  v139:=Tryz.zeroValue165
  g3:=by kernel_rfl
  g4:=by kernel_rfl }
open Go.RowKit in
theorem Tryz.strings_Trim_one (s:ByteArray) (c:UInt8) (hc:c.toNat < 128) (w:World) (hs:s.size≤9223372036854775807) :
    Calls Tryz.prog 86 #[.string s,.string ⟨#[c]⟩] w fun e w'=>e=.returned (.string ⟨(Lib.trimB s.data.toList c).toArray⟩)∧(w'=w∨w'=w.drew):=Any.strings_Trim_one Tryz.lays160 s c hc w hs
def Tryz.lays103_ren:Go.Shelf.Ren:=⟨fun|103=>82|210=>97|206=>124|n=>n,fun|9=>9|4=>4|24=>60|3=>3|n=>n,fun|n=>n⟩
theorem Tryz.lays103:Go.Proofs.Lays.n103 Tryz.prog Tryz.lays103_ren:={
  mixed:=by kernel_rfl
  f103:=Tryz.func82.trans (congrArg some (by kernel_rfl))
  f206:=Tryz.func124.trans (congrArg some (by kernel_rfl))
  f210:=Tryz.func97.trans (congrArg some (by kernel_rfl))
  t3:=Tryz.underlying3
  a3:=Tryz.isAgg3
  z3:=Tryz.sizeOf3
  v3:=Tryz.zeroValue3
  t4:=Tryz.underlying4
  a4:=Tryz.isAgg4
  z4:=Tryz.sizeOf4
  v4:=Tryz.zeroValue4
  t9:=Tryz.underlying9
  a9:=Tryz.isAgg9
  z9:=Tryz.sizeOf9
  v9:=Tryz.zeroValue9
  t24:=Tryz.underlying60
  a24:=Tryz.isAgg60
  z24:=Tryz.sizeOf60
  v24:=Tryz.zeroValue60 }
open Go.RowKit in
theorem Tryz.strings_CutPrefix (s p:ByteArray) (w:World) :
    Calls Tryz.prog 82 #[.string s,.string p] w fun e w'=>e=.returned (.tuple #[.string ⟨(Lib.trimPrefix s.data.toList p.data.toList).toArray⟩,.bool (Lib.hasPrefix s.data.toList p.data.toList)])∧w'=w:=Any.strings_CutPrefix Tryz.lays103 s p w
def Tryz.laysM171_ren:Go.Shelf.Ren:=⟨fun|171=>88|243=>110|246=>135|283=>153|284=>154|285=>155|286=>156|129=>165|317=>164|318=>166|319=>167|320=>168|337=>169|338=>170|n=>n,fun|3=>3|9=>9|2=>2|4=>4|171=>152|0=>0|53=>57|37=>34|5=>5|173=>155|212=>170|51=>159|20=>20|213=>171|46=>125|232=>175|233=>176|n=>n,fun|17=>5|18=>6|19=>7|n=>n⟩
theorem Tryz.laysM171:Go.Proofs.LaysM.n171 Tryz.prog Tryz.laysM171_ren:={
  mixed:=by kernel_rfl
  f129:=Tryz.func165.trans (congrArg some (by kernel_rfl))
  f171:=Tryz.func88.trans (congrArg some (by kernel_rfl))
  f243:=Tryz.func110.trans (congrArg some (by kernel_rfl))
  f246:=Tryz.func135.trans (congrArg some (by kernel_rfl))
  f283:=Tryz.func153.trans (congrArg some (by kernel_rfl))
  f284:=Tryz.func154.trans (congrArg some (by kernel_rfl))
  f285:=Tryz.func155.trans (congrArg some (by kernel_rfl))
  f286:=Tryz.func156.trans (congrArg some (by kernel_rfl))
  f317:=Tryz.func164.trans (congrArg some (by kernel_rfl))
  f318:=Tryz.func166.trans (congrArg some (by kernel_rfl))
  f319:=Tryz.func167.trans (congrArg some (by kernel_rfl))
  f320:=Tryz.func168.trans (congrArg some (by kernel_rfl))
  f337:=Tryz.func169.trans (congrArg some (by kernel_rfl))
  f338:=Tryz.func170.trans (congrArg some (by kernel_rfl))
  t0:=Tryz.underlying0
  a0:=Tryz.isAgg0
  z0:=Tryz.sizeOf0
  v0:=Tryz.zeroValue0
  t2:=Tryz.underlying2
  a2:=Tryz.isAgg2
  z2:=Tryz.sizeOf2
  v2:=Tryz.zeroValue2
  t3:=Tryz.underlying3
  a3:=Tryz.isAgg3
  z3:=Tryz.sizeOf3
  v3:=Tryz.zeroValue3
  t4:=Tryz.underlying4
  a4:=Tryz.isAgg4
  z4:=Tryz.sizeOf4
  v4:=Tryz.zeroValue4
  t5:=Tryz.underlying5
  a5:=Tryz.isAgg5
  z5:=Tryz.sizeOf5
  v5:=Tryz.zeroValue5
  t9:=Tryz.underlying9
  a9:=Tryz.isAgg9
  z9:=Tryz.sizeOf9
  v9:=Tryz.zeroValue9
  t20:=Tryz.underlying20
  a20:=Tryz.isAgg20
  z20:=Tryz.sizeOf20
  v20:=Tryz.zeroValue20
  t37:=Tryz.underlying34
  a37:=Tryz.isAgg34
  z37:=Tryz.sizeOf34
  v37:=Tryz.zeroValue34
  t46:=Tryz.underlying125
  a46:=Tryz.isAgg125
  z46:=Tryz.sizeOf125
  v46:=Tryz.zeroValue125
  t51:=Tryz.underlying159
  a51:=Tryz.isAgg159
  z51:=Tryz.sizeOf159
  v51:=Tryz.zeroValue159
  t53:=Tryz.underlying57
  a53:=Tryz.isAgg57
  z53:=Tryz.sizeOf57
  v53:=Tryz.zeroValue57
  t171:=Tryz.underlying152
  a171:=Tryz.isAgg152
  z171:=Tryz.sizeOf152
  v171:=Tryz.zeroValue152
  t173:=Tryz.underlying155
  a173:=Tryz.isAgg155
  z173:=Tryz.sizeOf155
  v173:=Tryz.zeroValue155
  t212:=Tryz.underlying170
  a212:=Tryz.isAgg170
  z212:=Tryz.sizeOf170
  v212:=Tryz.zeroValue170
  t213:=Tryz.underlying171
  a213:=Tryz.isAgg171
  z213:=Tryz.sizeOf171
  t232:=Tryz.underlying175
  a232:=Tryz.isAgg175
  z232:=Tryz.sizeOf175
  v232:=Tryz.zeroValue175
  t233:=Tryz.underlying176
  a233:=Tryz.isAgg176
  z233:=Tryz.sizeOf176
  v233:=Tryz.zeroValue176
  g17:=by kernel_rfl
  g18:=by kernel_rfl
  g19:=by kernel_rfl
  i0:=by kernel_rfl
  i2:=by kernel_rfl
  i3:=by kernel_rfl
  i4:=by kernel_rfl
  i5:=by kernel_rfl
  i9:=by kernel_rfl
  i20:=by kernel_rfl
  i37:=by kernel_rfl
  i46:=by kernel_rfl
  i51:=by kernel_rfl
  i53:=by kernel_rfl
  i171:=by kernel_rfl
  i173:=by kernel_rfl
  i212:=by kernel_rfl
  i232:=by kernel_rfl
  i233:=by kernel_rfl
  m17:=by kernel_rfl
  m18:=by kernel_rfl
  m19:=by kernel_rfl }
open Go.RowKit Go.Sort Go.Lib in
theorem Tryz.strconv_Itoa (n:Int) (h0:-9223372036854775808≤n) (h1:n≤9223372036854775807) (w:World) (htab:Lib.TabIs Tryz.prog w "internal/strconv.uint64pow10" .u64 Lib.pow10Tab) :
    Calls Tryz.prog 88 #[.int .i64 n] w fun e w'=>e=.returned (.string ⟨(Lib.itoa n).toArray⟩)∧∃ k os,w'=grow (w.drewN k) os:=Any.strconv_Itoa Tryz.laysM171 n h0 h1 w htab
def Tryz.laysC172_ren:Go.Shelf.Ren:=⟨fun|172=>87|244=>108|245=>109|247=>130|279=>131|280=>132|281=>133|282=>134|287=>150|316=>151|171=>88|205=>152|321=>162|322=>163|243=>110|246=>135|283=>153|284=>154|285=>155|286=>156|129=>165|317=>164|318=>166|319=>167|320=>168|337=>169|338=>170|n=>n,fun|9=>9|3=>3|75=>95|76=>96|4=>4|5=>5|167=>132|37=>34|0=>0|85=>133|2=>2|168=>135|53=>57|175=>147|46=>125|210=>150|127=>142|145=>169|143=>167|21=>21|171=>152|173=>155|212=>170|51=>159|20=>20|213=>171|232=>175|233=>176|80=>126|n=>n,fun|15=>1|16=>2|17=>5|18=>6|19=>7|n=>n⟩
theorem Tryz.laysC172:Go.Proofs.LaysC.n172 Tryz.prog Tryz.laysC172_ren:={
  mixed:=by kernel_rfl
  f129:=Tryz.func165.trans (congrArg some (by kernel_rfl))
  f171:=Tryz.func88.trans (congrArg some (by kernel_rfl))
  f172:=Tryz.func87.trans (congrArg some (by kernel_rfl))
  f205:=Tryz.func152.trans (congrArg some (by kernel_rfl))
  f243:=Tryz.func110.trans (congrArg some (by kernel_rfl))
  f244:=Tryz.func108.trans (congrArg some (by kernel_rfl))
  f245:=Tryz.func109.trans (congrArg some (by kernel_rfl))
  f246:=Tryz.func135.trans (congrArg some (by kernel_rfl))
  f247:=Tryz.func130.trans (congrArg some (by kernel_rfl))
  f279:=Tryz.func131.trans (congrArg some (by kernel_rfl))
  f280:=Tryz.func132.trans (congrArg some (by kernel_rfl))
  f281:=Tryz.func133.trans (congrArg some (by kernel_rfl))
  f282:=Tryz.func134.trans (congrArg some (by kernel_rfl))
  f283:=Tryz.func153.trans (congrArg some (by kernel_rfl))
  f284:=Tryz.func154.trans (congrArg some (by kernel_rfl))
  f285:=Tryz.func155.trans (congrArg some (by kernel_rfl))
  f286:=Tryz.func156.trans (congrArg some (by kernel_rfl))
  f287:=Tryz.func150.trans (congrArg some (by kernel_rfl))
  f316:=Tryz.func151.trans (congrArg some (by kernel_rfl))
  f317:=Tryz.func164.trans (congrArg some (by kernel_rfl))
  f318:=Tryz.func166.trans (congrArg some (by kernel_rfl))
  f319:=Tryz.func167.trans (congrArg some (by kernel_rfl))
  f320:=Tryz.func168.trans (congrArg some (by kernel_rfl))
  f321:=Tryz.func162.trans (congrArg some (by kernel_rfl))
  f322:=Tryz.func163.trans (congrArg some (by kernel_rfl))
  f337:=Tryz.func169.trans (congrArg some (by kernel_rfl))
  f338:=Tryz.func170.trans (congrArg some (by kernel_rfl))
  t0:=Tryz.underlying0
  a0:=Tryz.isAgg0
  z0:=Tryz.sizeOf0
  v0:=Tryz.zeroValue0
  t2:=Tryz.underlying2
  a2:=Tryz.isAgg2
  z2:=Tryz.sizeOf2
  v2:=Tryz.zeroValue2
  t3:=Tryz.underlying3
  a3:=Tryz.isAgg3
  z3:=Tryz.sizeOf3
  v3:=Tryz.zeroValue3
  t4:=Tryz.underlying4
  a4:=Tryz.isAgg4
  z4:=Tryz.sizeOf4
  v4:=Tryz.zeroValue4
  t5:=Tryz.underlying5
  a5:=Tryz.isAgg5
  z5:=Tryz.sizeOf5
  v5:=Tryz.zeroValue5
  t9:=Tryz.underlying9
  a9:=Tryz.isAgg9
  z9:=Tryz.sizeOf9
  v9:=Tryz.zeroValue9
  t20:=Tryz.underlying20
  a20:=Tryz.isAgg20
  z20:=Tryz.sizeOf20
  v20:=Tryz.zeroValue20
  t21:=Tryz.underlying21
  a21:=Tryz.isAgg21
  z21:=Tryz.sizeOf21
  v21:=Tryz.zeroValue21
  t37:=Tryz.underlying34
  a37:=Tryz.isAgg34
  z37:=Tryz.sizeOf34
  v37:=Tryz.zeroValue34
  t46:=Tryz.underlying125
  a46:=Tryz.isAgg125
  z46:=Tryz.sizeOf125
  v46:=Tryz.zeroValue125
  t51:=Tryz.underlying159
  a51:=Tryz.isAgg159
  z51:=Tryz.sizeOf159
  v51:=Tryz.zeroValue159
  t53:=Tryz.underlying57
  a53:=Tryz.isAgg57
  z53:=Tryz.sizeOf57
  v53:=Tryz.zeroValue57
  t75:=Tryz.underlying95
  a75:=Tryz.isAgg95
  z75:=Tryz.sizeOf95
  v75:=Tryz.zeroValue95
  t76:=Tryz.underlying96
  a76:=Tryz.isAgg96
  z76:=Tryz.sizeOf96
  v76:=Tryz.zeroValue96
  t85:=Tryz.underlying133
  a85:=Tryz.isAgg133
  z85:=Tryz.sizeOf133
  v85:=Tryz.zeroValue133
  t127:=Tryz.underlying142
  a127:=Tryz.isAgg142
  z127:=Tryz.sizeOf142
  v127:=Tryz.zeroValue142
  t143:=Tryz.underlying167
  a143:=Tryz.isAgg167
  z143:=Tryz.sizeOf167
  v143:=Tryz.zeroValue167
  t145:=Tryz.underlying169
  a145:=Tryz.isAgg169
  z145:=Tryz.sizeOf169
  v145:=Tryz.zeroValue169
  t167:=Tryz.underlying132
  a167:=Tryz.isAgg132
  z167:=Tryz.sizeOf132
  v167:=Tryz.zeroValue132
  t168:=Tryz.underlying135
  a168:=Tryz.isAgg135
  z168:=Tryz.sizeOf135
  v168:=Tryz.zeroValue135
  t171:=Tryz.underlying152
  a171:=Tryz.isAgg152
  z171:=Tryz.sizeOf152
  v171:=Tryz.zeroValue152
  t173:=Tryz.underlying155
  a173:=Tryz.isAgg155
  z173:=Tryz.sizeOf155
  v173:=Tryz.zeroValue155
  t175:=Tryz.underlying147
  a175:=Tryz.isAgg147
  z175:=Tryz.sizeOf147
  v175:=Tryz.zeroValue147
  t210:=Tryz.underlying150
  a210:=Tryz.isAgg150
  z210:=Tryz.sizeOf150
  v210:=Tryz.zeroValue150
  t212:=Tryz.underlying170
  a212:=Tryz.isAgg170
  z212:=Tryz.sizeOf170
  v212:=Tryz.zeroValue170
  t213:=Tryz.underlying171
  a213:=Tryz.isAgg171
  z213:=Tryz.sizeOf171
  t232:=Tryz.underlying175
  a232:=Tryz.isAgg175
  z232:=Tryz.sizeOf175
  v232:=Tryz.zeroValue175
  t233:=Tryz.underlying176
  a233:=Tryz.isAgg176
  z233:=Tryz.sizeOf176
  v233:=Tryz.zeroValue176
  g15:=by kernel_rfl
  g16:=by kernel_rfl
  g17:=by kernel_rfl
  g18:=by kernel_rfl
  g19:=by kernel_rfl
  t80:=Tryz.underlying126
  a80:=Tryz.isAgg126
  z80:=Tryz.sizeOf126
  v80:=Tryz.zeroValue126
  i0:=by kernel_rfl
  i2:=by kernel_rfl
  i3:=by kernel_rfl
  i4:=by kernel_rfl
  i5:=by kernel_rfl
  i9:=by kernel_rfl
  i20:=by kernel_rfl
  i21:=by kernel_rfl
  i37:=by kernel_rfl
  i46:=by kernel_rfl
  i51:=by kernel_rfl
  i53:=by kernel_rfl
  i75:=by kernel_rfl
  i76:=by kernel_rfl
  i80:=by kernel_rfl
  i85:=by kernel_rfl
  i127:=by kernel_rfl
  i143:=by kernel_rfl
  i145:=by kernel_rfl
  i167:=by kernel_rfl
  i168:=by kernel_rfl
  i171:=by kernel_rfl
  i173:=by kernel_rfl
  i175:=by kernel_rfl
  i210:=by kernel_rfl
  i212:=by kernel_rfl
  i232:=by kernel_rfl
  i233:=by kernel_rfl
  m15:=by kernel_rfl
  m16:=by kernel_rfl
  m17:=by kernel_rfl
  m18:=by kernel_rfl
  m19:=by kernel_rfl
  c0:=by kernel_rfl
  c2:=by kernel_rfl
  c3:=by kernel_rfl
  c4:=by kernel_rfl
  c5:=by kernel_rfl
  c9:=by kernel_rfl
  c20:=by kernel_rfl
  c21:=by kernel_rfl
  c37:=by kernel_rfl
  c46:=by kernel_rfl
  c51:=by kernel_rfl
  c53:=by kernel_rfl
  c75:=by kernel_rfl
  c76:=by kernel_rfl
  c80:=by kernel_rfl
  c85:=by kernel_rfl
  c127:=by kernel_rfl
  c143:=by kernel_rfl
  c145:=by kernel_rfl
  c167:=by kernel_rfl
  c168:=by kernel_rfl
  c171:=by kernel_rfl
  c173:=by kernel_rfl
  c175:=by kernel_rfl
  c210:=by kernel_rfl
  c212:=by kernel_rfl
  c213:=by kernel_rfl
  c232:=by kernel_rfl
  c233:=by kernel_rfl }
open Go.RowKit in
theorem Tryz.strconv_Atoi_ok (s:ByteArray) (hmax:s.size≤9223372036854775806) (v:Int) (h:Lib.atoiAll s.data.toList=.ok v) (w:World) :
    Calls Tryz.prog 87 #[.string s] w fun e w'=>e=.returned (.tuple #[.int .i64 v,.nilIface])∧(w'=w∨∃ t,w'=Lib.bytesWorld w 5 t):=Any.strconv_Atoi_ok Tryz.laysC172 s hmax v h w
open Go.RowKit in
theorem Tryz.strconv_Atoi_syntax (s:ByteArray) (hlim:s.size≤281474976710656) (h:Lib.atoiAll s.data.toList=Lib.atoiAll []) (ev:Value) (w:World) (hv:w.cell? ⟨1,0,none⟩=some ev) (hev:ev=.nilIface∨∃ te pe,ev=.iface te pe) :
    Calls Tryz.prog 87 #[.string s] w fun e w'=>∃ N,e=.returned (.tuple #[.int .i64 (0),.iface 135 (.pointer (some ⟨N,0,none⟩))])∧w.heap.size≤N∧w'.heap[N]?=some (.cells #[.string ⟨#[65,116,111,105]⟩,.string s,ev] 150 (0,0))∧Below w.heap.size w w':=Any.strconv_Atoi_syntax Tryz.laysC172 s hlim h ev w hv hev
open Go.RowKit in
theorem Tryz.strconv_Atoi_range (s:ByteArray) (hlim:s.size≤281474976710656) (h:Lib.atoiAll s.data.toList=.range) (ev:Value) (w:World) (hv:w.cell? ⟨2,0,none⟩=some ev) (hev:ev=.nilIface∨∃ te pe,ev=.iface te pe) :
    Calls Tryz.prog 87 #[.string s] w fun e w'=>∃ N,e=.returned (.tuple #[.int .i64 (Lib.atoiSat s.data.toList),.iface 135 (.pointer (some ⟨N,0,none⟩))])∧w.heap.size≤N∧w'.heap[N]?=some (.cells #[.string ⟨#[65,116,111,105]⟩,.string s,ev] 150 (0,0))∧Below w.heap.size w w':=Any.strconv_Atoi_range Tryz.laysC172 s hlim h ev w hv hev
def Tryz.lays145_ren:Go.Shelf.Ren:=⟨fun|145=>83|220=>98|219=>125|217=>143|225=>144|224=>145|267=>146|266=>159|314=>160|n=>n,fun|9=>9|4=>4|59=>90|3=>3|5=>5|46=>125|146=>160|51=>159|n=>n,fun|1=>0|n=>n⟩
theorem Tryz.lays145:Go.Proofs.Lays.n145 Tryz.prog Tryz.lays145_ren:={
  mixed:=by kernel_rfl
  f145:=Tryz.func83.trans (congrArg some (by kernel_rfl))
  f217:=Tryz.func143.trans (congrArg some (by kernel_rfl))
  f219:=Tryz.func125.trans (congrArg some (by kernel_rfl))
  f220:=Tryz.func98.trans (congrArg some (by kernel_rfl))
  f224:=Tryz.func145.trans (congrArg some (by kernel_rfl))
  f225:=Tryz.func144.trans (congrArg some (by kernel_rfl))
  f266:=Tryz.func159.trans (congrArg some (by kernel_rfl))
  f267:=Tryz.func146.trans (congrArg some (by kernel_rfl))
  f314:=Tryz.func160.trans (congrArg some (by kernel_rfl))
  t3:=Tryz.underlying3
  a3:=Tryz.isAgg3
  z3:=Tryz.sizeOf3
  v3:=Tryz.zeroValue3
  t4:=Tryz.underlying4
  a4:=Tryz.isAgg4
  z4:=Tryz.sizeOf4
  v4:=Tryz.zeroValue4
  t5:=Tryz.underlying5
  a5:=Tryz.isAgg5
  z5:=Tryz.sizeOf5
  v5:=Tryz.zeroValue5
  t9:=Tryz.underlying9
  a9:=Tryz.isAgg9
  z9:=Tryz.sizeOf9
  v9:=Tryz.zeroValue9
  t46:=Tryz.underlying125
  a46:=Tryz.isAgg125
  z46:=Tryz.sizeOf125
  v46:=Tryz.zeroValue125
  t51:=Tryz.underlying159
  a51:=Tryz.isAgg159
  z51:=Tryz.sizeOf159
  v51:=Tryz.zeroValue159
  t59:=Tryz.underlying90
  a59:=Tryz.isAgg90
  z59:=Tryz.sizeOf90
  v59:=Tryz.zeroValue90
  t146:=Tryz.underlying160
  a146:=Tryz.isAgg160
  z146:=Tryz.sizeOf160
  v146:=Tryz.zeroValue160
  g1:=by kernel_rfl }
open Go.RowKit Go.Lib in
theorem Tryz.strings_Cut (s sep:ByteArray) (m:Int) (w:World) (hs:s.size < 4294967281) (hm:w.cell? ⟨0,0,none⟩=some (.int .i64 m)) :
    Calls Tryz.prog 83 #[.string s,.string sep] w fun e w'=>e=.returned (.tuple #[.string ⟨(Lib.cut s.data.toList sep.data.toList).1.toArray⟩,.string ⟨(Lib.cut s.data.toList sep.data.toList).2.1.toArray⟩,.bool (Lib.cut s.data.toList sep.data.toList).2.2])∧∃ n,w'=w.drewN n:=Any.strings_Cut Tryz.lays145 s sep m w hs hm
def Tryz.lays100_ren:Go.Shelf.Ren:=⟨fun|100=>84|207=>99|n=>n,fun|9=>9|4=>4|3=>3|n=>n,fun|n=>n⟩
theorem Tryz.lays100:Go.Proofs.Lays.n100 Tryz.prog Tryz.lays100_ren:={
  mixed:=by kernel_rfl
  f100:=Tryz.func84.trans (congrArg some (by kernel_rfl))
  f207:=Tryz.func99.trans (congrArg some (by kernel_rfl))
  t3:=Tryz.underlying3
  a3:=Tryz.isAgg3
  z3:=Tryz.sizeOf3
  v3:=Tryz.zeroValue3
  t4:=Tryz.underlying4
  a4:=Tryz.isAgg4
  z4:=Tryz.sizeOf4
  v4:=Tryz.zeroValue4
  t9:=Tryz.underlying9
  a9:=Tryz.isAgg9
  z9:=Tryz.sizeOf9
  v9:=Tryz.zeroValue9 }
open Go.RowKit Go.Lib in
theorem Tryz.strings_HasSuffix (s p:ByteArray) (w:World) (hs:s.size≤9223372036854775807) :
    Calls Tryz.prog 84 #[.string s,.string p] w fun e w'=>e=.returned (.bool (Lib.hasSuffix s.data.toList p.data.toList))∧w'=w:=Any.strings_HasSuffix Tryz.lays100 s p w hs
def Tryz.lays101_ren:Go.Shelf.Ren:=⟨fun|101=>89|208=>111|206=>124|n=>n,fun|9=>9|4=>4|3=>3|n=>n,fun|n=>n⟩
theorem Tryz.lays101:Go.Proofs.Lays.n101 Tryz.prog Tryz.lays101_ren:={
  mixed:=by kernel_rfl
  f101:=Tryz.func89.trans (congrArg some (by kernel_rfl))
  f206:=Tryz.func124.trans (congrArg some (by kernel_rfl))
  f208:=Tryz.func111.trans (congrArg some (by kernel_rfl))
  t3:=Tryz.underlying3
  a3:=Tryz.isAgg3
  z3:=Tryz.sizeOf3
  v3:=Tryz.zeroValue3
  t4:=Tryz.underlying4
  a4:=Tryz.isAgg4
  z4:=Tryz.sizeOf4
  v4:=Tryz.zeroValue4
  t9:=Tryz.underlying9
  a9:=Tryz.isAgg9
  z9:=Tryz.sizeOf9
  v9:=Tryz.zeroValue9 }
open Go.RowKit Go.Lib in
theorem Tryz.strings_TrimPrefix (s p:ByteArray) (w:World) :
    Calls Tryz.prog 89 #[.string s,.string p] w fun e w'=>e=.returned (.string ⟨(Lib.trimPrefix s.data.toList p.data.toList).toArray⟩)∧w'=w:=Any.strings_TrimPrefix Tryz.lays101 s p w
def Tryz.laysNm216_ren:Go.Shelf.Ren:=⟨fun|16=>58|n=>n,fun|24=>22|9=>9|4=>4|n=>n,fun|n=>n⟩
theorem Tryz.laysNm216:Go.Proofs.Lays2.n16 Tryz.prog Tryz.laysNm216_ren:={
  mixed:=by kernel_rfl
  f16:=Tryz.func58.trans (congrArg some (by kernel_rfl))
  t4:=Tryz.underlying4
  a4:=Tryz.isAgg4
  z4:=Tryz.sizeOf4
  v4:=Tryz.zeroValue4
  t9:=Tryz.underlying9
  a9:=Tryz.isAgg9
  z9:=Tryz.sizeOf9
  v9:=Tryz.zeroValue9
  t24:=Tryz.underlying22
  a24:=Tryz.isAgg22
  z24:=Tryz.sizeOf22
  v24:=Tryz.zeroValue22
  i9:=by kernel_rfl }
open Go.RowKit Go.Lib in
theorem Tryz.slices_Clone_string (b off n c:Nat) (zs:List ByteArray) (w:World) (hz:n≤zs.length) (hbig:n * 16≤140737488355328) (hc:∀ j,j < zs.length→w.cell? ⟨b,off+j,none⟩=some (.string (zs.getD j ByteArray.empty))) :
    Calls Tryz.prog 58 #[.slice (some ⟨b,off,none⟩) n c] w fun e w'=>∃ v',e=.returned v'∧w'.ownsRow w.heap.size 9 1 v' n ((zs.take n).map (Value.string))∧v'≠.slice none 0 0∧Below w.heap.size w w':=Any.slices_Clone_string Tryz.laysNm216 b off n c zs w hz hbig hc
open Go.RowKit Go.Lib in
theorem Tryz.slices_Clone_string_nil (n c:Nat) (w:World) :
    Calls Tryz.prog 58 #[.slice none n c] w fun e w'=>e=.returned (.slice none 0 0)∧w'=w:=Any.slices_Clone_string_nil Tryz.laysNm216 n c w
open Go.RowKit Go.Lib in
theorem Tryz.slices_Clone_string_zero (a:Addr) (c:Nat) (w:World) :
    Calls Tryz.prog 58 #[.slice (some a) 0 c] w fun e w'=>∃ v',e=.returned v'∧w'.ownsRow w.heap.size 9 1 v' 0 []∧v'≠.slice none 0 0∧Below w.heap.size w w':=Any.slices_Clone_string_zero Tryz.laysNm216 a c w
end Go.Proofs

namespace Go.Proofs.YthfpaoacjpjnfaaGreatDoor.P
open Go.RowKit Go.Proofs.YthfpaoacjpjnfaaGreatDoorW.PrintWords Go.Proofs.YthfpaoacjpjnfaaGreatDoorW.PrintLast Go.Proofs.YthfpaoacjpjnfaaGreatDoorW.PrintMore
def gG.f (a0 a1:ByteArray):Option ByteArray:=if a1=⟨#[32]⟩∧a0.size≤9223372036854775807 then some ⟨(Lib.trimB a0.data.toList 32).toArray⟩ else none
theorem gG.calls (a0 a1:ByteArray) (r:ByteArray) (w:World) (h:gG.f a0 a1=some r) :
    Calls Tryz.prog 86 #[.string a0,.string a1] w fun e w'=>e=.returned (.string r)∧bg w w':=by
  unfold gG.f at h
  by_cases hs:a1=⟨#[32]⟩∧a0.size≤9223372036854775807
  · rw [if_pos hs] at h
    obtain rfl:=Option.some.inj h
    obtain ⟨rfl,hs⟩:=hs
    refine (Tryz.strings_Trim_one a0 32 (by decide) w hs).mono ?_
    rintro e w' ⟨rfl,h⟩
    rcases h with rfl|rfl
    · exact ⟨rfl,bg.refl _⟩
    · exact ⟨rfl,⟨1,rfl⟩⟩
  · rw [if_neg hs] at h
    cases h
def strings_Cut.f (a0 a1:ByteArray):Option (ByteArray × ByteArray × Bool) :=
  if a0.size < 4294967281 then some (⟨(Lib.cut a0.data.toList a1.data.toList).1.toArray⟩,⟨(Lib.cut a0.data.toList a1.data.toList).2.1.toArray⟩,(Lib.cut a0.data.toList a1.data.toList).2.2) else none
theorem strings_Cut.calls (a0 a1:ByteArray) (r1 r2:ByteArray) (r3:Bool) (w:World) (hG:Gl w) (h:strings_Cut.f a0 a1=some (r1,r2,r3)) :
    Calls Tryz.prog 83 #[.string a0,.string a1] w fun e w'=>e=.returned (.tuple #[.string r1,.string r2,.bool r3])∧bg w w':=by
  unfold strings_Cut.f at h
  by_cases hs:a0.size < 4294967281
  · rw [if_pos hs] at h
    have h:=Option.some.inj h
    obtain ⟨e1,h⟩:=Prod.mk.inj h
    obtain ⟨e2,e3⟩:=Prod.mk.inj h
    rw [← e1,← e2,← e3]
    obtain ⟨m,hm⟩:=hG.maxLen
    refine (Tryz.strings_Cut a0 a1 m w hs hm).mono ?_
    rintro e w' ⟨rfl,n,rfl⟩
    exact ⟨rfl,⟨n,rfl⟩⟩
  · rw [if_neg hs] at h
    cases h
end Go.Proofs.YthfpaoacjpjnfaaGreatDoor.P

namespace Go.Proofs.YthfpaoacjpjnfaaGreatDoor.P
open Go.RowKit Go.Proofs.YthfpaoacjpjnfaaGreatDoorW.PrintWords Go.Proofs.YthfpaoacjpjnfaaGreatDoorW.PrintLast Go.Proofs.YthfpaoacjpjnfaaGreatDoorW.PrintMore
attribute [local go_sem] dW dZ eP eQ dL dM dY dX
def kr.f (a0:Int):Option (Int):=if 65≤a0 then (if a0≤90 then (some ((a0+32) % 256)) else (some a0)) else (some a0)
set_option maxHeartbeats 8000000 in
set_option maxRecDepth 100000 in
theorem kr.calls (a0:Int) (r:Int) (w:World) (h:kr.f a0=some r) :
  Calls Tryz.prog 100 #[.int .u8 a0] w fun e w'=>e=.returned (.int .u8 r)∧bg w w':=by
 have H:(if 65≤a0 then (if a0≤90 then (some ((a0+32) % 256)) else (some a0)) else (some a0))=some r:=h
 clear h
 by_cases c2:65≤a0
 ·rw [if_pos c2] at H
  have c2b0:decide (65≤a0)=true:=decide_eq_true c2
  clear c2
  by_cases c3:a0≤90
  ·rw [if_pos c3] at H
   have c3b0:decide (a0≤90)=true:=decide_eq_true c3
   clear c3
   obtain rfl:=Option.some.inj H
   go_enter Tryz.func100,Tryz.ntmps100
   go_wp2
   go_ret
   exact ⟨by first|rfl|(simp;done)|(simp [*];done)|(simp [*,aT,aU,bU];done)|(simp only [ay,ax];done)|(simp only [ay,ax];simp;done)|(simp only [ay,ax];simp [*];done),by repeat (first|exact bg.refl _|apply bg.step)⟩
  ·rw [if_neg c3] at H
   have c3b0:decide (a0≤90)=false:=decide_eq_false c3
   clear c3
   obtain rfl:=Option.some.inj H
   go_enter Tryz.func100,Tryz.ntmps100
   go_wp2
   go_ret
   exact ⟨by first|rfl|(simp;done)|(simp [*];done)|(simp [*,aT,aU,bU];done)|(simp only [ay,ax];done)|(simp only [ay,ax];simp;done)|(simp only [ay,ax];simp [*];done),by repeat (first|exact bg.refl _|apply bg.step)⟩
 ·rw [if_neg c2] at H
  have c2b0:decide (65≤a0)=false:=decide_eq_false c2
  clear c2
  obtain rfl:=Option.some.inj H
  go_enter Tryz.func100,Tryz.ntmps100
  go_wp2
  go_ret
  exact ⟨by first|rfl|(simp;done)|(simp [*];done)|(simp [*,aT,aU,bU];done)|(simp only [ay,ax];done)|(simp only [ay,ax];simp;done)|(simp only [ay,ax];simp [*];done),by repeat (first|exact bg.refl _|apply bg.step)⟩
end Go.Proofs.YthfpaoacjpjnfaaGreatDoor.P

namespace Go.Proofs.YthfpaoacjpjnfaaGreatDoor.P
open Go.RowKit Go.Proofs.YthfpaoacjpjnfaaGreatDoorW.PrintWords Go.Proofs.YthfpaoacjpjnfaaGreatDoorW.PrintLast Go.Proofs.YthfpaoacjpjnfaaGreatDoorW.PrintMore
theorem o6 (c:UInt8) (h:jr c=false):fH c=((decide ((48:Int)≤(c.toNat:Int)) && decide ((c.toNat:Int)≤57)) || decide ((c.toNat:Int)=45)) :=
  kM (p:=fun c=>jr c=false→fH c=((decide ((48:Int)≤(c.toNat:Int)) && decide ((c.toNat:Int)≤57)) || decide ((c.toNat:Int)=45))) (by decide +kernel) c h
theorem qZ (c:UInt8) (h:jr c=true):fH c=true:=by unfold fH;rw [h];rfl
end Go.Proofs.YthfpaoacjpjnfaaGreatDoor.P

namespace Go.Proofs.YthfpaoacjpjnfaaGreatDoor.P
open Go.RowKit Go.Proofs.YthfpaoacjpjnfaaGreatDoorW.PrintWords Go.Proofs.YthfpaoacjpjnfaaGreatDoorW.PrintLast Go.Proofs.YthfpaoacjpjnfaaGreatDoorW.PrintMore
attribute [local go_sem] dW dZ eP eQ dL dM dY dX
end Go.Proofs.YthfpaoacjpjnfaaGreatDoor.P

namespace Go.Proofs.YthfpaoacjpjnfaaGreatDoor.P
open Go.RowKit Go.Proofs.YthfpaoacjpjnfaaGreatDoorW.PrintWords Go.Proofs.YthfpaoacjpjnfaaGreatDoorW.PrintLast Go.Proofs.YthfpaoacjpjnfaaGreatDoorW.PrintMore
theorem qx {c:Int} (h:0≤c∧c≤255):kr.f c=some (l9 c):=by
  unfold kr.f l9
  by_cases h1:65≤c <;> by_cases h2:c≤90 <;> simp [h1,h2]
  omega
def gD.f (a0:ByteArray):Option ByteArray:=if a0.size≤9223372036854775807 then some (gq a0) else none
theorem gD.any (a0:ByteArray) (w:World) (hs:a0.size≤9223372036854775807) :
    Calls Tryz.prog 85 #[.string a0] w fun e w'=>e=.returned (.string (gq a0))∧Below w.heap.size w w':=by
  have hcv:=fun W=>Lib.run_convert_string_bytes (P:=Tryz.prog) W 9 34 5 a0 (u:=.string) Tryz.underlying9 Tryz.underlying34 Tryz.underlying5
  go_enter Tryz.func85,Tryz.ntmps85
  go_wp2
  go_loopw [10] (fun i wr=>∃ k:Nat,k≤a0.size∧i=.int .i64 k∧aa (Below w.heap.size w wr)∧aa (iK wr w.heap.size a0.size (iI a0 k))) (fun i _=>a0.size - (intOf i).toNat)
  case atStart=>exact ⟨0,Nat.zero_le _,rfl,⟨Lib.bytesWorld_below _ _ _⟩,⟨by rw [jF];exact iM w a0⟩⟩
  case round =>
    obtain ⟨k,hk,rfl,HB,HR⟩:=hrel
    by_cases hlt:k < a0.size
    · have hc:=HR.out.cell k hlt
      have hz:=HR.out.free k hlt
      rw [jL] at hc
      obtain ⟨c,hcc⟩:∃ c:Int,((a0.data.toList.getD k 0).toNat:Int)=c:=⟨_,rfl⟩
      rw [hcc] at hc
      have hcr:0≤c∧c≤255:=by have:=(a0.data.toList.getD k 0).toNat_lt;omega
      have HC:=Lib.hid hcc
      clear hcc
      have HL:=Lib.hid (qx hcr)
      go_wp2_with (go_at_call 100;refine (kr.calls _ _ _ HL.out).mono ?_;rintro e w' ⟨rfl,⟨nq,rfl⟩⟩)
      refine ⟨⟨k+1,by omega,by go_num,⟨?_⟩,⟨?_⟩⟩,by simp [intOf];omega⟩
      · exact (ae HB.out nq).setCell (Nat.le_refl _) _
      · exact kF (qM HR.out nq) hlt HC.out
    · have hge:¬ (k:Int) < (a0.size:Int):=by omega
      have hst:=fun cap=>jc (P:=Tryz.prog) HR.out cap 34 5 9 Tryz.underlying34 Tryz.underlying5 Tryz.underlying9
      rw [kv a0 k hlt] at hst
      go_wp2
      go_ret
      exact ⟨rfl,HB.out⟩
theorem gD.calls (a0:ByteArray) (r:ByteArray) (w:World) (h:gD.f a0=some r) :
    Calls Tryz.prog 85 #[.string a0] w fun e w'=>e=.returned (.string r)∧Below w.heap.size w w':=by
  unfold gD.f at h
  by_cases hs:a0.size≤9223372036854775807
  · rw [if_pos hs] at h
    obtain rfl:=Option.some.inj h
    exact gD.any a0 w hs
  · rw [if_neg hs] at h
    cases h
def iH (l:List UInt8):List UInt8:=sq ((Lib.trimB l 32).map ng)
def ig.f (a0:ByteArray):Option ByteArray:=if a0.size≤140737488351232 then some (mk (iH a0.data.toList)) else none
theorem oK (l:List UInt8):(Lib.trimB l 32).length≤l.length:=by
  unfold Lib.trimB Lib.trimLeftB Lib.trimRightB
  refine Nat.le_trans (List.dropWhile_suffix _).length_le ?_
  rw [List.length_reverse]
  refine Nat.le_trans (List.dropWhile_suffix _).length_le ?_
  rw [List.length_reverse]
  exact Nat.le_refl _
theorem ry (l:List UInt8) (h:0 < (Lib.trimB l 32).length):(Lib.trimB l 32).getD 0 0≠32:=by
  unfold Lib.trimB Lib.trimLeftB at *
  have:=List.head?_dropWhile_not (p:=fun x:UInt8=>x == 32) (l:=Lib.trimRightB l 32)
  rw [List.getD_eq_getElem?_getD,← List.head?_eq_getElem?]
  cases hh:(List.dropWhile (fun x:UInt8=>x == 32) (Lib.trimRightB l 32)).head? with
  | none=>rw [List.head?_eq_none_iff] at hh;rw [hh] at h;exact absurd h (by simp)
  | some c =>
    rw [hh] at this
    simpa using this
theorem ru (c:UInt8):ng c=32↔c=32:=kM (p:=fun c=>ng c=32↔c=32) (by decide +kernel) c
set_option maxHeartbeats 8000000 in
theorem ig.any (a0:ByteArray) (w:World) (hs:a0.size≤140737488351232) :
    Calls Tryz.prog 64 #[.string a0] w fun e w'=>e=.returned (.string (mk (iH a0.data.toList)))∧Below w.heap.size w w':=by
  have hcv:=fun W s=>Lib.run_convert_string_bytes (P:=Tryz.prog) W 9 34 5 s (u:=.string) Tryz.underlying9 Tryz.underlying34 Tryz.underlying5
  have hT:gG.f a0 ⟨#[32]⟩=some (mk (Lib.trimB a0.data.toList 32)):=by
    unfold gG.f;rw [if_pos ⟨rfl,by omega⟩]
  have hlen:=oK a0.data.toList
  rw [← dU,← iX] at hlen
  have hL:gD.f (mk (Lib.trimB a0.data.toList 32))=some (gq (mk (Lib.trimB a0.data.toList 32))):=by
    unfold gD.f;rw [if_pos (by omega)]
  obtain ⟨T,hTe⟩:∃ T,mk (Lib.trimB a0.data.toList 32)=T:=⟨_,rfl⟩
  have hhead:=ry a0.data.toList
  have hTd:T.data.toList=Lib.trimB a0.data.toList 32:=by rw [← hTe]
  rw [← hTd] at hhead
  obtain ⟨S,hSe⟩:∃ S,gq T=S:=⟨_,rfl⟩
  have hSd:S.data.toList=(Lib.trimB a0.data.toList 32).map ng:=by rw [← hSe,kH,hTd]
  have hSs:S.size=T.size:=by rw [← hSe,tq]
  have hfold:iH a0.data.toList=sq S.data.toList:=by unfold iH;rw [hSd]
  have hsh:0 < S.data.toList.length→S.data.toList.getD 0 0≠32:=by
    rw [hSd,← hTd,List.length_map]
    intro h
    have h2:=hhead h
    rw [List.getD_eq_getElem?_getD,List.getElem?_map,List.getElem?_eq_getElem h]
    rw [List.getD_eq_getElem?_getD,List.getElem?_eq_getElem h] at h2
    intro h3
    exact h2 ((ru _).1 h3)
  rw [hTe] at hT hL hlen
  rw [hSe] at hL
  rw [hfold]
  have hS:S.size≤140737488351232:=by omega
  have HT:=Lib.hid hT
  have HL:=Lib.hid hL
  have HSH:=Lib.hid hsh
  clear hT hL hlen hTe hhead hTd hSe hSd hSs hfold hsh hs
  go_enter Tryz.func64,Tryz.ntmps64
  go_wp2_with (first
    | (go_at_call 86;refine (gG.calls _ _ _ _ HT.out).mono ?_;rintro e w' ⟨rfl,⟨n1,rfl⟩⟩)
    | (go_at_call 85;refine (gD.calls _ _ _ HL.out).mono ?_;rintro e w1 ⟨rfl,hb1⟩))
  have hb0:Below w.heap.size w w1:=(ae (Below.refl _ _) n1).trans hb1
  have HB1:=aa.mk hb0
  have hsz:=aa.mk hb0.size
  clear hb0 hb1
  go_loopw [3,11] (fun b i wr=>∃ k:Nat,k≤S.size∧i=.int .i64 k∧aa (Below w.heap.size w wr)∧aa (w1.heap.size < wr.heap.size)∧aa (iK wr w1.heap.size S.size (fun j=>((S.data.toList.getD j 0).toNat:Int)))∧aa (Kd.R (Kd.int .u8) 5 wr w.heap.size (fun q=>q≠w1.heap.size) b (gI (sq (S.data.toList.take k))))) (fun _ i _=>S.size - (intOf i).toNat)
  case atStart=>exact ⟨0,Nat.zero_le _,rfl,⟨HB1.out.trans ((Lib.bytesWorld_below _ _ _).mono hsz.out)⟩,⟨by rw [Lib.bytesWorld_size];omega⟩,⟨iM _ S⟩,⟨Kd.ko _ _ _ _ _⟩⟩
  case round =>
    obtain ⟨k,hk,rfl,HB,HZ,HR,HO⟩:=hrel
    obtain ⟨B,hB⟩:∃ B,sq (S.data.toList.take k)=B:=⟨_,rfl⟩
    rw [hB] at HO
    have HBk:=Lib.hid hB
    clear hB
    obtain ⟨A3,c3,rfl⟩:=Kd.cO HO.out
    by_cases hlt:k < S.size
    · have hc:=HR.out.cell k hlt
      have hz:=HR.out.free k hlt
      have hkl:k < S.data.toList.length:=by rw [← dU];exact hlt
      have hst:=pF S.data.toList k hkl
      have hne:=q8 S.data.toList k
      have hln:=kg S.data.toList k (by omega)
      have h032:=fun (h:k=0) (h2:S.data.toList.getD k 0=32)=>HSH.out (by omega) (by rw [h] at h2;exact h2)
      obtain ⟨u,hu⟩:∃ u:UInt8,S.data.toList.getD k 0=u:=⟨_,rfl⟩
      rw [hu] at hc hst h032
      rw [HBk.out] at hst hne hln
      have hclen:(gI B).length=B.length:=ma B
      have hub:(gI B).length≤140737488351232:=by rw [hclen];omega
      by_cases hu32:u=32
      · subst hu32
        have hk0:0 < k:=Nat.pos_of_ne_zero fun h=>h032 h rfl
        have hBne:=hne hk0 (by omega)
        have hn1:1≤(gI B).length:=by rw [hclen];exact List.length_pos_iff.2 hBne
        obtain ⟨v,hv⟩:∃ v:UInt8,B.getLast hBne=v:=⟨_,rfl⟩
        have hrd:=qD B hBne
        rw [hv,← hclen] at hrd
        have hlast:B.getLast?=some v:=by rw [List.getLast?_eq_some_getLast hBne,hv]
        obtain ⟨ad,e1,hx⟩:=Kd.fD (Kd.bL HO.out).2.2 (((gI B).length:Int) - 1) (by omega) (by omega)
        rw [hrd,show (((gI B).length:Int) - 1).toNat=(gI B).length - 1 from by omega] at hx
        subst e1
        have hLB:=Lib.hid hclen
        clear hclen hrd hv hne h032 hBne
        by_cases hv32:v=32
        · subst hv32
          have hsn:sq (S.data.toList.take (k+1))=B:=by rw [hst];unfold jm;rw [if_pos ⟨rfl,hlast⟩]
          have HST:=Lib.hid hsn
          clear hsn hst hlast
          go_wp2
          refine ⟨⟨k+1,by omega,by go_num,HB,HZ,HR,⟨?_⟩⟩,by simp [intOf];omega⟩
          rw [HST.out];exact HO.out
        · have hsn:gI (sq (S.data.toList.take (k+1)))=gI B++[32]:=by
            rw [hst];unfold jm
            rw [if_neg (by rw [hlast];intro h;exact hv32 (Option.some.inj h.2)),nD];rfl
          have HST:=Lib.hid hsn
          have hv2:¬ (v.toNat:Int)=32:=fun h=>hv32 ((wF v).1 h)
          obtain ⟨vi,hvi⟩:∃ vi:Int,(v.toNat:Int)=vi:=⟨_,rfl⟩
          rw [hvi] at hx hv2
          have bv:(vi == 32)=false:=beq_eq_false_iff_ne.2 hv2
          clear hsn hst hlast hvi hv2 hv32
          go_wp2_with ((with_reducible refine iL (b:=.append) (xs:=#[.tmp 26,.tmp 28]) rfl ?_);at_builtin;refine Kd.lU (Kd.int .u8) (w0:=w) w.heap.size rfl (.tmp 26) (.tmp 28) 34 5 (.int .u8 0) 1 rfl Tryz.underlying34 info5 rfl (by decide) (by omega) _ (gI B) 32 [.int .u8 32] (fun q=>q≠w1.heap.size) (fun _=>False) rfl rfl ?aP (fun _ hk=>hk.elim) ?aF ?aO ?aB ?aS ?aL ?_;(case aP=>exact rfl);(case aB=>exact HB.out);(case aF=>exact (fun q hq e=>by have:=HZ.out;omega));(case aO=>exact HO.out);(case aS=>exact HB.out.size);(case aL=>have:=ma B;omega);intro v' w' ho hb hg hat;have HO2:=aa.mk ho;have HB2:=aa.mk hb;have HG2:=aa.mk hg;clear ho hb hg hat)
          refine ⟨⟨k+1,by omega,by go_num,HB2,⟨Nat.lt_of_lt_of_le HZ.out HG2.out.size⟩,⟨?_⟩,⟨?_⟩⟩,by simp [intOf];omega⟩
          · exact nS HR.out (HG2.out.block _ HZ.out (fun e=>(HO.out.1 _ e.symm) rfl))
          · rw [HST.out];exact HO2.out
      · have hsn:gI (sq (S.data.toList.take (k+1)))=gI B++[(u.toNat:Int)]:=by
          rw [hst];unfold jm
          rw [if_neg (fun h=>hu32 h.1),nD]
        have hu2:¬ (u.toNat:Int)=32:=fun h=>hu32 ((wF u).1 h)
        obtain ⟨ui,hui⟩:∃ ui:Int,(u.toNat:Int)=ui:=⟨_,rfl⟩
        rw [hui] at hc hu2 hsn
        have HST:=Lib.hid hsn
        have bu:(ui == 32)=false:=beq_eq_false_iff_ne.2 hu2
        clear hsn hst hne h032 hclen hui hu2 hu32
        go_wp2_with ((with_reducible refine iL (b:=.append) (xs:=#[.tmp 26,.tmp 28]) rfl ?_);at_builtin;refine Kd.lU (Kd.int .u8) (w0:=w) w.heap.size rfl (.tmp 26) (.tmp 28) 34 5 (.int .u8 0) 1 rfl Tryz.underlying34 info5 rfl (by decide) (by omega) _ (gI B) ui [.int .u8 ui] (fun q=>q≠w1.heap.size) (fun _=>False) rfl rfl ?aP (fun _ hk=>hk.elim) ?aF ?aO ?aB ?aS ?aL ?_;(case aP=>exact rfl);(case aB=>exact HB.out);(case aF=>exact (fun q hq e=>by have:=HZ.out;omega));(case aO=>exact HO.out);(case aS=>exact HB.out.size);(case aL=>have:=ma B;omega);intro v' w' ho hb hg hat;have HO2:=aa.mk ho;have HB2:=aa.mk hb;have HG2:=aa.mk hg;clear ho hb hg hat)
        refine ⟨⟨k+1,by omega,by go_num,HB2,⟨Nat.lt_of_lt_of_le HZ.out HG2.out.size⟩,⟨?_⟩,⟨?_⟩⟩,by simp [intOf];omega⟩
        · exact nS HR.out (HG2.out.block _ HZ.out (fun e=>(HO.out.1 _ e.symm) rfl))
        · rw [HST.out];exact HO2.out
    · have hge:¬ (k:Int) < (S.size:Int):=by omega
      have hall:=HO.out
      have hBk:=HBk.out
      rw [List.take_of_length_le (by rw [← dU];omega)] at hBk
      have HBl:=Lib.hid hBk
      clear hBk
      have hst:=qH (P:=Tryz.prog) Tryz.underlying34 Tryz.underlying5 Tryz.underlying9 (Kd.nE hall)
      rw [qy] at hst
      clear hall
      go_wp2
      go_ret
      exact ⟨by rw [HBl.out];rfl,HB.out⟩
theorem ig.calls (a0:ByteArray) (r:ByteArray) (w:World) (h:ig.f a0=some r) :
    Calls Tryz.prog 64 #[.string a0] w fun e w'=>e=.returned (.string r)∧Below w.heap.size w w':=by
  unfold ig.f at h
  by_cases hs:a0.size≤140737488351232
  · rw [if_pos hs] at h
    obtain rfl:=Option.some.inj h
    exact ig.any a0 w hs
  · rw [if_neg hs] at h
    cases h
abbrev BT:TypeId:=122
structure TW (w wr:World) (R:Nat) (f0 f1:ByteArray) (bs:List UInt8):Prop where
  below:Below w.heap.size w wr
  bld:Lib.IsBuilder BT 5 w.heap.size w.heap.size (Lib.byteCells bs) wr
  row:wr.heap[R]?=some (.cells #[.string f0,.string f1] 102 (0,0))
theorem TW.c0 {w wr:World} {R:Nat} {f0 f1:ByteArray} {bs:List UInt8} (h:TW w wr R f0 f1 bs):wr.cell? ⟨R,0,none⟩=some (.string f0):=by rw [Lib.cell_of_heap h.row];rfl
theorem TW.c1 {w wr:World} {R:Nat} {f0 f1:ByteArray} {bs:List UInt8} (h:TW w wr R f0 f1 bs):wr.cell? ⟨R,1,none⟩=some (.string f1):=by rw [Lib.cell_of_heap h.row];rfl
theorem sF {w:World} {T e:TypeId} {B b:Nat} {bs:List Value} (h:Lib.IsBuilder T e B b bs w) (o:Obj):Lib.IsBuilder T e B b bs (w.alloc o):=by
  have step:∀ {p:Value},Lib.BuilderAt T e B b p bs w→Lib.BuilderAt T e B b p bs (w.alloc o):=by
    intro p h
    obtain ⟨hB,v,hb,ho,hne⟩:=h
    have hlt:=(Array.getElem?_eq_some_iff.1 hb).1
    exact ⟨hB,v,by rw [Lib.alloc_old w o b hlt];exact hb,ho.alloc o,hne⟩
  rcases h with h|h
  · exact .inl (step h)
  · exact .inr (step h)
theorem TW.alloc {w wr:World} {R:Nat} {f0 f1:ByteArray} {bs:List UInt8} (h:TW w wr R f0 f1 bs) (o:Obj):TW w (wr.alloc o) R f0 f1 bs :=
  ⟨h.below.alloc h.below.size o,sF h.bld o,by rw [Lib.alloc_old wr o R (Array.getElem?_eq_some_iff.1 h.row).1];exact h.row⟩
theorem TW.drewN {w wr:World} {R:Nat} {f0 f1:ByteArray} {bs:List UInt8} (h:TW w wr R f0 f1 bs) (n:Nat):TW w (wr.drewN n) R f0 f1 bs:=by
  refine ⟨ae h.below n,?_,h.row⟩
  exact h.bld
theorem TW.step {w wr w2:World} {R:Nat} {f0 f1:ByteArray} {bs bs':List UInt8} (h:TW w wr R f0 f1 bs) (hb:Below w.heap.size wr w2) (hB:Lib.BuilderAt BT 5 w.heap.size w.heap.size (.pointer (some ⟨w.heap.size,0,none⟩)) (Lib.byteCells bs') w2)
    (ho:Lib.OthersKept 5 (some w.heap.size) wr w2) (hR:R≠w.heap.size):TW w w2 R f0 f1 bs' :=
  ⟨h.below.trans hb,.inr hB,ho R _ h.row (by intro e;exact hR (Option.some.inj e)) (by intro c fz e;injection e with _ e2;exact absurd e2 (by decide))⟩
end Go.Proofs.YthfpaoacjpjnfaaGreatDoor.P

namespace Go.Proofs.YthfpaoacjpjnfaaGreatDoor.P
open Go.RowKit Go.Proofs.YthfpaoacjpjnfaaGreatDoorW.PrintWords Go.Proofs.YthfpaoacjpjnfaaGreatDoorW.PrintLast Go.Proofs.YthfpaoacjpjnfaaGreatDoorW.PrintMore
attribute [local go_sem] dW dZ eP eQ dL dM dY dX
def jh.f (k:Nat) (a0:ByteArray):Option (ByteArray × Bool):=none
theorem jh.calls (k:Nat) (a0:ByteArray) (r1:ByteArray) (r2:Bool) (w:World) (hG:Gl w) (h:jh.f k a0=some (r1,r2)) :
  Calls Tryz.prog 66 #[.string a0] w fun e w'=>e=.returned (.tuple #[.string r1,.bool r2])∧Below w.heap.size w w':=by
 unfold jh.f at h
 cases h
end Go.Proofs.YthfpaoacjpjnfaaGreatDoor.P

namespace Go.Proofs.YthfpaoacjpjnfaaGreatDoor.P
open Go.RowKit Go.Proofs.YthfpaoacjpjnfaaGreatDoorW.PrintWords Go.Proofs.YthfpaoacjpjnfaaGreatDoorW.PrintLast Go.Proofs.YthfpaoacjpjnfaaGreatDoorW.PrintMore
theorem qB (w:World) (k:Nat) (os:Array Obj):Below w.heap.size w (Go.Sort.grow (w.drewN k) os) :=
  ⟨rfl,rfl,rfl,by simp [Go.Sort.grow],fun i hi=>by simp [Go.Sort.grow,Array.getElem?_append,hi]⟩
theorem yt (n:Int) (h0:-9223372036854775808≤n) (h1:n≤9223372036854775807) (w:World) (hG:Gl w) :
    Calls Tryz.prog 88 #[.int .i64 n] w fun e w'=>e=.returned (.string (mk (Lib.itoa n)))∧Below w.heap.size w w':=by
  refine (Tryz.strconv_Itoa n h0 h1 w hG.pow).mono ?_
  rintro e w' ⟨rfl,k,os,rfl⟩
  exact ⟨rfl,qB w k os⟩
theorem rD (s:ByteArray) (v:Int) (hm:s.size≤281474976710656) (h:Lib.atoiAll s.data.toList=.ok v) (w:World) :
    Calls Tryz.prog 87 #[.string s] w fun e w'=>e=.returned (.tuple #[.int .i64 v,.nilIface])∧Below w.heap.size w w':=by
  refine (Tryz.strconv_Atoi_ok s (by omega) v h w).mono ?_
  rintro e w' ⟨rfl,hw⟩
  rcases hw with rfl|⟨t,rfl⟩
  · exact ⟨rfl,Below.refl _ _⟩
  · exact ⟨rfl,Lib.bytesWorld_below _ _ _⟩
theorem xA (s:ByteArray) (hm:s.size≤281474976710656) (h:∀ v,Lib.atoiAll s.data.toList≠.ok v) (w:World) (hG:Gl w) :
    Calls Tryz.prog 87 #[.string s] w fun e w'=>∃ (n:Int) (N:Nat),e=.returned (.tuple #[.int .i64 n,.iface 135 (.pointer (some ⟨N,0,none⟩))])∧Below w.heap.size w w':=by
  cases hh:Lib.atoiAll s.data.toList with
  | ok v=>exact absurd hh (h v)
  | range =>
    obtain ⟨t,p,hv⟩:=hG.rng
    refine (Tryz.strconv_Atoi_range s hm hh _ w hv (.inr ⟨t,p,rfl⟩)).mono ?_
    rintro e w' ⟨N,rfl,_,_,hb⟩
    exact ⟨_,N,rfl,hb⟩
  | _ =>
    obtain ⟨t,p,hv⟩:=hG.syn
    refine (Tryz.strconv_Atoi_syntax s hm hh _ w hv (.inr ⟨t,p,rfl⟩)).mono ?_
    rintro e w' ⟨N,rfl,_,_,hb⟩
    exact ⟨_,N,rfl,hb⟩
theorem xh (s:ByteArray) (w:World) :
    Calls Tryz.prog 89 #[.string s,.string ⟨#[45]⟩] w fun e w'=>e=.returned (.string (mk (Lib.trimPrefix s.data.toList [45])))∧w'=w:=Tryz.strings_TrimPrefix s ⟨#[45]⟩ w
def gu (l:List UInt8):Bool :=
  match Lib.atoiAll l with
  | .ok v=>(Lib.itoa v == l) && decide ((Lib.trimPrefix l [45]).length≤15)
  | _=>false
def eB.f (a0:ByteArray):Option Bool:=if a0.size≤281474976710656 then some (gu a0.data.toList) else none
theorem qP {l:List UInt8} {v:Int} (h:Lib.atoiAll l=.ok v):-9223372036854775808≤v∧v≤9223372036854775807:=by
  cases l with
  | nil=>exact absurd h (by simp [Lib.atoiAll])
  | cons c r =>
    simp only [Lib.atoiAll] at h
    cases hp:Lib.parseMag (if c.toNat=43∨c.toNat=45 then r else c :: r) with
    | ok u =>
      rw [hp] at h
      simp only at h
      split at h
      · exact absurd h (by simp)
      · split at h
        · exact absurd h (by simp)
        · injection h with h
          subst h
          split <;> omega
    | _=>rw [hp] at h;exact absurd h (by simp)
set_option maxHeartbeats 8000000 in
theorem eB.any (s:ByteArray) (hm:s.size≤281474976710656) (w:World) (hG:Gl w) :
    Calls Tryz.prog 65 #[.string s] w fun e w'=>e=.returned (.bool (gu s.data.toList))∧Below w.heap.size w w':=by
  have HG:=Lib.hid hG
  clear hG
  by_cases hv:∃ v,Lib.atoiAll s.data.toList=.ok v
  · obtain ⟨v,hv⟩:=hv
    have hr:=qP hv
    have hnum:gu s.data.toList=((Lib.itoa v == s.data.toList) && decide ((Lib.trimPrefix s.data.toList [45]).length≤15)):=by unfold gu;rw [hv]
    rw [hnum]
    have HV:=Lib.hid hv
    have HR:=Lib.hid hr
    clear hv hr hnum
    obtain ⟨I,hI⟩:∃ I,mk (Lib.itoa v)=I:=⟨_,rfl⟩
    have hId:I.toList=Lib.itoa v:=by rw [← hI,gV]
    have hit:=fun W hW=>yt v HR.out.1 HR.out.2 W hW
    rw [hI] at hit
    have HIT:=Lib.hid hit
    clear hit hI
    by_cases he:I.toList=s.toList
    · have b1:(I.toList == s.toList)=true:=beq_iff_eq.2 he
      have hb:(Lib.itoa v == s.data.toList)=true:=by rw [← hId,← toList_data,b1]
      rw [hb,Bool.true_and]
      have HE:=Lib.hid he
      clear he hb hId
      obtain ⟨D,hD⟩:∃ D,mk (Lib.trimPrefix s.data.toList [45])=D:=⟨_,rfl⟩
      have htp:=fun W=>xh s W
      have hDs:(Lib.trimPrefix s.data.toList [45]).length=D.size:=by rw [← hD,iX]
      rw [hDs]
      rw [hD] at htp
      have HTP:=Lib.hid htp
      clear htp hD hDs
      go_enter Tryz.func65,Tryz.ntmps65
      go_wp2_with (first
        | (go_at_call 87;refine (rD s v hm HV.out _).mono ?_;rintro e w1 ⟨rfl,hb1⟩;have HB1:=Lib.hid hb1;clear hb1)
        | (go_at_call 88;refine (HIT.out _ (HG.out.below HB1.out)).mono ?_;rintro e w2 ⟨rfl,hb2⟩;have HB2:=Lib.hid hb2;clear hb2)
        | (go_at_call 89;refine (HTP.out _).mono ?_;rintro e w' ⟨rfl,rfl⟩))
      have hd:decide ((D.size:Int)≤15)=decide (D.size≤15):=decide_eq_decide.2 (by omega)
      have HD:=Lib.hid hd
      clear hd
      go_ret
      exact ⟨by rw [← HD.out];rfl,HB1.out.trans (HB2.out.mono HB1.out.size)⟩
    · have b1:(I.toList == s.toList)=false:=beq_eq_false_iff_ne.2 he
      have hb:(Lib.itoa v == s.data.toList)=false:=by rw [← hId,← toList_data,b1]
      rw [hb,Bool.false_and]
      clear he hb hId
      go_enter Tryz.func65,Tryz.ntmps65
      go_wp2_with (first
        | (go_at_call 87;refine (rD s v hm HV.out _).mono ?_;rintro e w1 ⟨rfl,hb1⟩;have HB1:=Lib.hid hb1;clear hb1)
        | (go_at_call 88;refine (HIT.out _ (HG.out.below HB1.out)).mono ?_;rintro e w2 ⟨rfl,hb2⟩;have HB2:=Lib.hid hb2;clear hb2))
      go_ret
      exact ⟨rfl,HB1.out.trans (HB2.out.mono HB1.out.size)⟩
  · have hno:∀ v,Lib.atoiAll s.data.toList≠.ok v:=fun v h=>hv ⟨v,h⟩
    have hnum:gu s.data.toList=false:=by
      unfold gu
      split
      · rename_i v h;exact absurd h (hno v)
      · rfl
    rw [hnum]
    have HNO:=Lib.hid hno
    clear hno hnum hv
    go_enter Tryz.func65,Tryz.ntmps65
    go_wp2_with (first
      | (go_at_call 87;refine (xA s hm HNO.out _ HG.out).mono ?_;rintro e w1 ⟨n,N,rfl,hb1⟩;have HB1:=Lib.hid hb1;clear hb1))
    go_ret
    exact ⟨rfl,HB1.out⟩
theorem eB.calls (a0:ByteArray) (r:Bool) (w:World) (hG:Gl w) (h:eB.f a0=some r) :
    Calls Tryz.prog 65 #[.string a0] w fun e w'=>e=.returned (.bool r)∧Below w.heap.size w w':=by
  unfold eB.f at h
  by_cases hs:a0.size≤281474976710656
  · rw [if_pos hs] at h
    obtain rfl:=Option.some.inj h
    exact eB.any a0 hs w hG
  · rw [if_neg hs] at h
    cases h
end Go.Proofs.YthfpaoacjpjnfaaGreatDoor.P

namespace Go.Proofs.YthfpaoacjpjnfaaGreatDoor.P
open Go.RowKit Go.Proofs.YthfpaoacjpjnfaaGreatDoorW.PrintWords Go.Proofs.YthfpaoacjpjnfaaGreatDoorW.PrintLast Go.Proofs.YthfpaoacjpjnfaaGreatDoorW.PrintMore
attribute [local go_sem] dW dZ eP eQ dL dM dY dX
def bM.j0:Nat→ByteArray→ByteArray→Bool→Option (ByteArray × Bool)
 | 0,_,_,_=>none
 | k+1,x0,x1,x13=>if x13=true then (some ((⟨#[]⟩:ByteArray),false)) else ((dx.f x0).bind fun t183=>(if t183=1 then ((ig.f x1).bind fun t184=>(if t184.toList=([]:List UInt8) then (some ((⟨#[]⟩:ByteArray),false)) else (some (t184,true)))) else (if t183=2 then ((eB.f x1).bind fun t185=>(if t185=true then (if x1.toList=([]:List UInt8) then (some ((⟨#[]⟩:ByteArray),false)) else (some (x1,true))) else (some ((⟨#[]⟩:ByteArray),false)))) else (if t183=3 then ((jh.f k x1).bind fun bt186=>(if bt186.2=true then (if bt186.1.toList=([]:List UInt8) then (some ((⟨#[]⟩:ByteArray),false)) else (some (bt186.1,true))) else (some ((⟨#[]⟩:ByteArray),false)))) else (if t183=4 then (if x1.toList=([]:List UInt8) then (some ((⟨#[]⟩:ByteArray),false)) else (some (x1,true))) else (some ((⟨#[]⟩:ByteArray),false)))))))
def bM.f (k:Nat) (a0:ByteArray) (a1:ByteArray):Option (ByteArray × Bool):=if a1.toList=([]:List UInt8) then (bM.j0 k a0 a1 true) else (bM.j0 k a0 a1 (decide ((a1.size:Int) > 100)))
set_option maxHeartbeats 8000000 in
set_option maxRecDepth 100000 in
theorem bM.calls (k:Nat) (a0:ByteArray) (a1:ByteArray) (r1:ByteArray) (r2:Bool) (w:World) (hG:Gl w) (h:bM.f k a0 a1=some (r1,r2)) :
  Calls Tryz.prog 39 #[.string a0,.string a1] w fun e w'=>e=.returned (.tuple #[.string r1,.bool r2])∧Below w.heap.size w w':=by
 have HB:=aa.mk (Below.refl w.heap.size w)
 have HG:=aa.mk hG
 clear hG
 have H:(if a1.toList=([]:List UInt8) then (bM.j0 k a0 a1 true) else (bM.j0 k a0 a1 (decide ((a1.size:Int) > 100))))=some (r1,r2):=h
 clear h
 have HC3:=aa.mk H
 clear H
 go_enter Tryz.func39,Tryz.ntmps39
 go_upto_region 1 with (fail)
 go_cut [13] (fun v13 wc=>∃ (kq:Nat) (x13_2:Bool),v13=.bool x13_2∧aa (bM.j0 kq a0 a1 x13_2=some (r1,r2))∧aa (kq≤k)∧aa (Below w.heap.size w wc))
 case first =>
  have H:=HC3.out
  clear HC3
  by_cases c4:a1.toList=([]:List UInt8)
  ·rw [if_pos c4] at H
   have c4b0:(a1.toList == ([]:List UInt8))=true:=beq_iff_eq.mpr c4
   have c4b1:(a1.toList != ([]:List UInt8))=false:=bne_eq_false_iff_eq.mpr c4
   clear c4
   (first|rw [c4b0]|(simp only [aT,aU];rw [c4b0])|skip)
   have H':=aa.mk H
   clear H
   go_wp2
   go_meet
   case rel=>exact ⟨_,(true),(by first|rfl|(simp;done)|(simp [*];done)|(simp [*,aT,aU,bU];done)|(simp only [ay,ax];done)|(simp only [ay,ax];simp;done)|(simp only [ay,ax];simp [*];done)),H',⟨by first|omega|exact Nat.le_refl _⟩,⟨by repeat (first|(with_reducible first|exact HB.out|apply af|apply ae|apply ag)|exact HB.out)⟩⟩
  ·rw [if_neg c4] at H
   have c4b0:(a1.toList == ([]:List UInt8))=false:=beq_eq_false_iff_ne.mpr c4
   have c4b1:(a1.toList != ([]:List UInt8))=true:=bne_iff_ne.mpr c4
   (first|rw [c4b0]|(simp only [aT,aU];rw [c4b0])|skip)
   have H':=aa.mk H
   clear H
   go_wp2
   go_meet
   case rel=>exact ⟨_,(decide ((a1.size:Int) > 100)),(by first|rfl|(simp;done)|(simp [*];done)|(simp [*,aT,aU,bU];done)|(simp only [ay,ax];done)|(simp only [ay,ax];simp;done)|(simp only [ay,ax];simp [*];done)),H',⟨by first|omega|exact Nat.le_refl _⟩,⟨by repeat (first|(with_reducible first|exact HB.out|apply af|apply ae|apply ag)|exact HB.out)⟩⟩
 case rest =>
  clear HC3
  try clear p2
  try clear c3
  try clear c4
  try clear c4b0
  try clear c4b1
  obtain ⟨kq,x13_2,rfl,HA,HJ2,HB⟩:=hcut
  cases kq with
  | zero=>exact absurd HA.out (by simp [bM.j0])
  | succ kj2 =>
   have H:=HA.out
   clear HA
   simp only [bM.j0] at H
   by_cases c5:x13_2=true
   ·subst c5
    have H1:(some ((⟨#[]⟩:ByteArray),false))=some (r1,r2):=by rw [if_pos rfl] at H;exact H
    clear H
    have H:=H1
    clear H1
    simp only [Option.some.injEq,Prod.mk.injEq] at H
    obtain ⟨rfl,rfl⟩:=H
    go_wp2
    go_ret2
    exact ⟨by first|rfl|(simp [aM,aK] <;> rfl)|(simp [*,aM,aK] <;> rfl),by repeat (first|(with_reducible first|exact HB.out|apply af|apply ae|apply ag)|exact HB.out)⟩
   ·replace c5:=Bool.eq_false_iff.mpr c5
    subst c5
    have H1:((dx.f a0).bind fun t183=>(if t183=1 then ((ig.f a1).bind fun t184=>(if t184.toList=([]:List UInt8) then (some ((⟨#[]⟩:ByteArray),false)) else (some (t184,true)))) else (if t183=2 then ((eB.f a1).bind fun t185=>(if t185=true then (if a1.toList=([]:List UInt8) then (some ((⟨#[]⟩:ByteArray),false)) else (some (a1,true))) else (some ((⟨#[]⟩:ByteArray),false)))) else (if t183=3 then ((jh.f kj2 a1).bind fun bt186=>(if bt186.2=true then (if bt186.1.toList=([]:List UInt8) then (some ((⟨#[]⟩:ByteArray),false)) else (some (bt186.1,true))) else (some ((⟨#[]⟩:ByteArray),false)))) else (if t183=4 then (if a1.toList=([]:List UInt8) then (some ((⟨#[]⟩:ByteArray),false)) else (some (a1,true))) else (some ((⟨#[]⟩:ByteArray),false)))))))=some (r1,r2):=by rw [if_neg (show ¬ (false=true) by decide)] at H;exact H
    clear H
    have H:=H1
    clear H1
    replace H:=Option.bind_eq_some_iff.mp H
    obtain ⟨t183,A60,H⟩:=H
    replace H:(if t183=1 then ((ig.f a1).bind fun t184=>(if t184.toList=([]:List UInt8) then (some ((⟨#[]⟩:ByteArray),false)) else (some (t184,true)))) else (if t183=2 then ((eB.f a1).bind fun t185=>(if t185=true then (if a1.toList=([]:List UInt8) then (some ((⟨#[]⟩:ByteArray),false)) else (some (a1,true))) else (some ((⟨#[]⟩:ByteArray),false)))) else (if t183=3 then ((jh.f kj2 a1).bind fun bt186=>(if bt186.2=true then (if bt186.1.toList=([]:List UInt8) then (some ((⟨#[]⟩:ByteArray),false)) else (some (bt186.1,true))) else (some ((⟨#[]⟩:ByteArray),false)))) else (if t183=4 then (if a1.toList=([]:List UInt8) then (some ((⟨#[]⟩:ByteArray),false)) else (some (a1,true))) else (some ((⟨#[]⟩:ByteArray),false))))))=some (r1,r2):=H
    have A6:=aa.mk A60
    clear A60
    by_cases c7:t183=1
    ·rw [if_pos c7] at H
     have c7b0:(t183 == 1)=true:=beq_iff_eq.mpr c7
     have c7b1:(t183 != 1)=false:=bne_eq_false_iff_eq.mpr c7
     clear c7
     replace H:=Option.bind_eq_some_iff.mp H
     obtain ⟨t184,A80,H⟩:=H
     replace H:(if t184.toList=([]:List UInt8) then (some ((⟨#[]⟩:ByteArray),false)) else (some (t184,true)))=some (r1,r2):=H
     have A8:=aa.mk A80
     clear A80
     by_cases c9:t184.toList=([]:List UInt8)
     ·rw [if_pos c9] at H
      have c9b0:(t184.toList == ([]:List UInt8))=true:=beq_iff_eq.mpr c9
      have c9b1:(t184.toList != ([]:List UInt8))=false:=bne_eq_false_iff_eq.mpr c9
      clear c9
      simp only [Option.some.injEq,Prod.mk.injEq] at H
      obtain ⟨rfl,rfl⟩:=H
      go_wp2_with (first|((with_reducible refine aV (f:=59) rfl ?_);refine bJ (some 15) rfl rfl Tryz.func59 (by kernel_rfl) rfl #[.string a0] rfl (by (try simp only [List.map_toArray,List.map_cons,List.map_nil]);first|done|rfl|(simp only [List.length_drop,List.length_take];rfl)) ?_;(with_reducible refine (dx.calls a0 t183 _ A6.out).mono ?_);rintro e w10 ⟨rfl,hb⟩;refine ⟨_,rfl,?_⟩;have n0_:=aa.mk (aD (by repeat (first|(with_reducible first|exact HB.out|apply af|apply ae|apply ag)|exact HB.out)) hb);clear HB;have HB:=n0_;clear n0_;(try clear hb);(try clear hb2);(try clear hk);(try clear hi))|((with_reducible refine aV (f:=64) rfl ?_);refine bJ (some 19) rfl rfl Tryz.func64 (by kernel_rfl) rfl #[.string a1] rfl (by (try simp only [List.map_toArray,List.map_cons,List.map_nil]);first|done|rfl|(simp only [List.length_drop,List.length_take];rfl)) ?_;(with_reducible refine (ig.calls a1 t184 _ A8.out).mono ?_);rintro e w11 ⟨rfl,hb⟩;refine ⟨_,rfl,?_⟩;have n0_:=aa.mk (aD (by repeat (first|(with_reducible first|exact HB.out|apply af|apply ae|apply ag)|exact HB.out)) hb);clear HB;have HB:=n0_;clear n0_;(try clear hb);(try clear hb2);(try clear hk);(try clear hi)))
      go_ret2
      exact ⟨by first|rfl|(simp [aM,aK] <;> rfl)|(simp [*,aM,aK] <;> rfl),by repeat (first|(with_reducible first|exact HB.out|apply af|apply ae|apply ag)|exact HB.out)⟩
     ·rw [if_neg c9] at H
      have c9b0:(t184.toList == ([]:List UInt8))=false:=beq_eq_false_iff_ne.mpr c9
      have c9b1:(t184.toList != ([]:List UInt8))=true:=bne_iff_ne.mpr c9
      simp only [Option.some.injEq,Prod.mk.injEq] at H
      obtain ⟨rfl,rfl⟩:=H
      go_wp2_with (first|((with_reducible refine aV (f:=59) rfl ?_);refine bJ (some 15) rfl rfl Tryz.func59 (by kernel_rfl) rfl #[.string a0] rfl (by (try simp only [List.map_toArray,List.map_cons,List.map_nil]);first|done|rfl|(simp only [List.length_drop,List.length_take];rfl)) ?_;(with_reducible refine (dx.calls a0 t183 _ A6.out).mono ?_);rintro e w12 ⟨rfl,hb⟩;refine ⟨_,rfl,?_⟩;have n0_:=aa.mk (aD (by repeat (first|(with_reducible first|exact HB.out|apply af|apply ae|apply ag)|exact HB.out)) hb);clear HB;have HB:=n0_;clear n0_;(try clear hb);(try clear hb2);(try clear hk);(try clear hi))|((with_reducible refine aV (f:=64) rfl ?_);refine bJ (some 19) rfl rfl Tryz.func64 (by kernel_rfl) rfl #[.string a1] rfl (by (try simp only [List.map_toArray,List.map_cons,List.map_nil]);first|done|rfl|(simp only [List.length_drop,List.length_take];rfl)) ?_;(with_reducible refine (ig.calls a1 t184 _ A8.out).mono ?_);rintro e w13 ⟨rfl,hb⟩;refine ⟨_,rfl,?_⟩;have n0_:=aa.mk (aD (by repeat (first|(with_reducible first|exact HB.out|apply af|apply ae|apply ag)|exact HB.out)) hb);clear HB;have HB:=n0_;clear n0_;(try clear hb);(try clear hb2);(try clear hk);(try clear hi)))
      go_ret2
      exact ⟨by first|rfl|(simp [aM,aK] <;> rfl)|(simp [*,aM,aK] <;> rfl),by repeat (first|(with_reducible first|exact HB.out|apply af|apply ae|apply ag)|exact HB.out)⟩
    ·rw [if_neg c7] at H
     have c7b0:(t183 == 1)=false:=beq_eq_false_iff_ne.mpr c7
     have c7b1:(t183 != 1)=true:=bne_iff_ne.mpr c7
     by_cases c14:t183=2
     ·rw [if_pos c14] at H
      have c14b0:(t183 == 2)=true:=beq_iff_eq.mpr c14
      have c14b1:(t183 != 2)=false:=bne_eq_false_iff_eq.mpr c14
      clear c14
      replace H:=Option.bind_eq_some_iff.mp H
      obtain ⟨t185,A150,H⟩:=H
      replace H:(if t185=true then (if a1.toList=([]:List UInt8) then (some ((⟨#[]⟩:ByteArray),false)) else (some (a1,true))) else (some ((⟨#[]⟩:ByteArray),false)))=some (r1,r2):=H
      have A15:=aa.mk A150
      clear A150
      by_cases c16:t185=true
      ·subst c16
       have H1:(if a1.toList=([]:List UInt8) then (some ((⟨#[]⟩:ByteArray),false)) else (some (a1,true)))=some (r1,r2):=by rw [if_pos rfl] at H;exact H
       clear H
       have H:=H1
       clear H1
       by_cases c17:a1.toList=([]:List UInt8)
       ·rw [if_pos c17] at H
        have c17b0:(a1.toList == ([]:List UInt8))=true:=beq_iff_eq.mpr c17
        have c17b1:(a1.toList != ([]:List UInt8))=false:=bne_eq_false_iff_eq.mpr c17
        clear c17
        simp only [Option.some.injEq,Prod.mk.injEq] at H
        obtain ⟨rfl,rfl⟩:=H
        go_wp2_with (first|((with_reducible refine aV (f:=59) rfl ?_);refine bJ (some 15) rfl rfl Tryz.func59 (by kernel_rfl) rfl #[.string a0] rfl (by (try simp only [List.map_toArray,List.map_cons,List.map_nil]);first|done|rfl|(simp only [List.length_drop,List.length_take];rfl)) ?_;(with_reducible refine (dx.calls a0 t183 _ A6.out).mono ?_);rintro e w18 ⟨rfl,hb⟩;refine ⟨_,rfl,?_⟩;have n0_:=aa.mk (aD (by repeat (first|(with_reducible first|exact HB.out|apply af|apply ae|apply ag)|exact HB.out)) hb);clear HB;have HB:=n0_;clear n0_;(try clear hb);(try clear hb2);(try clear hk);(try clear hi))|((with_reducible refine aV (f:=65) rfl ?_);refine bJ (some 23) rfl rfl Tryz.func65 (by kernel_rfl) rfl #[.string a1] rfl (by (try simp only [List.map_toArray,List.map_cons,List.map_nil]);first|done|rfl|(simp only [List.length_drop,List.length_take];rfl)) ?_;(with_reducible refine (eB.calls a1 true _ ?side1 A15.out).mono ?_);(case side1=>first|exact HG.out|exact Gl.drewN HG.out _|exact Gl.below HG.out (by repeat (first|(with_reducible first|exact HB.out|apply af|apply ae|apply ag)|exact HB.out)));rintro e w19 ⟨rfl,hb⟩;refine ⟨_,rfl,?_⟩;have n0_:=aa.mk (aD (by repeat (first|(with_reducible first|exact HB.out|apply af|apply ae|apply ag)|exact HB.out)) hb);clear HB;have HB:=n0_;clear n0_;(try clear hb);(try clear hb2);(try clear hk);(try clear hi)))
        go_ret2
        exact ⟨by first|rfl|(simp [aM,aK] <;> rfl)|(simp [*,aM,aK] <;> rfl),by repeat (first|(with_reducible first|exact HB.out|apply af|apply ae|apply ag)|exact HB.out)⟩
       ·rw [if_neg c17] at H
        have c17b0:(a1.toList == ([]:List UInt8))=false:=beq_eq_false_iff_ne.mpr c17
        have c17b1:(a1.toList != ([]:List UInt8))=true:=bne_iff_ne.mpr c17
        simp only [Option.some.injEq,Prod.mk.injEq] at H
        obtain ⟨rfl,rfl⟩:=H
        go_wp2_with (first|((with_reducible refine aV (f:=59) rfl ?_);refine bJ (some 15) rfl rfl Tryz.func59 (by kernel_rfl) rfl #[.string a0] rfl (by (try simp only [List.map_toArray,List.map_cons,List.map_nil]);first|done|rfl|(simp only [List.length_drop,List.length_take];rfl)) ?_;(with_reducible refine (dx.calls a0 t183 _ A6.out).mono ?_);rintro e w20 ⟨rfl,hb⟩;refine ⟨_,rfl,?_⟩;have n0_:=aa.mk (aD (by repeat (first|(with_reducible first|exact HB.out|apply af|apply ae|apply ag)|exact HB.out)) hb);clear HB;have HB:=n0_;clear n0_;(try clear hb);(try clear hb2);(try clear hk);(try clear hi))|((with_reducible refine aV (f:=65) rfl ?_);refine bJ (some 23) rfl rfl Tryz.func65 (by kernel_rfl) rfl #[.string a1] rfl (by (try simp only [List.map_toArray,List.map_cons,List.map_nil]);first|done|rfl|(simp only [List.length_drop,List.length_take];rfl)) ?_;(with_reducible refine (eB.calls a1 true _ ?side1 A15.out).mono ?_);(case side1=>first|exact HG.out|exact Gl.drewN HG.out _|exact Gl.below HG.out (by repeat (first|(with_reducible first|exact HB.out|apply af|apply ae|apply ag)|exact HB.out)));rintro e w21 ⟨rfl,hb⟩;refine ⟨_,rfl,?_⟩;have n0_:=aa.mk (aD (by repeat (first|(with_reducible first|exact HB.out|apply af|apply ae|apply ag)|exact HB.out)) hb);clear HB;have HB:=n0_;clear n0_;(try clear hb);(try clear hb2);(try clear hk);(try clear hi)))
        go_ret2
        exact ⟨by first|rfl|(simp [aM,aK] <;> rfl)|(simp [*,aM,aK] <;> rfl),by repeat (first|(with_reducible first|exact HB.out|apply af|apply ae|apply ag)|exact HB.out)⟩
      ·replace c16:=Bool.eq_false_iff.mpr c16
       subst c16
       have H1:(some ((⟨#[]⟩:ByteArray),false))=some (r1,r2):=by rw [if_neg (show ¬ (false=true) by decide)] at H;exact H
       clear H
       have H:=H1
       clear H1
       simp only [Option.some.injEq,Prod.mk.injEq] at H
       obtain ⟨rfl,rfl⟩:=H
       go_wp2_with (first|((with_reducible refine aV (f:=59) rfl ?_);refine bJ (some 15) rfl rfl Tryz.func59 (by kernel_rfl) rfl #[.string a0] rfl (by (try simp only [List.map_toArray,List.map_cons,List.map_nil]);first|done|rfl|(simp only [List.length_drop,List.length_take];rfl)) ?_;(with_reducible refine (dx.calls a0 t183 _ A6.out).mono ?_);rintro e w22 ⟨rfl,hb⟩;refine ⟨_,rfl,?_⟩;have n0_:=aa.mk (aD (by repeat (first|(with_reducible first|exact HB.out|apply af|apply ae|apply ag)|exact HB.out)) hb);clear HB;have HB:=n0_;clear n0_;(try clear hb);(try clear hb2);(try clear hk);(try clear hi))|((with_reducible refine aV (f:=65) rfl ?_);refine bJ (some 23) rfl rfl Tryz.func65 (by kernel_rfl) rfl #[.string a1] rfl (by (try simp only [List.map_toArray,List.map_cons,List.map_nil]);first|done|rfl|(simp only [List.length_drop,List.length_take];rfl)) ?_;(with_reducible refine (eB.calls a1 false _ ?side1 A15.out).mono ?_);(case side1=>first|exact HG.out|exact Gl.drewN HG.out _|exact Gl.below HG.out (by repeat (first|(with_reducible first|exact HB.out|apply af|apply ae|apply ag)|exact HB.out)));rintro e w23 ⟨rfl,hb⟩;refine ⟨_,rfl,?_⟩;have n0_:=aa.mk (aD (by repeat (first|(with_reducible first|exact HB.out|apply af|apply ae|apply ag)|exact HB.out)) hb);clear HB;have HB:=n0_;clear n0_;(try clear hb);(try clear hb2);(try clear hk);(try clear hi)))
       go_ret2
       exact ⟨by first|rfl|(simp [aM,aK] <;> rfl)|(simp [*,aM,aK] <;> rfl),by repeat (first|(with_reducible first|exact HB.out|apply af|apply ae|apply ag)|exact HB.out)⟩
     ·rw [if_neg c14] at H
      have c14b0:(t183 == 2)=false:=beq_eq_false_iff_ne.mpr c14
      have c14b1:(t183 != 2)=true:=bne_iff_ne.mpr c14
      by_cases c24:t183=3
      ·rw [if_pos c24] at H
       have c24b0:(t183 == 3)=true:=beq_iff_eq.mpr c24
       have c24b1:(t183 != 3)=false:=bne_eq_false_iff_eq.mpr c24
       clear c24
       replace H:=Option.bind_eq_some_iff.mp H
       obtain ⟨⟨t186,t187⟩,A250,H⟩:=H
       replace H:(if t187=true then (if t186.toList=([]:List UInt8) then (some ((⟨#[]⟩:ByteArray),false)) else (some (t186,true))) else (some ((⟨#[]⟩:ByteArray),false)))=some (r1,r2):=H
       have A25:=aa.mk A250
       clear A250
       by_cases c26:t187=true
       ·subst c26
        have H1:(if t186.toList=([]:List UInt8) then (some ((⟨#[]⟩:ByteArray),false)) else (some (t186,true)))=some (r1,r2):=by rw [if_pos rfl] at H;exact H
        clear H
        have H:=H1
        clear H1
        by_cases c27:t186.toList=([]:List UInt8)
        ·rw [if_pos c27] at H
         have c27b0:(t186.toList == ([]:List UInt8))=true:=beq_iff_eq.mpr c27
         have c27b1:(t186.toList != ([]:List UInt8))=false:=bne_eq_false_iff_eq.mpr c27
         clear c27
         simp only [Option.some.injEq,Prod.mk.injEq] at H
         obtain ⟨rfl,rfl⟩:=H
         go_wp2_with (first|((with_reducible refine aV (f:=59) rfl ?_);refine bJ (some 15) rfl rfl Tryz.func59 (by kernel_rfl) rfl #[.string a0] rfl (by (try simp only [List.map_toArray,List.map_cons,List.map_nil]);first|done|rfl|(simp only [List.length_drop,List.length_take];rfl)) ?_;(with_reducible refine (dx.calls a0 t183 _ A6.out).mono ?_);rintro e w28 ⟨rfl,hb⟩;refine ⟨_,rfl,?_⟩;have n0_:=aa.mk (aD (by repeat (first|(with_reducible first|exact HB.out|apply af|apply ae|apply ag)|exact HB.out)) hb);clear HB;have HB:=n0_;clear n0_;(try clear hb);(try clear hb2);(try clear hk);(try clear hi))|((with_reducible refine aV (f:=66) rfl ?_);refine bJ (some 28) rfl rfl Tryz.func66 (by kernel_rfl) rfl #[.string a1] rfl (by (try simp only [List.map_toArray,List.map_cons,List.map_nil]);first|done|rfl|(simp only [List.length_drop,List.length_take];rfl)) ?_;(with_reducible refine (jh.calls kj2 a1 t186 true _ ?side1 A25.out).mono ?_);(case side1=>first|exact HG.out|exact Gl.drewN HG.out _|exact Gl.below HG.out (by repeat (first|(with_reducible first|exact HB.out|apply af|apply ae|apply ag)|exact HB.out)));rintro e w29 ⟨rfl,hb⟩;refine ⟨_,rfl,?_⟩;have n0_:=aa.mk (aD (by repeat (first|(with_reducible first|exact HB.out|apply af|apply ae|apply ag)|exact HB.out)) hb);clear HB;have HB:=n0_;clear n0_;(try clear hb);(try clear hb2);(try clear hk);(try clear hi)))
         go_ret2
         exact ⟨by first|rfl|(simp [aM,aK] <;> rfl)|(simp [*,aM,aK] <;> rfl),by repeat (first|(with_reducible first|exact HB.out|apply af|apply ae|apply ag)|exact HB.out)⟩
        ·rw [if_neg c27] at H
         have c27b0:(t186.toList == ([]:List UInt8))=false:=beq_eq_false_iff_ne.mpr c27
         have c27b1:(t186.toList != ([]:List UInt8))=true:=bne_iff_ne.mpr c27
         simp only [Option.some.injEq,Prod.mk.injEq] at H
         obtain ⟨rfl,rfl⟩:=H
         go_wp2_with (first|((with_reducible refine aV (f:=59) rfl ?_);refine bJ (some 15) rfl rfl Tryz.func59 (by kernel_rfl) rfl #[.string a0] rfl (by (try simp only [List.map_toArray,List.map_cons,List.map_nil]);first|done|rfl|(simp only [List.length_drop,List.length_take];rfl)) ?_;(with_reducible refine (dx.calls a0 t183 _ A6.out).mono ?_);rintro e w30 ⟨rfl,hb⟩;refine ⟨_,rfl,?_⟩;have n0_:=aa.mk (aD (by repeat (first|(with_reducible first|exact HB.out|apply af|apply ae|apply ag)|exact HB.out)) hb);clear HB;have HB:=n0_;clear n0_;(try clear hb);(try clear hb2);(try clear hk);(try clear hi))|((with_reducible refine aV (f:=66) rfl ?_);refine bJ (some 28) rfl rfl Tryz.func66 (by kernel_rfl) rfl #[.string a1] rfl (by (try simp only [List.map_toArray,List.map_cons,List.map_nil]);first|done|rfl|(simp only [List.length_drop,List.length_take];rfl)) ?_;(with_reducible refine (jh.calls kj2 a1 t186 true _ ?side1 A25.out).mono ?_);(case side1=>first|exact HG.out|exact Gl.drewN HG.out _|exact Gl.below HG.out (by repeat (first|(with_reducible first|exact HB.out|apply af|apply ae|apply ag)|exact HB.out)));rintro e w31 ⟨rfl,hb⟩;refine ⟨_,rfl,?_⟩;have n0_:=aa.mk (aD (by repeat (first|(with_reducible first|exact HB.out|apply af|apply ae|apply ag)|exact HB.out)) hb);clear HB;have HB:=n0_;clear n0_;(try clear hb);(try clear hb2);(try clear hk);(try clear hi)))
         go_ret2
         exact ⟨by first|rfl|(simp [aM,aK] <;> rfl)|(simp [*,aM,aK] <;> rfl),by repeat (first|(with_reducible first|exact HB.out|apply af|apply ae|apply ag)|exact HB.out)⟩
       ·replace c26:=Bool.eq_false_iff.mpr c26
        subst c26
        have H1:(some ((⟨#[]⟩:ByteArray),false))=some (r1,r2):=by rw [if_neg (show ¬ (false=true) by decide)] at H;exact H
        clear H
        have H:=H1
        clear H1
        simp only [Option.some.injEq,Prod.mk.injEq] at H
        obtain ⟨rfl,rfl⟩:=H
        go_wp2_with (first|((with_reducible refine aV (f:=59) rfl ?_);refine bJ (some 15) rfl rfl Tryz.func59 (by kernel_rfl) rfl #[.string a0] rfl (by (try simp only [List.map_toArray,List.map_cons,List.map_nil]);first|done|rfl|(simp only [List.length_drop,List.length_take];rfl)) ?_;(with_reducible refine (dx.calls a0 t183 _ A6.out).mono ?_);rintro e w32 ⟨rfl,hb⟩;refine ⟨_,rfl,?_⟩;have n0_:=aa.mk (aD (by repeat (first|(with_reducible first|exact HB.out|apply af|apply ae|apply ag)|exact HB.out)) hb);clear HB;have HB:=n0_;clear n0_;(try clear hb);(try clear hb2);(try clear hk);(try clear hi))|((with_reducible refine aV (f:=66) rfl ?_);refine bJ (some 28) rfl rfl Tryz.func66 (by kernel_rfl) rfl #[.string a1] rfl (by (try simp only [List.map_toArray,List.map_cons,List.map_nil]);first|done|rfl|(simp only [List.length_drop,List.length_take];rfl)) ?_;(with_reducible refine (jh.calls kj2 a1 t186 false _ ?side1 A25.out).mono ?_);(case side1=>first|exact HG.out|exact Gl.drewN HG.out _|exact Gl.below HG.out (by repeat (first|(with_reducible first|exact HB.out|apply af|apply ae|apply ag)|exact HB.out)));rintro e w33 ⟨rfl,hb⟩;refine ⟨_,rfl,?_⟩;have n0_:=aa.mk (aD (by repeat (first|(with_reducible first|exact HB.out|apply af|apply ae|apply ag)|exact HB.out)) hb);clear HB;have HB:=n0_;clear n0_;(try clear hb);(try clear hb2);(try clear hk);(try clear hi)))
        go_ret2
        exact ⟨by first|rfl|(simp [aM,aK] <;> rfl)|(simp [*,aM,aK] <;> rfl),by repeat (first|(with_reducible first|exact HB.out|apply af|apply ae|apply ag)|exact HB.out)⟩
      ·rw [if_neg c24] at H
       have c24b0:(t183 == 3)=false:=beq_eq_false_iff_ne.mpr c24
       have c24b1:(t183 != 3)=true:=bne_iff_ne.mpr c24
       by_cases c34:t183=4
       ·rw [if_pos c34] at H
        have c34b0:(t183 == 4)=true:=beq_iff_eq.mpr c34
        have c34b1:(t183 != 4)=false:=bne_eq_false_iff_eq.mpr c34
        clear c34
        by_cases c35:a1.toList=([]:List UInt8)
        ·rw [if_pos c35] at H
         have c35b0:(a1.toList == ([]:List UInt8))=true:=beq_iff_eq.mpr c35
         have c35b1:(a1.toList != ([]:List UInt8))=false:=bne_eq_false_iff_eq.mpr c35
         clear c35
         simp only [Option.some.injEq,Prod.mk.injEq] at H
         obtain ⟨rfl,rfl⟩:=H
         go_wp2_with (first|((with_reducible refine aV (f:=59) rfl ?_);refine bJ (some 15) rfl rfl Tryz.func59 (by kernel_rfl) rfl #[.string a0] rfl (by (try simp only [List.map_toArray,List.map_cons,List.map_nil]);first|done|rfl|(simp only [List.length_drop,List.length_take];rfl)) ?_;(with_reducible refine (dx.calls a0 t183 _ A6.out).mono ?_);rintro e w36 ⟨rfl,hb⟩;refine ⟨_,rfl,?_⟩;have n0_:=aa.mk (aD (by repeat (first|(with_reducible first|exact HB.out|apply af|apply ae|apply ag)|exact HB.out)) hb);clear HB;have HB:=n0_;clear n0_;(try clear hb);(try clear hb2);(try clear hk);(try clear hi)))
         go_ret2
         exact ⟨by first|rfl|(simp [aM,aK] <;> rfl)|(simp [*,aM,aK] <;> rfl),by repeat (first|(with_reducible first|exact HB.out|apply af|apply ae|apply ag)|exact HB.out)⟩
        ·rw [if_neg c35] at H
         have c35b0:(a1.toList == ([]:List UInt8))=false:=beq_eq_false_iff_ne.mpr c35
         have c35b1:(a1.toList != ([]:List UInt8))=true:=bne_iff_ne.mpr c35
         simp only [Option.some.injEq,Prod.mk.injEq] at H
         obtain ⟨rfl,rfl⟩:=H
         go_wp2_with (first|((with_reducible refine aV (f:=59) rfl ?_);refine bJ (some 15) rfl rfl Tryz.func59 (by kernel_rfl) rfl #[.string a0] rfl (by (try simp only [List.map_toArray,List.map_cons,List.map_nil]);first|done|rfl|(simp only [List.length_drop,List.length_take];rfl)) ?_;(with_reducible refine (dx.calls a0 t183 _ A6.out).mono ?_);rintro e w37 ⟨rfl,hb⟩;refine ⟨_,rfl,?_⟩;have n0_:=aa.mk (aD (by repeat (first|(with_reducible first|exact HB.out|apply af|apply ae|apply ag)|exact HB.out)) hb);clear HB;have HB:=n0_;clear n0_;(try clear hb);(try clear hb2);(try clear hk);(try clear hi)))
         go_ret2
         exact ⟨by first|rfl|(simp [aM,aK] <;> rfl)|(simp [*,aM,aK] <;> rfl),by repeat (first|(with_reducible first|exact HB.out|apply af|apply ae|apply ag)|exact HB.out)⟩
       ·rw [if_neg c34] at H
        have c34b0:(t183 == 4)=false:=beq_eq_false_iff_ne.mpr c34
        have c34b1:(t183 != 4)=true:=bne_iff_ne.mpr c34
        simp only [Option.some.injEq,Prod.mk.injEq] at H
        obtain ⟨rfl,rfl⟩:=H
        go_wp2_with (first|((with_reducible refine aV (f:=59) rfl ?_);refine bJ (some 15) rfl rfl Tryz.func59 (by kernel_rfl) rfl #[.string a0] rfl (by (try simp only [List.map_toArray,List.map_cons,List.map_nil]);first|done|rfl|(simp only [List.length_drop,List.length_take];rfl)) ?_;(with_reducible refine (dx.calls a0 t183 _ A6.out).mono ?_);rintro e w38 ⟨rfl,hb⟩;refine ⟨_,rfl,?_⟩;have n0_:=aa.mk (aD (by repeat (first|(with_reducible first|exact HB.out|apply af|apply ae|apply ag)|exact HB.out)) hb);clear HB;have HB:=n0_;clear n0_;(try clear hb);(try clear hb2);(try clear hk);(try clear hi)))
        go_ret2
        exact ⟨by first|rfl|(simp [aM,aK] <;> rfl)|(simp [*,aM,aK] <;> rfl),by repeat (first|(with_reducible first|exact HB.out|apply af|apply ae|apply ag)|exact HB.out)⟩
end Go.Proofs.YthfpaoacjpjnfaaGreatDoor.P

namespace Go.Proofs.YthfpaoacjpjnfaaGreatDoor.P
open Go.RowKit Go.Proofs.YthfpaoacjpjnfaaGreatDoorW.PrintWords Go.Proofs.YthfpaoacjpjnfaaGreatDoorW.PrintLast Go.Proofs.YthfpaoacjpjnfaaGreatDoorW.PrintMore
theorem ou.any (a0:ByteArray) (w:World) (hs:a0.size≤9223372036854775807) :
    Calls Tryz.prog 57 #[.string a0] w fun e w'=>e=.returned (.string (gq a0))∧Below w.heap.size w w':=by
  have hcv:=fun W=>Lib.run_convert_string_bytes (P:=Tryz.prog) W 9 34 5 a0 (u:=.string) Tryz.underlying9 Tryz.underlying34 Tryz.underlying5
  go_enter Tryz.func57,Tryz.ntmps57
  go_wp2
  go_loopw [10] (fun i wr=>∃ k:Nat,k≤a0.size∧i=.int .i64 k∧aa (Below w.heap.size w wr)∧aa (iK wr w.heap.size a0.size (iI a0 k))) (fun i _=>a0.size - (intOf i).toNat)
  case atStart=>exact ⟨0,Nat.zero_le _,rfl,⟨Lib.bytesWorld_below _ _ _⟩,⟨by rw [jF];exact iM w a0⟩⟩
  case round =>
    obtain ⟨k,hk,rfl,HB,HR⟩:=hrel
    by_cases hlt:k < a0.size
    · have hc:=HR.out.cell k hlt
      have hz:=HR.out.free k hlt
      rw [jL] at hc
      obtain ⟨c,hcc⟩:∃ c:Int,((a0.data.toList.getD k 0).toNat:Int)=c:=⟨_,rfl⟩
      rw [hcc] at hc
      have hcr:0≤c∧c≤255:=by have:=(a0.data.toList.getD k 0).toNat_lt;omega
      have hc0:0≤c:=hcr.1
      have hc1:c≤255:=hcr.2
      clear hcr
      have HC:=Lib.hid hcc
      clear hcc
      by_cases h1:65≤c
      · by_cases h2:c≤90
        · have HL:=Lib.hid (oZ h1 h2)
          go_wp2
          refine ⟨⟨k+1,by omega,by go_num,⟨?_⟩,⟨?_⟩⟩,by simp [intOf];omega⟩
          · exact (HB.out).setCell (Nat.le_refl _) _
          · have:=kF HR.out hlt HC.out
            rw [HL.out] at this
            first
            | exact this
            | (rw [show c+97 - 65=c+32 from by omega];exact this)
            | (rw [show ((c+97) - 65) % 256=c+32 from by omega];exact this)
            | (rw [show ((c+97) % 256 - 65) % 256=c+32 from by omega];exact this)
        · have HL:=Lib.hid (jy (c:=c) (by omega))
          have d2:decide (c≤90)=false:=by simpa using h2
          go_wp2
          refine ⟨⟨k+1,by omega,by go_num,HB,⟨iA HR.out HC.out HL.out⟩⟩,by simp [intOf];omega⟩
      · have HL:=Lib.hid (jy (c:=c) (by omega))
        have d1:decide (65≤c)=false:=by simpa using h1
        go_wp2
        refine ⟨⟨k+1,by omega,by go_num,HB,⟨iA HR.out HC.out HL.out⟩⟩,by simp [intOf];omega⟩
    · have hge:¬ (k:Int) < (a0.size:Int):=by omega
      have hst:=fun cap=>jc (P:=Tryz.prog) HR.out cap 34 5 9 Tryz.underlying34 Tryz.underlying5 Tryz.underlying9
      rw [kv a0 k hlt] at hst
      go_wp2
      go_ret
      exact ⟨rfl,HB.out⟩
def lV (p:Nat→Bool):Nat→Nat→Int
  | 0,_=>-1
  | n+1,k=>if p k=true then (k:Int) else lV p n (k+1)
def eH (p:Nat→Bool) (n:Nat):Int:=lV p n 0
theorem jW (p:Nat→Bool):∀ (m r k:Nat),(∀ j,k≤j→j < k+m→p j=false)→lV p (m+r) k=lV p r (k+m)
  | 0,r,k,_=>by rw [Nat.zero_add,Nat.add_zero]
  | m+1,r,k,h=>by
    rw [show m+1+r=(m+r)+1 by omega,lV,if_neg (by rw [h k (Nat.le_refl _) (by omega)];exact Bool.false_ne_true),jW p m r (k+1) (fun j h1 h2=>h j (by omega) (by omega))]
    rw [show k+1+m=k+(m+1) by omega]
theorem fP (p:Nat→Bool) (n k:Nat) (hk:k < n) (hp:p k=true) (h:∀ j,j < k→p j=false):eH p n=(k:Int):=by
  unfold eH
  obtain ⟨r,rfl⟩:∃ r,n=k+(r+1):=⟨n - k - 1,by omega⟩
  rw [jW p k (r+1) 0 (fun j _ h2=>h j (by omega)),Nat.zero_add,lV,if_pos hp]
theorem fJ (p:Nat→Bool) (n:Nat) (h:∀ j,j < n→p j=false):eH p n=-1:=by
  unfold eH
  have:=jW p n 0 0 (fun j _ h2=>h j (by omega))
  rw [Nat.add_zero] at this
  rw [this]
  rfl
theorem jN (p:Nat→Bool) (n:Nat):(∃ k,k < n∧p k=true∧(∀ j,j < k→p j=false)∧eH p n=(k:Int))∨((∀ j,j < n→p j=false)∧eH p n=-1):=by
  by_cases h:∃ k,k < n∧p k=true
  · have:∀ m:Nat,(∃ k,k < m∧p k=true)→∃ k,k < m∧p k=true∧∀ j,j < k→p j=false:=by
      intro m
      induction m with
      | zero=>rintro ⟨k,hk,_⟩;omega
      | succ m ih =>
        rintro ⟨k,hk,hp⟩
        by_cases h2:∃ k,k < m∧p k=true
        · obtain ⟨k2,h3,h4,h5⟩:=ih h2
          exact ⟨k2,by omega,h4,h5⟩
        · refine ⟨k,hk,hp,fun j hj=>?_⟩
          cases hq:p j with
          | false=>rfl
          | true=>exact absurd ⟨j,by omega,hq⟩ h2
    obtain ⟨k,h1,h2,h3⟩:=this n h
    exact Or.inl ⟨k,h1,h2,h3,fP p n k h1 h2 h3⟩
  · have hn:∀ j,j < n→p j=false:=fun j hj=>by
      cases hq:p j with
      | false=>rfl
      | true=>exact absurd ⟨j,hj,hq⟩ h
    exact Or.inr ⟨hn,fJ p n hn⟩
def fZ (p:Nat→Bool) (n:Nat):Bool:=(List.range n).any p
theorem jT (p:Nat→Bool) (n:Nat):decide (0≤eH p n)=fZ p n:=by
  unfold fZ
  rcases jN p n with ⟨k,h1,h2,h3,h4⟩|⟨h1,h2⟩
  · rw [h4,decide_eq_true (by omega)]
    exact (List.any_eq_true.2 ⟨k,List.mem_range.2 h1,h2⟩).symm
  · rw [h2,decide_eq_false (by omega)]
    exact (List.any_eq_false.2 fun j hj=>by rw [h1 j (List.mem_range.1 hj)];exact Bool.false_ne_true).symm
set_option maxHeartbeats 2000000 in
theorem u7 (A0:Option Addr) (c0:Nat) (l0:List S45) (g:Nat) (lb:Array Value) (p:Nat→Bool) (w:World) (eg:∀ args w,(callFunc g args).run Tryz.prog w=.ok (.enter g args) w)
    (hr:Kd.C k45 w A0 l0.length l0) (hp:∀ i:Nat,i < l0.length→∀ (W:World) (A1:Option Addr) (c1:Nat),Below w.heap.size w W→(bZ l0 (i:Int)).f1.length≤c1→Kd.string.C W A1 (bZ l0 (i:Int)).f1.length (bZ l0 (i:Int)).f1→Calls Tryz.prog g (#[.agg #[.string (bZ l0 (i:Int)).f0,.slice A1 (bZ l0 (i:Int)).f1.length c1]]++lb) W fun e w'=>e=.returned (.bool (p i))∧Below w.heap.size w w') :
    Calls Tryz.prog 55 #[.slice A0 l0.length c0,.func (.func g) #[] lb] w fun e w'=>e=.returned (.int .i64 (eH p l0.length))∧Below w.heap.size w w':=by
  have hl:=hr.2.1
  obtain ⟨n,hn⟩:∃ n,l0.length=n:=⟨_,rfl⟩
  go_enter Tryz.func55,Tryz.ntmps55
  go_wp2
  rw [hn]
  go_loopg [5,8] n (fun gg _ s8 wr=>∃ kk:Nat,kk≤n∧n - kk≤gg∧s8=.int .i64 kk∧aa (Below w.heap.size w wr)∧aa (∀ j,j < kk→p j=false))
  case atStart=>exact ⟨0,Nat.zero_le _,by omega,rfl,⟨Below.refl _ w⟩,⟨fun j hj=>absurd hj (Nat.not_lt_zero _)⟩⟩
  case round =>
    obtain ⟨kk,hkk,hg,rfl,BW,AW⟩:=hrel
    by_cases hlt:kk < n
    · have hltz:(kk:Int) < (n:Int):=by omega
      obtain ⟨ad,A1,c1,rfl,x0,x1,lc1,g1⟩:=uP (Kd.bf hr BW.out) (kk:Int) (by omega) (by omega)
      rw [Int.toNat_natCast] at x0 x1
      have hcall:=hp kk (by omega) wr A1 c1 BW.out lc1 g1
      clear g1 hr
      clear hp
      cases hq:p kk with
      | true =>
        rw [hq] at hcall
        have HQ:=Lib.hid hq
        clear hq
        go_wp2_with (go_at_fn g;refine hcall.mono ?_;rintro e w' ⟨rfl,hb'⟩)
        go_ret
        refine ⟨?_,hb'⟩
        first|rw [show eH p (l0.length)=(kk:Int) from by rw [hn];exact fP p n kk hlt HQ.out AW.out]|rw [fP p n kk hlt HQ.out AW.out]
        first|rfl|simp
      | false =>
        rw [hq] at hcall
        have HQ:=Lib.hid hq
        clear hq
        go_wp2_with (go_at_fn g;refine hcall.mono ?_;rintro e w' ⟨rfl,hb'⟩)
        go_roundg (n - (kk+1))
        case measure=>omega
        case rel =>
          refine ⟨kk+1,by omega,by omega,by go_num,⟨hb'⟩,⟨fun j hj=>?_⟩⟩
          by_cases e:j=kk
          · subst e;exact HQ.out
          · exact AW.out j (by omega)
    · have hltz:¬ (kk:Int) < (n:Int):=by omega
      have:kk=n:=by omega
      subst this
      clear hp
      go_wp2
      go_ret
      refine ⟨?_,BW.out⟩
      first|rw [show eH p kk=-1 from fJ p kk AW.out]|rw [show eH p (l0.length)=-1 from by rw [hn];exact fJ p kk AW.out]
      first|rfl|simp
theorem pO {w:World} {b o:Nat} {s:_} {v:Value} (h:w.cell? ⟨b,o,s⟩=some v):s=none:=by
  unfold World.cell? at h
  cases s with
  | none=>rfl
  | some s=>split at h <;> simp at h
theorem sO (A:Option Addr) (c:Nat) (l:List ByteArray) (w:World) (hr:Kd.string.C w A l.length l) (hs:l.length * 16≤140737488355328) :
    Calls Tryz.prog 58 #[.slice A l.length c] w fun e w'=>∃ v0_:Value,e=.returned v0_∧Kd.R Kd.string 9 w' w.heap.size (fun _=>True) v0_ l∧Below w.heap.size w w':=by
  have hro:=Kd.gN (enc:=Value.string) (d:=ByteArray.empty) (h1:=fun _=>rfl) hr
  rcases A with _|⟨b,o,s⟩
  · have hl:l.length=0:=by
      rcases Nat.eq_zero_or_pos l.length with h|h
      · exact h
      · obtain ⟨ad,e,_⟩:=hro.2.2 h
        cases e
    obtain rfl:=List.eq_nil_of_length_eq_zero hl
    refine (Tryz.slices_Clone_string_nil _ _ w).mono ?_
    rintro e w' ⟨rfl,rfl⟩
    exact ⟨_,rfl,Kd.jV (enc:=Value.string) (h1:=fun _=>rfl) ⟨rfl,Or.inl ⟨rfl,rfl⟩⟩ (fun _ _=>trivial),Below.refl _ _⟩
  · by_cases hl:l.length=0
    · obtain rfl:=List.eq_nil_of_length_eq_zero hl
      refine (Tryz.slices_Clone_string_zero _ _ w).mono ?_
      rintro e w' ⟨v,rfl,ho,_,hb⟩
      exact ⟨v,rfl,Kd.jV (enc:=Value.string) (h1:=fun _=>rfl) ho (fun _ _=>trivial),hb⟩
    · obtain ⟨ad,e,hc⟩:=hro.2.2 (by omega)
      cases e
      have h0:=hc 0 (by omega)
      rw [Addr.add,if_pos rfl] at h0
      obtain rfl:=pO h0
      refine (Tryz.slices_Clone_string b o l.length c l w (Nat.le_refl _) hs (fun j hj=>?_)).mono ?_
      · have:=hc j hj
        rwa [show (⟨b,o,none⟩:Addr).add j=⟨b,o+j,none⟩ from by unfold Addr.add;split <;> simp_all] at this
      · rintro e w' ⟨v,rfl,ho,_,hb⟩
        rw [List.take_length] at ho
        exact ⟨v,rfl,Kd.jV (enc:=Value.string) (h1:=fun _=>rfl) ho (fun _ _=>trivial),hb⟩
theorem tL (s:ByteArray) (w W0:World) (a b:Addr) (u v:Value) (hs:s.size≤9223372036854775807) (ha:w.cell? a=some u) (hb:w.cell? b=some v) (h0:Below W0.heap.size W0 w) :
    Calls Tryz.prog 57 #[.string s] w fun e w'=>e=.returned (.string (gq s))∧w'.cell? a=some u∧w'.cell? b=some v∧Below W0.heap.size W0 w':=by
  refine (ou.any s w hs).mono ?_
  rintro e w' ⟨rfl,hb'⟩
  exact ⟨rfl,(hb'.cell (World.block_lt_of_cell? w _ ha)).trans ha,(hb'.cell (World.block_lt_of_cell? w _ hb)).trans hb,aD h0 hb'⟩
theorem bN {w W0:World} {a:Addr} {u:Value} (ha:w.cell? a=some u) {w':World} (hb:Below w.heap.size w w'):w'.cell? a=some u:=(hb.cell (World.block_lt_of_cell? w _ ha)).trans ha
set_option maxHeartbeats 2000000 in
theorem sZ (B:Nat) (t typ:ByteArray) (A1:Option Addr) (n1 c1:Nat) (W:World) (hc:W.cell? ⟨B,0,none⟩=some (.string typ)) (h1:t.size≤9223372036854775807) (h2:typ.size≤9223372036854775807) :
    Calls Tryz.prog 56 (#[.agg #[.string t,.slice A1 n1 c1]]++#[.pointer (some ⟨B,0,none⟩)]) W fun e w'=>e=.returned (.bool ((gq t).toList == (gq typ).toList))∧Below W.heap.size W w':=by
  have hu1:=Tryz.underlying45
  have hlt:=World.block_lt_of_cell? W _ hc
  have hBW:B≠W.heap.size:=by intro h;rw [h] at hlt;exact Nat.lt_irrefl _ hlt
  show Calls Tryz.prog 56 #[.agg #[.string t,.slice A1 n1 c1],.pointer (some ⟨B,0,none⟩)] W _
  go_enter Tryz.func56,Tryz.ntmps56
  go_upto_region 1 with (fail)
  obtain ⟨w0,hw0⟩:∃ w0,W.alloc (.cells #[.string t,.slice A1 n1 c1] 45)=w0:=⟨_,rfl⟩
  have k0:w0.cell? ⟨W.heap.size,0,none⟩=some (.string t):=by rw [← hw0];simp [go_sem]
  have k1:w0.cell? ⟨B,0,none⟩=some (.string typ):=by rw [← hw0];exact bN (W0:=W) hc (af (Below.refl _ _) _)
  have k2:Below W.heap.size W w0:=by rw [← hw0];exact af (Below.refl _ _) _
  rw [hw0]
  clear hw0 hc hlt
  go_region_held3 (fun w'=>w'.cell? ⟨W.heap.size,0,none⟩=some (.string t)∧w'.cell? ⟨B,0,none⟩=some (.string typ)∧Below W.heap.size W w') (first|exact ⟨by assumption,by assumption,by first|assumption|exact ag (by assumption)⟩)
    (first|(go_at_call 57;refine (tL _ _ W ⟨W.heap.size,0,none⟩ ⟨B,0,none⟩ (.string t) (.string typ) (by assumption) (by assumption) (by assumption) (by first|assumption|exact ag (by assumption))).mono ?_;rintro e w' ⟨rfl,q1,q2,q3⟩))
  all_goals (go_wp2;go_ret;exact ⟨by first|rfl|(simp;done),by first|assumption|exact ag (by assumption)⟩)
def j6 (l:List S45) (typ:ByteArray) (i:Nat):Bool:=(gq (bZ l (i:Int)).f0).toList == (gq typ).toList
def dP.f (a0:ByteArray) (l:List S45) (typ:ByteArray):Option (List ByteArray) :=
  if l.length≤1000000000∧(∀ i:Nat,i < l.length→(bZ l (i:Int)).f0.size≤9223372036854775807∧(bZ l (i:Int)).f1.length≤1000000000)∧typ.size≤9223372036854775807 then
    some (if eH (j6 l typ) l.length < 0 then [] else (bZ l (eH (j6 l typ) l.length)).f1) else none
set_option maxHeartbeats 2000000 in
set_option maxRecDepth 100000 in
theorem dP.calls (a0:ByteArray) (A1:Option Addr) (c1:Nat) (l1:List S45) (typ:ByteArray) (r:List ByteArray) (w:World) (hr:Kd.C k45 w A1 l1.length l1) (hc:l1.length≤c1) (h:dP.f a0 l1 typ=some r) :
    Calls Tryz.prog 37 #[.agg #[.string a0,.slice A1 l1.length c1],.string typ] w fun e w'=>∃ v0_:Value,e=.returned v0_∧Kd.R Kd.string 9 w' w.heap.size (fun _=>True) v0_ r∧Below w.heap.size w w':=by
  unfold dP.f at h
  by_cases hg:l1.length≤1000000000∧(∀ i:Nat,i < l1.length→(bZ l1 (i:Int)).f0.size≤9223372036854775807∧(bZ l1 (i:Int)).f1.length≤1000000000)∧typ.size≤9223372036854775807
  · rw [if_pos hg] at h
    have h:=Option.some.inj h
    obtain ⟨g1,g2,g3⟩:=hg
    have hu1:=Tryz.underlying45
    have hu2:=Tryz.underlying28
    have eg:∀ args w,(callFunc 56 args).run Tryz.prog w=.ok (.enter 56 args) w:=enters_of Tryz.func56 (by kernel_rfl) rfl
    have HR:=aa.mk hr
    have HH:=aa.mk h
    have G2:=aa.mk g2
    clear hr h g2
    have idx:∀ W:World,Below w.heap.size w W→W.cell? ⟨w.heap.size+1,0,none⟩=some (.string typ)→w.heap.size+1 < W.heap.size →
        Calls Tryz.prog 55 #[.slice A1 l1.length c1,.func (.func 56) #[] #[.pointer (some ⟨w.heap.size+1,0,none⟩)]] W fun e w'=>e=.returned (.int .i64 (eH (j6 l1 typ) l1.length))∧Below W.heap.size W w':=by
      intro W hb hcell hlt
      refine u7 A1 c1 l1 56 #[.pointer (some ⟨w.heap.size+1,0,none⟩)] (j6 l1 typ) W eg (Kd.bf HR.out hb) (fun i hi W' A2 c2 hb' _ _=>?_)
      refine (sZ (w.heap.size+1) _ typ A2 _ c2 W' ((hb'.cell (World.block_lt_of_cell? W _ hcell)).trans hcell) (G2.out i hi).1 g3).mono ?_
      rintro e w' ⟨rfl,hb2⟩
      exact ⟨rfl,aD hb' hb2⟩
    go_enter Tryz.func37,Tryz.ntmps37
    go_upto_region 1 with (fail)
    obtain ⟨w0,hw0⟩:∃ w0,(w.alloc (.cells #[.string a0,.slice A1 l1.length c1] 28)).alloc (.cells #[.string typ] 9)=w0:=⟨_,rfl⟩
    have kE:w0.cell? ⟨w.heap.size,1,none⟩=some (.slice A1 l1.length c1):=by rw [← hw0];simp [go_sem]
    have kT:w0.cell? ⟨w.heap.size+1,0,none⟩=some (.string typ):=by rw [← hw0];simp [go_sem]
    have kB:Below w.heap.size w w0:=by rw [← hw0];exact af (af (Below.refl _ _) _) _
    have klt:w.heap.size+1 < w0.heap.size:=by rw [← hw0];simp
    rw [hw0]
    clear hw0
    have IC:=aa.mk (idx w0 kB kT klt)
    clear idx
    rcases jN (j6 l1 typ) l1.length with ⟨k,k1,k2,k3,k4⟩|⟨m1,m2⟩
    · rw [k4] at IC
      have hrr:(bZ l1 (k:Int)).f1=r:=by
        have:=HH.out
        rw [k4,if_neg (by omega)] at this
        exact this
      have HR2:=aa.mk hrr
      clear hrr k2 k3 k4 HH
      have hi0:(0:Int)≤(k:Int):=by omega
      have hi1:(k:Int) < (l1.length:Int):=by omega
      have hsz:=(G2.out k k1).2
      obtain ⟨y,hy⟩:∃ y,(bZ l1 (k:Int)).f1=y:=⟨_,rfl⟩
      obtain ⟨y0,hy0⟩:∃ y,(bZ l1 (k:Int)).f0=y:=⟨_,rfl⟩
      rw [hy] at hsz HR2
      obtain rfl:=HR2.out
      have HY:=Lib.hid hy
      have HY0:=Lib.hid hy0
      clear hy hy0 HR2 k1
      go_upto_region 2 with (go_at_call 55;refine IC.out.mono ?_;rintro e w1 ⟨rfl,hb⟩)
      have kE1:=bN (W0:=w) kE hb
      have kB1:=aD kB hb
      obtain ⟨ad,A2,c2,ea,x0,x1,lc,g1'⟩:=uP (Kd.bf HR.out kB1) (k:Int) hi0 hi1
      subst ea
      rw [Int.toNat_natCast,HY0.out] at x0
      rw [Int.toNat_natCast,HY.out] at x1
      rw [HY.out] at g1' lc
      have G1:=aa.mk g1'
      clear g1' kE kT kB klt IC hb g1 lc g3 eg G2
      go_wp2_with (go_at_call 58;refine (sO A2 c2 y w1 G1.out (by omega)).mono ?_;rintro e w2 ⟨v,rfl,ho,hb2⟩)
      go_ret
      exact ⟨v,rfl,Kd.dN ho (aG kB1),aD kB1 hb2⟩
    · rw [m2] at IC
      have hrr:([]:List ByteArray)=r:=by
        have:=HH.out
        rw [m2,if_pos (by decide)] at this
        exact this
      subst hrr
      clear HH m1 m2
      go_wp2_with (go_at_call 55;refine IC.out.mono ?_;rintro e w1 ⟨rfl,hb⟩)
      go_ret
      exact ⟨_,rfl,Kd.jV (enc:=Value.string) (h1:=fun _=>rfl) ⟨rfl,Or.inl ⟨rfl,rfl⟩⟩ (fun _ _=>trivial),aD kB hb⟩
  · rw [if_neg hg] at h
    cases h
set_option maxHeartbeats 2000000 in
theorem qL (A0:Option Addr) (c0:Nat) (l0:List ByteArray) (g:Nat) (lb:Array Value) (p:Nat→Bool) (w:World) (eg:∀ args w,(callFunc g args).run Tryz.prog w=.ok (.enter g args) w)
    (hr:Kd.string.C w A0 l0.length l0) (hp:∀ i:Nat,i < l0.length→∀ (W:World),Below w.heap.size w W→Calls Tryz.prog g (#[.string (bE ByteArray.empty l0 (i:Int))]++lb) W fun e w'=>e=.returned (.bool (p i))∧Below w.heap.size w w') :
    Calls Tryz.prog 81 #[.slice A0 l0.length c0,.func (.func g) #[] lb] w fun e w'=>e=.returned (.int .i64 (eH p l0.length))∧Below w.heap.size w w':=by
  have hl:=hr.2.1
  obtain ⟨n,hn⟩:∃ n,l0.length=n:=⟨_,rfl⟩
  go_enter Tryz.func81,Tryz.ntmps81
  go_wp2
  rw [hn]
  go_loopg [5,8] n (fun gg _ s8 wr=>∃ kk:Nat,kk≤n∧n - kk≤gg∧s8=.int .i64 kk∧aa (Below w.heap.size w wr)∧aa (∀ j,j < kk→p j=false))
  case atStart=>exact ⟨0,Nat.zero_le _,by omega,rfl,⟨Below.refl _ w⟩,⟨fun j hj=>absurd hj (Nat.not_lt_zero _)⟩⟩
  case round =>
    obtain ⟨kk,hkk,hg,rfl,BW,AW⟩:=hrel
    by_cases hlt:kk < n
    · have hltz:(kk:Int) < (n:Int):=by omega
      obtain ⟨ad,ea,x0⟩:=Kd.dz (Kd.bf hr BW.out) (kk:Int) (by omega) (by omega)
      subst ea
      rw [Int.toNat_natCast] at x0
      have hcall:=hp kk (by omega) wr BW.out
      clear hr
      clear hp
      cases hq:p kk with
      | true =>
        rw [hq] at hcall
        have HQ:=Lib.hid hq
        clear hq
        go_wp2_with (go_at_fn g;refine hcall.mono ?_;rintro e w' ⟨rfl,hb'⟩)
        go_ret
        refine ⟨?_,hb'⟩
        first|rw [show eH p (l0.length)=(kk:Int) from by rw [hn];exact fP p n kk hlt HQ.out AW.out]|rw [fP p n kk hlt HQ.out AW.out]
        first|rfl|simp
      | false =>
        rw [hq] at hcall
        have HQ:=Lib.hid hq
        clear hq
        go_wp2_with (go_at_fn g;refine hcall.mono ?_;rintro e w' ⟨rfl,hb'⟩)
        go_roundg (n - (kk+1))
        case measure=>omega
        case rel =>
          refine ⟨kk+1,by omega,by omega,by go_num,⟨hb'⟩,⟨fun j hj=>?_⟩⟩
          by_cases e:j=kk
          · subst e;exact HQ.out
          · exact AW.out j (by omega)
    · have hltz:¬ (kk:Int) < (n:Int):=by omega
      have:kk=n:=by omega
      subst this
      clear hp
      go_wp2
      go_ret
      refine ⟨?_,BW.out⟩
      first|rw [show eH p kk=-1 from fJ p kk AW.out]|rw [show eH p (l0.length)=-1 from by rw [hn];exact fJ p kk AW.out]
      first|rfl|simp
theorem iF (A0:Option Addr) (c0:Nat) (l0:List ByteArray) (g:Nat) (lb:Array Value) (p:Nat→Bool) (w:World) (eg:∀ args w,(callFunc g args).run Tryz.prog w=.ok (.enter g args) w)
    (hr:Kd.string.C w A0 l0.length l0) (hp:∀ i:Nat,i < l0.length→∀ (W:World),Below w.heap.size w W→Calls Tryz.prog g (#[.string (bE ByteArray.empty l0 (i:Int))]++lb) W fun e w'=>e=.returned (.bool (p i))∧Below w.heap.size w w') :
    Calls Tryz.prog 61 #[.slice A0 l0.length c0,.func (.func g) #[] lb] w fun e w'=>e=.returned (.bool (fZ p (l0.length)))∧Below w.heap.size w w':=by
  rw [← jT]
  have hI:=qL A0 c0 l0 g lb p w eg hr  hp
  clear hp
  go_enter Tryz.func61,Tryz.ntmps61
  go_wp2_with (go_at_call 81;refine hI.mono ?_;rintro e w' ⟨rfl,hb'⟩)
  go_ret
  exact ⟨rfl,hb'⟩
end Go.Proofs.YthfpaoacjpjnfaaGreatDoor.P


namespace Go.Proofs.YthfpaoacjpjnfaaGreatDoor.P
open Go.Proofs.YthfpaoacjpjnfaaGreatDoorW.PrintWords
theorem uj (n:Nat) (h:10≤n):Lib.decDigits n=Lib.decDigits (n / 10)++[UInt8.ofNat (48+n % 10)]:=by rw [Lib.decDigits,dif_neg (by omega)]
theorem nJ (n:Nat) (h:n < 10):Lib.decDigits n=[UInt8.ofNat (48+n)]:=by rw [Lib.decDigits,dif_pos h]
theorem xY (n:Nat):Lib.decDigits n≠[]:=by
  by_cases h:n < 10
  · rw [nJ n h];simp
  · rw [uj n (by omega)];simp
theorem wV (n k:Nat) (h:n < 10 ^ (k+1)):(Lib.decDigits n).length≤k+1:=by
  induction k generalizing n with
  | zero=>rw [nJ n (by omega)];simp
  | succ k ih =>
    by_cases h1:n < 10
    · rw [nJ n h1];simp
    · rw [uj n (by omega),List.length_append]
      have:=ih (n / 10) (by rw [Nat.pow_succ] at h;omega)
      simp;omega
theorem qG (m:Int):(m < 0∧Lib.itoa m=45 :: Lib.decDigits m.natAbs)∨(0≤m∧Lib.itoa m=Lib.decDigits m.natAbs):=by
  unfold Lib.itoa
  by_cases h:m < 0
  · exact .inl ⟨h,by rw [if_pos h]⟩
  · exact .inr ⟨by omega,by rw [if_neg h,show m.toNat=m.natAbs by omega]⟩
theorem uJ (m:Int) (h0:-1000000000000000 < m) (h1:m < 1000000000000000):(Lib.itoa m).length≤16∧Lib.itoa m≠[]:=by
  have hl:=wV m.natAbs 14 (by omega)
  have hne:=xY m.natAbs
  rcases qG m with ⟨_,e⟩|⟨_,e⟩ <;> rw [e]
  · exact ⟨by simp;omega,by simp⟩
  · exact ⟨by omega,hne⟩
theorem oG {l:List UInt8} (h:gu l=true):∃ v,Lib.atoiAll l=.ok v∧l=Lib.itoa v∧(Lib.trimPrefix l [45]).length≤15:=by
  unfold gu at h
  cases hh:Lib.atoiAll l with
  | ok v =>
    rw [hh] at h
    simp only [Bool.and_eq_true,beq_iff_eq,decide_eq_true_eq] at h
    exact ⟨v,rfl,h.1.symm,h.2⟩
  | _=>rw [hh] at h;cases h
end Go.Proofs.YthfpaoacjpjnfaaGreatDoor.P

namespace Go.Proofs.YthfpaoacjpjnfaaGreatDoor.P
open Go.RowKit Go.Proofs.YthfpaoacjpjnfaaGreatDoorW.PrintWords Go.Proofs.YthfpaoacjpjnfaaGreatDoorW.PrintLast Go.Proofs.YthfpaoacjpjnfaaGreatDoorW.PrintMore
attribute [local go_sem] dW dZ eP eQ dL dM dY dX
def eF.f (k:Nat) (a0:ByteArray) (a1:ByteArray) (a2:ByteArray):Option (ByteArray × ByteArray × Bool):=(bM.f k a0 a1).bind fun bt188=>((bM.f k a0 a2).bind fun bt190=>(if bt188.2=true then (some (bt188.1,bt190.1,bt190.2)) else (some (bt188.1,bt190.1,false))))
set_option maxHeartbeats 8000000 in
set_option maxRecDepth 100000 in
theorem eF.calls (k:Nat) (a0:ByteArray) (a1:ByteArray) (a2:ByteArray) (r1:ByteArray) (r2:ByteArray) (r3:Bool) (w:World) (hG:Gl w) (h:eF.f k a0 a1 a2=some (r1,r2,r3)) :
  Calls Tryz.prog 92 #[.string a0,.string a1,.string a2] w fun e w'=>e=.returned (.tuple #[.string r1,.string r2,.bool r3])∧Below w.heap.size w w':=by
 have HB:=aa.mk (Below.refl w.heap.size w)
 have HG:=aa.mk hG
 clear hG
 have H:((bM.f k a0 a1).bind fun bt188=>((bM.f k a0 a2).bind fun bt190=>(if bt188.2=true then (some (bt188.1,bt190.1,bt190.2)) else (some (bt188.1,bt190.1,false)))))=some (r1,r2,r3):=h
 clear h
 replace H:=Option.bind_eq_some_iff.mp H
 obtain ⟨⟨t188,t189⟩,A40,H⟩:=H
 replace H:((bM.f k a0 a2).bind fun bt190=>(if t189=true then (some (t188,bt190.1,bt190.2)) else (some (t188,bt190.1,false))))=some (r1,r2,r3):=H
 have A4:=aa.mk A40
 clear A40
 replace H:=Option.bind_eq_some_iff.mp H
 obtain ⟨⟨t190,t191⟩,A50,H⟩:=H
 replace H:(if t189=true then (some (t188,t190,t191)) else (some (t188,t190,false)))=some (r1,r2,r3):=H
 have A5:=aa.mk A50
 clear A50
 by_cases c6:t189=true
 ·subst c6
  have H1:(some (t188,t190,t191))=some (r1,r2,r3):=by rw [if_pos rfl] at H;exact H
  clear H
  have H:=H1
  clear H1
  simp only [Option.some.injEq,Prod.mk.injEq] at H
  obtain ⟨rfl,rfl,rfl⟩:=H
  go_enter Tryz.func92,Tryz.ntmps92
  go_wp2_with (first|((with_reducible refine aV (f:=39) rfl ?_);refine bJ (some 13) rfl rfl Tryz.func39 (by kernel_rfl) rfl #[.string a0,.string a1] rfl (by (try simp only [List.map_toArray,List.map_cons,List.map_nil]);first|done|rfl|(simp only [List.length_drop,List.length_take];rfl)) ?_;(with_reducible refine (bM.calls k a0 a1 t188 true _ ?side1 A4.out).mono ?_);(case side1=>first|exact HG.out|exact Gl.drewN HG.out _|exact Gl.below HG.out (by repeat (first|(with_reducible first|exact HB.out|apply af|apply ae|apply ag)|exact HB.out)));rintro e w7 ⟨rfl,hb⟩;refine ⟨_,rfl,?_⟩;have n0_:=aa.mk (aD (by repeat (first|(with_reducible first|exact HB.out|apply af|apply ae|apply ag)|exact HB.out)) hb);clear HB;have HB:=n0_;clear n0_;(try clear hb);(try clear hb2);(try clear hk);(try clear hi))|((with_reducible refine aV (f:=39) rfl ?_);refine bJ (some 19) rfl rfl Tryz.func39 (by kernel_rfl) rfl #[.string a0,.string a2] rfl (by (try simp only [List.map_toArray,List.map_cons,List.map_nil]);first|done|rfl|(simp only [List.length_drop,List.length_take];rfl)) ?_;(with_reducible refine (bM.calls k a0 a2 t190 t191 _ ?side1 A5.out).mono ?_);(case side1=>first|exact HG.out|exact Gl.drewN HG.out _|exact Gl.below HG.out (by repeat (first|(with_reducible first|exact HB.out|apply af|apply ae|apply ag)|exact HB.out)));rintro e w8 ⟨rfl,hb⟩;refine ⟨_,rfl,?_⟩;have n0_:=aa.mk (aD (by repeat (first|(with_reducible first|exact HB.out|apply af|apply ae|apply ag)|exact HB.out)) hb);clear HB;have HB:=n0_;clear n0_;(try clear hb);(try clear hb2);(try clear hk);(try clear hi)))
  go_ret3
  exact ⟨by first|rfl|(simp [aM,aK] <;> rfl)|(simp [*,aM,aK] <;> rfl),by repeat (first|(with_reducible first|exact HB.out|apply af|apply ae|apply ag)|exact HB.out)⟩
 ·replace c6:=Bool.eq_false_iff.mpr c6
  subst c6
  have H1:(some (t188,t190,false))=some (r1,r2,r3):=by rw [if_neg (show ¬ (false=true) by decide)] at H;exact H
  clear H
  have H:=H1
  clear H1
  simp only [Option.some.injEq,Prod.mk.injEq] at H
  obtain ⟨rfl,rfl,rfl⟩:=H
  go_enter Tryz.func92,Tryz.ntmps92
  go_wp2_with (first|((with_reducible refine aV (f:=39) rfl ?_);refine bJ (some 13) rfl rfl Tryz.func39 (by kernel_rfl) rfl #[.string a0,.string a1] rfl (by (try simp only [List.map_toArray,List.map_cons,List.map_nil]);first|done|rfl|(simp only [List.length_drop,List.length_take];rfl)) ?_;(with_reducible refine (bM.calls k a0 a1 t188 false _ ?side1 A4.out).mono ?_);(case side1=>first|exact HG.out|exact Gl.drewN HG.out _|exact Gl.below HG.out (by repeat (first|(with_reducible first|exact HB.out|apply af|apply ae|apply ag)|exact HB.out)));rintro e w9 ⟨rfl,hb⟩;refine ⟨_,rfl,?_⟩;have n0_:=aa.mk (aD (by repeat (first|(with_reducible first|exact HB.out|apply af|apply ae|apply ag)|exact HB.out)) hb);clear HB;have HB:=n0_;clear n0_;(try clear hb);(try clear hb2);(try clear hk);(try clear hi))|((with_reducible refine aV (f:=39) rfl ?_);refine bJ (some 19) rfl rfl Tryz.func39 (by kernel_rfl) rfl #[.string a0,.string a2] rfl (by (try simp only [List.map_toArray,List.map_cons,List.map_nil]);first|done|rfl|(simp only [List.length_drop,List.length_take];rfl)) ?_;(with_reducible refine (bM.calls k a0 a2 t190 t191 _ ?side1 A5.out).mono ?_);(case side1=>first|exact HG.out|exact Gl.drewN HG.out _|exact Gl.below HG.out (by repeat (first|(with_reducible first|exact HB.out|apply af|apply ae|apply ag)|exact HB.out)));rintro e w10 ⟨rfl,hb⟩;refine ⟨_,rfl,?_⟩;have n0_:=aa.mk (aD (by repeat (first|(with_reducible first|exact HB.out|apply af|apply ae|apply ag)|exact HB.out)) hb);clear HB;have HB:=n0_;clear n0_;(try clear hb);(try clear hb2);(try clear hk);(try clear hi)))
  go_ret3
  exact ⟨by first|rfl|(simp [aM,aK] <;> rfl)|(simp [*,aM,aK] <;> rfl),by repeat (first|(with_reducible first|exact HB.out|apply af|apply ae|apply ag)|exact HB.out)⟩
end Go.Proofs.YthfpaoacjpjnfaaGreatDoor.P

namespace Go.Proofs.YthfpaoacjpjnfaaGreatDoor.P
open Go.RowKit Go.Proofs.YthfpaoacjpjnfaaGreatDoorW.PrintWords Go.Proofs.YthfpaoacjpjnfaaGreatDoorW.PrintLast Go.Proofs.YthfpaoacjpjnfaaGreatDoorW.PrintMore
def pQ (x y:List UInt8):Option (Bool × Bool) :=
  match Lib.atoiAll x,Lib.atoiAll y with
  | .ok n,.ok m=>some (decide (n < m),true)
  | _,_=>none
def nA (r:Int) (x y:ByteArray):Option (Bool × Bool) :=
  if r=1 then some (Op.bytesLess x.toList y.toList,true) else if r=2 then (if x.size≤281474976710656∧y.size≤281474976710656 then pQ x.data.toList y.data.toList else none) else some (false,false)
def gL.f (k:Nat) (a0 a1 a2:ByteArray):Option (Bool × Bool) :=
  (eF.f k a0 a1 a2).bind fun b=>if b.2.2=true then (dx.f a0).bind fun r=>nA r b.1 b.2.1 else some (false,false)
set_option maxHeartbeats 8000000 in
theorem gL.calls (k:Nat) (a0 a1 a2:ByteArray) (r1 r2:Bool) (w:World) (hG:Gl w) (h:gL.f k a0 a1 a2=some (r1,r2)) :
    Calls Tryz.prog 69 #[.string a0,.string a1,.string a2] w fun e w'=>e=.returned (.tuple #[.bool r1,.bool r2])∧Below w.heap.size w w':=by
  unfold gL.f at h
  obtain ⟨⟨x,y,ok⟩,hn,h⟩:=Option.bind_eq_some_iff.1 h
  have HN:=Lib.hid hn
  have HG:=Lib.hid hG
  clear hn hG
  simp only at h
  cases ok with
  | false =>
    rw [if_neg (by simp)] at h
    obtain ⟨rfl,rfl⟩:=Prod.mk.inj (Option.some.inj h)
    clear h
    go_enter Tryz.func69,Tryz.ntmps69
    go_wp2_with (go_at_call 92;refine (eF.calls k a0 a1 a2 x y false _ HG.out HN.out).mono ?_;rintro e w1 ⟨rfl,hb1⟩;have HB1:=Lib.hid hb1;clear hb1)
    go_ret2
    exact ⟨rfl,HB1.out⟩
  | true =>
    rw [if_pos rfl] at h
    obtain ⟨r,hr,h⟩:=Option.bind_eq_some_iff.1 h
    have HR:=Lib.hid hr
    clear hr
    unfold nA at h
    by_cases e1:r=1
    · rw [if_pos e1] at h
      obtain ⟨rfl,rfl⟩:=Prod.mk.inj (Option.some.inj h)
      clear h
      have b1:(r == 1)=true:=beq_iff_eq.2 e1
      clear e1
      go_enter Tryz.func69,Tryz.ntmps69
      go_wp2_with (first
        | (go_at_call 92;refine (eF.calls k a0 a1 a2 x y true _ HG.out HN.out).mono ?_;rintro e w1 ⟨rfl,hb1⟩;have HB1:=Lib.hid hb1;clear hb1)
        | (go_at_call 59;refine (dx.calls a0 r _ HR.out).mono ?_;rintro e w2 ⟨rfl,hb2⟩;have HB2:=Lib.hid hb2;clear hb2))
      go_ret2
      exact ⟨rfl,HB1.out.trans (HB2.out.mono HB1.out.size)⟩
    · have b1:(r == 1)=false:=beq_eq_false_iff_ne.2 e1
      rw [if_neg e1] at h
      by_cases e2:r=2
      · rw [if_pos e2] at h
        by_cases hz:x.size≤281474976710656∧y.size≤281474976710656
        · rw [if_pos hz] at h
          unfold pQ at h
          have nx:∃ n,Lib.atoiAll x.data.toList=.ok n:=by
            cases hx:Lib.atoiAll x.data.toList with
            | ok n=>exact ⟨n,rfl⟩
            | _=>rw [hx] at h;exact absurd h (by simp)
          obtain ⟨n,hx⟩:=nx
          have ny:∃ m,Lib.atoiAll y.data.toList=.ok m:=by
            cases hy:Lib.atoiAll y.data.toList with
            | ok m=>exact ⟨m,rfl⟩
            | _=>rw [hx,hy] at h;exact absurd h (by simp)
          obtain ⟨m,hy⟩:=ny
          · ·
              rw [hx,hy] at h
              obtain ⟨rfl,rfl⟩:=Prod.mk.inj (Option.some.inj h)
              have HX:=Lib.hid hx
              have HY:=Lib.hid hy
              have HZ:=Lib.hid hz
              have b2:(r == 2)=true:=beq_iff_eq.2 e2
              clear h hx hy hz e1 e2
              go_enter Tryz.func69,Tryz.ntmps69
              go_wp2_with (first
                | (go_at_call 92;refine (eF.calls k a0 a1 a2 x y true _ HG.out HN.out).mono ?_;rintro e w1 ⟨rfl,hb1⟩;have HB1:=Lib.hid hb1;clear hb1)
                | (go_at_call 59;refine (dx.calls a0 r _ HR.out).mono ?_;rintro e w2 ⟨rfl,hb2⟩;have HB2:=Lib.hid hb2;clear hb2)
                | fail)
              refine (rD x n HZ.out.1 HX.out _).mono ?_
              rintro e w3 ⟨rfl,hb3⟩
              have HB3:=Lib.hid hb3
              clear hb3
              go_wp2_with fail
              refine (rD y m HZ.out.2 HY.out _).mono ?_
              rintro e w4 ⟨rfl,hb4⟩
              have HB4:=Lib.hid hb4
              clear hb4
              go_wp2_with fail
              go_ret2
              have c1:=HB1.out.trans (HB2.out.mono HB1.out.size)
              have c2:=c1.trans (HB3.out.mono c1.size)
              exact ⟨rfl,c2.trans (HB4.out.mono c2.size)⟩
        · rw [if_neg hz] at h
          cases h
      · rw [if_neg e2] at h
        obtain ⟨rfl,rfl⟩:=Prod.mk.inj (Option.some.inj h)
        have b2:(r == 2)=false:=beq_eq_false_iff_ne.2 e2
        clear h e1 e2
        go_enter Tryz.func69,Tryz.ntmps69
        go_wp2_with (first
          | (go_at_call 92;refine (eF.calls k a0 a1 a2 x y true _ HG.out HN.out).mono ?_;rintro e w1 ⟨rfl,hb1⟩;have HB1:=Lib.hid hb1;clear hb1)
          | (go_at_call 59;refine (dx.calls a0 r _ HR.out).mono ?_;rintro e w2 ⟨rfl,hb2⟩;have HB2:=Lib.hid hb2;clear hb2))
        go_ret2
        exact ⟨rfl,HB1.out.trans (HB2.out.mono HB1.out.size)⟩
end Go.Proofs.YthfpaoacjpjnfaaGreatDoor.P

namespace Go.Proofs.YthfpaoacjpjnfaaGreatDoor.P
open Go.RowKit Go.Proofs.YthfpaoacjpjnfaaGreatDoorW.PrintWords Go.Proofs.YthfpaoacjpjnfaaGreatDoorW.PrintLast Go.Proofs.YthfpaoacjpjnfaaGreatDoorW.PrintMore
attribute [local go_sem] dW dZ eP eQ dL dM dY dX
def iP.f (k:Nat) (a0:ByteArray) (a1:ByteArray) (a2:ByteArray):Option (Bool):=(eF.f k a0 a1 a2).bind fun bt192=>(if bt192.2.2=true then (some (bt192.1.toList == bt192.2.1.toList)) else (some false))
set_option maxHeartbeats 8000000 in
set_option maxRecDepth 100000 in
theorem iP.calls (k:Nat) (a0:ByteArray) (a1:ByteArray) (a2:ByteArray) (r:Bool) (w:World) (hG:Gl w) (h:iP.f k a0 a1 a2=some r) :
  Calls Tryz.prog 68 #[.string a0,.string a1,.string a2] w fun e w'=>e=.returned (.bool r)∧Below w.heap.size w w':=by
 have HB:=aa.mk (Below.refl w.heap.size w)
 have HG:=aa.mk hG
 clear hG
 have H:((eF.f k a0 a1 a2).bind fun bt192=>(if bt192.2.2=true then (some (bt192.1.toList == bt192.2.1.toList)) else (some false)))=some r:=h
 clear h
 replace H:=Option.bind_eq_some_iff.mp H
 obtain ⟨⟨t192,t193,t194⟩,A40,H⟩:=H
 replace H:(if t194=true then (some (t192.toList == t193.toList)) else (some false))=some r:=H
 have A4:=aa.mk A40
 clear A40
 by_cases c5:t194=true
 ·subst c5
  have H1:(some (t192.toList == t193.toList))=some r:=by rw [if_pos rfl] at H;exact H
  clear H
  have H:=H1
  clear H1
  obtain rfl:=Option.some.inj H
  go_enter Tryz.func68,Tryz.ntmps68
  go_wp2_with (first|((with_reducible refine aV (f:=92) rfl ?_);refine bJ (some 14) rfl rfl Tryz.func92 (by kernel_rfl) rfl #[.string a0,.string a1,.string a2] rfl (by (try simp only [List.map_toArray,List.map_cons,List.map_nil]);first|done|rfl|(simp only [List.length_drop,List.length_take];rfl)) ?_;(with_reducible refine (eF.calls k a0 a1 a2 t192 t193 true _ ?side1 A4.out).mono ?_);(case side1=>first|exact HG.out|exact Gl.drewN HG.out _|exact Gl.below HG.out (by repeat (first|(with_reducible first|exact HB.out|apply af|apply ae|apply ag)|exact HB.out)));rintro e w6 ⟨rfl,hb⟩;refine ⟨_,rfl,?_⟩;have n0_:=aa.mk (aD (by repeat (first|(with_reducible first|exact HB.out|apply af|apply ae|apply ag)|exact HB.out)) hb);clear HB;have HB:=n0_;clear n0_;(try clear hb);(try clear hb2);(try clear hk);(try clear hi)))
  go_ret
  exact ⟨by first|rfl|(simp [aM,aK] <;> rfl)|(simp [*,aM,aK] <;> rfl),by repeat (first|(with_reducible first|exact HB.out|apply af|apply ae|apply ag)|exact HB.out)⟩
 ·replace c5:=Bool.eq_false_iff.mpr c5
  subst c5
  have H1:(some false)=some r:=by rw [if_neg (show ¬ (false=true) by decide)] at H;exact H
  clear H
  have H:=H1
  clear H1
  obtain rfl:=Option.some.inj H
  go_enter Tryz.func68,Tryz.ntmps68
  go_wp2_with (first|((with_reducible refine aV (f:=92) rfl ?_);refine bJ (some 14) rfl rfl Tryz.func92 (by kernel_rfl) rfl #[.string a0,.string a1,.string a2] rfl (by (try simp only [List.map_toArray,List.map_cons,List.map_nil]);first|done|rfl|(simp only [List.length_drop,List.length_take];rfl)) ?_;(with_reducible refine (eF.calls k a0 a1 a2 t192 t193 false _ ?side1 A4.out).mono ?_);(case side1=>first|exact HG.out|exact Gl.drewN HG.out _|exact Gl.below HG.out (by repeat (first|(with_reducible first|exact HB.out|apply af|apply ae|apply ag)|exact HB.out)));rintro e w7 ⟨rfl,hb⟩;refine ⟨_,rfl,?_⟩;have n0_:=aa.mk (aD (by repeat (first|(with_reducible first|exact HB.out|apply af|apply ae|apply ag)|exact HB.out)) hb);clear HB;have HB:=n0_;clear n0_;(try clear hb);(try clear hb2);(try clear hk);(try clear hi)))
  go_ret
  exact ⟨by first|rfl|(simp [aM,aK] <;> rfl)|(simp [*,aM,aK] <;> rfl),by repeat (first|(with_reducible first|exact HB.out|apply af|apply ae|apply ag)|exact HB.out)⟩
end Go.Proofs.YthfpaoacjpjnfaaGreatDoor.P


namespace Go.Proofs.YthfpaoacjpjnfaaGreatDoor.P
open Go.RowKit Go.Proofs.YthfpaoacjpjnfaaGreatDoorW.PrintWords Go.Proofs.YthfpaoacjpjnfaaGreatDoorW.PrintLast Go.Proofs.YthfpaoacjpjnfaaGreatDoorW.PrintMore
def qV (l:List UInt8):Int :=
  if l=[117,105,100,110,117,109,98,101,114] then 2 else if l=[109,101,109,98,101,114] then 3 else if l=[117,115,101,114,112,97,115,115,119,111,114,100] then 4 else
  if l=[111,98,106,101,99,116,99,108,97,115,115] then 1 else if l=[99,110] then 1 else if l=[115,110] then 1 else if l=[111] then 1 else if l=[111,117] then 1 else if l=[117,105,100] then 1 else if l=[109,97,105,108] then 1 else
  if l=[100,101,115,99,114,105,112,116,105,111,110] then 1 else 0
def dO (t:List UInt8):Int:=qV (t.map ng)
theorem nC (s:ByteArray):ed.f s=some (qV s.data.toList):=by
  unfold ed.f qV
  rw [toList_data]
  simp only [apply_ite (some (α:=Int))]
theorem lJ (s:ByteArray) (h:s.size≤9223372036854775807):dA.f s=if dO s.data.toList=0 then some (mk [],false) else some (gq s,true):=by
  unfold dA.f dO
  rw [if_pos h,nC,kH]
  rfl
theorem o5 (s:ByteArray) (h:s.size≤9223372036854775807):dx.f s=some (dO s.data.toList):=by
  unfold dx.f
  rw [lJ s h]
  by_cases h0:dO s.data.toList=0
  · rw [if_pos h0,h0]
    show (ed.f (mk [])).bind _=_
    rw [nC]
    rfl
  · rw [if_neg h0]
    show (ed.f (gq s)).bind _=_
    rw [nC,kH]
    rfl
def iC:Option (List UInt8)→ByteArray × Bool
  | some n=>(mk n,true)
  | none=>(mk [],false)
def lg (o:Option (List UInt8)) (t v:List UInt8):Option (List UInt8) :=
  if v=[]∨100 < v.length then none else
  if dO t=1 then (if iH v=[] then none else some (iH v)) else
  if dO t=2 then (if gu v=true then some v else none) else
  if dO t=3 then (if o=some [] then none else o) else
  if dO t=4 then some v else none
theorem Ev.const {α:Type} {g:Nat→Option α} {r:α} (h:∀ k,g k=some r):Ev g r:=⟨0,fun k _=>h k⟩
theorem Ev.ifp {α:Type} {c:Prop} [Decidable c] {f g:Nat→Option α} {r:α} (h:c) (e:Ev f r):Ev (fun k=>if c then f k else g k) r:=Ev.congr (fun k=>if_pos h) e
theorem Ev.ifn {α:Type} {c:Prop} [Decidable c] {f g:Nat→Option α} {r:α} (h:¬ c) (e:Ev g r):Ev (fun k=>if c then f k else g k) r:=Ev.congr (fun k=>if_neg h) e
theorem Ev.bs {α β:Type} {a:α} {f:Nat→α→Option β} {r:β} (e:Ev (fun k=>f k a) r):Ev (fun k=>(some a).bind (f k)) r:=e
theorem ww (t v:ByteArray) (o:Option (List UInt8)) (ht:t.size≤9223372036854775807)
    (hk:v.size≤100→dO t.data.toList=3→Ev (fun k=>jh.f k v) (iC o)) :
    Ev (fun k=>bM.f k t v) (iC (lg o t.data.toList v.data.toList)):=by
  by_cases h0:v.data.toList=[]
  · have:lg o t.data.toList v.data.toList=none:=by unfold lg;rw [if_pos (Or.inl h0)]
    rw [this]
    refine ⟨1,fun k hk=>?_⟩
    obtain ⟨k,rfl⟩:∃ j,k=j+1:=⟨k - 1,by omega⟩
    simp only [bM.f]
    rw [toList_data,if_pos h0]
    rfl
  by_cases h1:100 < v.data.toList.length
  · have:lg o t.data.toList v.data.toList=none:=by unfold lg;rw [if_pos (Or.inr h1)]
    rw [this]
    refine ⟨1,fun k hk=>?_⟩
    obtain ⟨k,rfl⟩:∃ j,k=j+1:=⟨k - 1,by omega⟩
    simp only [bM.f]
    rw [toList_data,if_neg h0,show decide ((v.size:Int) > 100)=true from decide_eq_true (by rw [dU];omega)]
    rfl
  have hn:lg o t.data.toList v.data.toList=(if dO t.data.toList=1 then (if iH v.data.toList=[] then none else some (iH v.data.toList)) else
      if dO t.data.toList=2 then (if gu v.data.toList=true then some v.data.toList else none) else
      if dO t.data.toList=3 then (if o=some [] then none else o) else
      if dO t.data.toList=4 then some v.data.toList else none):=by
    unfold lg
    rw [if_neg (by intro h;rcases h with h|h;exact h0 h;exact h1 h)]
  rw [hn]
  clear hn
  have hv:v.size≤100:=by rw [dU];omega
  have key:Ev (fun k=>bM.j0 k t v false) (iC (if dO t.data.toList=1 then (if iH v.data.toList=[] then none else some (iH v.data.toList)) else
      if dO t.data.toList=2 then (if gu v.data.toList=true then some v.data.toList else none) else
      if dO t.data.toList=3 then (if o=some [] then none else o) else
      if dO t.data.toList=4 then some v.data.toList else none)):=by
    refine Ev.step (fun k=>by rw [bM.j0,if_neg Bool.false_ne_true,o5 t ht,Option.bind_some]) ?_
    by_cases r1:dO t.data.toList=1
    · simp only [if_pos r1]
      unfold ig.f
      rw [if_pos (by omega)]
      refine Ev.const fun k=>?_
      rw [Option.bind_some,gV]
      by_cases hf:iH v.data.toList=[]
      · rw [if_pos hf,if_pos hf];rfl
      · rw [if_neg hf,if_neg hf];rfl
    simp only [if_neg r1]
    by_cases r2:dO t.data.toList=2
    · simp only [if_pos r2]
      unfold eB.f
      rw [if_pos (by omega)]
      refine Ev.const fun k=>?_
      rw [Option.bind_some]
      by_cases hf:gu v.data.toList=true
      · rw [if_pos hf,if_pos hf,toList_data,if_neg h0];rfl
      · rw [if_neg hf,if_neg hf];rfl
    simp only [if_neg r2]
    by_cases r3:dO t.data.toList=3
    · simp only [if_pos r3]
      refine (hk hv r3).bind (Ev.const fun k=>?_)
      cases o with
      | none=>rfl
      | some n =>
        by_cases hn:n=[]
        · subst hn
          show (if true=true then (if (mk []).toList=[] then _ else _) else _)=_
          rw [if_pos rfl,if_pos (gV []),if_pos rfl];rfl
        · show (if true=true then (if (mk n).toList=[] then _ else _) else _)=_
          rw [if_pos rfl,gV,if_neg hn,if_neg (by intro h;exact hn (Option.some.inj h))];rfl
    simp only [if_neg r3]
    by_cases r4:dO t.data.toList=4
    · simp only [if_pos r4]
      refine Ev.const fun k=>?_
      rw [toList_data,if_neg h0];rfl
    · simp only [if_neg r4]
      exact Ev.const fun k=>rfl
  refine Ev.congr (fun k=>?_) key
  simp only [bM.f]
  rw [toList_data,if_neg h0,show decide ((v.size:Int) > 100)=false from decide_eq_false (by omega)]
def uD (x y:Option (List UInt8)):Bool :=
  match x,y with
  | some a,some b=>a == b
  | _,_=>false
theorem ql {t a b:ByteArray} {x y:Option (List UInt8)} (ha:Ev (fun k=>bM.f k t a) (iC x)) (hb:Ev (fun k=>bM.f k t b) (iC y)) :
    Ev (fun k=>eF.f k t a b) ((iC x).1,(iC y).1,(x.isSome && y.isSome)):=by
  unfold eF.f
  refine ha.bind (hb.bind (Ev.const fun k=>?_))
  cases x <;> cases y <;> rfl
theorem vH {t a b:ByteArray} {x y:Option (List UInt8)} (ha:Ev (fun k=>bM.f k t a) (iC x)) (hb:Ev (fun k=>bM.f k t b) (iC y)) :
    Ev (fun k=>iP.f k t a b) (uD x y):=by
  unfold iP.f
  refine (ql ha hb).bind (Ev.const fun k=>?_)
  cases x with
  | none=>rfl
  | some x=>cases y with
    | none=>rfl
    | some y=>show (if true=true then some ((mk x).toList == (mk y).toList) else _)=_;rw [if_pos rfl,gV,gV];rfl
theorem vN {t a b:ByteArray} {x y:Option (List UInt8)} {p:Bool × Bool} (ht:t.size≤9223372036854775807) (ha:Ev (fun k=>bM.f k t a) (iC x)) (hb:Ev (fun k=>bM.f k t b) (iC y))
    (h:(if (x.isSome && y.isSome)=true then nA (dO t.data.toList) (iC x).1 (iC y).1 else some (false,false))=some p) :
    Ev (fun k=>gL.f k t a b) p:=by
  unfold gL.f
  refine (ql ha hb).bind (Ev.const fun k=>?_)
  rw [o5 t ht,Option.bind_some]
  exact h
def vD (c:UInt8):Bool:=(decide (48≤c) && decide (c≤57)) || (decide (97≤c) && decide (c≤102)) || (decide (65≤c) && decide (c≤70))
def wM (c:UInt8):UInt8:=if c≤57 then c - 48 else if c≤70 then c - 55 else c - 87
def escN:List UInt8→Option (UInt8 × Nat)
  | []=>none
  | c :: r=>if (nH c || c == 61 || c == 35 || c == 32)=true then some (c,1) else
    match r with
    | []=>none
    | d :: _=>if (vD c && vD d)=true then some (wM c * 16+wM d,2) else none
def badB (first:Bool) (c:UInt8):Bool:=decide (c < 32) || decide (126 < c) || nH c || (first && (c == 35 || c == 32))
def xB (first sp:Bool):List UInt8→Option (List UInt8 × List UInt8)
  | []=>if sp=true then none else some ([],[])
  | c :: r=>if c=44 then (if sp=true then none else some ([],c :: r)) else
    if c=92 then (match escN r with|none=>none|some (b,n)=>(xB false false (r.drop n)).map fun p=>(b :: p.1,p.2)) else
    if badB first c=true then none else (xB false (c == 32) r).map fun p=>(c :: p.1,p.2)
termination_by l=>l.length
decreasing_by all_goals (simp only [List.length_drop,List.length_cons];omega)
theorem sM (l:List UInt8) (i:Nat) (h:i < l.length):l.drop i=l.getD i 0 :: l.drop (i+1):=by
  rw [List.drop_eq_getElem_cons h,List.getD_eq_getElem?_getD,List.getElem?_eq_getElem h];rfl
theorem wrap_small (n:Int) (h0:0≤n) (h1:n≤9223372036854775807):wrap64 n=n:=by
  first
    | exact wrap64_small n (by omega) (by omega)
    | (unfold wrap64;simp only [Int.emod_def];omega)
abbrev PR:=List UInt8 × List UInt8
def wI:List UInt8→Option (List UInt8 × List UInt8)
  | []=>none
  | c :: r=>if c=61 then some ([],r) else (wI r).map fun p=>(c :: p.1,p.2)
def uB:Nat→List UInt8→Option (List PR)
  | 0,_=>none
  | m+1,l=>match wI l with
    | none=>none
    | some (t,v)=>if gp t=true then (match xB true false v with
      | none=>none
      | some (x,[])=>some [(t,x)]
      | some (x,_ :: r)=>(uB m r).map fun y=>(t,x) :: y) else none
def okV (p:PR):Bool:=!p.2.isEmpty && decide (p.2.length≤100)
def xC (l:List UInt8):Option (List PR):=if l=[] then some [] else (uB 8 l).bind fun rs=>if rs.all okV=true then some rs else none
def xN (first:Bool):List UInt8→List UInt8
  | []=>[]
  | c :: r=>(if oddB c=true then [92,yl (c >>> 4),yl (c &&& 15)] else if (nH c || (first && (decide (c=35) || decide (c=32))) || (decide (r=[]) && decide (c=32)))=true then [92,c] else [c])++xN false r
def wG (first:Bool):List PR→List UInt8
  | []=>[]
  | p :: r=>(if first=true then [] else [44])++(p.1++[61]++xN true p.2)++wG false r
def yg (p:PR):PR:=(p.1.map ng,iH p.2)
def keyR (rs:List PR):Option (List UInt8):=if rs.all (fun p=>!(iH p.2).isEmpty)=true then some (wG true (rs.map yg)) else none
def keyL (l:List UInt8):Option (List UInt8):=(xC l).bind keyR
theorem tT (l:List UInt8):(iH l).length≤l.length:=by
  unfold iH
  have h:=kg ((Lib.trimB l 32).map ng) _ (Nat.le_refl _)
  rw [List.take_length,List.length_map] at h
  exact Nat.le_trans h (oK l)
def fK (t v:List UInt8):Option (List UInt8):=lg (keyL v) t v
end Go.Proofs.YthfpaoacjpjnfaaGreatDoor.P

namespace Go.Proofs.YthfpaoacjpjnfaaGreatDoor.P
open Go.RowKit Go.Proofs.YthfpaoacjpjnfaaGreatDoorW.PrintWords Go.Proofs.YthfpaoacjpjnfaaGreatDoorW.PrintLast Go.Proofs.YthfpaoacjpjnfaaGreatDoorW.PrintMore
attribute [local go_sem] dW dZ eP eQ dL dM dY dX
end Go.Proofs.YthfpaoacjpjnfaaGreatDoor.P

namespace Go.Proofs.YthfpaoacjpjnfaaGreatDoor.P
open Go.RowKit Go.Proofs.YthfpaoacjpjnfaaGreatDoorW.PrintWords Go.Proofs.YthfpaoacjpjnfaaGreatDoorW.PrintLast Go.Proofs.YthfpaoacjpjnfaaGreatDoorW.PrintMore
theorem one_byte (w:World) (c:Int):(convert 34 9 (.slice (some ⟨w.heap.size,0,none⟩) 1 1)).run Tryz.prog (w.alloc (.cells #[.int .u8 c] 5))=.ok (.string (strOfNums [c])) (w.alloc (.cells #[.int .u8 c] 5)):=by
  refine run_convert_bytes_arg _ _ _ Tryz.underlying34 Tryz.underlying5 _ 0 1 1 [c] rfl (fun i hi=>?_) _ Tryz.underlying9
  obtain rfl:i=0:=by omega
  simp
theorem jk (n:Nat) (h:10≤n):Lib.decDigits n=Lib.decDigits (n / 10)++[UInt8.ofNat (48+n % 10)]:=by
  rw [Lib.decDigits,dif_neg (by omega)]
theorem gJ (n:Nat) (h:n < 10):Lib.decDigits n=[UInt8.ofNat (48+n)]:=by
  rw [Lib.decDigits,dif_pos h]
theorem nY (n:Nat):n < 18446744073709551616→(Lib.decDigits n).length≤20:=by
  intro h
  have key:∀ d m:Nat,m < 10 ^ (d+1)→(Lib.decDigits m).length≤d+1:=by
    intro d
    induction d with
    | zero=>intro m hm;rw [gJ m (by omega)];simp
    | succ d ih =>
      intro m hm
      by_cases h1:m < 10
      · rw [gJ m h1];simp
      · rw [jk m (by omega),List.length_append]
        have:=ih (m / 10) (by rw [Nat.pow_succ] at hm;omega)
        simp;omega
  exact key 19 n (by omega)
theorem kL (d:Nat) (h:d < 10):strOfNums [48+(d:Int)]=mk [UInt8.ofNat (48+d)]:=by
  apply qU
  rw [strOfNums_data,mk_data]
  simp only [List.map_cons,List.map_nil]
  rw [show (48+(d:Int)).toNat=48+d from by omega]
theorem iN (a b:List UInt8):mk a++mk b=mk (a++b):=by apply qU;rw [ja,mk_data,mk_data,mk_data]
def bF.f (a0:Int):Option ByteArray:=if -9223372036854775808≤a0∧a0≤9223372036854775807 then some (mk (Lib.itoa a0)) else none
set_option maxHeartbeats 8000000 in
theorem bF.any (n:Int) (hn0:-9223372036854775808≤n) (hn1:n≤9223372036854775807) (w:World) :
    Calls Tryz.prog 23 #[.int .i64 n] w fun e w'=>e=.returned (.string (mk (Lib.itoa n)))∧Below w.heap.size w w':=by
  have hob:=one_byte
  obtain ⟨m,hm⟩:∃ m:Nat,n.natAbs=m:=⟨_,rfl⟩
  have hm2:m≤9223372036854775808:=by omega
  have hml:=nY m (by omega)
  by_cases hneg:n < 0
  · have d0:decide (n < 0)=true:=decide_eq_true hneg
    have hw:IntKind.u64.wrap (-IntKind.u64.wrap n)=(m:Int):=by rw [IntKind.wrap_u64,IntKind.wrap_u64];omega
    have hit:Lib.itoa n=45 :: Lib.decDigits m:=by unfold Lib.itoa;rw [if_pos hneg,hm]
    rw [hit]
    have HW:=Lib.hid hw
    clear hm hit
    go_enter Tryz.func23,Tryz.ntmps23
    go_wp2
    clear hw
    go_loopw [3,4] (fun x s wr=>∃ (u:Nat) (ui:Int) (t:List UInt8),0≤ui∧ui≤9223372036854775808∧aa (ui=(u:Int))∧x=.int .u64 ui∧s=.string (mk t)∧aa (Below w.heap.size w wr)∧aa (Lib.decDigits m=Lib.decDigits u++t)) (fun x _ _=>(intOf x).toNat)
    case atStart=>exact ⟨m,m,[],by omega,by omega,⟨rfl⟩,by first|rfl|(rw [HW.out]),rfl,⟨Below.refl _ _⟩,⟨by simp⟩⟩
    case round =>
      obtain ⟨u,ui,t,h0,h1,HU,rfl,rfl,HB,HE⟩:=hrel
      have htl:t.length≤20:=by have:=congrArg List.length HE.out;rw [List.length_append] at this;omega
      obtain ⟨T,hT⟩:∃ T,mk t=T:=⟨_,rfl⟩
      have hts:T.size≤20:=by rw [← hT,iX];exact htl
      rw [hT]
      have HT:=Lib.hid hT
      clear hT htl
      by_cases hu:10≤ui
      · obtain ⟨d,hd⟩:∃ d:Int,ui % 10=d:=⟨_,rfl⟩
        have hd0:0≤d∧d≤9:=by omega
        have HD:=Lib.hid hd
        obtain ⟨D,hD⟩:∃ D,strOfNums [48+d]=D:=⟨_,rfl⟩
        have hDs:D.size=1:=by rw [← hD,strOfNums_size];rfl
        have hsz:D.size+T.size≤9223372036854775807:=by omega
        have hd1:0≤d:=hd0.1
        have hd2:d≤9:=hd0.2
        have HDD:=Lib.hid hD
        clear hd0 hDs
        go_wp2_with fail
        have hdu:d=((u % 10:Nat):Int):=by have:=HU.out;omega
        have hDm:D=mk [UInt8.ofNat (48+u % 10)]:=by rw [← HDD.out,hdu];exact kL _ (by omega)
        refine ⟨⟨u / 10,ui / 10,[UInt8.ofNat (48+u % 10)]++t,by omega,by omega,⟨by have:=HU.out;omega⟩,rfl,?_,⟨HB.out.alloc HB.out.size _⟩,⟨?_⟩⟩,by simp [intOf];omega⟩
        · rw [hDm,← HT.out,iN]
        · rw [HE.out,jk u (by have:=HU.out;omega),List.append_assoc]
      · obtain ⟨D,hD⟩:∃ D,strOfNums [48+ui]=D:=⟨_,rfl⟩
        have hDs:D.size=1:=by rw [← hD,strOfNums_size];rfl
        have hsz:D.size+T.size≤9223372036854775807:=by omega
        have hu9:ui≤9:=by omega
        have hDT:(D++T).size≤21:=by
          rw [dU,ja,List.length_append,← dU,← dU];omega
        obtain ⟨E,hE⟩:∃ E,D++T=E:=⟨_,rfl⟩
        rw [hE] at hDT
        have hfin:E=mk (Lib.decDigits m):=by
          have hu2:u < 10:=by have:=HU.out;omega
          rw [HE.out,gJ u hu2,← hE,← hD,HU.out,kL u hu2,← HT.out,iN]
        have hsz2:(1:Nat)+E.size≤9223372036854775807:=by omega
        have hsz3:(⟨#[45]⟩:ByteArray).size+E.size≤9223372036854775807:=by
          rw [show (⟨#[45]⟩:ByteArray).size=1 from rfl];omega
        have HD:=Lib.hid hD
        have HFIN:=Lib.hid hfin
        clear hDs hfin
        go_wp2_with fail
        go_ret
        refine ⟨?_,HB.out.alloc HB.out.size _⟩
        have hF:=HFIN.out
        first
        | (rw [hF];done)
        | (show Ending.returned (.string _)=_;rw [hE,hF];rfl)
        | (show Ending.returned (.string _)=_;rw [hF];rfl)
        | (rw [hF,show (⟨#[45]⟩:ByteArray)=mk [45] from rfl,iN];rfl)
        | (show Ending.returned (.string E)=_;rw [hF])
  · have d0:decide (n < 0)=false:=decide_eq_false hneg
    have hw:IntKind.u64.wrap n=(m:Int):=by rw [IntKind.wrap_u64];omega
    have hit:Lib.itoa n=Lib.decDigits m:=by unfold Lib.itoa;rw [if_neg hneg,show n.toNat=m by omega]
    rw [hit]
    have HW:=Lib.hid hw
    clear hm hit
    go_enter Tryz.func23,Tryz.ntmps23
    go_wp2
    clear hw
    go_loopw [3,4] (fun x s wr=>∃ (u:Nat) (ui:Int) (t:List UInt8),0≤ui∧ui≤9223372036854775808∧aa (ui=(u:Int))∧x=.int .u64 ui∧s=.string (mk t)∧aa (Below w.heap.size w wr)∧aa (Lib.decDigits m=Lib.decDigits u++t)) (fun x _ _=>(intOf x).toNat)
    case atStart=>exact ⟨m,m,[],by omega,by omega,⟨rfl⟩,by first|rfl|(rw [HW.out]),rfl,⟨Below.refl _ _⟩,⟨by simp⟩⟩
    case round =>
      obtain ⟨u,ui,t,h0,h1,HU,rfl,rfl,HB,HE⟩:=hrel
      have htl:t.length≤20:=by have:=congrArg List.length HE.out;rw [List.length_append] at this;omega
      obtain ⟨T,hT⟩:∃ T,mk t=T:=⟨_,rfl⟩
      have hts:T.size≤20:=by rw [← hT,iX];exact htl
      rw [hT]
      have HT:=Lib.hid hT
      clear hT htl
      by_cases hu:10≤ui
      · obtain ⟨d,hd⟩:∃ d:Int,ui % 10=d:=⟨_,rfl⟩
        have hd0:0≤d∧d≤9:=by omega
        have HD:=Lib.hid hd
        obtain ⟨D,hD⟩:∃ D,strOfNums [48+d]=D:=⟨_,rfl⟩
        have hDs:D.size=1:=by rw [← hD,strOfNums_size];rfl
        have hsz:D.size+T.size≤9223372036854775807:=by omega
        have hd1:0≤d:=hd0.1
        have hd2:d≤9:=hd0.2
        have HDD:=Lib.hid hD
        clear hd0 hDs
        go_wp2_with fail
        have hdu:d=((u % 10:Nat):Int):=by have:=HU.out;omega
        have hDm:D=mk [UInt8.ofNat (48+u % 10)]:=by rw [← HDD.out,hdu];exact kL _ (by omega)
        refine ⟨⟨u / 10,ui / 10,[UInt8.ofNat (48+u % 10)]++t,by omega,by omega,⟨by have:=HU.out;omega⟩,rfl,?_,⟨HB.out.alloc HB.out.size _⟩,⟨?_⟩⟩,by simp [intOf];omega⟩
        · rw [hDm,← HT.out,iN]
        · rw [HE.out,jk u (by have:=HU.out;omega),List.append_assoc]
      · obtain ⟨D,hD⟩:∃ D,strOfNums [48+ui]=D:=⟨_,rfl⟩
        have hDs:D.size=1:=by rw [← hD,strOfNums_size];rfl
        have hsz:D.size+T.size≤9223372036854775807:=by omega
        have hu9:ui≤9:=by omega
        have hDT:(D++T).size≤21:=by
          rw [dU,ja,List.length_append,← dU,← dU];omega
        obtain ⟨E,hE⟩:∃ E,D++T=E:=⟨_,rfl⟩
        rw [hE] at hDT
        have hfin:E=mk (Lib.decDigits m):=by
          have hu2:u < 10:=by have:=HU.out;omega
          rw [HE.out,gJ u hu2,← hE,← hD,HU.out,kL u hu2,← HT.out,iN]
        have hsz2:(1:Nat)+E.size≤9223372036854775807:=by omega
        have hsz3:(⟨#[45]⟩:ByteArray).size+E.size≤9223372036854775807:=by
          rw [show (⟨#[45]⟩:ByteArray).size=1 from rfl];omega
        have HD:=Lib.hid hD
        have HFIN:=Lib.hid hfin
        clear hDs hfin
        go_wp2_with fail
        go_ret
        refine ⟨?_,HB.out.alloc HB.out.size _⟩
        have hF:=HFIN.out
        first
        | (rw [hF];done)
        | (show Ending.returned (.string _)=_;rw [hE,hF];rfl)
        | (show Ending.returned (.string _)=_;rw [hF];rfl)
        | (rw [hF,show (⟨#[45]⟩:ByteArray)=mk [45] from rfl,iN];rfl)
        | (show Ending.returned (.string E)=_;rw [hF])
theorem bF.calls (a0:Int) (r:ByteArray) (w:World) (h:bF.f a0=some r) :
    Calls Tryz.prog 23 #[.int .i64 a0] w fun e w'=>e=.returned (.string r)∧Below w.heap.size w w':=by
  unfold bF.f at h
  by_cases hs:-9223372036854775808≤a0∧a0≤9223372036854775807
  · rw [if_pos hs] at h
    obtain rfl:=Option.some.inj h
    exact bF.any a0 hs.1 hs.2 w
  · rw [if_neg hs] at h
    cases h
end Go.Proofs.YthfpaoacjpjnfaaGreatDoor.P

namespace Go.Proofs.YthfpaoacjpjnfaaGreatDoor.P
open Go.RowKit Go.Proofs.YthfpaoacjpjnfaaGreatDoorW.PrintWords Go.Proofs.YthfpaoacjpjnfaaGreatDoorW.PrintLast Go.Proofs.YthfpaoacjpjnfaaGreatDoorW.PrintMore
attribute [local go_sem] dW dZ eP eQ dL dM dY dX
def cK.f (a0:Int):Option (Bool):=if a0 ≥ 97 then (if a0≤122 then (some true) else (if a0 ≥ 65 then (some (decide (a0≤90))) else (some false))) else (if a0 ≥ 65 then (some (decide (a0≤90))) else (some false))
set_option maxHeartbeats 8000000 in
set_option maxRecDepth 100000 in
theorem cK.calls (a0:Int) (r:Bool) (w:World) (h:cK.f a0=some r) :
  Calls Tryz.prog 95 #[.int .u8 a0] w fun e w'=>e=.returned (.bool r)∧bg w w':=by
 have H:(if a0 ≥ 97 then (if a0≤122 then (some true) else (if a0 ≥ 65 then (some (decide (a0≤90))) else (some false))) else (if a0 ≥ 65 then (some (decide (a0≤90))) else (some false)))=some r:=h
 clear h
 by_cases c2:a0 ≥ 97
 ·rw [if_pos c2] at H
  have c2b0:decide (97≤a0)=true:=decide_eq_true c2
  clear c2
  by_cases c3:a0≤122
  ·rw [if_pos c3] at H
   have c3b0:decide (a0≤122)=true:=decide_eq_true c3
   clear c3
   obtain rfl:=Option.some.inj H
   go_enter Tryz.func95,Tryz.ntmps95
   go_wp2
   go_ret
   exact ⟨by first|rfl|(simp;done)|(simp [*];done)|(simp [*,aT,aU,bU];done)|(simp only [ay,ax];done)|(simp only [ay,ax];simp;done)|(simp only [ay,ax];simp [*];done),by repeat (first|exact bg.refl _|apply bg.step)⟩
  ·rw [if_neg c3] at H
   have c3b0:decide (a0≤122)=false:=decide_eq_false c3
   clear c3
   by_cases c4:a0 ≥ 65
   ·rw [if_pos c4] at H
    have c4b0:decide (65≤a0)=true:=decide_eq_true c4
    clear c4
    obtain rfl:=Option.some.inj H
    go_enter Tryz.func95,Tryz.ntmps95
    go_wp2
    go_ret
    exact ⟨by first|rfl|(simp;done)|(simp [*];done)|(simp [*,aT,aU,bU];done)|(simp only [ay,ax];done)|(simp only [ay,ax];simp;done)|(simp only [ay,ax];simp [*];done),by repeat (first|exact bg.refl _|apply bg.step)⟩
   ·rw [if_neg c4] at H
    have c4b0:decide (65≤a0)=false:=decide_eq_false c4
    clear c4
    obtain rfl:=Option.some.inj H
    go_enter Tryz.func95,Tryz.ntmps95
    go_wp2
    go_ret
    exact ⟨by first|rfl|(simp;done)|(simp [*];done)|(simp [*,aT,aU,bU];done)|(simp only [ay,ax];done)|(simp only [ay,ax];simp;done)|(simp only [ay,ax];simp [*];done),by repeat (first|exact bg.refl _|apply bg.step)⟩
 ·rw [if_neg c2] at H
  have c2b0:decide (97≤a0)=false:=decide_eq_false c2
  clear c2
  by_cases c5:a0 ≥ 65
  ·rw [if_pos c5] at H
   have c5b0:decide (65≤a0)=true:=decide_eq_true c5
   clear c5
   obtain rfl:=Option.some.inj H
   go_enter Tryz.func95,Tryz.ntmps95
   go_wp2
   go_ret
   exact ⟨by first|rfl|(simp;done)|(simp [*];done)|(simp [*,aT,aU,bU];done)|(simp only [ay,ax];done)|(simp only [ay,ax];simp;done)|(simp only [ay,ax];simp [*];done),by repeat (first|exact bg.refl _|apply bg.step)⟩
  ·rw [if_neg c5] at H
   have c5b0:decide (65≤a0)=false:=decide_eq_false c5
   clear c5
   obtain rfl:=Option.some.inj H
   go_enter Tryz.func95,Tryz.ntmps95
   go_wp2
   go_ret
   exact ⟨by first|rfl|(simp;done)|(simp [*];done)|(simp [*,aT,aU,bU];done)|(simp only [ay,ax];done)|(simp only [ay,ax];simp;done)|(simp only [ay,ax];simp [*];done),by repeat (first|exact bg.refl _|apply bg.step)⟩
mutual
def bi.j0:Nat→ByteArray→Bool→Option (Bool)
 | 0,_,_=>none
 | k+1,x0,x16=>if x16=true then (some false) else (bi.l0 k x0 0)
def bi.l0:Nat→ByteArray→Int→Option (Bool)
 | 0,_,_=>none
 | k+1,x0,x3=>if x3 < (x0.size:Int) then (if 0≤x3 then ((cK.f (bt x0 x3)).bind fun t227=>(if t227=true then (bi.l0 k x0 (wrap64 (x3+1))) else (if (bt x0 x3) < 48 then (if (bt x0 x3)=45 then (bi.l0 k x0 (wrap64 (x3+1))) else (some false)) else (if (bt x0 x3) > 57 then (if (bt x0 x3)=45 then (bi.l0 k x0 (wrap64 (x3+1))) else (some false)) else (bi.l0 k x0 (wrap64 (x3+1))))))) else (none)) else (some true)
end
def bi.f (k:Nat) (a0:ByteArray):Option (Bool):=if a0.toList=([]:List UInt8) then (bi.j0 k a0 true) else (if (a0.size:Int) > 30 then (bi.j0 k a0 true) else (if 0 < (a0.size:Int) then ((cK.f (bt a0 0)).bind fun t226=>(bi.j0 k a0 (!t226))) else (none)))
set_option maxHeartbeats 8000000 in
set_option maxRecDepth 100000 in
theorem bi.calls (k:Nat) (a0:ByteArray) (r:Bool) (w:World) (h:bi.f k a0=some r) :
  Calls Tryz.prog 74 #[.string a0] w fun e w'=>e=.returned (.bool r)∧bg w w':=by
 have H:(if a0.toList=([]:List UInt8) then (bi.j0 k a0 true) else (if (a0.size:Int) > 30 then (bi.j0 k a0 true) else (if 0 < (a0.size:Int) then ((cK.f (bt a0 0)).bind fun t226=>(bi.j0 k a0 (!t226))) else (none))))=some r:=h
 clear h
 have HC2:=aa.mk H
 clear H
 go_enter Tryz.func74,Tryz.ntmps74
 go_upto_region 1 with (fail)
 go_cut [16] (fun v16 wc=>∃ (kq:Nat) (x16_1:Bool),v16=.bool x16_1∧aa (bi.j0 kq a0 x16_1=some r)∧aa (kq≤k)∧bg w wc)
 case first =>
  have H:=HC2.out
  clear HC2
  by_cases c3:a0.toList=([]:List UInt8)
  ·rw [if_pos c3] at H
   have c3b0:(a0.toList == ([]:List UInt8))=true:=beq_iff_eq.mpr c3
   have c3b1:(a0.toList != ([]:List UInt8))=false:=bne_eq_false_iff_eq.mpr c3
   clear c3
   (first|rw [c3b0]|(simp only [aT,aU];rw [c3b0])|skip)
   have H':=aa.mk H
   clear H
   go_wp2
   go_meet
   case rel=>exact ⟨_,(true),(by first|rfl|(simp;done)|(simp [*];done)|(simp [*,aT,aU,bU];done)|(simp only [ay,ax];done)|(simp only [ay,ax];simp;done)|(simp only [ay,ax];simp [*];done)),H',⟨by first|omega|exact Nat.le_refl _⟩,by repeat (first|exact bg.refl _|apply bg.step)⟩
  ·rw [if_neg c3] at H
   have c3b0:(a0.toList == ([]:List UInt8))=false:=beq_eq_false_iff_ne.mpr c3
   have c3b1:(a0.toList != ([]:List UInt8))=true:=bne_iff_ne.mpr c3
   (first|rw [c3b0]|(simp only [aT,aU];rw [c3b0])|skip)
   by_cases c4:(a0.size:Int) > 30
   ·rw [if_pos c4] at H
    have c4b0:decide (30 < (a0.size:Int))=true:=decide_eq_true c4
    have c4b1:decide (30 < a0.size)=true:=decide_eq_true (by omega)
    clear c4
    have H':=aa.mk H
    clear H
    go_wp2
    go_meet
    case rel=>exact ⟨_,(true),(by first|rfl|(simp;done)|(simp [*];done)|(simp [*,aT,aU,bU];done)|(simp only [ay,ax];done)|(simp only [ay,ax];simp;done)|(simp only [ay,ax];simp [*];done)),H',⟨by first|omega|exact Nat.le_refl _⟩,by repeat (first|exact bg.refl _|apply bg.step)⟩
   ·rw [if_neg c4] at H
    have c4b0:decide (30 < (a0.size:Int))=false:=decide_eq_false c4
    have c4b1:decide (30 < a0.size)=false:=decide_eq_false (by omega)
    clear c4
    by_cases c5:0 < (a0.size:Int)
    ·rw [if_pos c5] at H
     have c5b0:decide (0 < (a0.size:Int))=true:=decide_eq_true c5
     have c5b1:decide (0 < a0.size)=true:=decide_eq_true (by omega)
     clear c5
     replace H:=Option.bind_eq_some_iff.mp H
     obtain ⟨t226,A70,H⟩:=H
     replace H:(bi.j0 k a0 (!t226))=some r:=H
     have A7:=aa.mk A70
     clear A70
     have H':=aa.mk H
     clear H
     have p6:0≤(0:Int):=(by omega)
     have q6:0 < a0.size:=(by have:(0:Int) < (a0.size:Int):=of_decide_eq_true (by first|(with_reducible assumption)|assumption);omega)
     have hx6:∀ h:0 < a0.size,((a0[0]'h).toNat:Int)=bt a0 0:=gU a0 0
     clear p6
     have qi6:(0 < (a0.size:Int))=True:=eq_true (of_decide_eq_true (by first|(with_reducible assumption)|assumption))
     replace q6:=eq_true q6
     go_wp2_with (first|(go_at_call 95;(with_reducible refine (cK.calls (bt a0 0) t226 _ A7.out).mono ?_);rintro e w' ⟨rfl,⟨nd,rfl⟩⟩))
     go_meet
     case rel=>exact ⟨_,(!t226),(by first|rfl|(simp;done)|(simp [*];done)|(simp [*,aT,aU,bU];done)|(simp only [ay,ax];done)|(simp only [ay,ax];simp;done)|(simp only [ay,ax];simp [*];done)),H',⟨by first|omega|exact Nat.le_refl _⟩,by repeat (first|exact bg.refl _|apply bg.step)⟩
    ·rw [if_neg c5] at H
     exact absurd H (by simp)
 case rest =>
  clear HC2
  try clear p2
  try clear c3
  try clear c3b0
  try clear c3b1
  try clear c4
  try clear c4b0
  try clear c4b1
  try clear c5
  try clear c5b0
  try clear c5b1
  try clear p6
  try clear q6
  try clear hx6
  try clear qi6
  try clear c7
  try clear p6
  try clear q6
  obtain ⟨kq,x16_1,rfl,HA,HJ1,⟨mc1,rfl⟩⟩:=hcut
  cases kq with
  | zero=>exact absurd HA.out (by simp [bi.j0])
  | succ kj1 =>
   have H:=HA.out
   clear HA
   simp only [bi.j0] at H
   by_cases c8:x16_1=true
   ·subst c8
    have H1:(some false)=some r:=by rw [if_pos rfl] at H;exact H
    clear H
    have H:=H1
    clear H1
    obtain rfl:=Option.some.inj H
    go_wp2
    go_ret
    exact ⟨by first|rfl|(simp;done)|(simp [*];done)|(simp [*,aT,aU,bU];done)|(simp only [ay,ax];done)|(simp only [ay,ax];simp;done)|(simp only [ay,ax];simp [*];done),by repeat (first|exact bg.refl _|apply bg.step)⟩
   ·replace c8:=Bool.eq_false_iff.mpr c8
    subst c8
    have H1:(bi.l0 kj1 a0 0)=some r:=by rw [if_neg (show ¬ (false=true) by decide)] at H;exact H
    clear H
    have H:=H1
    clear H1
    have H':=aa.mk H
    clear H
    go_wp2
    go_loopg [3] kj1 (fun kq v3 w'=>∃ (x3_2:Int),v3=.int .i64 x3_2∧aa (bi.l0 kq a0 x3_2=some r)∧aa (kq≤kj1)∧bg w w')
    case atStart=>exact ⟨(0),(by first|rfl|(simp;done)|(simp [*];done)|(simp [*,aT,aU,bU];done)|(simp only [ay,ax];done)|(simp only [ay,ax];simp;done)|(simp only [ay,ax];simp [*];done)),H',⟨Nat.le_refl _⟩,by repeat (first|exact bg.refl _|apply bg.step)⟩
    case round =>
     clear H'
     try clear c1
     try clear p2
     try clear c3
     try clear c3b0
     try clear c3b1
     try clear c4
     try clear c4b0
     try clear c4b1
     try clear c5
     try clear c5b0
     try clear c5b1
     try clear p6
     try clear q6
     try clear hx6
     try clear qi6
     try clear c7
     try clear c8
     try clear p2
     try clear p6
     try clear q6
     obtain ⟨x3_2,rfl,HA,HK2,⟨m2,rfl⟩⟩:=hrel
     cases gk with
     | zero=>exact absurd HA.out (by simp [bi.l0])
     | succ k2 =>
      have H:=HA.out
      clear HA
      simp only [bi.l0] at H
      by_cases c9:x3_2 < (a0.size:Int)
      ·rw [if_pos c9] at H
       have c9b0:decide (x3_2 < (a0.size:Int))=true:=decide_eq_true c9
       clear c9
       by_cases c10:0≤x3_2
       ·rw [if_pos c10] at H
        have c10b0:decide (0≤x3_2)=true:=decide_eq_true c10
        clear c10
        replace H:=Option.bind_eq_some_iff.mp H
        obtain ⟨t227,A120,H⟩:=H
        replace H:(if t227=true then (bi.l0 k2 a0 (wrap64 (x3_2+1))) else (if (bt a0 x3_2) < 48 then (if (bt a0 x3_2)=45 then (bi.l0 k2 a0 (wrap64 (x3_2+1))) else (some false)) else (if (bt a0 x3_2) > 57 then (if (bt a0 x3_2)=45 then (bi.l0 k2 a0 (wrap64 (x3_2+1))) else (some false)) else (bi.l0 k2 a0 (wrap64 (x3_2+1))))))=some r:=H
        have A12:=aa.mk A120
        clear A120
        by_cases c13:t227=true
        ·subst c13
         have H1:(bi.l0 k2 a0 (wrap64 (x3_2+1)))=some r:=by rw [if_pos rfl] at H;exact H
         clear H
         have H:=H1
         clear H1
         have H':=aa.mk H
         clear H
         have p11:0≤(x3_2:Int):=of_decide_eq_true (by first|(with_reducible assumption)|assumption)
         have q11:x3_2 < (a0.size:Int):=of_decide_eq_true (by first|(with_reducible assumption)|assumption)
         have hx11:=gU a0 x3_2
         replace p11:=eq_true p11
         replace q11:=eq_true q11
         go_wp2_with (first|((with_reducible refine aV (f:=95) rfl ?_);refine bJ (some 26) rfl rfl Tryz.func95 (by kernel_rfl) rfl #[.int .u8 (bt a0 x3_2)] rfl (by (try simp only [List.map_toArray,List.map_cons,List.map_nil]);first|done|rfl|(simp only [List.length_drop,List.length_take];rfl)) ?_;(with_reducible refine (cK.calls (bt a0 x3_2) true _ A12.out).mono ?_);rintro e w' ⟨rfl,⟨nd,rfl⟩⟩;refine ⟨_,rfl,?_⟩))
         go_roundg k2
         case measure=>have:=HJ1.out;have:=HK2.out;omega
         case rel=>exact ⟨(wrap64 (x3_2+1)),(by first|rfl|(simp;done)|(simp [*];done)|(simp [*,aT,aU,bU];done)|(simp only [ay,ax];done)|(simp only [ay,ax];simp;done)|(simp only [ay,ax];simp [*];done)),H',⟨by have:=HJ1.out;have:=HK2.out;omega⟩,by repeat (first|exact bg.refl _|apply bg.step)⟩
        ·replace c13:=Bool.eq_false_iff.mpr c13
         subst c13
         have H1:(if (bt a0 x3_2) < 48 then (if (bt a0 x3_2)=45 then (bi.l0 k2 a0 (wrap64 (x3_2+1))) else (some false)) else (if (bt a0 x3_2) > 57 then (if (bt a0 x3_2)=45 then (bi.l0 k2 a0 (wrap64 (x3_2+1))) else (some false)) else (bi.l0 k2 a0 (wrap64 (x3_2+1)))))=some r:=by rw [if_neg (show ¬ (false=true) by decide)] at H;exact H
         clear H
         have H:=H1
         clear H1
         by_cases c15:(bt a0 x3_2) < 48
         ·rw [if_pos c15] at H
          have c15b0:decide ((bt a0 x3_2) < 48)=true:=decide_eq_true c15
          clear c15
          by_cases c17:(bt a0 x3_2)=45
          ·rw [if_pos c17] at H
           have c17b0:((bt a0 x3_2) == 45)=true:=beq_iff_eq.mpr c17
           have c17b1:((bt a0 x3_2) != 45)=false:=bne_eq_false_iff_eq.mpr c17
           clear c17
           have H':=aa.mk H
           clear H
           have p11:0≤(x3_2:Int):=of_decide_eq_true (by first|(with_reducible assumption)|assumption)
           have q11:x3_2 < (a0.size:Int):=of_decide_eq_true (by first|(with_reducible assumption)|assumption)
           have hx11:=gU a0 x3_2
           replace p11:=eq_true p11
           replace q11:=eq_true q11
           go_wp2_with (first|((with_reducible refine aV (f:=95) rfl ?_);refine bJ (some 26) rfl rfl Tryz.func95 (by kernel_rfl) rfl #[.int .u8 (bt a0 x3_2)] rfl (by (try simp only [List.map_toArray,List.map_cons,List.map_nil]);first|done|rfl|(simp only [List.length_drop,List.length_take];rfl)) ?_;(with_reducible refine (cK.calls (bt a0 x3_2) false _ A12.out).mono ?_);rintro e w' ⟨rfl,⟨nd,rfl⟩⟩;refine ⟨_,rfl,?_⟩;have p14:0≤(x3_2:Int):=of_decide_eq_true (by first|(with_reducible assumption)|assumption);have q14:x3_2 < (a0.size:Int):=of_decide_eq_true (by first|(with_reducible assumption)|assumption);have hx14:=gU a0 x3_2;replace p14:=eq_true p14;replace q14:=eq_true q14;have p16:0≤(x3_2:Int):=of_decide_eq_true (by first|(with_reducible assumption)|assumption);have q16:x3_2 < (a0.size:Int):=of_decide_eq_true (by first|(with_reducible assumption)|assumption);have hx16:=gU a0 x3_2;replace p16:=eq_true p16;replace q16:=eq_true q16))
           go_roundg k2
           case measure=>have:=HJ1.out;have:=HK2.out;omega
           case rel=>exact ⟨(wrap64 (x3_2+1)),(by first|rfl|(simp;done)|(simp [*];done)|(simp [*,aT,aU,bU];done)|(simp only [ay,ax];done)|(simp only [ay,ax];simp;done)|(simp only [ay,ax];simp [*];done)),H',⟨by have:=HJ1.out;have:=HK2.out;omega⟩,by repeat (first|exact bg.refl _|apply bg.step)⟩
          ·rw [if_neg c17] at H
           have c17b0:((bt a0 x3_2) == 45)=false:=beq_eq_false_iff_ne.mpr c17
           have c17b1:((bt a0 x3_2) != 45)=true:=bne_iff_ne.mpr c17
           obtain rfl:=Option.some.inj H
           have p11:0≤(x3_2:Int):=of_decide_eq_true (by first|(with_reducible assumption)|assumption)
           have q11:x3_2 < (a0.size:Int):=of_decide_eq_true (by first|(with_reducible assumption)|assumption)
           have hx11:=gU a0 x3_2
           replace p11:=eq_true p11
           replace q11:=eq_true q11
           go_wp2_with (first|((with_reducible refine aV (f:=95) rfl ?_);refine bJ (some 26) rfl rfl Tryz.func95 (by kernel_rfl) rfl #[.int .u8 (bt a0 x3_2)] rfl (by (try simp only [List.map_toArray,List.map_cons,List.map_nil]);first|done|rfl|(simp only [List.length_drop,List.length_take];rfl)) ?_;(with_reducible refine (cK.calls (bt a0 x3_2) false _ A12.out).mono ?_);rintro e w' ⟨rfl,⟨nd,rfl⟩⟩;refine ⟨_,rfl,?_⟩;have p14:0≤(x3_2:Int):=of_decide_eq_true (by first|(with_reducible assumption)|assumption);have q14:x3_2 < (a0.size:Int):=of_decide_eq_true (by first|(with_reducible assumption)|assumption);have hx14:=gU a0 x3_2;replace p14:=eq_true p14;replace q14:=eq_true q14;have p16:0≤(x3_2:Int):=of_decide_eq_true (by first|(with_reducible assumption)|assumption);have q16:x3_2 < (a0.size:Int):=of_decide_eq_true (by first|(with_reducible assumption)|assumption);have hx16:=gU a0 x3_2;replace p16:=eq_true p16;replace q16:=eq_true q16))
           go_ret
           exact ⟨by first|rfl|(simp;done)|(simp [*];done)|(simp [*,aT,aU,bU];done)|(simp only [ay,ax];done)|(simp only [ay,ax];simp;done)|(simp only [ay,ax];simp [*];done),by repeat (first|exact bg.refl _|apply bg.step)⟩
         ·rw [if_neg c15] at H
          have c15b0:decide ((bt a0 x3_2) < 48)=false:=decide_eq_false c15
          clear c15
          by_cases c19:(bt a0 x3_2) > 57
          ·rw [if_pos c19] at H
           have c19b0:decide (57 < (bt a0 x3_2))=true:=decide_eq_true c19
           clear c19
           by_cases c21:(bt a0 x3_2)=45
           ·rw [if_pos c21] at H
            have c21b0:((bt a0 x3_2) == 45)=true:=beq_iff_eq.mpr c21
            have c21b1:((bt a0 x3_2) != 45)=false:=bne_eq_false_iff_eq.mpr c21
            clear c21
            have H':=aa.mk H
            clear H
            have p11:0≤(x3_2:Int):=of_decide_eq_true (by first|(with_reducible assumption)|assumption)
            have q11:x3_2 < (a0.size:Int):=of_decide_eq_true (by first|(with_reducible assumption)|assumption)
            have hx11:=gU a0 x3_2
            replace p11:=eq_true p11
            replace q11:=eq_true q11
            go_wp2_with (first|((with_reducible refine aV (f:=95) rfl ?_);refine bJ (some 26) rfl rfl Tryz.func95 (by kernel_rfl) rfl #[.int .u8 (bt a0 x3_2)] rfl (by (try simp only [List.map_toArray,List.map_cons,List.map_nil]);first|done|rfl|(simp only [List.length_drop,List.length_take];rfl)) ?_;(with_reducible refine (cK.calls (bt a0 x3_2) false _ A12.out).mono ?_);rintro e w' ⟨rfl,⟨nd,rfl⟩⟩;refine ⟨_,rfl,?_⟩;have p14:0≤(x3_2:Int):=of_decide_eq_true (by first|(with_reducible assumption)|assumption);have q14:x3_2 < (a0.size:Int):=of_decide_eq_true (by first|(with_reducible assumption)|assumption);have hx14:=gU a0 x3_2;replace p14:=eq_true p14;replace q14:=eq_true q14;have p18:0≤(x3_2:Int):=of_decide_eq_true (by first|(with_reducible assumption)|assumption);have q18:x3_2 < (a0.size:Int):=of_decide_eq_true (by first|(with_reducible assumption)|assumption);have hx18:=gU a0 x3_2;replace p18:=eq_true p18;replace q18:=eq_true q18;have p20:0≤(x3_2:Int):=of_decide_eq_true (by first|(with_reducible assumption)|assumption);have q20:x3_2 < (a0.size:Int):=of_decide_eq_true (by first|(with_reducible assumption)|assumption);have hx20:=gU a0 x3_2;replace p20:=eq_true p20;replace q20:=eq_true q20))
            go_roundg k2
            case measure=>have:=HJ1.out;have:=HK2.out;omega
            case rel=>exact ⟨(wrap64 (x3_2+1)),(by first|rfl|(simp;done)|(simp [*];done)|(simp [*,aT,aU,bU];done)|(simp only [ay,ax];done)|(simp only [ay,ax];simp;done)|(simp only [ay,ax];simp [*];done)),H',⟨by have:=HJ1.out;have:=HK2.out;omega⟩,by repeat (first|exact bg.refl _|apply bg.step)⟩
           ·rw [if_neg c21] at H
            have c21b0:((bt a0 x3_2) == 45)=false:=beq_eq_false_iff_ne.mpr c21
            have c21b1:((bt a0 x3_2) != 45)=true:=bne_iff_ne.mpr c21
            obtain rfl:=Option.some.inj H
            have p11:0≤(x3_2:Int):=of_decide_eq_true (by first|(with_reducible assumption)|assumption)
            have q11:x3_2 < (a0.size:Int):=of_decide_eq_true (by first|(with_reducible assumption)|assumption)
            have hx11:=gU a0 x3_2
            replace p11:=eq_true p11
            replace q11:=eq_true q11
            go_wp2_with (first|((with_reducible refine aV (f:=95) rfl ?_);refine bJ (some 26) rfl rfl Tryz.func95 (by kernel_rfl) rfl #[.int .u8 (bt a0 x3_2)] rfl (by (try simp only [List.map_toArray,List.map_cons,List.map_nil]);first|done|rfl|(simp only [List.length_drop,List.length_take];rfl)) ?_;(with_reducible refine (cK.calls (bt a0 x3_2) false _ A12.out).mono ?_);rintro e w' ⟨rfl,⟨nd,rfl⟩⟩;refine ⟨_,rfl,?_⟩;have p14:0≤(x3_2:Int):=of_decide_eq_true (by first|(with_reducible assumption)|assumption);have q14:x3_2 < (a0.size:Int):=of_decide_eq_true (by first|(with_reducible assumption)|assumption);have hx14:=gU a0 x3_2;replace p14:=eq_true p14;replace q14:=eq_true q14;have p18:0≤(x3_2:Int):=of_decide_eq_true (by first|(with_reducible assumption)|assumption);have q18:x3_2 < (a0.size:Int):=of_decide_eq_true (by first|(with_reducible assumption)|assumption);have hx18:=gU a0 x3_2;replace p18:=eq_true p18;replace q18:=eq_true q18;have p20:0≤(x3_2:Int):=of_decide_eq_true (by first|(with_reducible assumption)|assumption);have q20:x3_2 < (a0.size:Int):=of_decide_eq_true (by first|(with_reducible assumption)|assumption);have hx20:=gU a0 x3_2;replace p20:=eq_true p20;replace q20:=eq_true q20))
            go_ret
            exact ⟨by first|rfl|(simp;done)|(simp [*];done)|(simp [*,aT,aU,bU];done)|(simp only [ay,ax];done)|(simp only [ay,ax];simp;done)|(simp only [ay,ax];simp [*];done),by repeat (first|exact bg.refl _|apply bg.step)⟩
          ·rw [if_neg c19] at H
           have c19b0:decide (57 < (bt a0 x3_2))=false:=decide_eq_false c19
           clear c19
           have H':=aa.mk H
           clear H
           have p11:0≤(x3_2:Int):=of_decide_eq_true (by first|(with_reducible assumption)|assumption)
           have q11:x3_2 < (a0.size:Int):=of_decide_eq_true (by first|(with_reducible assumption)|assumption)
           have hx11:=gU a0 x3_2
           replace p11:=eq_true p11
           replace q11:=eq_true q11
           go_wp2_with (first|((with_reducible refine aV (f:=95) rfl ?_);refine bJ (some 26) rfl rfl Tryz.func95 (by kernel_rfl) rfl #[.int .u8 (bt a0 x3_2)] rfl (by (try simp only [List.map_toArray,List.map_cons,List.map_nil]);first|done|rfl|(simp only [List.length_drop,List.length_take];rfl)) ?_;(with_reducible refine (cK.calls (bt a0 x3_2) false _ A12.out).mono ?_);rintro e w' ⟨rfl,⟨nd,rfl⟩⟩;refine ⟨_,rfl,?_⟩;have p14:0≤(x3_2:Int):=of_decide_eq_true (by first|(with_reducible assumption)|assumption);have q14:x3_2 < (a0.size:Int):=of_decide_eq_true (by first|(with_reducible assumption)|assumption);have hx14:=gU a0 x3_2;replace p14:=eq_true p14;replace q14:=eq_true q14;have p18:0≤(x3_2:Int):=of_decide_eq_true (by first|(with_reducible assumption)|assumption);have q18:x3_2 < (a0.size:Int):=of_decide_eq_true (by first|(with_reducible assumption)|assumption);have hx18:=gU a0 x3_2;replace p18:=eq_true p18;replace q18:=eq_true q18))
           go_roundg k2
           case measure=>have:=HJ1.out;have:=HK2.out;omega
           case rel=>exact ⟨(wrap64 (x3_2+1)),(by first|rfl|(simp;done)|(simp [*];done)|(simp [*,aT,aU,bU];done)|(simp only [ay,ax];done)|(simp only [ay,ax];simp;done)|(simp only [ay,ax];simp [*];done)),H',⟨by have:=HJ1.out;have:=HK2.out;omega⟩,by repeat (first|exact bg.refl _|apply bg.step)⟩
       ·rw [if_neg c10] at H
        exact absurd H (by simp)
      ·rw [if_neg c9] at H
       have c9b0:decide (x3_2 < (a0.size:Int))=false:=decide_eq_false c9
       clear c9
       obtain rfl:=Option.some.inj H
       go_wp2
       go_ret
       exact ⟨by first|rfl|(simp;done)|(simp [*];done)|(simp [*,aT,aU,bU];done)|(simp only [ay,ax];done)|(simp only [ay,ax];simp;done)|(simp only [ay,ax];simp [*];done),by repeat (first|exact bg.refl _|apply bg.step)⟩
end Go.Proofs.YthfpaoacjpjnfaaGreatDoor.P


namespace Go.Proofs.YthfpaoacjpjnfaaGreatDoor.P
open Go.RowKit Go.Proofs.YthfpaoacjpjnfaaGreatDoorW.PrintWords Go.Proofs.YthfpaoacjpjnfaaGreatDoorW.PrintLast Go.Proofs.YthfpaoacjpjnfaaGreatDoorW.PrintMore
end Go.Proofs.YthfpaoacjpjnfaaGreatDoor.P

namespace Go.Proofs.YthfpaoacjpjnfaaGreatDoor.P
open Go.RowKit Go.Proofs.YthfpaoacjpjnfaaGreatDoorW.PrintWords Go.Proofs.YthfpaoacjpjnfaaGreatDoorW.PrintLast Go.Proofs.YthfpaoacjpjnfaaGreatDoorW.PrintMore
attribute [local go_sem] dW dZ eP eQ dL dM dY dX
attribute [local go_sem high] wC
attribute [local go_sem high] vM
end Go.Proofs.YthfpaoacjpjnfaaGreatDoor.P


namespace Go.Proofs.YthfpaoacjpjnfaaGreatDoor.P
open Go.RowKit Go.Proofs.YthfpaoacjpjnfaaGreatDoorW.PrintWords Go.Proofs.YthfpaoacjpjnfaaGreatDoorW.PrintLast Go.Proofs.YthfpaoacjpjnfaaGreatDoorW.PrintMore
end Go.Proofs.YthfpaoacjpjnfaaGreatDoor.P
