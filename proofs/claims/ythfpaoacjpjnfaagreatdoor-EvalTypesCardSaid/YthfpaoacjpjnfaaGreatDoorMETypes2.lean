/- Part 2 of 8 of the proof. See the last part. -/
import Derived.Test.YthfpaoacjpjnfaaGreatDoorMETypes1
import Derived.Test.YthfpaoacjpjnfaaGreatDoorChecked
import Derived.WalkKit
import Derived.KernelRfl
import Derived.Lib.ConvBytes
import Derived.Lib.AtoiErrMem
import Derived.Lib.Hide
import Derived.Lib.LaidTab
import Derived.Lib.ItoaNum
import Derived.OwnWalk
import Derived.Laws.BytesArg
import Derived.Test.YthfpaoacjpjnfaaGreatDoorRows
import Derived.Stop.LaidErr
import Derived.Shelf.Vars
import Derived.Lay
import Derived.Deep.DeepHandedRow
import Derived.ShutString
import Derived.Shelf.Strings.Builder1
import Derived.Shelf.Strings.Trim
import Derived.Shelf.Small.Utf8
import Derived.Shelf.Small.Strs
import Derived.Shelf.Small.Wraps
import Derived.Shelf.Strings.BuilderF
import Derived.Shelf.Strings.BuilderK
import Derived.Shelf.Strconv.Atoi
import Derived.Shelf.Strconv.Itoa0
import Derived.Shelf.Strconv.Itoa1
import Derived.Shelf.LaysM
import Derived.Shelf.Strconv.Itoa2
import Derived.Shelf.Strconv.Itoa3
import Derived.Shelf.Strconv.AtoiErrFast
import Derived.Shelf.Strconv.ParseIntEmpty
import Derived.Shelf.Strconv.AtoiFail
import Derived.Shelf.Strconv.Clone
import Derived.Shelf.Strconv.SyntaxError
import Derived.Shelf.LaysC
import Derived.Shelf.Strconv.ToError
import Derived.Shelf.Strconv.AtoiErr
import Derived.Shelf.Strconv.Lower
import Derived.Shelf.Strconv.ParseUint10
import Derived.Shelf.Strconv.ParseUint10Empty
import Derived.Shelf.Strconv.ParseUint10Any
import Derived.Shelf.Strconv.ParseInt10
import Derived.Shelf.Strconv.AtoiLong
import Derived.Shelf.Strconv.AtoiInnerAll
import Derived.Shelf.Strconv.RangeError
import Derived.Shelf.Strconv.ToErrorRange
import Derived.Shelf.Strconv.AtoiAll
import Derived.Shelf.Strconv.ErrVarAll
import Derived.Shelf.Strings.Search1
import Derived.Shelf.Strings.Search2
import Derived.Shelf.Strings.Cut
import Derived.Shelf.Strings.Shaped
import Derived.Shelf.Strings.Prefix
import Derived.Shelf.Strings.Runes
import Derived.Shelf.Strings.AsciiSet
import Derived.Shelf.Unicode.DecodeSlow
import Derived.Shelf.Strings.BuilderCap
import Derived.Ground.Names2Prog
import Derived.Shelf.Slices.Clone
import Derived.Test.YthfpaoacjpjnfaaGreatDoorProg
set_option linter.unusedVariables false
set_option linter.unusedSimpArgs false

namespace Go.Proofs.YthfpaoacjpjnfaaGreatDoor.P
open Go.Proofs.YthfpaoacjpjnfaaGreatDoorW.PrintWords
theorem dL {p:UInt8→Prop} [DecidablePred p] (h:∀ n:Fin 256,p (UInt8.ofNat n.val)) (c:UInt8):p c:=by
  have:=h ⟨c.toNat,c.toNat_lt⟩
  simpa using this
abbrev mk (l:List UInt8):ByteArray:=⟨l.toArray⟩
theorem mk_data (l:List UInt8):(mk l).data.toList=l:=rfl
theorem vG (s:ByteArray):mk s.data.toList=s:=rfl
theorem bL (s:ByteArray):s.size=s.data.toList.length:=by rw [Array.length_toList];rfl
theorem dZ (l:List UInt8):(mk l).size=l.length:=by rw [bL]
theorem toList_data (s:ByteArray):s.toList=s.data.toList:=ByteArray.toList_eq s
theorem fw (l:List UInt8):(mk l).toList=l:=by rw [toList_data]
theorem oD {s t:ByteArray} (h:s.data.toList=t.data.toList):s=t:=by rw [← vG s,← vG t,h]
theorem kL (s:ByteArray):s.toList=[]↔s.size=0:=by
  rw [toList_data,bL]
  exact ⟨fun h=>by rw [h];rfl,fun h=>List.eq_nil_of_length_eq_zero h⟩
theorem yX (s:ByteArray) (i:Int):bt s i=((s.data.toList.getD i.toNat 0).toNat:Int):=by
  unfold bt
  split
  · rename_i h
    rw [List.getD_eq_getElem?_getD,List.getElem?_eq_getElem (by rw [← bL];exact h)]
    rfl
  · rename_i h
    rw [List.getD_eq_getElem?_getD,List.getElem?_eq_none (by rw [← bL];omega)]
    rfl
theorem oP (s:ByteArray) (k:Nat):bt s (k:Int)=((s.data.toList.getD k 0).toNat:Int):=by rw [yX,Int.toNat_natCast]
theorem iK (s t:ByteArray):(s++t).data.toList=s.data.toList++t.data.toList:=by simp
theorem extract_data (s:ByteArray) (i j:Nat):(s.extract i j).data.toList=(s.data.toList.drop i).take (j - i):=by
  rw [ByteArray.data_extract,Array.toList_extract,List.extract_eq_take_drop]
def iJ (c:UInt8):Bool:=(decide (97≤c) && decide (c≤122)) || (decide (65≤c) && decide (c≤90))
def dH (c:UInt8):Bool:=iJ c || (decide (48≤c) && decide (c≤57)) || decide (c=45)
def cZ (l:List UInt8):Bool:=!l.isEmpty && decide (l.length≤30) && iJ (l.getD 0 0) && l.all dH
theorem qa (p:UInt8→Bool) (l:List UInt8) (k:Nat) (h:k < l.length):(l.take (k+1)).all p=((l.take k).all p && p (l.getD k 0)):=by
  rw [List.take_succ_eq_append_getElem h,List.all_append]
  simp [List.getD_eq_getElem?_getD,List.getElem?_eq_getElem h]
theorem qZ {p:UInt8→Bool} {l:List UInt8} {k:Nat} (h:k < l.length) (hp:p (l.getD k 0)=false):l.all p=false:=by
  rw [List.all_eq_false]
  refine ⟨l.getD k 0,?_,by rw [hp];exact Bool.false_ne_true⟩
  rw [List.getD_eq_getElem?_getD,List.getElem?_eq_getElem h]
  exact List.getElem_mem h
def fP (c:UInt8):UInt8:=if 65≤c∧c≤90 then c+32 else c
def iP (b:List UInt8) (c:UInt8):List UInt8:=if c=32∧b.getLast?=some 32 then b else b++[c]
def sq (l:List UInt8):List UInt8:=l.foldl iP []
theorem zR (l:List UInt8) (c:UInt8):sq (l++[c])=iP (sq l) c:=by unfold sq;rw [List.foldl_append];rfl
theorem pI (l:List UInt8) (k:Nat) (h:k < l.length):l.take (k+1)=l.take k++[l.getD k 0]:=by
  rw [List.take_succ_eq_append_getElem h,List.getD_eq_getElem?_getD,List.getElem?_eq_getElem h];rfl
theorem rT (l:List UInt8) (k:Nat) (h:k < l.length):sq (l.take (k+1))=iP (sq (l.take k)) (l.getD k 0):=by rw [pI l k h,zR]
theorem wZ (b:List UInt8) (c:UInt8):iP b c≠[]:=by
  unfold iP
  split
  · rename_i h
    intro hb
    rw [hb] at h
    exact absurd h.2 (by simp)
  · simp
theorem uE (l:List UInt8) (k:Nat) (h0:0 < k) (h:k≤l.length):sq (l.take k)≠[]:=by
  obtain ⟨j,rfl⟩:∃ j,k=j+1:=⟨k - 1,by omega⟩
  rw [rT l j (by omega)]
  exact wZ _ _
theorem uT (b:List UInt8) (c:UInt8):(iP b c).length≤b.length+1:=by
  unfold iP
  split
  · omega
  · simp
theorem kX (l:List UInt8):∀ k,k≤l.length→(sq (l.take k)).length≤k
  | 0,_=>by simp [sq]
  | k+1,h=>by
    rw [rT l k (by omega)]
    have:=uT (sq (l.take k)) (l.getD k 0)
    have:=kX l k (by omega)
    omega
def fC (l:List UInt8):List Int:=l.map fun c=>(c.toNat:Int)
theorem ji (l:List UInt8):(fC l).length=l.length:=by simp [fC]
theorem jU (l:List UInt8) (c:UInt8):fC (l++[c])=fC l++[(c.toNat:Int)]:=by simp [fC]
theorem nP (l:List UInt8):strOfNums (fC l)=mk l:=by
  apply oD
  rw [strOfNums_data,mk_data]
  unfold fC
  rw [List.map_map]
  conv=>rhs;rw [← List.map_id l]
  refine List.map_congr_left fun c _=>?_
  simp
theorem uS (l:List UInt8) (h:l≠[]):rd (fC l) ((l.length:Int) - 1)=((l.getLast h).toNat:Int):=by
  unfold rd fC
  have h1:0 < l.length:=List.length_pos_iff.2 h
  rw [show ((l.length:Int) - 1).toNat=l.length - 1 by omega,List.getD_eq_getElem?_getD,List.getElem?_map,List.getElem?_eq_getElem (by omega),List.getLast_eq_getElem]
  rfl
theorem vC (u:UInt8):((u.toNat:Int)=32)↔u=32:=dL (p:=fun u=>((u.toNat:Int)=32)↔u=32) (by decide +kernel) u
theorem Af (u:UInt8):((u.toNat:Int)=35)↔u=35:=dL (p:=fun u=>((u.toNat:Int)=35)↔u=35) (by decide +kernel) u
def df (c:UInt8):Bool:=c == 44 || c == 43 || c == 34 || c == 92 || c == 60 || c == 62 || c == 59
def gz (n:UInt8):UInt8:=if n < 10 then 48+n else 87+n
def jV (c:UInt8):Bool:=decide (c < 32) || decide (126 < c)
def jI (n k:Nat) (c:UInt8):Bool:=df c || (decide (k=0) && (decide (c=35) || decide (c=32))) || (decide (k+1=n) && decide (c=32))
def uL (n k:Nat) (c:UInt8):List UInt8:=if jV c=true then [92,gz (c >>> 4),gz (c &&& 15)] else if jI n k c=true then [92,c] else [c]
def bI (l:List UInt8) (k:Nat):List UInt8:=(List.range k).flatMap fun j=>uL l.length j (l.getD j 0)
def ut (l:List UInt8):List UInt8:=bI l l.length
def uB (t v:List UInt8):List UInt8:=t++[61]++ut v
def mf (j:Nat):List UInt8:=if j=0 then [] else [44]
theorem jo (l:List UInt8) (k:Nat):bI l (k+1)=bI l k++uL l.length k (l.getD k 0):=by
  unfold bI;rw [List.range_succ,List.flatMap_append];simp
theorem yL (n k:Nat) (c:UInt8):1≤(uL n k c).length:=by unfold uL;split <;> (try split) <;> simp
theorem tL (l:List UInt8):∀ k,k≤(bI l k).length
  | 0=>Nat.zero_le _
  | k+1=>by
    rw [jo,List.length_append]
    have:=tL l k
    have:=yL l.length k (l.getD k 0)
    omega
theorem tF (l:List UInt8):∀ (d k:Nat),(bI l k).length≤(bI l (k+d)).length
  | 0,k=>Nat.le_refl _
  | d+1,k=>by
    have:=tF l d k
    rw [show k+(d+1)=(k+d)+1 from rfl,jo,List.length_append]
    omega
theorem qP (l:List UInt8) (k:Nat) (h:k≤l.length):(bI l k).length≤(ut l).length:=by
  have:=tF l (l.length - k) k
  rwa [Nat.add_sub_cancel' h] at this
end Go.Proofs.YthfpaoacjpjnfaaGreatDoor.P

namespace Go.Proofs.YthfpaoacjpjnfaaGreatDoor.P
open Go.RowKit Go.Proofs.YthfpaoacjpjnfaaGreatDoorW.PrintWords Go.Proofs.YthfpaoacjpjnfaaGreatDoorW.PrintLast Go.Proofs.YthfpaoacjpjnfaaGreatDoorW.PrintMore
structure Gl (w:World):Prop where
  maxLen:∃ m,w.cell? ⟨0,0,none⟩=some (.int .i64 m)
  syn:∃ tp p,w.cell? ⟨1,0,none⟩=some (.iface tp p)
  rng:∃ tp p,w.cell? ⟨2,0,none⟩=some (.iface tp p)
  pow:Lib.TabIs Tryz.prog w "internal/strconv.uint64pow10" .u64 Lib.pow10Tab
theorem jX:Tryz.prog.globalNamed "internal/strconv.uint64pow10" = some 5:=by kernel_rfl
theorem Az {w:World} {zs:List Int} {k:IntKind} (h:Lib.TabIs Tryz.prog w "internal/strconv.uint64pow10" k zs):5 < w.heap.size:=by
  unfold Lib.TabIs World.var? at h
  rw [jX] at h
  simp only [Option.bind_some] at h
  rcases Nat.lt_or_ge 5 w.heap.size with h'|h'
  · exact h'
  · simp [Array.getElem?_eq_none h'] at h
theorem xu {w w':World} {zs:List Int} {k:IntKind} (h:Lib.TabIs Tryz.prog w "internal/strconv.uint64pow10" k zs) (hb:Below w.heap.size w w'):Lib.TabIs Tryz.prog w' "internal/strconv.uint64pow10" k zs:=by
  have hlt:=Az h
  unfold Lib.TabIs World.var? at h ⊢
  rw [jX] at h ⊢
  simp only [Option.bind_some] at h ⊢
  rw [hb.block _ hlt]
  exact h
theorem Gl.below {w w':World} (h:Gl w) (hb:Below w.heap.size w w'):Gl w':=by
  obtain ⟨m,hm⟩:=h.maxLen
  obtain ⟨t1,p1,h1⟩:=h.syn
  obtain ⟨t2,p2,h2⟩:=h.rng
  exact ⟨⟨m,gF hb hm⟩,⟨t1,p1,gF hb h1⟩,⟨t2,p2,gF hb h2⟩,xu h.pow hb⟩
theorem Gl.drewN {w:World} (h:Gl w) (n:Nat):Gl (w.drewN n):=h.below (ae (Below.refl _ _) n)
theorem bX (n:Int):IntKind.u8.wrap n=n % 256:=by first|rfl|simp [IntKind.wrap]|(unfold IntKind.wrap;rfl)
theorem au (l:List UInt8):(l != [])=!l.isEmpty:=by cases l <;> rfl
theorem ak (l:List UInt8):(l == [])=l.isEmpty:=by cases l <;> rfl
def nk (c:Int):Int:=if 65≤c∧c≤90 then c+32 else c
def gm (s:ByteArray):ByteArray:=⟨s.data.map fP⟩
theorem jQ (s:ByteArray):(gm s).data.toList=s.data.toList.map fP:=by unfold gm;rw [Array.toList_map]
theorem wG (s:ByteArray):(gm s).size=s.size:=by rw [bL,jQ,List.length_map,← bL]
structure iR (w:World) (B n:Nat) (f:Nat→Int):Prop where
  cell:∀ j,j < n→w.cell? ⟨B,j,none⟩=some (.int .u8 (f j))
  free:∀ j,j < n→w.frozen? ⟨B,j,none⟩=false
theorem jm (w:World) (s:ByteArray):iR (Lib.bytesWorld w 5 s) w.heap.size s.size (fun j=>((s.data.toList.getD j 0).toNat:Int)):=by
  refine ⟨fun j hj=>Lib.bytesWorld_cell w 5 s j hj,fun j hj=>?_⟩
  have h:=Lib.bytesWorld_at_new w 5 s
  have hb:s.size≤(Lib.bytesCells w 5 s).size:=by simp [Lib.bytesCells]
  simp [World.frozen?,h]
  omega
theorem heap_drewN (w:World) (n:Nat):(w.drewN n).heap=w.heap:=by simp
theorem lX (w:World) (n:Nat) (s:ByteArray):iR (Lib.bytesWorld (w.drewN n) 5 s) w.heap.size s.size (fun j=>((s.data.toList.getD j 0).toNat:Int)):=by
  have h:=jm (w.drewN n) s
  rw [heap_drewN] at h
  exact h
theorem nV (w:World) (n:Nat) (s:ByteArray):Below w.heap.size w (Lib.bytesWorld (w.drewN n) 5 s):=by
  have h:=Lib.bytesWorld_below (w.drewN n) 5 s
  rw [heap_drewN] at h
  exact (ae (Below.refl _ _) n).trans h
theorem ym {w:World} {B n:Nat} {f:Nat→Int} (h:iR w B n f) (k:Nat) (hk:k < n) (v:Int):iR (w.setCell ⟨B,k,none⟩ (.int .u8 v)) B n (fun j=>if j=k then v else f j):=by
  refine ⟨fun j hj=>?_,fun j hj=>by rw [World.frozen?_setCell];exact h.free j hj⟩
  by_cases e:j=k
  · subst e
    rw [World.cell?_setCell_same _ _ _ (h.cell j hj),if_pos rfl]
  · rw [World.cell?_setCell_other _ _ _ _ (by intro he;injection he with _ h2;omega),if_neg e]
    exact h.cell j hj
theorem ko {w:World} {B n:Nat} {f:Nat→Int} (h:iR w B n f) (m:Nat):iR (w.drewN m) B n f:=by
  refine ⟨fun j hj=>?_,fun j hj=>?_⟩
  · simpa using h.cell j hj
  · simpa using h.free j hj
theorem oM {w:World} {B n:Nat} {f g:Nat→Int} (h:iR w B n f) (e:∀ j,j < n→f j=g j):iR w B n g :=
  ⟨fun j hj=>by rw [← e j hj];exact h.cell j hj,h.free⟩
theorem tX {w w':World} {B n:Nat} {f:Nat→Int} (h:iR w B n f) (hB:B < w.heap.size) (hb:Below w.heap.size w w'):iR w' B n f :=
  ⟨fun j hj=>by rw [hb.cell (p:=⟨B,j,none⟩) hB];exact h.cell j hj,fun j hj=>by rw [hb.frozen (p:=⟨B,j,none⟩) hB];exact h.free j hj⟩
theorem pq {w w':World} {B n:Nat} {f:Nat→Int} (h:iR w B n f) (hb:w'.heap[B]?=w.heap[B]?):iR w' B n f :=
  ⟨fun j hj=>by rw [World.cell?_of_block (a:=⟨B,j,none⟩) hb];exact h.cell j hj,fun j hj=>by rw [World.frozen?_of_block (a:=⟨B,j,none⟩) hb];exact h.free j hj⟩
theorem jA {P:Program} {w:World} {B n:Nat} {f:Nat→Int} (h:iR w B n f) (cap src e dst:Nat) (hs:P.underlying src=some (.slice e)) (he:P.underlying e=some (.int .u8)) (hd:P.underlying dst=some .string) :
    (convert src dst (.slice (some ⟨B,0,none⟩) n cap)).run P w=.ok (.string (strOfNums ((List.range n).map f))) w:=by
  refine run_convert_bytes_arg w src e hs he B 0 n cap ((List.range n).map f) (by simp) (fun i hi=>?_) dst hd
  rw [Nat.zero_add,h.cell i hi]
  simp [List.getD,hi]
theorem wK (c:UInt8):nk (c.toNat:Int)=((fP c).toNat:Int):=by
  unfold nk fP
  have h:=c.toNat_lt
  simp only [UInt8.le_iff_toNat_le]
  have e1:(65:UInt8).toNat=65:=rfl
  have e2:(90:UInt8).toNat=90:=rfl
  rw [e1,e2]
  by_cases hc:65≤c.toNat∧c.toNat≤90
  · rw [if_pos (by omega),if_pos hc,UInt8.toNat_add]
    have e3:(32:UInt8).toNat=32:=rfl
    rw [e3];omega
  · rw [if_neg (by omega),if_neg hc]
theorem um (s:ByteArray):strOfNums ((List.range s.size).map fun j=>nk ((s.data.toList.getD j 0).toNat:Int))=gm s:=by
  unfold strOfNums gm
  congr 1
  apply Array.ext
  · rw [List.size_toArray,List.length_map,List.length_map,List.length_range,Array.size_map];rfl
  · intro i h1 h2
    rw [Array.size_map] at h2
    rw [List.getElem_toArray,List.getElem_map,List.getElem_map,List.getElem_range,Array.getElem_map,wK]
    have e:s.data.toList.getD i 0=s.data[i]:=by
      rw [List.getD_eq_getElem?_getD,List.getElem?_eq_getElem (by simpa using h2)];rfl
    rw [e]
    simp
def iW (s:ByteArray) (k:Nat):Nat→Int:=fun j=>if j < k then nk ((s.data.toList.getD j 0).toNat:Int) else ((s.data.toList.getD j 0).toNat:Int)
theorem jW (s:ByteArray):iW s 0=fun j=>((s.data.toList.getD j 0).toNat:Int):=by funext j;simp [iW]
theorem j6 (s:ByteArray) (k:Nat):iW s k k=((s.data.toList.getD k 0).toNat:Int):=by simp [iW]
theorem lG (s:ByteArray) (k:Nat) (h:¬ k < s.size):strOfNums ((List.range s.size).map (iW s k))=gm s:=by
  rw [← um]
  congr 1
  refine List.map_congr_left fun j hj=>?_
  unfold iW
  rw [if_pos (by have:=List.mem_range.1 hj;omega)]
theorem ll {w:World} {B:Nat} {s:ByteArray} {k:Nat} (h:iR w B s.size (iW s k)) (hk:k < s.size) {c:Int} (hc:((s.data.toList.getD k 0).toNat:Int)=c):iR (w.setCell ⟨B,k,none⟩ (.int .u8 (nk c))) B s.size (iW s (k+1)):=by
  refine oM (ym h k hk (nk c)) fun j hj=>?_
  unfold iW
  by_cases e1:j=k
  · subst e1;rw [if_pos rfl,if_pos (by omega),hc]
  · rw [if_neg e1]
    by_cases e2:j < k
    · rw [if_pos e2,if_pos (by omega)]
    · rw [if_neg e2,if_neg (by omega)]
theorem iF {w:World} {B:Nat} {s:ByteArray} {k:Nat} (h:iR w B s.size (iW s k)) {c:Int} (hc:((s.data.toList.getD k 0).toNat:Int)=c) (hl:nk c=c):iR w B s.size (iW s (k+1)):=by
  refine oM h fun j hj=>?_
  unfold iW
  by_cases e1:j=k
  · subst e1;rw [if_neg (by omega),if_pos (by omega),hc,hl]
  · by_cases e2:j < k
    · rw [if_pos e2,if_pos (by omega)]
    · rw [if_neg e2,if_neg (by omega)]
theorem qY {c:Int} (h1:65≤c) (h2:c≤90):nk c=c+32:=by unfold nk;rw [if_pos ⟨h1,h2⟩]
theorem jR {c:Int} (h:¬ (65≤c∧c≤90)):nk c=c:=by unfold nk;rw [if_neg h]
end Go.Proofs.YthfpaoacjpjnfaaGreatDoor.P


namespace Go.Proofs.YthfpaoacjpjnfaaGreatDoor.P
open Go.RowKit Go.ChangeShapes
theorem own:ownKnob Tryz.prog.godebug=none:=by kernel_rfl
theorem laidOut:laidOutB Tryz.prog=true:=by kernel_rfl
def LAID:List (String × DataW Unit):=[("math/bits.deBruijn32tab", Rows.laid_math_bits_deBruijn32tab),("math/bits.deBruijn64tab", Rows.laid_math_bits_deBruijn64tab),("internal/strconv.uint64pow10", Rows.laid_internal_strconv_uint64pow10),("unicode/utf8.acceptRanges", Rows.laid_unicode_utf8_acceptRanges),("strconv.ErrRange", Rows.laid_strconv_ErrRange),("strconv.ErrSyntax", Rows.laid_strconv_ErrSyntax),("unicode/utf8.first", Rows.laid_unicode_utf8_first)]
theorem uQ {w:World} (h:laidMetH Tryz.prog LAID w):laidMet Tryz.prog LAID w:=by
  have e:(LAID.filter fun x=>x.2.handleName?.isSome)=[]:=by kernel_rfl
  unfold laidMetH at h
  rw [e] at h
  exact h
theorem zA {w:World} (h:laidMet Tryz.prog LAID w):laidMetH Tryz.prog LAID w:=by
  have e:(LAID.filter fun x=>x.2.handleName?.isSome)=[]:=by kernel_rfl
  unfold laidMetH
  rw [e]
  exact h
theorem gES:Tryz.prog.globalNamed "strconv.ErrSyntax" = some 1:=by kernel_rfl
theorem zG:(Tryz.prog.globals[1]?).map (·.type)=some 95:=by kernel_rfl
theorem gER:Tryz.prog.globalNamed "strconv.ErrRange" = some 2:=by kernel_rfl
theorem zC:(Tryz.prog.globals[2]?).map (·.type)=some 95:=by kernel_rfl
theorem yo:(Tryz.prog.globals[5]?).map (·.type)=some 170:=by kernel_rfl
theorem vk:Tryz.prog.cellsOf 169=1:=by kernel_rfl
theorem cellsS:Tryz.prog.cellsOf 9=1:=by kernel_rfl
theorem Au:Tryz.prog.cellsOf 57=1:=by kernel_rfl
theorem xI:Tryz.prog.cellsOf 170=20:=by kernel_rfl
theorem star : "*" ++ "errors.errorString" = "*errors.errorString" := by decide
theorem Ag (u:TypeId) (h:Tryz.prog.typeName? 3 u=some "*errors.errorString"):u=167 :=
  typeName_ptr_named (nm := "errors.errorString") (by rw [star];kernel_rfl) (by kernel_rfl) (by decide) u (by rw [star];exact h)
theorem Bc {W:World} (hL:laidMetH Tryz.prog LAID W) (hsh:W.ShapedOpen Tryz.prog):Gl W:=by
  have h:=uQ hL
  have hpow:=Lib.tabIs_of_head (zs:=Lib.pow10Tab) (k:=.u64) (rest:=_) jX yo Tryz.underlying170 Tryz.underlying57 Au xI h.tail.tail
  obtain ⟨a1,s1,hv1,-,-,-⟩:=laid_sentinel h.tail.tail.tail.tail gER zC Tryz.underlying95 Ag Tryz.underlying167 Tryz.underlying169 rfl rfl Tryz.underlying9 vk cellsS
  obtain ⟨a0,s0,hv0,-,-,-⟩:=laid_sentinel h.tail.tail.tail.tail.tail gES zG Tryz.underlying95 Ag Tryz.underlying167 Tryz.underlying169 rfl rfl Tryz.underlying9 vk cellsS
  refine ⟨cell_of_shapedOpen_int (P:=Tryz.prog) (g:=0) (t:=3) (zero:=#[.int .i64 0]) hsh (of_decide_eq_true (by kernel_rfl)) (by kernel_rfl) rfl (by kernel_rfl) (by kernel_rfl) Tryz.underlying3,⟨167,.pointer (some a0),?_⟩,⟨167,.pointer (some a1),?_⟩,hpow⟩
  · have h0:=World.var?_cell gES hv0 0
    simpa using h0
  · have h0:=World.var?_cell gER hv1 0
    simpa using h0
noncomputable def mY (os:Os):World:=World.laidAll Tryz.prog os LAID
set_option maxRecDepth 100000 in
theorem yh (os:Os) (args:Array Value):laidMetH Tryz.prog LAID ((mY os).forCall (fun _ _=>0) ⟨#[],args,[]⟩).memory :=
  zA (laidMet_laidAll args (by kernel_rfl) (by kernel_rfl))
theorem xK {n:Int} (h:(Lit.int .u8 n).wf=true):0≤n∧n≤255:=by simpa [Lit.wf,IntKind.min,IntKind.max,IntKind.signed,IntKind.bits] using h
end Go.Proofs.YthfpaoacjpjnfaaGreatDoor.P

namespace Go.Proofs.YthfpaoacjpjnfaaGreatDoor.P
open Go.RowKit Go.Proofs.YthfpaoacjpjnfaaGreatDoorW.PrintWords Go.Proofs.YthfpaoacjpjnfaaGreatDoorW.PrintLast Go.Proofs.YthfpaoacjpjnfaaGreatDoorW.PrintMore
attribute [local go_sem] dP dS eP eO dE dD dQ dR
def Bw:Option Int→Value
 | none=>.nilIface
 | some c=>.iface 0 (.int .i64 c)
theorem aD:Bw none=.nilIface:=rfl
theorem aG (c:Int):Bw (some c)=.iface 0 (.int .i64 c):=rfl
theorem info3:(Tryz.prog.info? 3).map (fun i=>(i.zero,i.size,i.bytes))=some (some (.int .i64 0),1,8):=by kernel_rfl
theorem info5:(Tryz.prog.info? 5).map (fun i=>(i.zero,i.size,i.bytes))=some (some (.int .u8 0),1,1):=by kernel_rfl
theorem yz:(Tryz.prog.info? 9).map (fun i=>(i.zero,i.size,i.bytes))=some (some (.string ⟨#[]⟩),1,16):=by kernel_rfl
theorem rW:(Tryz.prog.info? 45).map (fun i=>(i.zero,i.size,i.bytes))=some (some (.agg #[(.string ⟨#[]⟩),(.slice none 0 0)]),2,40):=by kernel_rfl
theorem vD:(Tryz.prog.info? 102).map (fun i=>(i.zero,i.size,i.bytes))=some (some (.agg #[(.string ⟨#[]⟩),(.string ⟨#[]⟩)]),2,32):=by kernel_rfl
structure S25 where
 f0:Int
 f1:ByteArray
 f2:ByteArray
 f3:(List ByteArray)
 f4:(List S25)
def z25:S25:=⟨(0:Int),(⟨#[]⟩:ByteArray),(⟨#[]⟩:ByteArray),([]:List ByteArray),([]:List S25)⟩
def F25 (d:Kd S25):Kd S25:=Kd.iso (Kd.pair (Kd.int .i64) (Kd.pair Kd.string (Kd.pair Kd.string (Kd.pair (Kd.slice 9 Kd.string) (Kd.slice 25 d))))) (fun x:S25=>(x.f0,x.f1,x.f2,x.f3,x.f4))
theorem xw:Kd.mK F25:=Kd.y5 _ (Kd.lC (Kd.jZ _) (Kd.lC (Kd.jZ _) (Kd.lC (Kd.jZ _) (Kd.lC (Kd.jZ _) (Kd.uq 25 Kd.zh)))))
theorem Bu:Kd.Sub F25 [9,25]:=Kd.zT _ (Kd.mi (Kd.lw _ (by decide)) (Kd.mi (Kd.lw _ (by decide)) (Kd.mi (Kd.lw _ (by decide)) (Kd.mi (Kd.lw _ (by decide)) (Kd.vT 25 (by decide) Kd.AZ)))))
theorem Bh:∀ n,(Kd.upto F25 5 [9,25] n).sz=5:=Kd.ze (fun _=>rfl)
def k25:Kd S25:=Kd.fix F25 5 [9,25] Bh (Kd.xA Bu)
theorem yw {w:World} {x:S25} {cs:List Value} (h:k25.K w x cs):∃ A3 c3 A4 c4,cs=[.int .i64 x.f0,.string x.f1,.string x.f2,.slice A3 x.f3.length c3,.slice A4 x.f4.length c4]∧x.f3.length≤c3∧Kd.string.C w A3 x.f3.length x.f3∧x.f4.length≤c4∧k25.C w A4 x.f4.length x.f4:=by
 obtain ⟨n,h⟩:=h
 cases n with
 | zero=>exact h.elim
 | succ n =>
  obtain ⟨_,_,rfl,rfl,⟨_,_,rfl,rfl,⟨_,_,rfl,rfl,⟨_,_,rfl,⟨A3,c3,rfl,l3,g3⟩,⟨A4,c4,rfl,l4,g4⟩⟩⟩⟩⟩:=h
  exact ⟨A3,c3,A4,c4,rfl,l3,g3,l4,Kd.Be g4⟩
theorem uH (w:World) (x:S25) {A3:Option Addr} {c3:Nat} (l3:x.f3.length≤c3) (g3:Kd.string.C w A3 x.f3.length x.f3) {A4:Option Addr} {c4:Nat} (l4:x.f4.length≤c4) (g4:k25.C w A4 x.f4.length x.f4):k25.K w x [.int .i64 x.f0,.string x.f1,.string x.f2,.slice A3 x.f3.length c3,.slice A4 x.f4.length c4]:=by
 obtain ⟨n4,q4⟩:=Kd.uk xw g4
 have r4:=Kd.xm xw Bh (show n4≤n4 by omega) q4
 exact ⟨n4+1,⟨[.int .i64 x.f0],[.string x.f1,.string x.f2,.slice A3 x.f3.length c3,.slice A4 x.f4.length c4],rfl,rfl,⟨[.string x.f1],[.string x.f2,.slice A3 x.f3.length c3,.slice A4 x.f4.length c4],rfl,rfl,⟨[.string x.f2],[.slice A3 x.f3.length c3,.slice A4 x.f4.length c4],rfl,rfl,⟨[.slice A3 x.f3.length c3],[.slice A4 x.f4.length c4],rfl,⟨A3,c3,rfl,l3,g3⟩,⟨A4,c4,rfl,l4,r4⟩⟩⟩⟩⟩⟩
def bi (xs:List S25) (i:Int):S25:=xs.getD i.toNat z25
theorem uM {w:World} {A:Option Addr} {n:Nat} {xs:List S25} (h:Kd.C k25 w A n xs) (i:Int) (h0:0≤i) (h1:i < n):∃ ad A3 c3 A4 c4,A=some ad∧w.cell? (ad.add (i.toNat * 5))=some (.int .i64 (bi xs i).f0)∧w.cell? ⟨(ad.add (i.toNat * 5)).block,(ad.add (i.toNat * 5)).off+1,none⟩=some (.string (bi xs i).f1)∧w.cell? ⟨(ad.add (i.toNat * 5)).block,(ad.add (i.toNat * 5)).off+2,none⟩=some (.string (bi xs i).f2)∧w.cell? ⟨(ad.add (i.toNat * 5)).block,(ad.add (i.toNat * 5)).off+3,none⟩=some (.slice A3 (bi xs i).f3.length c3)∧w.cell? ⟨(ad.add (i.toNat * 5)).block,(ad.add (i.toNat * 5)).off+4,none⟩=some (.slice A4 (bi xs i).f4.length c4)∧(bi xs i).f3.length≤c3∧Kd.string.C w A3 (bi xs i).f3.length (bi xs i).f3∧(bi xs i).f4.length≤c4∧k25.C w A4 (bi xs i).f4.length (bi xs i).f4:=by
 obtain ⟨ad,c,e,_,hK,hc0⟩:=Kd.qp h z25 i h0 h1
 have hc:∀ j u,c[j]?=some u→w.cell? (ad.add (i.toNat * 5+j))=some u:=hc0
 obtain ⟨A3,c3,A4,c4,rfl,l3,g3,l4,g4⟩:=yw hK
 exact ⟨ad,A3,c3,A4,c4,e,hc 0 _ rfl,by rw [← jh _ _ 1 (by omega)];exact hc 1 _ rfl,by rw [← jh _ _ 2 (by omega)];exact hc 2 _ rfl,by rw [← jh _ _ 3 (by omega)];exact hc 3 _ rfl,by rw [← jh _ _ 4 (by omega)];exact hc 4 _ rfl,l3,g3,l4,g4⟩
structure S45 where
 f0:ByteArray
 f1:(List ByteArray)
def z45:S45:=⟨(⟨#[]⟩:ByteArray),([]:List ByteArray)⟩
def k45:Kd S45:=Kd.iso (Kd.pair Kd.string (Kd.slice 9 Kd.string)) (fun x:S45=>(x.f0,x.f1))
theorem pM {w:World} {x:S45} {cs:List Value} (h:k45.K w x cs):∃ A1 c1,cs=[.string x.f0,.slice A1 x.f1.length c1]∧x.f1.length≤c1∧Kd.string.C w A1 x.f1.length x.f1:=by
 obtain ⟨_,_,rfl,rfl,⟨A1,c1,rfl,l1,g1⟩⟩:=h
 exact ⟨A1,c1,rfl,l1,g1⟩
theorem xy (w:World) (x:S45) {A1:Option Addr} {c1:Nat} (l1:x.f1.length≤c1) (g1:Kd.string.C w A1 x.f1.length x.f1):k45.K w x [.string x.f0,.slice A1 x.f1.length c1]:=⟨[.string x.f0],[.slice A1 x.f1.length c1],rfl,rfl,⟨A1,c1,rfl,l1,g1⟩⟩
theorem jN {W:World} {ok:Nat→Prop} {x:S45} {cs:List Value} (h:Kd.FK k45 W ok x cs):∃ A1 c1,cs=[.string x.f0,.slice A1 x.f1.length c1]∧x.f1.length≤c1∧Kd.F Kd.string W ok A1 x.f1.length x.f1:=by
 obtain ⟨A1,c1,rfl,l1,_⟩:=pM (Kd.iE h)
 exact ⟨A1,c1,rfl,l1,(fun W' hW=>by obtain ⟨A1_,c1_,he,l1_,g1_⟩:=pM (h W' hW);injection (Option.some.inj (show some (Value.slice A1 x.f1.length c1)=some (Value.slice A1_ x.f1.length c1_) from congrArg (fun l=>l[1]?) he)) with ha_ _ _;rw [ha_];exact g1_)⟩
theorem ku (W:World) (ok:Nat→Prop) (x:S45) {A1:Option Addr} {c1:Nat} (l1:x.f1.length≤c1) (g1:Kd.F Kd.string W ok A1 x.f1.length x.f1):Kd.FK k45 W ok x [.string x.f0,.slice A1 x.f1.length c1]:=fun W2 hW=>xy W2 x l1 (g1 W2 hW)
def bQ (xs:List S45) (i:Int):S45:=xs.getD i.toNat z45
theorem yV {w:World} {A:Option Addr} {n:Nat} {xs:List S45} (h:Kd.C k45 w A n xs) (i:Int) (h0:0≤i) (h1:i < n):∃ ad A1 c1,A=some ad∧w.cell? (ad.add (i.toNat * 2))=some (.string (bQ xs i).f0)∧w.cell? ⟨(ad.add (i.toNat * 2)).block,(ad.add (i.toNat * 2)).off+1,none⟩=some (.slice A1 (bQ xs i).f1.length c1)∧(bQ xs i).f1.length≤c1∧Kd.string.C w A1 (bQ xs i).f1.length (bQ xs i).f1:=by
 obtain ⟨ad,c,e,_,hK,hc0⟩:=Kd.qp h z45 i h0 h1
 have hc:∀ j u,c[j]?=some u→w.cell? (ad.add (i.toNat * 2+j))=some u:=hc0
 obtain ⟨A1,c1,rfl,l1,g1⟩:=pM hK
 exact ⟨ad,A1,c1,e,hc 0 _ rfl,by rw [← jh _ _ 1 (by omega)];exact hc 1 _ rfl,l1,g1⟩
structure dx where
 f0:ByteArray
 f1:ByteArray
def lJ:dx:=⟨(⟨#[]⟩:ByteArray),(⟨#[]⟩:ByteArray)⟩
def nI:Kd dx:=Kd.iso (Kd.pair Kd.string Kd.string) (fun x:dx=>(x.f0,x.f1))
theorem vY {w:World} {x:dx} {cs:List Value} (h:nI.K w x cs):cs=[.string x.f0,.string x.f1]:=by
 obtain ⟨_,_,rfl,rfl,rfl⟩:=h
 exact rfl
theorem iD {w:World} {base:Nat} {ok:Nat→Prop} {x:dx} {cs:List Value} (h:nI.M w base ok x cs):cs=[.string x.f0,.string x.f1]:=by
 obtain ⟨_,_,rfl,rfl,rfl⟩:=h
 exact rfl
theorem jO (w:World) (base:Nat) (ok:Nat→Prop) (x:dx)  : nI.M w base ok x [.string x.f0,.string x.f1]:=⟨[.string x.f0],[.string x.f1],rfl,rfl,rfl⟩
def aX (xs:List dx) (i:Int):dx:=xs.getD i.toNat lJ
theorem jc {w:World} {A:Option Addr} {n:Nat} {xs:List dx} (h:Kd.C nI w A n xs) (i:Int) (h0:0≤i) (h1:i < n):∃ ad , A=some ad∧w.cell? (ad.add (i.toNat * 2))=some (.string (aX xs i).f0)∧w.cell? ⟨(ad.add (i.toNat * 2)).block,(ad.add (i.toNat * 2)).off+1,none⟩=some (.string (aX xs i).f1):=by
 obtain ⟨ad,c,e,_,hK,hc0⟩:=Kd.qp h lJ i h0 h1
 have hc:∀ j u,c[j]?=some u→w.cell? (ad.add (i.toNat * 2+j))=some u:=hc0
 obtain rfl:=vY hK
 exact ⟨ad,e,hc 0 _ rfl,by rw [← jh _ _ 1 (by omega)];exact hc 1 _ rfl⟩
theorem zU (v0 v1:Value) (w:World):(Instr.field 82 (.agg #[v0,v1]) 0).run Tryz.prog w=.ok v0 w:=by kernel_rfl
theorem zl (v0 v1:Value) (w:World):(Instr.field 82 (.agg #[v0,v1]) 1).run Tryz.prog w=.ok v1 w:=by kernel_rfl
def aT.l0:Nat→List Int→Int→Int→Int→Option (Int)
 | 0,_,_,_,_=>none
 | k+1,x0,x1,x7,x8=>if x8 < x7 then (if 0≤x8 then (if x8 < (x0.length:Int) then (if x1=(rd x0 x8) then (some x8) else (aT.l0 k x0 x1 x7 (wrap64 (x8+1)))) else (none)) else (none)) else (some (-1))
def aT.f (k:Nat) (l0:List Int) (a1:Int):Option (Int):=aT.l0 k l0 a1 (l0.length:Int) 0
theorem aT.mono_l:∀ k,(∀ y0 y1 y2 y3,LeO (aT.l0 k y0 y1 y2 y3) (aT.l0 (k+1) y0 y1 y2 y3))
 | 0=>fun _ _ _ _ r h=>by simp [aT.l0] at h
 | k+1=>by
  have ih0:=aT.mono_l k
  ·intro y0 y1 y2 y3
   unfold aT.l0
   repeat' first
   | (with_reducible exact ih0 _ _ _ _)
   | (with_reducible exact LeO.refl _)
   | (with_reducible exact LeO.none _)
   | (with_reducible refine LeO.ite ?_ ?_)
   | (with_reducible refine LeO.bind ?_ (fun _=>?_))
   | exact ih0 _ _ _ _
   | exact LeO.none _
   | refine LeO.ite ?_ ?_
   | refine LeO.bind ?_ (fun _=>?_)
theorem aT.mono:∀ a0 a1 k,LeO (aT.f k a0 a1) (aT.f (k+1) a0 a1):=by
 intro a0 a1 k
 have ih0:=aT.mono_l k
 unfold aT.f
 repeat' first
   | (with_reducible exact ih0 _ _ _ _)
   | (with_reducible exact LeO.refl _)
   | (with_reducible exact LeO.none _)
   | (with_reducible refine LeO.ite ?_ ?_)
   | (with_reducible refine LeO.bind ?_ (fun _=>?_))
   | exact ih0 _ _ _ _
   | exact LeO.none _
   | refine LeO.ite ?_ ?_
   | refine LeO.bind ?_ (fun _=>?_)
set_option maxHeartbeats 8000000 in
set_option maxRecDepth 100000 in
theorem aT.calls (k:Nat) (A0:Option Addr) (c0:Nat) (l0:List Int) (a1:Int) (r:Int) (w:World) (hr0:Kd.C (Kd.int .i64) w A0 l0.length l0) (hc0:l0.length≤c0) (h:aT.f k l0 a1=some r) :
  Calls Tryz.prog 80 #[.slice A0 l0.length c0,.int .i64 a1] w fun e w'=>e=.returned (.int .i64 r)∧aJ w w':=by
 have HR0:=aa.mk hr0
 have HC0:=aa.mk hc0
 clear hr0 hc0
 have H:(aT.l0 k l0 a1 (l0.length:Int) 0)=some r:=h
 clear h
 have H':=aa.mk H
 clear H
 go_enter Tryz.func80,Tryz.ntmps80
 go_wp2
 go_loopg [8] k (fun kq v8 w'=>∃ (x8_1:Int),v8=.int .i64 x8_1∧aa (aT.l0 kq l0 a1 (l0.length:Int) x8_1=some r)∧aa (kq≤k)∧aJ w w')
 case atStart=>exact ⟨(0),(by first|rfl|(simp;done)|(simp [*];done)|(simp [*,aK,aM,bX];done)|(simp only [au,ak];done)|(simp only [au,ak];simp;done)|(simp only [au,ak];simp [*];done)),H',⟨Nat.le_refl _⟩,by repeat (first|exact aJ.refl _|apply aJ.step)⟩
 case round =>
  clear H'
  try clear p2
  obtain ⟨x8_1,rfl,HA,HK1,⟨m1,rfl⟩⟩:=hrel
  cases gk with
  | zero=>exact absurd HA.out (by simp [aT.l0])
  | succ k1 =>
   have H:=HA.out
   clear HA
   simp only [aT.l0] at H
   by_cases c3:x8_1 < (l0.length:Int)
   ·rw [if_pos c3] at H
    have c3b0:decide (x8_1 < (l0.length:Int))=true:=decide_eq_true c3
    clear c3
    by_cases c4:0≤x8_1
    ·rw [if_pos c4] at H
     have c4b0:decide (0≤x8_1)=true:=decide_eq_true c4
     clear c4
     by_cases c5:x8_1 < (l0.length:Int)
     ·rw [if_pos c5] at H
      have c5b0:decide (x8_1 < (l0.length:Int))=true:=decide_eq_true c5
      clear c5
      by_cases c6:a1=(rd l0 x8_1)
      ·rw [if_pos c6] at H
       have c6b0:(a1 == (rd l0 x8_1))=true:=beq_iff_eq.mpr c6
       have c6b1:(a1 != (rd l0 x8_1))=false:=bne_eq_false_iff_eq.mpr c6
       clear c6
       obtain rfl:=Option.some.inj H
       have p117:0≤(x8_1:Int):=of_decide_eq_true (by first|(with_reducible assumption)|assumption)
       have q117:x8_1 < (l0.length:Int):=of_decide_eq_true (by first|(with_reducible assumption)|assumption)
       obtain ⟨ad117,e117,hx117_0⟩:=Kd.gI HR0.out x8_1 p117 q117
       cases e117
       replace p117:=eq_true p117
       replace q117:=eq_true q117
       go_wp2
       go_ret
       exact ⟨by first|rfl|(simp;done)|(simp [*];done)|(simp [*,aK,aM,bX];done)|(simp only [au,ak];done)|(simp only [au,ak];simp;done)|(simp only [au,ak];simp [*];done),by repeat (first|exact aJ.refl _|apply aJ.step)⟩
      ·rw [if_neg c6] at H
       have c6b0:(a1 == (rd l0 x8_1))=false:=beq_eq_false_iff_ne.mpr c6
       have c6b1:(a1 != (rd l0 x8_1))=true:=bne_iff_ne.mpr c6
       have H':=aa.mk H
       clear H
       have p117:0≤(x8_1:Int):=of_decide_eq_true (by first|(with_reducible assumption)|assumption)
       have q117:x8_1 < (l0.length:Int):=of_decide_eq_true (by first|(with_reducible assumption)|assumption)
       obtain ⟨ad117,e117,hx117_0⟩:=Kd.gI HR0.out x8_1 p117 q117
       cases e117
       replace p117:=eq_true p117
       replace q117:=eq_true q117
       go_wp2
       go_roundg k1
       case measure=>have:=HK1.out;omega
       case rel=>exact ⟨(wrap64 (x8_1+1)),(by first|rfl|(simp;done)|(simp [*];done)|(simp [*,aK,aM,bX];done)|(simp only [au,ak];done)|(simp only [au,ak];simp;done)|(simp only [au,ak];simp [*];done)),H',⟨by have:=HK1.out;omega⟩,by repeat (first|exact aJ.refl _|apply aJ.step)⟩
     ·rw [if_neg c5] at H
      exact absurd H (by simp)
    ·rw [if_neg c4] at H
     exact absurd H (by simp)
   ·rw [if_neg c3] at H
    have c3b0:decide (x8_1 < (l0.length:Int))=false:=decide_eq_false c3
    clear c3
    obtain rfl:=Option.some.inj H
    go_wp2
    go_ret
    exact ⟨by first|rfl|(simp;done)|(simp [*];done)|(simp [*,aK,aM,bX];done)|(simp only [au,ak];done)|(simp only [au,ak];simp;done)|(simp only [au,ak];simp [*];done),by repeat (first|exact aJ.refl _|apply aJ.step)⟩
def aZ.f (k:Nat) (l0:List Int) (a1:Int):Option (Bool):=(aT.f k l0 a1).bind fun t118=>(some (decide (t118 ≥ 0)))
theorem aZ.mono:∀ a0 a1 k,LeO (aZ.f k a0 a1) (aZ.f (k+1) a0 a1):=by
 intro a0 a1 k
 unfold aZ.f
 repeat' first
   | (with_reducible exact aT.mono _ _ _)
   | (with_reducible exact LeO.refl _)
   | (with_reducible exact LeO.none _)
   | (with_reducible refine LeO.ite ?_ ?_)
   | (with_reducible refine LeO.bind ?_ (fun _=>?_))
   | exact aT.mono _ _ _
   | exact LeO.none _
   | refine LeO.ite ?_ ?_
   | refine LeO.bind ?_ (fun _=>?_)
set_option maxHeartbeats 8000000 in
set_option maxRecDepth 100000 in
theorem aZ.calls (k:Nat) (A0:Option Addr) (c0:Nat) (l0:List Int) (a1:Int) (r:Bool) (w:World) (hr0:Kd.C (Kd.int .i64) w A0 l0.length l0) (hc0:l0.length≤c0) (h:aZ.f k l0 a1=some r) :
  Calls Tryz.prog 53 #[.slice A0 l0.length c0,.int .i64 a1] w fun e w'=>e=.returned (.bool r)∧aJ w w':=by
 have HR0:=aa.mk hr0
 have HC0:=aa.mk hc0
 clear hr0 hc0
 have H:((aT.f k l0 a1).bind fun t118=>(some (decide (t118 ≥ 0))))=some r:=h
 clear h
 replace H:=Option.bind_eq_some_iff.mp H
 obtain ⟨t118,A30,H⟩:=H
 replace H:(some (decide (t118 ≥ 0)))=some r:=H
 have A3:=aa.mk A30
 clear A30
 obtain rfl:=Option.some.inj H
 go_enter Tryz.func53,Tryz.ntmps53
 go_wp2_with (first|((with_reducible refine aH (f:=80) rfl ?_);refine bq (some 7) rfl rfl Tryz.func80 (by kernel_rfl) rfl #[.slice A0 l0.length c0,.int .i64 a1] rfl (by (try simp only [List.map_toArray,List.map_cons,List.map_nil]);first|done|rfl|(simp only [List.length_drop,List.length_take];rfl)) ?_;(with_reducible refine (aT.calls k _ _ l0 a1 t118 _ ?side1 ?side2 A3.out).mono ?_);(case side1=>repeat (first|exact HR0.out|(with_reducible refine Kd.dA ?_ _)|(with_reducible refine Kd.dG ?_ _)|(with_reducible refine Kd.eu ?_)));(case side2=>exact HC0.out);rintro e w' ⟨rfl,⟨nd,rfl⟩⟩;refine ⟨_,rfl,?_⟩))
 go_ret
 exact ⟨by first|rfl|(simp;done)|(simp [*];done)|(simp [*,aK,aM,bX];done)|(simp only [au,ak];done)|(simp only [au,ak];simp;done)|(simp only [au,ak];simp [*];done),by repeat (first|exact aJ.refl _|apply aJ.step)⟩
def gy.f (k:Nat) (l0:List Int) (a1:Int) (a2:Int):Option (Int):=(aZ.f k l0 a1).bind fun t119=>(if t119=true then (some a1) else ((aZ.f k l0 2).bind fun t120=>(if t120=true then (some 2) else (some a2))))
set_option maxHeartbeats 8000000 in
set_option maxRecDepth 100000 in
theorem gy.calls (k:Nat) (A0:Option Addr) (c0:Nat) (l0:List Int) (a1:Int) (a2:Int) (r:Int) (w:World) (hr0:Kd.C (Kd.int .i64) w A0 l0.length l0) (hc0:l0.length≤c0) (h:gy.f k l0 a1 a2=some r) :
  Calls Tryz.prog 34 #[.slice A0 l0.length c0,.int .i64 a1,.int .i64 a2] w fun e w'=>e=.returned (.int .i64 r)∧aJ w w':=by
 have HR0:=aa.mk hr0
 have HC0:=aa.mk hc0
 clear hr0 hc0
 have H:((aZ.f k l0 a1).bind fun t119=>(if t119=true then (some a1) else ((aZ.f k l0 2).bind fun t120=>(if t120=true then (some 2) else (some a2)))))=some r:=h
 clear h
 replace H:=Option.bind_eq_some_iff.mp H
 obtain ⟨t119,A40,H⟩:=H
 replace H:(if t119=true then (some a1) else ((aZ.f k l0 2).bind fun t120=>(if t120=true then (some 2) else (some a2))))=some r:=H
 have A4:=aa.mk A40
 clear A40
 by_cases c5:t119=true
 ·subst c5
  have H1:(some a1)=some r:=by rw [if_pos rfl] at H;exact H
  clear H
  have H:=H1
  clear H1
  obtain rfl:=Option.some.inj H
  go_enter Tryz.func34,Tryz.ntmps34
  go_wp2_with (first|((with_reducible refine aH (f:=53) rfl ?_);refine bq (some 10) rfl rfl Tryz.func53 (by kernel_rfl) rfl #[.slice A0 l0.length c0,.int .i64 a1] rfl (by (try simp only [List.map_toArray,List.map_cons,List.map_nil]);first|done|rfl|(simp only [List.length_drop,List.length_take];rfl)) ?_;(with_reducible refine (aZ.calls k _ _ l0 a1 true _ ?side1 ?side2 A4.out).mono ?_);(case side1=>repeat (first|exact HR0.out|(with_reducible refine Kd.dA ?_ _)|(with_reducible refine Kd.dG ?_ _)|(with_reducible refine Kd.eu ?_)));(case side2=>exact HC0.out);rintro e w' ⟨rfl,⟨nd,rfl⟩⟩;refine ⟨_,rfl,?_⟩))
  go_ret
  exact ⟨by first|rfl|(simp;done)|(simp [*];done)|(simp [*,aK,aM,bX];done)|(simp only [au,ak];done)|(simp only [au,ak];simp;done)|(simp only [au,ak];simp [*];done),by repeat (first|exact aJ.refl _|apply aJ.step)⟩
 ·replace c5:=Bool.eq_false_iff.mpr c5
  subst c5
  have H1:((aZ.f k l0 2).bind fun t120=>(if t120=true then (some 2) else (some a2)))=some r:=by rw [if_neg (show ¬ (false=true) by decide)] at H;exact H
  clear H
  have H:=H1
  clear H1
  replace H:=Option.bind_eq_some_iff.mp H
  obtain ⟨t120,A60,H⟩:=H
  replace H:(if t120=true then (some 2) else (some a2))=some r:=H
  have A6:=aa.mk A60
  clear A60
  by_cases c7:t120=true
  ·subst c7
   have H1:(some 2)=some r:=by rw [if_pos rfl] at H;exact H
   clear H
   have H:=H1
   clear H1
   obtain rfl:=Option.some.inj H
   go_enter Tryz.func34,Tryz.ntmps34
   go_wp2_with (first|((with_reducible refine aH (f:=53) rfl ?_);refine bq (some 10) rfl rfl Tryz.func53 (by kernel_rfl) rfl #[.slice A0 l0.length c0,.int .i64 a1] rfl (by (try simp only [List.map_toArray,List.map_cons,List.map_nil]);first|done|rfl|(simp only [List.length_drop,List.length_take];rfl)) ?_;(with_reducible refine (aZ.calls k _ _ l0 a1 false _ ?side1 ?side2 A4.out).mono ?_);(case side1=>repeat (first|exact HR0.out|(with_reducible refine Kd.dA ?_ _)|(with_reducible refine Kd.dG ?_ _)|(with_reducible refine Kd.eu ?_)));(case side2=>exact HC0.out);rintro e w' ⟨rfl,⟨nd,rfl⟩⟩;refine ⟨_,rfl,?_⟩)|((with_reducible refine aH (f:=53) rfl ?_);refine bq (some 14) rfl rfl Tryz.func53 (by kernel_rfl) rfl #[.slice A0 l0.length c0,.int .i64 2] rfl (by (try simp only [List.map_toArray,List.map_cons,List.map_nil]);first|done|rfl|(simp only [List.length_drop,List.length_take];rfl)) ?_;(with_reducible refine (aZ.calls k _ _ l0 2 true _ ?side1 ?side2 A6.out).mono ?_);(case side1=>repeat (first|exact HR0.out|(with_reducible refine Kd.dA ?_ _)|(with_reducible refine Kd.dG ?_ _)|(with_reducible refine Kd.eu ?_)));(case side2=>exact HC0.out);rintro e w' ⟨rfl,⟨nd,rfl⟩⟩;refine ⟨_,rfl,?_⟩))
   go_ret
   exact ⟨by first|rfl|(simp;done)|(simp [*];done)|(simp [*,aK,aM,bX];done)|(simp only [au,ak];done)|(simp only [au,ak];simp;done)|(simp only [au,ak];simp [*];done),by repeat (first|exact aJ.refl _|apply aJ.step)⟩
  ·replace c7:=Bool.eq_false_iff.mpr c7
   subst c7
   have H1:(some a2)=some r:=by rw [if_neg (show ¬ (false=true) by decide)] at H;exact H
   clear H
   have H:=H1
   clear H1
   obtain rfl:=Option.some.inj H
   go_enter Tryz.func34,Tryz.ntmps34
   go_wp2_with (first|((with_reducible refine aH (f:=53) rfl ?_);refine bq (some 10) rfl rfl Tryz.func53 (by kernel_rfl) rfl #[.slice A0 l0.length c0,.int .i64 a1] rfl (by (try simp only [List.map_toArray,List.map_cons,List.map_nil]);first|done|rfl|(simp only [List.length_drop,List.length_take];rfl)) ?_;(with_reducible refine (aZ.calls k _ _ l0 a1 false _ ?side1 ?side2 A4.out).mono ?_);(case side1=>repeat (first|exact HR0.out|(with_reducible refine Kd.dA ?_ _)|(with_reducible refine Kd.dG ?_ _)|(with_reducible refine Kd.eu ?_)));(case side2=>exact HC0.out);rintro e w' ⟨rfl,⟨nd,rfl⟩⟩;refine ⟨_,rfl,?_⟩)|((with_reducible refine aH (f:=53) rfl ?_);refine bq (some 14) rfl rfl Tryz.func53 (by kernel_rfl) rfl #[.slice A0 l0.length c0,.int .i64 2] rfl (by (try simp only [List.map_toArray,List.map_cons,List.map_nil]);first|done|rfl|(simp only [List.length_drop,List.length_take];rfl)) ?_;(with_reducible refine (aZ.calls k _ _ l0 2 false _ ?side1 ?side2 A6.out).mono ?_);(case side1=>repeat (first|exact HR0.out|(with_reducible refine Kd.dA ?_ _)|(with_reducible refine Kd.dG ?_ _)|(with_reducible refine Kd.eu ?_)));(case side2=>exact HC0.out);rintro e w' ⟨rfl,⟨nd,rfl⟩⟩;refine ⟨_,rfl,?_⟩))
   go_ret
   exact ⟨by first|rfl|(simp;done)|(simp [*];done)|(simp [*,aK,aM,bX];done)|(simp only [au,ak];done)|(simp only [au,ak];simp;done)|(simp only [au,ak];simp [*];done),by repeat (first|exact aJ.refl _|apply aJ.step)⟩
def dw.f (a0:Bool):Option (Int):=if a0=true then (some 1) else (some 0)
set_option maxHeartbeats 8000000 in
set_option maxRecDepth 100000 in
theorem dw.calls (a0:Bool) (r:Int) (w:World) (h:dw.f a0=some r) :
  Calls Tryz.prog 36 #[.bool a0] w fun e w'=>e=.returned (.int .i64 r)∧aJ w w':=by
 have H:(if a0=true then (some 1) else (some 0))=some r:=h
 clear h
 by_cases c2:a0=true
 ·subst c2
  have H1:(some 1)=some r:=by rw [if_pos rfl] at H;exact H
  clear H
  have H:=H1
  clear H1
  obtain rfl:=Option.some.inj H
  go_enter Tryz.func36,Tryz.ntmps36
  go_wp2
  go_ret
  exact ⟨by first|rfl|(simp;done)|(simp [*];done)|(simp [*,aK,aM,bX];done)|(simp only [au,ak];done)|(simp only [au,ak];simp;done)|(simp only [au,ak];simp [*];done),by repeat (first|exact aJ.refl _|apply aJ.step)⟩
 ·replace c2:=Bool.eq_false_iff.mpr c2
  subst c2
  have H1:(some 0)=some r:=by rw [if_neg (show ¬ (false=true) by decide)] at H;exact H
  clear H
  have H:=H1
  clear H1
  obtain rfl:=Option.some.inj H
  go_enter Tryz.func36,Tryz.ntmps36
  go_wp2
  go_ret
  exact ⟨by first|rfl|(simp;done)|(simp [*];done)|(simp [*,aK,aM,bX];done)|(simp only [au,ak];done)|(simp only [au,ak];simp;done)|(simp only [au,ak];simp [*];done),by repeat (first|exact aJ.refl _|apply aJ.step)⟩
def dN.f (a0:ByteArray):Option (Int):=if a0.toList=([117,105,100,110,117,109,98,101,114]:List UInt8) then (some 2) else (if a0.toList=([109,101,109,98,101,114]:List UInt8) then (some 3) else (if a0.toList=([117,115,101,114,112,97,115,115,119,111,114,100]:List UInt8) then (some 4) else (if a0.toList=([111,98,106,101,99,116,99,108,97,115,115]:List UInt8) then (some 1) else (if a0.toList=([99,110]:List UInt8) then (some 1) else (if a0.toList=([115,110]:List UInt8) then (some 1) else (if a0.toList=([111]:List UInt8) then (some 1) else (if a0.toList=([111,117]:List UInt8) then (some 1) else (if a0.toList=([117,105,100]:List UInt8) then (some 1) else (if a0.toList=([109,97,105,108]:List UInt8) then (some 1) else (if a0.toList=([100,101,115,99,114,105,112,116,105,111,110]:List UInt8) then (some 1) else (some 0)))))))))))
set_option maxHeartbeats 8000000 in
set_option maxRecDepth 100000 in
theorem dN.calls (a0:ByteArray) (r:Int) (w:World) (h:dN.f a0=some r) :
  Calls Tryz.prog 54 #[.string a0] w fun e w'=>e=.returned (.int .i64 r)∧aJ w w':=by
 have H:(if a0.toList=([117,105,100,110,117,109,98,101,114]:List UInt8) then (some 2) else (if a0.toList=([109,101,109,98,101,114]:List UInt8) then (some 3) else (if a0.toList=([117,115,101,114,112,97,115,115,119,111,114,100]:List UInt8) then (some 4) else (if a0.toList=([111,98,106,101,99,116,99,108,97,115,115]:List UInt8) then (some 1) else (if a0.toList=([99,110]:List UInt8) then (some 1) else (if a0.toList=([115,110]:List UInt8) then (some 1) else (if a0.toList=([111]:List UInt8) then (some 1) else (if a0.toList=([111,117]:List UInt8) then (some 1) else (if a0.toList=([117,105,100]:List UInt8) then (some 1) else (if a0.toList=([109,97,105,108]:List UInt8) then (some 1) else (if a0.toList=([100,101,115,99,114,105,112,116,105,111,110]:List UInt8) then (some 1) else (some 0))))))))))))=some r:=h
 clear h
 by_cases c2:a0.toList=([117,105,100,110,117,109,98,101,114]:List UInt8)
 ·rw [if_pos c2] at H
  have c2b0:(a0.toList == ([117,105,100,110,117,109,98,101,114]:List UInt8))=true:=beq_iff_eq.mpr c2
  have c2b1:(a0.toList != ([117,105,100,110,117,109,98,101,114]:List UInt8))=false:=bne_eq_false_iff_eq.mpr c2
  clear c2
  obtain rfl:=Option.some.inj H
  go_enter Tryz.func54,Tryz.ntmps54
  go_wp2
  go_ret
  exact ⟨by first|rfl|(simp;done)|(simp [*];done)|(simp [*,aK,aM,bX];done)|(simp only [au,ak];done)|(simp only [au,ak];simp;done)|(simp only [au,ak];simp [*];done),by repeat (first|exact aJ.refl _|apply aJ.step)⟩
 ·rw [if_neg c2] at H
  have c2b0:(a0.toList == ([117,105,100,110,117,109,98,101,114]:List UInt8))=false:=beq_eq_false_iff_ne.mpr c2
  have c2b1:(a0.toList != ([117,105,100,110,117,109,98,101,114]:List UInt8))=true:=bne_iff_ne.mpr c2
  by_cases c3:a0.toList=([109,101,109,98,101,114]:List UInt8)
  ·rw [if_pos c3] at H
   have c3b0:(a0.toList == ([109,101,109,98,101,114]:List UInt8))=true:=beq_iff_eq.mpr c3
   have c3b1:(a0.toList != ([109,101,109,98,101,114]:List UInt8))=false:=bne_eq_false_iff_eq.mpr c3
   clear c3
   obtain rfl:=Option.some.inj H
   go_enter Tryz.func54,Tryz.ntmps54
   go_wp2
   go_ret
   exact ⟨by first|rfl|(simp;done)|(simp [*];done)|(simp [*,aK,aM,bX];done)|(simp only [au,ak];done)|(simp only [au,ak];simp;done)|(simp only [au,ak];simp [*];done),by repeat (first|exact aJ.refl _|apply aJ.step)⟩
  ·rw [if_neg c3] at H
   have c3b0:(a0.toList == ([109,101,109,98,101,114]:List UInt8))=false:=beq_eq_false_iff_ne.mpr c3
   have c3b1:(a0.toList != ([109,101,109,98,101,114]:List UInt8))=true:=bne_iff_ne.mpr c3
   by_cases c4:a0.toList=([117,115,101,114,112,97,115,115,119,111,114,100]:List UInt8)
   ·rw [if_pos c4] at H
    have c4b0:(a0.toList == ([117,115,101,114,112,97,115,115,119,111,114,100]:List UInt8))=true:=beq_iff_eq.mpr c4
    have c4b1:(a0.toList != ([117,115,101,114,112,97,115,115,119,111,114,100]:List UInt8))=false:=bne_eq_false_iff_eq.mpr c4
    clear c4
    obtain rfl:=Option.some.inj H
    go_enter Tryz.func54,Tryz.ntmps54
    go_wp2
    go_ret
    exact ⟨by first|rfl|(simp;done)|(simp [*];done)|(simp [*,aK,aM,bX];done)|(simp only [au,ak];done)|(simp only [au,ak];simp;done)|(simp only [au,ak];simp [*];done),by repeat (first|exact aJ.refl _|apply aJ.step)⟩
   ·rw [if_neg c4] at H
    have c4b0:(a0.toList == ([117,115,101,114,112,97,115,115,119,111,114,100]:List UInt8))=false:=beq_eq_false_iff_ne.mpr c4
    have c4b1:(a0.toList != ([117,115,101,114,112,97,115,115,119,111,114,100]:List UInt8))=true:=bne_iff_ne.mpr c4
    by_cases c5:a0.toList=([111,98,106,101,99,116,99,108,97,115,115]:List UInt8)
    ·rw [if_pos c5] at H
     have c5b0:(a0.toList == ([111,98,106,101,99,116,99,108,97,115,115]:List UInt8))=true:=beq_iff_eq.mpr c5
     have c5b1:(a0.toList != ([111,98,106,101,99,116,99,108,97,115,115]:List UInt8))=false:=bne_eq_false_iff_eq.mpr c5
     clear c5
     obtain rfl:=Option.some.inj H
     go_enter Tryz.func54,Tryz.ntmps54
     go_wp2
     go_ret
     exact ⟨by first|rfl|(simp;done)|(simp [*];done)|(simp [*,aK,aM,bX];done)|(simp only [au,ak];done)|(simp only [au,ak];simp;done)|(simp only [au,ak];simp [*];done),by repeat (first|exact aJ.refl _|apply aJ.step)⟩
    ·rw [if_neg c5] at H
     have c5b0:(a0.toList == ([111,98,106,101,99,116,99,108,97,115,115]:List UInt8))=false:=beq_eq_false_iff_ne.mpr c5
     have c5b1:(a0.toList != ([111,98,106,101,99,116,99,108,97,115,115]:List UInt8))=true:=bne_iff_ne.mpr c5
     by_cases c6:a0.toList=([99,110]:List UInt8)
     ·rw [if_pos c6] at H
      have c6b0:(a0.toList == ([99,110]:List UInt8))=true:=beq_iff_eq.mpr c6
      have c6b1:(a0.toList != ([99,110]:List UInt8))=false:=bne_eq_false_iff_eq.mpr c6
      clear c6
      obtain rfl:=Option.some.inj H
      go_enter Tryz.func54,Tryz.ntmps54
      go_wp2
      go_ret
      exact ⟨by first|rfl|(simp;done)|(simp [*];done)|(simp [*,aK,aM,bX];done)|(simp only [au,ak];done)|(simp only [au,ak];simp;done)|(simp only [au,ak];simp [*];done),by repeat (first|exact aJ.refl _|apply aJ.step)⟩
     ·rw [if_neg c6] at H
      have c6b0:(a0.toList == ([99,110]:List UInt8))=false:=beq_eq_false_iff_ne.mpr c6
      have c6b1:(a0.toList != ([99,110]:List UInt8))=true:=bne_iff_ne.mpr c6
      by_cases c7:a0.toList=([115,110]:List UInt8)
      ·rw [if_pos c7] at H
       have c7b0:(a0.toList == ([115,110]:List UInt8))=true:=beq_iff_eq.mpr c7
       have c7b1:(a0.toList != ([115,110]:List UInt8))=false:=bne_eq_false_iff_eq.mpr c7
       clear c7
       obtain rfl:=Option.some.inj H
       go_enter Tryz.func54,Tryz.ntmps54
       go_wp2
       go_ret
       exact ⟨by first|rfl|(simp;done)|(simp [*];done)|(simp [*,aK,aM,bX];done)|(simp only [au,ak];done)|(simp only [au,ak];simp;done)|(simp only [au,ak];simp [*];done),by repeat (first|exact aJ.refl _|apply aJ.step)⟩
      ·rw [if_neg c7] at H
       have c7b0:(a0.toList == ([115,110]:List UInt8))=false:=beq_eq_false_iff_ne.mpr c7
       have c7b1:(a0.toList != ([115,110]:List UInt8))=true:=bne_iff_ne.mpr c7
       by_cases c8:a0.toList=([111]:List UInt8)
       ·rw [if_pos c8] at H
        have c8b0:(a0.toList == ([111]:List UInt8))=true:=beq_iff_eq.mpr c8
        have c8b1:(a0.toList != ([111]:List UInt8))=false:=bne_eq_false_iff_eq.mpr c8
        clear c8
        obtain rfl:=Option.some.inj H
        go_enter Tryz.func54,Tryz.ntmps54
        go_wp2
        go_ret
        exact ⟨by first|rfl|(simp;done)|(simp [*];done)|(simp [*,aK,aM,bX];done)|(simp only [au,ak];done)|(simp only [au,ak];simp;done)|(simp only [au,ak];simp [*];done),by repeat (first|exact aJ.refl _|apply aJ.step)⟩
       ·rw [if_neg c8] at H
        have c8b0:(a0.toList == ([111]:List UInt8))=false:=beq_eq_false_iff_ne.mpr c8
        have c8b1:(a0.toList != ([111]:List UInt8))=true:=bne_iff_ne.mpr c8
        by_cases c9:a0.toList=([111,117]:List UInt8)
        ·rw [if_pos c9] at H
         have c9b0:(a0.toList == ([111,117]:List UInt8))=true:=beq_iff_eq.mpr c9
         have c9b1:(a0.toList != ([111,117]:List UInt8))=false:=bne_eq_false_iff_eq.mpr c9
         clear c9
         obtain rfl:=Option.some.inj H
         go_enter Tryz.func54,Tryz.ntmps54
         go_wp2
         go_ret
         exact ⟨by first|rfl|(simp;done)|(simp [*];done)|(simp [*,aK,aM,bX];done)|(simp only [au,ak];done)|(simp only [au,ak];simp;done)|(simp only [au,ak];simp [*];done),by repeat (first|exact aJ.refl _|apply aJ.step)⟩
        ·rw [if_neg c9] at H
         have c9b0:(a0.toList == ([111,117]:List UInt8))=false:=beq_eq_false_iff_ne.mpr c9
         have c9b1:(a0.toList != ([111,117]:List UInt8))=true:=bne_iff_ne.mpr c9
         by_cases c10:a0.toList=([117,105,100]:List UInt8)
         ·rw [if_pos c10] at H
          have c10b0:(a0.toList == ([117,105,100]:List UInt8))=true:=beq_iff_eq.mpr c10
          have c10b1:(a0.toList != ([117,105,100]:List UInt8))=false:=bne_eq_false_iff_eq.mpr c10
          clear c10
          obtain rfl:=Option.some.inj H
          go_enter Tryz.func54,Tryz.ntmps54
          go_wp2
          go_ret
          exact ⟨by first|rfl|(simp;done)|(simp [*];done)|(simp [*,aK,aM,bX];done)|(simp only [au,ak];done)|(simp only [au,ak];simp;done)|(simp only [au,ak];simp [*];done),by repeat (first|exact aJ.refl _|apply aJ.step)⟩
         ·rw [if_neg c10] at H
          have c10b0:(a0.toList == ([117,105,100]:List UInt8))=false:=beq_eq_false_iff_ne.mpr c10
          have c10b1:(a0.toList != ([117,105,100]:List UInt8))=true:=bne_iff_ne.mpr c10
          by_cases c11:a0.toList=([109,97,105,108]:List UInt8)
          ·rw [if_pos c11] at H
           have c11b0:(a0.toList == ([109,97,105,108]:List UInt8))=true:=beq_iff_eq.mpr c11
           have c11b1:(a0.toList != ([109,97,105,108]:List UInt8))=false:=bne_eq_false_iff_eq.mpr c11
           clear c11
           obtain rfl:=Option.some.inj H
           go_enter Tryz.func54,Tryz.ntmps54
           go_wp2
           go_ret
           exact ⟨by first|rfl|(simp;done)|(simp [*];done)|(simp [*,aK,aM,bX];done)|(simp only [au,ak];done)|(simp only [au,ak];simp;done)|(simp only [au,ak];simp [*];done),by repeat (first|exact aJ.refl _|apply aJ.step)⟩
          ·rw [if_neg c11] at H
           have c11b0:(a0.toList == ([109,97,105,108]:List UInt8))=false:=beq_eq_false_iff_ne.mpr c11
           have c11b1:(a0.toList != ([109,97,105,108]:List UInt8))=true:=bne_iff_ne.mpr c11
           by_cases c12:a0.toList=([100,101,115,99,114,105,112,116,105,111,110]:List UInt8)
           ·rw [if_pos c12] at H
            have c12b0:(a0.toList == ([100,101,115,99,114,105,112,116,105,111,110]:List UInt8))=true:=beq_iff_eq.mpr c12
            have c12b1:(a0.toList != ([100,101,115,99,114,105,112,116,105,111,110]:List UInt8))=false:=bne_eq_false_iff_eq.mpr c12
            clear c12
            obtain rfl:=Option.some.inj H
            go_enter Tryz.func54,Tryz.ntmps54
            go_wp2
            go_ret
            exact ⟨by first|rfl|(simp;done)|(simp [*];done)|(simp [*,aK,aM,bX];done)|(simp only [au,ak];done)|(simp only [au,ak];simp;done)|(simp only [au,ak];simp [*];done),by repeat (first|exact aJ.refl _|apply aJ.step)⟩
           ·rw [if_neg c12] at H
            have c12b0:(a0.toList == ([100,101,115,99,114,105,112,116,105,111,110]:List UInt8))=false:=beq_eq_false_iff_ne.mpr c12
            have c12b1:(a0.toList != ([100,101,115,99,114,105,112,116,105,111,110]:List UInt8))=true:=bne_iff_ne.mpr c12
            obtain rfl:=Option.some.inj H
            go_enter Tryz.func54,Tryz.ntmps54
            go_wp2
            go_ret
            exact ⟨by first|rfl|(simp;done)|(simp [*];done)|(simp [*,aK,aM,bX];done)|(simp only [au,ak];done)|(simp only [au,ak];simp;done)|(simp only [au,ak];simp [*];done),by repeat (first|exact aJ.refl _|apply aJ.step)⟩
end Go.Proofs.YthfpaoacjpjnfaaGreatDoor.P

namespace Go.Proofs.YthfpaoacjpjnfaaGreatDoor.P
open Go.RowKit Go.Proofs.YthfpaoacjpjnfaaGreatDoorW.PrintWords Go.Proofs.YthfpaoacjpjnfaaGreatDoorW.PrintLast Go.Proofs.YthfpaoacjpjnfaaGreatDoorW.PrintMore
def cO.f (a0:ByteArray):Option (ByteArray × Bool):=if a0.size≤9223372036854775807 then (dN.f (gm a0)).bind fun n=>if n=0 then some (⟨#[]⟩,false) else some (gm a0,true) else none
theorem cO.any (a0:ByteArray) (n:Int) (w:World) (hs:a0.size≤9223372036854775807) (hr:dN.f (gm a0)=some n) :
    Calls Tryz.prog 35 #[.string a0] w fun e w'=>e=.returned (if n=0 then .tuple #[.string ⟨#[]⟩,.bool false] else .tuple #[.string (gm a0),.bool true])∧Below w.heap.size w w':=by
  have hcv:=fun W=>Lib.run_convert_string_bytes (P:=Tryz.prog) W 9 34 5 a0 (u:=.string) Tryz.underlying9 Tryz.underlying34 Tryz.underlying5
  have HRL:=Lib.hid hr
  clear hr
  go_enter Tryz.func35,Tryz.ntmps35
  go_wp2
  go_loopw [12] (fun i wr=>∃ k:Nat,k≤a0.size∧i=.int .i64 k∧aa (Below w.heap.size w wr)∧aa (iR wr w.heap.size a0.size (iW a0 k))) (fun i _=>a0.size - (intOf i).toNat)
  case atStart=>exact ⟨0,Nat.zero_le _,rfl,⟨Lib.bytesWorld_below _ _ _⟩,⟨by rw [jW];exact jm w a0⟩⟩
  case round =>
    obtain ⟨k,hk,rfl,HB,HR⟩:=hrel
    by_cases hlt:k < a0.size
    · have hc:=HR.out.cell k hlt
      have hz:=HR.out.free k hlt
      rw [j6] at hc
      obtain ⟨c,hcc⟩:∃ c:Int,((a0.data.toList.getD k 0).toNat:Int)=c:=⟨_,rfl⟩
      rw [hcc] at hc
      have hcr:0≤c∧c≤255:=by have:=(a0.data.toList.getD k 0).toNat_lt;omega
      have hc0:0≤c:=hcr.1
      have hc1:c≤255:=hcr.2
      clear hcr
      have HC:=Lib.hid hcc
      clear hcc
      by_cases h1:65≤c
      · by_cases h2:c≤90
        · have HL:=Lib.hid (qY h1 h2)
          go_wp2
          refine ⟨⟨k+1,by omega,by go_num,⟨?_⟩,⟨?_⟩⟩,by simp [intOf];omega⟩
          · exact (HB.out).setCell (Nat.le_refl _) _
          · have:=ll HR.out hlt HC.out
            rw [HL.out] at this
            first
            | exact this
            | (rw [show c+97 - 65=c+32 from by omega];exact this)
            | (rw [show ((c+97) - 65) % 256=c+32 from by omega];exact this)
            | (rw [show ((c+97) % 256 - 65) % 256=c+32 from by omega];exact this)
        · have HL:=Lib.hid (jR (c:=c) (by omega))
          have d2:decide (c≤90)=false:=by simpa using h2
          go_wp2
          refine ⟨⟨k+1,by omega,by go_num,HB,⟨iF HR.out HC.out HL.out⟩⟩,by simp [intOf];omega⟩
      · have HL:=Lib.hid (jR (c:=c) (by omega))
        have d1:decide (65≤c)=false:=by simpa using h1
        go_wp2
        refine ⟨⟨k+1,by omega,by go_num,HB,⟨iF HR.out HC.out HL.out⟩⟩,by simp [intOf];omega⟩
    · have hge:¬ (k:Int) < (a0.size:Int):=by omega
      have hst:=fun cap=>jA (P:=Tryz.prog) HR.out cap 34 5 9 Tryz.underlying34 Tryz.underlying5 Tryz.underlying9
      rw [lG a0 k hlt] at hst
      by_cases hn:n=0
      · have b1:(n == 0)=true:=beq_iff_eq.2 hn
        have HN:=Lib.hid hn
        clear hn
        go_wp2_with (go_at_call 54;refine (dN.calls _ _ _ HRL.out).mono ?_;rintro e w' ⟨rfl,⟨nq,rfl⟩⟩)
        go_ret2
        exact ⟨rfl,ae HB.out nq⟩
      · have b1:(n == 0)=false:=beq_eq_false_iff_ne.2 hn
        have HN:=Lib.hid hn
        clear hn
        go_wp2_with (go_at_call 54;refine (dN.calls _ _ _ HRL.out).mono ?_;rintro e w' ⟨rfl,⟨nq,rfl⟩⟩)
        go_ret2
        exact ⟨rfl,ae HB.out nq⟩
theorem cO.calls (a0:ByteArray) (r1:ByteArray) (r2:Bool) (w:World) (h:cO.f a0=some (r1,r2)) :
    Calls Tryz.prog 35 #[.string a0] w fun e w'=>e=.returned (.tuple #[.string r1,.bool r2])∧Below w.heap.size w w':=by
  unfold cO.f at h
  by_cases hs:a0.size≤9223372036854775807
  · rw [if_pos hs] at h
    obtain ⟨n,hn,h⟩:=Option.bind_eq_some_iff.1 h
    refine (cO.any a0 n w hs hn).mono ?_
    rintro e w' ⟨rfl,hb⟩
    refine ⟨?_,hb⟩
    by_cases h0:n=0
    · rw [if_pos h0] at h ⊢
      obtain ⟨rfl,rfl⟩:=Prod.mk.inj (Option.some.inj h)
      rfl
    · rw [if_neg h0] at h ⊢
      obtain ⟨rfl,rfl⟩:=Prod.mk.inj (Option.some.inj h)
      rfl
  · rw [if_neg hs] at h
    cases h
end Go.Proofs.YthfpaoacjpjnfaaGreatDoor.P

namespace Go.Proofs.YthfpaoacjpjnfaaGreatDoor.P
open Go.RowKit Go.Proofs.YthfpaoacjpjnfaaGreatDoorW.PrintWords Go.Proofs.YthfpaoacjpjnfaaGreatDoorW.PrintLast Go.Proofs.YthfpaoacjpjnfaaGreatDoorW.PrintMore
attribute [local go_sem] dP dS eP eO dE dD dQ dR
def cB.f (a0:ByteArray):Option (Int):=(cO.f a0).bind fun bt131=>((dN.f bt131.1).bind fun t133=>(some t133))
set_option maxHeartbeats 8000000 in
set_option maxRecDepth 100000 in
theorem cB.calls (a0:ByteArray) (r:Int) (w:World) (h:cB.f a0=some r) :
  Calls Tryz.prog 59 #[.string a0] w fun e w'=>e=.returned (.int .i64 r)∧Below w.heap.size w w':=by
 have HB:=aa.mk (Below.refl w.heap.size w)
 have H:((cO.f a0).bind fun bt131=>((dN.f bt131.1).bind fun t133=>(some t133)))=some r:=h
 clear h
 replace H:=Option.bind_eq_some_iff.mp H
 obtain ⟨⟨t131,t132⟩,A20,H⟩:=H
 replace H:((dN.f t131).bind fun t133=>(some t133))=some r:=H
 have A2:=aa.mk A20
 clear A20
 replace H:=Option.bind_eq_some_iff.mp H
 obtain ⟨t133,A30,H⟩:=H
 replace H:(some t133)=some r:=H
 have A3:=aa.mk A30
 clear A30
 obtain rfl:=Option.some.inj H
 go_enter Tryz.func59,Tryz.ntmps59
 go_wp2_with (first|((with_reducible refine aH (f:=35) rfl ?_);refine bq (some 7) rfl rfl Tryz.func35 (by kernel_rfl) rfl #[.string a0] rfl (by (try simp only [List.map_toArray,List.map_cons,List.map_nil]);first|done|rfl|(simp only [List.length_drop,List.length_take];rfl)) ?_;(with_reducible refine (cO.calls a0 t131 t132 _ A2.out).mono ?_);rintro e w4 ⟨rfl,hb⟩;refine ⟨_,rfl,?_⟩;have n0_:=aa.mk (aA (by repeat (first|(with_reducible first|exact HB.out|apply af|apply ae|apply ag)|exact HB.out)) hb);clear HB;have HB:=n0_;clear n0_;(try clear hb);(try clear hb2);(try clear hk);(try clear hi))|((with_reducible refine aH (f:=54) rfl ?_);refine bq (some 11) rfl rfl Tryz.func54 (by kernel_rfl) rfl #[.string t131] rfl (by (try simp only [List.map_toArray,List.map_cons,List.map_nil]);first|done|rfl|(simp only [List.length_drop,List.length_take];rfl)) ?_;(with_reducible refine (dN.calls t131 t133 _ A3.out).mono ?_);rintro e w' ⟨rfl,⟨nd,rfl⟩⟩;refine ⟨_,rfl,?_⟩))
 go_ret
 exact ⟨by first|rfl|(simp [aD,aG] <;> rfl)|(simp [*,aD,aG] <;> rfl),by repeat (first|(with_reducible first|exact HB.out|apply af|apply ae|apply ag)|exact HB.out)⟩
end Go.Proofs.YthfpaoacjpjnfaaGreatDoor.P


namespace Go.Proofs
open Go.Shelf
def Tryz.lays169_ren:Go.Shelf.Ren:=⟨fun|169=>119|n=>n,fun|70=>120|9=>9|0=>0|72=>122|37=>34|127=>142|3=>3|5=>5|n=>n,fun|n=>n⟩
theorem Tryz.lays169:Go.Proofs.Lays.n169 Tryz.prog Tryz.lays169_ren:={
  mixed:=by kernel_rfl
  f169:=Tryz.func119.trans (congrArg some (by kernel_rfl))
  t0:=Tryz.underlying0
  a0:=Tryz.isAgg0
  z0:=Tryz.sizeOf0
  v0:=Tryz.zeroValue0
  t3:=Tryz.underlying3
  a3:=Tryz.isAgg3
  z3:=Tryz.sizeOf3
  v3:=Tryz.zeroValue3
  t9:=Tryz.underlying9
  a9:=Tryz.isAgg9
  z9:=Tryz.sizeOf9
  v9:=Tryz.zeroValue9
  t37:=Tryz.underlying34
  a37:=Tryz.isAgg34
  z37:=Tryz.sizeOf34
  v37:=Tryz.zeroValue34
  t70:=Tryz.underlying120
  a70:=Tryz.isAgg120
  z70:=Tryz.sizeOf120
  v70:=Tryz.zeroValue120
  t72:=Tryz.underlying122
  a72:=Tryz.isAgg122
  z72:=Tryz.sizeOf122
  v72:=Tryz.zeroValue122
  t127:=Tryz.underlying142
  a127:=Tryz.isAgg142
  z127:=Tryz.sizeOf142
  v127:=Tryz.zeroValue142 }
theorem Tryz.Builder_Extra_169:Builder.Extra Tryz.prog Tryz.lays169_ren:={
  sizeBuilder:=by kernel_rfl
  liesBuilder:=by kernel_rfl
  t5:=Tryz.underlying5
  a5:=Tryz.isAgg5
  z5:=Tryz.sizeOf5
  v5:=Tryz.zeroValue5
  infoByte:=by kernel_rfl
  cellsByte:=by kernel_rfl
  sizeByte:=by kernel_rfl
  neB5:=by decide }
open Go.RowKit in
theorem Tryz.Builder_String_any (B b:Nat) (l:List UInt8) (w:World) (h:Lib.IsBuilder 122 5 B b (Lib.byteCells l) w) (hBw:B≤w.heap.size) :
    Calls Tryz.prog 119 #[.pointer (some ⟨b,0,none⟩)] w fun e w'=>e=.returned (.string ⟨l.toArray⟩)∧Below B w w':=Any.Builder_String_any Tryz.lays169 Tryz.Builder_Extra_169 B b l w h hBw
def Tryz.lays160_ren:Go.Shelf.Ren:=⟨fun|160=>86|232=>102|231=>101|227=>103|234=>105|233=>104|236=>107|235=>106|228=>126|271=>129|151=>128|197=>127|120=>149|152=>148|260=>147|137=>139|119=>161|224=>145|225=>144|217=>143|266=>159|n=>n,fun|9=>9|4=>4|3=>3|5=>5|117=>113|116=>112|0=>0|124=>116|21=>21|105=>129|46=>125|119=>162|139=>165|138=>164|n=>n,fun|3=>3|4=>4|n=>n⟩
theorem Tryz.lays160:Go.Proofs.Lays.n160 Tryz.prog Tryz.lays160_ren:={
  mixed:=by kernel_rfl
  f119:=Tryz.func161.trans (congrArg some (by kernel_rfl))
  f120:=Tryz.func149.trans (congrArg some (by kernel_rfl))
  f137:=Tryz.func139.trans (congrArg some (by kernel_rfl))
  f151:=Tryz.func128.trans (congrArg some (by kernel_rfl))
  f152:=Tryz.func148.trans (congrArg some (by kernel_rfl))
  f160:=Tryz.func86.trans (congrArg some (by kernel_rfl))
  f197:=Tryz.func127.trans (congrArg some (by kernel_rfl))
  f217:=Tryz.func143.trans (congrArg some (by kernel_rfl))
  f224:=Tryz.func145.trans (congrArg some (by kernel_rfl))
  f225:=Tryz.func144.trans (congrArg some (by kernel_rfl))
  f227:=Tryz.func103.trans (congrArg some (by kernel_rfl))
  f228:=Tryz.func126.trans (congrArg some (by kernel_rfl))
  f231:=Tryz.func101.trans (congrArg some (by kernel_rfl))
  f232:=Tryz.func102.trans (congrArg some (by kernel_rfl))
  f233:=Tryz.func104.trans (congrArg some (by kernel_rfl))
  f234:=Tryz.func105.trans (congrArg some (by kernel_rfl))
  f235:=Tryz.func106.trans (congrArg some (by kernel_rfl))
  f236:=Tryz.func107.trans (congrArg some (by kernel_rfl))
  f260:=Tryz.func147.trans (congrArg some (by kernel_rfl))
  f266:=Tryz.func159.trans (congrArg some (by kernel_rfl))
  f271:=Tryz.func129.trans (congrArg some (by kernel_rfl))
  t0:=Tryz.underlying0
  a0:=Tryz.isAgg0
  z0:=Tryz.sizeOf0
  v0:=Tryz.zeroValue0
  t3:=Tryz.underlying3
  a3:=Tryz.isAgg3
  z3:=Tryz.sizeOf3
  v3:=Tryz.zeroValue3
  t4:=Tryz.underlying4
  a4:=Tryz.isAgg4
  z4:=Tryz.sizeOf4
  v4:=Tryz.zeroValue4
  t5:=Tryz.underlying5
  a5:=Tryz.isAgg5
  z5:=Tryz.sizeOf5
  v5:=Tryz.zeroValue5
  t9:=Tryz.underlying9
  a9:=Tryz.isAgg9
  z9:=Tryz.sizeOf9
  v9:=Tryz.zeroValue9
  t21:=Tryz.underlying21
  a21:=Tryz.isAgg21
  z21:=Tryz.sizeOf21
  v21:=Tryz.zeroValue21
  t46:=Tryz.underlying125
  a46:=Tryz.isAgg125
  z46:=Tryz.sizeOf125
  v46:=Tryz.zeroValue125
  t105:=Tryz.underlying129
  a105:=Tryz.isAgg129
  z105:=Tryz.sizeOf129
  v105:=Tryz.zeroValue129
  t116:=Tryz.underlying112
  a116:=Tryz.isAgg112
  z116:=Tryz.sizeOf112
  t117:=Tryz.underlying113
  a117:=Tryz.isAgg113
  z117:=Tryz.sizeOf113
  v117:=Tryz.zeroValue113
  t119:=Tryz.underlying162
  a119:=Tryz.isAgg162
  z119:=Tryz.sizeOf162
  t124:=Tryz.underlying116
  a124:=Tryz.isAgg116
  z124:=Tryz.sizeOf116
  v124:=Tryz.zeroValue116
  t138:=Tryz.underlying164
  a138:=Tryz.isAgg164
  z138:=Tryz.sizeOf164
  v138:=Tryz.zeroValue164
  t139:=Tryz.underlying165
  a139:=Tryz.isAgg165
  z139:=Tryz.sizeOf165
  v139:=Tryz.zeroValue165
  g3:=by kernel_rfl
  g4:=by kernel_rfl }
open Go.RowKit in
theorem Tryz.strings_Trim_one (s:ByteArray) (c:UInt8) (hc:c.toNat < 128) (w:World) (hs:s.size≤9223372036854775807) :
    Calls Tryz.prog 86 #[.string s,.string ⟨#[c]⟩] w fun e w'=>e=.returned (.string ⟨(Lib.trimB s.data.toList c).toArray⟩)∧(w'=w∨w'=w.drew):=Any.strings_Trim_one Tryz.lays160 s c hc w hs
def Tryz.lays137_ren:Go.Shelf.Ren:=⟨fun|137=>139|217=>143|266=>159|n=>n,fun|9=>9|5=>5|3=>3|n=>n,fun|n=>n⟩
theorem Tryz.lays137:Go.Proofs.Lays.n137 Tryz.prog Tryz.lays137_ren:={
  mixed:=by kernel_rfl
  f137:=Tryz.func139.trans (congrArg some (by kernel_rfl))
  f217:=Tryz.func143.trans (congrArg some (by kernel_rfl))
  f266:=Tryz.func159.trans (congrArg some (by kernel_rfl))
  t3:=Tryz.underlying3
  a3:=Tryz.isAgg3
  z3:=Tryz.sizeOf3
  v3:=Tryz.zeroValue3
  t5:=Tryz.underlying5
  a5:=Tryz.isAgg5
  z5:=Tryz.sizeOf5
  v5:=Tryz.zeroValue5
  t9:=Tryz.underlying9
  a9:=Tryz.isAgg9
  z9:=Tryz.sizeOf9
  v9:=Tryz.zeroValue9 }
open Go.RowKit in
theorem Tryz.strings_IndexByte (s:ByteArray) (c:Int) (w:World) :
    Calls Tryz.prog 139 #[.string s,.int .u8 c] w fun e w'=>e=.returned (.int .i64 (Lib.indexByte s.data.toList c.toNat.toUInt8))∧w'=w:=Any.strings_IndexByte Tryz.lays137 s c w
def Tryz.lays103_ren:Go.Shelf.Ren:=⟨fun|103=>82|210=>97|206=>124|n=>n,fun|9=>9|4=>4|24=>60|3=>3|n=>n,fun|n=>n⟩
theorem Tryz.lays103:Go.Proofs.Lays.n103 Tryz.prog Tryz.lays103_ren:={
  mixed:=by kernel_rfl
  f103:=Tryz.func82.trans (congrArg some (by kernel_rfl))
  f206:=Tryz.func124.trans (congrArg some (by kernel_rfl))
  f210:=Tryz.func97.trans (congrArg some (by kernel_rfl))
  t3:=Tryz.underlying3
  a3:=Tryz.isAgg3
  z3:=Tryz.sizeOf3
  v3:=Tryz.zeroValue3
  t4:=Tryz.underlying4
  a4:=Tryz.isAgg4
  z4:=Tryz.sizeOf4
  v4:=Tryz.zeroValue4
  t9:=Tryz.underlying9
  a9:=Tryz.isAgg9
  z9:=Tryz.sizeOf9
  v9:=Tryz.zeroValue9
  t24:=Tryz.underlying60
  a24:=Tryz.isAgg60
  z24:=Tryz.sizeOf60
  v24:=Tryz.zeroValue60 }
open Go.RowKit in
theorem Tryz.strings_CutPrefix (s p:ByteArray) (w:World) :
    Calls Tryz.prog 82 #[.string s,.string p] w fun e w'=>e=.returned (.tuple #[.string ⟨(Lib.trimPrefix s.data.toList p.data.toList).toArray⟩,.bool (Lib.hasPrefix s.data.toList p.data.toList)])∧w'=w:=Any.strings_CutPrefix Tryz.lays103 s p w
def Tryz.laysM171_ren:Go.Shelf.Ren:=⟨fun|171=>88|243=>110|246=>135|283=>153|284=>154|285=>155|286=>156|129=>165|317=>164|318=>166|319=>167|320=>168|337=>169|338=>170|n=>n,fun|3=>3|9=>9|2=>2|4=>4|171=>152|0=>0|53=>57|37=>34|5=>5|173=>155|212=>170|51=>159|20=>20|213=>171|46=>125|232=>175|233=>176|n=>n,fun|17=>5|18=>6|19=>7|n=>n⟩
theorem Tryz.laysM171:Go.Proofs.LaysM.n171 Tryz.prog Tryz.laysM171_ren:={
  mixed:=by kernel_rfl
  f129:=Tryz.func165.trans (congrArg some (by kernel_rfl))
  f171:=Tryz.func88.trans (congrArg some (by kernel_rfl))
  f243:=Tryz.func110.trans (congrArg some (by kernel_rfl))
  f246:=Tryz.func135.trans (congrArg some (by kernel_rfl))
  f283:=Tryz.func153.trans (congrArg some (by kernel_rfl))
  f284:=Tryz.func154.trans (congrArg some (by kernel_rfl))
  f285:=Tryz.func155.trans (congrArg some (by kernel_rfl))
  f286:=Tryz.func156.trans (congrArg some (by kernel_rfl))
  f317:=Tryz.func164.trans (congrArg some (by kernel_rfl))
  f318:=Tryz.func166.trans (congrArg some (by kernel_rfl))
  f319:=Tryz.func167.trans (congrArg some (by kernel_rfl))
  f320:=Tryz.func168.trans (congrArg some (by kernel_rfl))
  f337:=Tryz.func169.trans (congrArg some (by kernel_rfl))
  f338:=Tryz.func170.trans (congrArg some (by kernel_rfl))
  t0:=Tryz.underlying0
  a0:=Tryz.isAgg0
  z0:=Tryz.sizeOf0
  v0:=Tryz.zeroValue0
  t2:=Tryz.underlying2
  a2:=Tryz.isAgg2
  z2:=Tryz.sizeOf2
  v2:=Tryz.zeroValue2
  t3:=Tryz.underlying3
  a3:=Tryz.isAgg3
  z3:=Tryz.sizeOf3
  v3:=Tryz.zeroValue3
  t4:=Tryz.underlying4
  a4:=Tryz.isAgg4
  z4:=Tryz.sizeOf4
  v4:=Tryz.zeroValue4
  t5:=Tryz.underlying5
  a5:=Tryz.isAgg5
  z5:=Tryz.sizeOf5
  v5:=Tryz.zeroValue5
  t9:=Tryz.underlying9
  a9:=Tryz.isAgg9
  z9:=Tryz.sizeOf9
  v9:=Tryz.zeroValue9
  t20:=Tryz.underlying20
  a20:=Tryz.isAgg20
  z20:=Tryz.sizeOf20
  v20:=Tryz.zeroValue20
  t37:=Tryz.underlying34
  a37:=Tryz.isAgg34
  z37:=Tryz.sizeOf34
  v37:=Tryz.zeroValue34
  t46:=Tryz.underlying125
  a46:=Tryz.isAgg125
  z46:=Tryz.sizeOf125
  v46:=Tryz.zeroValue125
  t51:=Tryz.underlying159
  a51:=Tryz.isAgg159
  z51:=Tryz.sizeOf159
  v51:=Tryz.zeroValue159
  t53:=Tryz.underlying57
  a53:=Tryz.isAgg57
  z53:=Tryz.sizeOf57
  v53:=Tryz.zeroValue57
  t171:=Tryz.underlying152
  a171:=Tryz.isAgg152
  z171:=Tryz.sizeOf152
  v171:=Tryz.zeroValue152
  t173:=Tryz.underlying155
  a173:=Tryz.isAgg155
  z173:=Tryz.sizeOf155
  v173:=Tryz.zeroValue155
  t212:=Tryz.underlying170
  a212:=Tryz.isAgg170
  z212:=Tryz.sizeOf170
  v212:=Tryz.zeroValue170
  t213:=Tryz.underlying171
  a213:=Tryz.isAgg171
  z213:=Tryz.sizeOf171
  t232:=Tryz.underlying175
  a232:=Tryz.isAgg175
  z232:=Tryz.sizeOf175
  v232:=Tryz.zeroValue175
  t233:=Tryz.underlying176
  a233:=Tryz.isAgg176
  z233:=Tryz.sizeOf176
  v233:=Tryz.zeroValue176
  g17:=by kernel_rfl
  g18:=by kernel_rfl
  g19:=by kernel_rfl
  i0:=by kernel_rfl
  i2:=by kernel_rfl
  i3:=by kernel_rfl
  i4:=by kernel_rfl
  i5:=by kernel_rfl
  i9:=by kernel_rfl
  i20:=by kernel_rfl
  i37:=by kernel_rfl
  i46:=by kernel_rfl
  i51:=by kernel_rfl
  i53:=by kernel_rfl
  i171:=by kernel_rfl
  i173:=by kernel_rfl
  i212:=by kernel_rfl
  i232:=by kernel_rfl
  i233:=by kernel_rfl
  m17:=by kernel_rfl
  m18:=by kernel_rfl
  m19:=by kernel_rfl }
open Go.RowKit Go.Sort Go.Lib in
theorem Tryz.strconv_Itoa (n:Int) (h0:-9223372036854775808≤n) (h1:n≤9223372036854775807) (w:World) (htab:Lib.TabIs Tryz.prog w "internal/strconv.uint64pow10" .u64 Lib.pow10Tab) :
    Calls Tryz.prog 88 #[.int .i64 n] w fun e w'=>e=.returned (.string ⟨(Lib.itoa n).toArray⟩)∧∃ k os,w'=grow (w.drewN k) os:=Any.strconv_Itoa Tryz.laysM171 n h0 h1 w htab
def Tryz.laysC172_ren:Go.Shelf.Ren:=⟨fun|172=>87|244=>108|245=>109|247=>130|279=>131|280=>132|281=>133|282=>134|287=>150|316=>151|171=>88|205=>152|321=>162|322=>163|243=>110|246=>135|283=>153|284=>154|285=>155|286=>156|129=>165|317=>164|318=>166|319=>167|320=>168|337=>169|338=>170|n=>n,fun|9=>9|3=>3|75=>95|76=>96|4=>4|5=>5|167=>132|37=>34|0=>0|85=>133|2=>2|168=>135|53=>57|175=>147|46=>125|210=>150|127=>142|145=>169|143=>167|21=>21|171=>152|173=>155|212=>170|51=>159|20=>20|213=>171|232=>175|233=>176|80=>126|n=>n,fun|15=>1|16=>2|17=>5|18=>6|19=>7|n=>n⟩
theorem Tryz.laysC172:Go.Proofs.LaysC.n172 Tryz.prog Tryz.laysC172_ren:={
  mixed:=by kernel_rfl
  f129:=Tryz.func165.trans (congrArg some (by kernel_rfl))
  f171:=Tryz.func88.trans (congrArg some (by kernel_rfl))
  f172:=Tryz.func87.trans (congrArg some (by kernel_rfl))
  f205:=Tryz.func152.trans (congrArg some (by kernel_rfl))
  f243:=Tryz.func110.trans (congrArg some (by kernel_rfl))
  f244:=Tryz.func108.trans (congrArg some (by kernel_rfl))
  f245:=Tryz.func109.trans (congrArg some (by kernel_rfl))
  f246:=Tryz.func135.trans (congrArg some (by kernel_rfl))
  f247:=Tryz.func130.trans (congrArg some (by kernel_rfl))
  f279:=Tryz.func131.trans (congrArg some (by kernel_rfl))
  f280:=Tryz.func132.trans (congrArg some (by kernel_rfl))
  f281:=Tryz.func133.trans (congrArg some (by kernel_rfl))
  f282:=Tryz.func134.trans (congrArg some (by kernel_rfl))
  f283:=Tryz.func153.trans (congrArg some (by kernel_rfl))
  f284:=Tryz.func154.trans (congrArg some (by kernel_rfl))
  f285:=Tryz.func155.trans (congrArg some (by kernel_rfl))
  f286:=Tryz.func156.trans (congrArg some (by kernel_rfl))
  f287:=Tryz.func150.trans (congrArg some (by kernel_rfl))
  f316:=Tryz.func151.trans (congrArg some (by kernel_rfl))
  f317:=Tryz.func164.trans (congrArg some (by kernel_rfl))
  f318:=Tryz.func166.trans (congrArg some (by kernel_rfl))
  f319:=Tryz.func167.trans (congrArg some (by kernel_rfl))
  f320:=Tryz.func168.trans (congrArg some (by kernel_rfl))
  f321:=Tryz.func162.trans (congrArg some (by kernel_rfl))
  f322:=Tryz.func163.trans (congrArg some (by kernel_rfl))
  f337:=Tryz.func169.trans (congrArg some (by kernel_rfl))
  f338:=Tryz.func170.trans (congrArg some (by kernel_rfl))
  t0:=Tryz.underlying0
  a0:=Tryz.isAgg0
  z0:=Tryz.sizeOf0
  v0:=Tryz.zeroValue0
  t2:=Tryz.underlying2
  a2:=Tryz.isAgg2
  z2:=Tryz.sizeOf2
  v2:=Tryz.zeroValue2
  t3:=Tryz.underlying3
  a3:=Tryz.isAgg3
  z3:=Tryz.sizeOf3
  v3:=Tryz.zeroValue3
  t4:=Tryz.underlying4
  a4:=Tryz.isAgg4
  z4:=Tryz.sizeOf4
  v4:=Tryz.zeroValue4
  t5:=Tryz.underlying5
  a5:=Tryz.isAgg5
  z5:=Tryz.sizeOf5
  v5:=Tryz.zeroValue5
  t9:=Tryz.underlying9
  a9:=Tryz.isAgg9
  z9:=Tryz.sizeOf9
  v9:=Tryz.zeroValue9
  t20:=Tryz.underlying20
  a20:=Tryz.isAgg20
  z20:=Tryz.sizeOf20
  v20:=Tryz.zeroValue20
  t21:=Tryz.underlying21
  a21:=Tryz.isAgg21
  z21:=Tryz.sizeOf21
  v21:=Tryz.zeroValue21
  t37:=Tryz.underlying34
  a37:=Tryz.isAgg34
  z37:=Tryz.sizeOf34
  v37:=Tryz.zeroValue34
  t46:=Tryz.underlying125
  a46:=Tryz.isAgg125
  z46:=Tryz.sizeOf125
  v46:=Tryz.zeroValue125
  t51:=Tryz.underlying159
  a51:=Tryz.isAgg159
  z51:=Tryz.sizeOf159
  v51:=Tryz.zeroValue159
  t53:=Tryz.underlying57
  a53:=Tryz.isAgg57
  z53:=Tryz.sizeOf57
  v53:=Tryz.zeroValue57
  t75:=Tryz.underlying95
  a75:=Tryz.isAgg95
  z75:=Tryz.sizeOf95
  v75:=Tryz.zeroValue95
  t76:=Tryz.underlying96
  a76:=Tryz.isAgg96
  z76:=Tryz.sizeOf96
  v76:=Tryz.zeroValue96
  t85:=Tryz.underlying133
  a85:=Tryz.isAgg133
  z85:=Tryz.sizeOf133
  v85:=Tryz.zeroValue133
  t127:=Tryz.underlying142
  a127:=Tryz.isAgg142
  z127:=Tryz.sizeOf142
  v127:=Tryz.zeroValue142
  t143:=Tryz.underlying167
  a143:=Tryz.isAgg167
  z143:=Tryz.sizeOf167
  v143:=Tryz.zeroValue167
  t145:=Tryz.underlying169
  a145:=Tryz.isAgg169
  z145:=Tryz.sizeOf169
  v145:=Tryz.zeroValue169
  t167:=Tryz.underlying132
  a167:=Tryz.isAgg132
  z167:=Tryz.sizeOf132
  v167:=Tryz.zeroValue132
  t168:=Tryz.underlying135
  a168:=Tryz.isAgg135
  z168:=Tryz.sizeOf135
  v168:=Tryz.zeroValue135
  t171:=Tryz.underlying152
  a171:=Tryz.isAgg152
  z171:=Tryz.sizeOf152
  v171:=Tryz.zeroValue152
  t173:=Tryz.underlying155
  a173:=Tryz.isAgg155
  z173:=Tryz.sizeOf155
  v173:=Tryz.zeroValue155
  t175:=Tryz.underlying147
  a175:=Tryz.isAgg147
  z175:=Tryz.sizeOf147
  v175:=Tryz.zeroValue147
  t210:=Tryz.underlying150
  a210:=Tryz.isAgg150
  z210:=Tryz.sizeOf150
  v210:=Tryz.zeroValue150
  t212:=Tryz.underlying170
  a212:=Tryz.isAgg170
  z212:=Tryz.sizeOf170
  v212:=Tryz.zeroValue170
  t213:=Tryz.underlying171
  a213:=Tryz.isAgg171
  z213:=Tryz.sizeOf171
  t232:=Tryz.underlying175
  a232:=Tryz.isAgg175
  z232:=Tryz.sizeOf175
  v232:=Tryz.zeroValue175
  t233:=Tryz.underlying176
  a233:=Tryz.isAgg176
  z233:=Tryz.sizeOf176
  v233:=Tryz.zeroValue176
  g15:=by kernel_rfl
  g16:=by kernel_rfl
  g17:=by kernel_rfl
  g18:=by kernel_rfl
  g19:=by kernel_rfl
  t80:=Tryz.underlying126
  a80:=Tryz.isAgg126
  z80:=Tryz.sizeOf126
  v80:=Tryz.zeroValue126
  i0:=by kernel_rfl
  i2:=by kernel_rfl
  i3:=by kernel_rfl
  i4:=by kernel_rfl
  i5:=by kernel_rfl
  i9:=by kernel_rfl
  i20:=by kernel_rfl
  i21:=by kernel_rfl
  i37:=by kernel_rfl
  i46:=by kernel_rfl
  i51:=by kernel_rfl
  i53:=by kernel_rfl
  i75:=by kernel_rfl
  i76:=by kernel_rfl
  i80:=by kernel_rfl
  i85:=by kernel_rfl
  i127:=by kernel_rfl
  i143:=by kernel_rfl
  i145:=by kernel_rfl
  i167:=by kernel_rfl
  i168:=by kernel_rfl
  i171:=by kernel_rfl
  i173:=by kernel_rfl
  i175:=by kernel_rfl
  i210:=by kernel_rfl
  i212:=by kernel_rfl
  i232:=by kernel_rfl
  i233:=by kernel_rfl
  m15:=by kernel_rfl
  m16:=by kernel_rfl
  m17:=by kernel_rfl
  m18:=by kernel_rfl
  m19:=by kernel_rfl
  c0:=by kernel_rfl
  c2:=by kernel_rfl
  c3:=by kernel_rfl
  c4:=by kernel_rfl
  c5:=by kernel_rfl
  c9:=by kernel_rfl
  c20:=by kernel_rfl
  c21:=by kernel_rfl
  c37:=by kernel_rfl
  c46:=by kernel_rfl
  c51:=by kernel_rfl
  c53:=by kernel_rfl
  c75:=by kernel_rfl
  c76:=by kernel_rfl
  c80:=by kernel_rfl
  c85:=by kernel_rfl
  c127:=by kernel_rfl
  c143:=by kernel_rfl
  c145:=by kernel_rfl
  c167:=by kernel_rfl
  c168:=by kernel_rfl
  c171:=by kernel_rfl
  c173:=by kernel_rfl
  c175:=by kernel_rfl
  c210:=by kernel_rfl
  c212:=by kernel_rfl
  c213:=by kernel_rfl
  c232:=by kernel_rfl
  c233:=by kernel_rfl }
open Go.RowKit in
theorem Tryz.strconv_Atoi_ok (s:ByteArray) (hmax:s.size≤9223372036854775806) (v:Int) (h:Lib.atoiAll s.data.toList=.ok v) (w:World) :
    Calls Tryz.prog 87 #[.string s] w fun e w'=>e=.returned (.tuple #[.int .i64 v,.nilIface])∧(w'=w∨∃ t,w'=Lib.bytesWorld w 5 t):=Any.strconv_Atoi_ok Tryz.laysC172 s hmax v h w
open Go.RowKit in
theorem Tryz.strconv_Atoi_syntax (s:ByteArray) (hlim:s.size≤281474976710656) (h:Lib.atoiAll s.data.toList=Lib.atoiAll []) (ev:Value) (w:World) (hv:w.cell? ⟨1,0,none⟩=some ev) (hev:ev=.nilIface∨∃ te pe,ev=.iface te pe) :
    Calls Tryz.prog 87 #[.string s] w fun e w'=>∃ N,e=.returned (.tuple #[.int .i64 (0),.iface 135 (.pointer (some ⟨N,0,none⟩))])∧w.heap.size≤N∧w'.heap[N]?=some (.cells #[.string ⟨#[65,116,111,105]⟩,.string s,ev] 150 (0,0))∧Below w.heap.size w w':=Any.strconv_Atoi_syntax Tryz.laysC172 s hlim h ev w hv hev
open Go.RowKit in
theorem Tryz.strconv_Atoi_range (s:ByteArray) (hlim:s.size≤281474976710656) (h:Lib.atoiAll s.data.toList=.range) (ev:Value) (w:World) (hv:w.cell? ⟨2,0,none⟩=some ev) (hev:ev=.nilIface∨∃ te pe,ev=.iface te pe) :
    Calls Tryz.prog 87 #[.string s] w fun e w'=>∃ N,e=.returned (.tuple #[.int .i64 (Lib.atoiSat s.data.toList),.iface 135 (.pointer (some ⟨N,0,none⟩))])∧w.heap.size≤N∧w'.heap[N]?=some (.cells #[.string ⟨#[65,116,111,105]⟩,.string s,ev] 150 (0,0))∧Below w.heap.size w w':=Any.strconv_Atoi_range Tryz.laysC172 s hlim h ev w hv hev
def Tryz.lays145_ren:Go.Shelf.Ren:=⟨fun|145=>83|220=>98|219=>125|217=>143|225=>144|224=>145|267=>146|266=>159|314=>160|n=>n,fun|9=>9|4=>4|59=>90|3=>3|5=>5|46=>125|146=>160|51=>159|n=>n,fun|1=>0|n=>n⟩
theorem Tryz.lays145:Go.Proofs.Lays.n145 Tryz.prog Tryz.lays145_ren:={
  mixed:=by kernel_rfl
  f145:=Tryz.func83.trans (congrArg some (by kernel_rfl))
  f217:=Tryz.func143.trans (congrArg some (by kernel_rfl))
  f219:=Tryz.func125.trans (congrArg some (by kernel_rfl))
  f220:=Tryz.func98.trans (congrArg some (by kernel_rfl))
  f224:=Tryz.func145.trans (congrArg some (by kernel_rfl))
  f225:=Tryz.func144.trans (congrArg some (by kernel_rfl))
  f266:=Tryz.func159.trans (congrArg some (by kernel_rfl))
  f267:=Tryz.func146.trans (congrArg some (by kernel_rfl))
  f314:=Tryz.func160.trans (congrArg some (by kernel_rfl))
  t3:=Tryz.underlying3
  a3:=Tryz.isAgg3
  z3:=Tryz.sizeOf3
  v3:=Tryz.zeroValue3
  t4:=Tryz.underlying4
  a4:=Tryz.isAgg4
  z4:=Tryz.sizeOf4
  v4:=Tryz.zeroValue4
  t5:=Tryz.underlying5
  a5:=Tryz.isAgg5
  z5:=Tryz.sizeOf5
  v5:=Tryz.zeroValue5
  t9:=Tryz.underlying9
  a9:=Tryz.isAgg9
  z9:=Tryz.sizeOf9
  v9:=Tryz.zeroValue9
  t46:=Tryz.underlying125
  a46:=Tryz.isAgg125
  z46:=Tryz.sizeOf125
  v46:=Tryz.zeroValue125
  t51:=Tryz.underlying159
  a51:=Tryz.isAgg159
  z51:=Tryz.sizeOf159
  v51:=Tryz.zeroValue159
  t59:=Tryz.underlying90
  a59:=Tryz.isAgg90
  z59:=Tryz.sizeOf90
  v59:=Tryz.zeroValue90
  t146:=Tryz.underlying160
  a146:=Tryz.isAgg160
  z146:=Tryz.sizeOf160
  v146:=Tryz.zeroValue160
  g1:=by kernel_rfl }
open Go.RowKit Go.Lib in
theorem Tryz.strings_Cut (s sep:ByteArray) (m:Int) (w:World) (hs:s.size < 4294967281) (hm:w.cell? ⟨0,0,none⟩=some (.int .i64 m)) :
    Calls Tryz.prog 83 #[.string s,.string sep] w fun e w'=>e=.returned (.tuple #[.string ⟨(Lib.cut s.data.toList sep.data.toList).1.toArray⟩,.string ⟨(Lib.cut s.data.toList sep.data.toList).2.1.toArray⟩,.bool (Lib.cut s.data.toList sep.data.toList).2.2])∧∃ n,w'=w.drewN n:=Any.strings_Cut Tryz.lays145 s sep m w hs hm
def Tryz.lays100_ren:Go.Shelf.Ren:=⟨fun|100=>84|207=>99|n=>n,fun|9=>9|4=>4|3=>3|n=>n,fun|n=>n⟩
theorem Tryz.lays100:Go.Proofs.Lays.n100 Tryz.prog Tryz.lays100_ren:={
  mixed:=by kernel_rfl
  f100:=Tryz.func84.trans (congrArg some (by kernel_rfl))
  f207:=Tryz.func99.trans (congrArg some (by kernel_rfl))
  t3:=Tryz.underlying3
  a3:=Tryz.isAgg3
  z3:=Tryz.sizeOf3
  v3:=Tryz.zeroValue3
  t4:=Tryz.underlying4
  a4:=Tryz.isAgg4
  z4:=Tryz.sizeOf4
  v4:=Tryz.zeroValue4
  t9:=Tryz.underlying9
  a9:=Tryz.isAgg9
  z9:=Tryz.sizeOf9
  v9:=Tryz.zeroValue9 }
open Go.RowKit Go.Lib in
theorem Tryz.strings_HasSuffix (s p:ByteArray) (w:World) (hs:s.size≤9223372036854775807) :
    Calls Tryz.prog 84 #[.string s,.string p] w fun e w'=>e=.returned (.bool (Lib.hasSuffix s.data.toList p.data.toList))∧w'=w:=Any.strings_HasSuffix Tryz.lays100 s p w hs
def Tryz.lays101_ren:Go.Shelf.Ren:=⟨fun|101=>89|208=>111|206=>124|n=>n,fun|9=>9|4=>4|3=>3|n=>n,fun|n=>n⟩
theorem Tryz.lays101:Go.Proofs.Lays.n101 Tryz.prog Tryz.lays101_ren:={
  mixed:=by kernel_rfl
  f101:=Tryz.func89.trans (congrArg some (by kernel_rfl))
  f206:=Tryz.func124.trans (congrArg some (by kernel_rfl))
  f208:=Tryz.func111.trans (congrArg some (by kernel_rfl))
  t3:=Tryz.underlying3
  a3:=Tryz.isAgg3
  z3:=Tryz.sizeOf3
  v3:=Tryz.zeroValue3
  t4:=Tryz.underlying4
  a4:=Tryz.isAgg4
  z4:=Tryz.sizeOf4
  v4:=Tryz.zeroValue4
  t9:=Tryz.underlying9
  a9:=Tryz.isAgg9
  z9:=Tryz.sizeOf9
  v9:=Tryz.zeroValue9 }
open Go.RowKit Go.Lib in
theorem Tryz.strings_TrimPrefix (s p:ByteArray) (w:World) :
    Calls Tryz.prog 89 #[.string s,.string p] w fun e w'=>e=.returned (.string ⟨(Lib.trimPrefix s.data.toList p.data.toList).toArray⟩)∧w'=w:=Any.strings_TrimPrefix Tryz.lays101 s p w
def Tryz.laysNm216_ren:Go.Shelf.Ren:=⟨fun|16=>58|n=>n,fun|24=>22|9=>9|4=>4|n=>n,fun|n=>n⟩
theorem Tryz.laysNm216:Go.Proofs.Lays2.n16 Tryz.prog Tryz.laysNm216_ren:={
  mixed:=by kernel_rfl
  f16:=Tryz.func58.trans (congrArg some (by kernel_rfl))
  t4:=Tryz.underlying4
  a4:=Tryz.isAgg4
  z4:=Tryz.sizeOf4
  v4:=Tryz.zeroValue4
  t9:=Tryz.underlying9
  a9:=Tryz.isAgg9
  z9:=Tryz.sizeOf9
  v9:=Tryz.zeroValue9
  t24:=Tryz.underlying22
  a24:=Tryz.isAgg22
  z24:=Tryz.sizeOf22
  v24:=Tryz.zeroValue22
  i9:=by kernel_rfl }
open Go.RowKit Go.Lib in
theorem Tryz.slices_Clone_string (b off n c:Nat) (zs:List ByteArray) (w:World) (hz:n≤zs.length) (hbig:n * 16≤140737488355328) (hc:∀ j,j < zs.length→w.cell? ⟨b,off+j,none⟩=some (.string (zs.getD j ByteArray.empty))) :
    Calls Tryz.prog 58 #[.slice (some ⟨b,off,none⟩) n c] w fun e w'=>∃ v',e=.returned v'∧w'.ownsRow w.heap.size 9 1 v' n ((zs.take n).map (Value.string))∧v'≠.slice none 0 0∧Below w.heap.size w w':=Any.slices_Clone_string Tryz.laysNm216 b off n c zs w hz hbig hc
open Go.RowKit Go.Lib in
theorem Tryz.slices_Clone_string_nil (n c:Nat) (w:World) :
    Calls Tryz.prog 58 #[.slice none n c] w fun e w'=>e=.returned (.slice none 0 0)∧w'=w:=Any.slices_Clone_string_nil Tryz.laysNm216 n c w
open Go.RowKit Go.Lib in
theorem Tryz.slices_Clone_string_zero (a:Addr) (c:Nat) (w:World) :
    Calls Tryz.prog 58 #[.slice (some a) 0 c] w fun e w'=>∃ v',e=.returned v'∧w'.ownsRow w.heap.size 9 1 v' 0 []∧v'≠.slice none 0 0∧Below w.heap.size w w':=Any.slices_Clone_string_zero Tryz.laysNm216 a c w
end Go.Proofs

namespace Go.Proofs.YthfpaoacjpjnfaaGreatDoor.P
open Go.RowKit Go.Proofs.YthfpaoacjpjnfaaGreatDoorW.PrintWords Go.Proofs.YthfpaoacjpjnfaaGreatDoorW.PrintLast Go.Proofs.YthfpaoacjpjnfaaGreatDoorW.PrintMore
def gP.f (a0 a1:ByteArray):Option ByteArray:=if a1=⟨#[32]⟩∧a0.size≤9223372036854775807 then some ⟨(Lib.trimB a0.data.toList 32).toArray⟩ else none
theorem gP.calls (a0 a1:ByteArray) (r:ByteArray) (w:World) (h:gP.f a0 a1=some r) :
    Calls Tryz.prog 86 #[.string a0,.string a1] w fun e w'=>e=.returned (.string r)∧aJ w w':=by
  unfold gP.f at h
  by_cases hs:a1=⟨#[32]⟩∧a0.size≤9223372036854775807
  · rw [if_pos hs] at h
    obtain rfl:=Option.some.inj h
    obtain ⟨rfl,hs⟩:=hs
    refine (Tryz.strings_Trim_one a0 32 (by decide) w hs).mono ?_
    rintro e w' ⟨rfl,h⟩
    rcases h with rfl|rfl
    · exact ⟨rfl,aJ.refl _⟩
    · exact ⟨rfl,⟨1,rfl⟩⟩
  · rw [if_neg hs] at h
    cases h
def strings_IndexByte.f (a0:ByteArray) (a1:Int):Option Int:=some (Lib.indexByte a0.data.toList a1.toNat.toUInt8)
theorem strings_IndexByte.calls (a0:ByteArray) (a1 r:Int) (w:World) (h:strings_IndexByte.f a0 a1=some r) :
    Calls Tryz.prog 139 #[.string a0,.int .u8 a1] w fun e w'=>e=.returned (.int .i64 r)∧aJ w w':=by
  obtain rfl:=Option.some.inj h
  refine (Tryz.strings_IndexByte a0 a1 w).mono ?_
  rintro e w' ⟨rfl,rfl⟩
  exact ⟨rfl,aJ.refl _⟩
def strings_Cut.f (a0 a1:ByteArray):Option (ByteArray × ByteArray × Bool) :=
  if a0.size < 4294967281 then some (⟨(Lib.cut a0.data.toList a1.data.toList).1.toArray⟩,⟨(Lib.cut a0.data.toList a1.data.toList).2.1.toArray⟩,(Lib.cut a0.data.toList a1.data.toList).2.2) else none
theorem strings_Cut.calls (a0 a1:ByteArray) (r1 r2:ByteArray) (r3:Bool) (w:World) (hG:Gl w) (h:strings_Cut.f a0 a1=some (r1,r2,r3)) :
    Calls Tryz.prog 83 #[.string a0,.string a1] w fun e w'=>e=.returned (.tuple #[.string r1,.string r2,.bool r3])∧aJ w w':=by
  unfold strings_Cut.f at h
  by_cases hs:a0.size < 4294967281
  · rw [if_pos hs] at h
    have h:=Option.some.inj h
    obtain ⟨e1,h⟩:=Prod.mk.inj h
    obtain ⟨e2,e3⟩:=Prod.mk.inj h
    rw [← e1,← e2,← e3]
    obtain ⟨m,hm⟩:=hG.maxLen
    refine (Tryz.strings_Cut a0 a1 m w hs hm).mono ?_
    rintro e w' ⟨rfl,n,rfl⟩
    exact ⟨rfl,⟨n,rfl⟩⟩
  · rw [if_neg hs] at h
    cases h
end Go.Proofs.YthfpaoacjpjnfaaGreatDoor.P

namespace Go.Proofs.YthfpaoacjpjnfaaGreatDoor.P
open Go.RowKit Go.Proofs.YthfpaoacjpjnfaaGreatDoorW.PrintWords Go.Proofs.YthfpaoacjpjnfaaGreatDoorW.PrintLast Go.Proofs.YthfpaoacjpjnfaaGreatDoorW.PrintMore
attribute [local go_sem] dP dS eP eO dE dD dQ dR
def aW.f (a0:Int):Option (Bool):=(strings_IndexByte.f (⟨#[44,43,34,92,60,62,59]⟩:ByteArray) a0).bind fun t136=>(some (decide (t136 ≥ 0)))
set_option maxHeartbeats 8000000 in
set_option maxRecDepth 100000 in
theorem aW.calls (a0:Int) (r:Bool) (w:World) (h:aW.f a0=some r) :
  Calls Tryz.prog 118 #[.int .u8 a0] w fun e w'=>e=.returned (.bool r)∧aJ w w':=by
 have H:((strings_IndexByte.f (⟨#[44,43,34,92,60,62,59]⟩:ByteArray) a0).bind fun t136=>(some (decide (t136 ≥ 0))))=some r:=h
 clear h
 replace H:=Option.bind_eq_some_iff.mp H
 obtain ⟨t136,A20,H⟩:=H
 replace H:(some (decide (t136 ≥ 0)))=some r:=H
 have A2:=aa.mk A20
 clear A20
 obtain rfl:=Option.some.inj H
 go_enter Tryz.func118,Tryz.ntmps118
 go_wp2_with (first|((with_reducible refine aH (f:=139) rfl ?_);refine bq (some 4) rfl rfl Tryz.func139 (by kernel_rfl) rfl #[.string (⟨#[44,43,34,92,60,62,59]⟩:ByteArray),.int .u8 a0] rfl (by (try simp only [List.map_toArray,List.map_cons,List.map_nil]);first|done|rfl|(simp only [List.length_drop,List.length_take];rfl)) ?_;(with_reducible refine (strings_IndexByte.calls (⟨#[44,43,34,92,60,62,59]⟩:ByteArray) a0 t136 _ A2.out).mono ?_);rintro e w' ⟨rfl,⟨nd,rfl⟩⟩;refine ⟨_,rfl,?_⟩))
 go_ret
 exact ⟨by first|rfl|(simp;done)|(simp [*];done)|(simp [*,aK,aM,bX];done)|(simp only [au,ak];done)|(simp only [au,ak];simp;done)|(simp only [au,ak];simp [*];done),by repeat (first|exact aJ.refl _|apply aJ.step)⟩
def eX.f (a0:Int):Option (Int):=if 65≤a0 then (if a0≤90 then (some ((a0+32) % 256)) else (some a0)) else (some a0)
set_option maxHeartbeats 8000000 in
set_option maxRecDepth 100000 in
theorem eX.calls (a0:Int) (r:Int) (w:World) (h:eX.f a0=some r) :
  Calls Tryz.prog 100 #[.int .u8 a0] w fun e w'=>e=.returned (.int .u8 r)∧aJ w w':=by
 have H:(if 65≤a0 then (if a0≤90 then (some ((a0+32) % 256)) else (some a0)) else (some a0))=some r:=h
 clear h
 by_cases c2:65≤a0
 ·rw [if_pos c2] at H
  have c2b0:decide (65≤a0)=true:=decide_eq_true c2
  clear c2
  by_cases c3:a0≤90
  ·rw [if_pos c3] at H
   have c3b0:decide (a0≤90)=true:=decide_eq_true c3
   clear c3
   obtain rfl:=Option.some.inj H
   go_enter Tryz.func100,Tryz.ntmps100
   go_wp2
   go_ret
   exact ⟨by first|rfl|(simp;done)|(simp [*];done)|(simp [*,aK,aM,bX];done)|(simp only [au,ak];done)|(simp only [au,ak];simp;done)|(simp only [au,ak];simp [*];done),by repeat (first|exact aJ.refl _|apply aJ.step)⟩
  ·rw [if_neg c3] at H
   have c3b0:decide (a0≤90)=false:=decide_eq_false c3
   clear c3
   obtain rfl:=Option.some.inj H
   go_enter Tryz.func100,Tryz.ntmps100
   go_wp2
   go_ret
   exact ⟨by first|rfl|(simp;done)|(simp [*];done)|(simp [*,aK,aM,bX];done)|(simp only [au,ak];done)|(simp only [au,ak];simp;done)|(simp only [au,ak];simp [*];done),by repeat (first|exact aJ.refl _|apply aJ.step)⟩
 ·rw [if_neg c2] at H
  have c2b0:decide (65≤a0)=false:=decide_eq_false c2
  clear c2
  obtain rfl:=Option.some.inj H
  go_enter Tryz.func100,Tryz.ntmps100
  go_wp2
  go_ret
  exact ⟨by first|rfl|(simp;done)|(simp [*];done)|(simp [*,aK,aM,bX];done)|(simp only [au,ak];done)|(simp only [au,ak];simp;done)|(simp only [au,ak];simp [*];done),by repeat (first|exact aJ.refl _|apply aJ.step)⟩
def cK.f (a0:Int):Option (Int):=(eX.f a0).bind fun t137=>((strings_IndexByte.f (⟨#[48,49,50,51,52,53,54,55,56,57,97,98,99,100,101,102]⟩:ByteArray) t137).bind fun t138=>(some t138))
set_option maxHeartbeats 8000000 in
set_option maxRecDepth 100000 in
theorem cK.calls (a0:Int) (r:Int) (w:World) (h:cK.f a0=some r) :
  Calls Tryz.prog 157 #[.int .u8 a0] w fun e w'=>e=.returned (.int .i64 r)∧aJ w w':=by
 have H:((eX.f a0).bind fun t137=>((strings_IndexByte.f (⟨#[48,49,50,51,52,53,54,55,56,57,97,98,99,100,101,102]⟩:ByteArray) t137).bind fun t138=>(some t138)))=some r:=h
 clear h
 replace H:=Option.bind_eq_some_iff.mp H
 obtain ⟨t137,A20,H⟩:=H
 replace H:((strings_IndexByte.f (⟨#[48,49,50,51,52,53,54,55,56,57,97,98,99,100,101,102]⟩:ByteArray) t137).bind fun t138=>(some t138))=some r:=H
 have A2:=aa.mk A20
 clear A20
 replace H:=Option.bind_eq_some_iff.mp H
 obtain ⟨t138,A30,H⟩:=H
 replace H:(some t138)=some r:=H
 have A3:=aa.mk A30
 clear A30
 obtain rfl:=Option.some.inj H
 go_enter Tryz.func157,Tryz.ntmps157
 go_wp2_with (first|((with_reducible refine aH (f:=100) rfl ?_);refine bq (some 4) rfl rfl Tryz.func100 (by kernel_rfl) rfl #[.int .u8 a0] rfl (by (try simp only [List.map_toArray,List.map_cons,List.map_nil]);first|done|rfl|(simp only [List.length_drop,List.length_take];rfl)) ?_;(with_reducible refine (eX.calls a0 t137 _ A2.out).mono ?_);rintro e w' ⟨rfl,⟨nd,rfl⟩⟩;refine ⟨_,rfl,?_⟩)|((with_reducible refine aH (f:=139) rfl ?_);refine bq (some 5) rfl rfl Tryz.func139 (by kernel_rfl) rfl #[.string (⟨#[48,49,50,51,52,53,54,55,56,57,97,98,99,100,101,102]⟩:ByteArray),.int .u8 t137] rfl (by (try simp only [List.map_toArray,List.map_cons,List.map_nil]);first|done|rfl|(simp only [List.length_drop,List.length_take];rfl)) ?_;(with_reducible refine (strings_IndexByte.calls (⟨#[48,49,50,51,52,53,54,55,56,57,97,98,99,100,101,102]⟩:ByteArray) t137 t138 _ A3.out).mono ?_);rintro e w' ⟨rfl,⟨nd,rfl⟩⟩;refine ⟨_,rfl,?_⟩))
 go_ret
 exact ⟨by first|rfl|(simp;done)|(simp [*];done)|(simp [*,aK,aM,bX];done)|(simp only [au,ak];done)|(simp only [au,ak];simp;done)|(simp only [au,ak];simp [*];done),by repeat (first|exact aJ.refl _|apply aJ.step)⟩
mutual
def bf.j0:Nat→ByteArray→Bool→Option (Int × Int)
 | 0,_,_=>none
 | k+1,x0,x7=>if x7=true then (if 0 < (x0.size:Int) then (some (bt x0 0,1)) else (none)) else (if (x0.size:Int) > 1 then (if 0 < (x0.size:Int) then ((cK.f (bt x0 0)).bind fun t140=>(if t140 ≥ 0 then (if 1 < (x0.size:Int) then ((cK.f (bt x0 1)).bind fun t141=>(bf.j1 k x0 (decide (t141 ≥ 0)))) else (none)) else (bf.j1 k x0 false))) else (none)) else (bf.j1 k x0 false))
def bf.j1:Nat→ByteArray→Bool→Option (Int × Int)
 | 0,_,_=>none
 | k+1,x0,x28=>if x28=true then (if 0 < (x0.size:Int) then ((cK.f (bt x0 0)).bind fun t142=>(if 1 < (x0.size:Int) then ((cK.f (bt x0 1)).bind fun t143=>(some ((Go.bits .or .i64 (wrap64 (t142 * 16)) t143) % 256,2))) else (none))) else (none)) else (some (0,0))
end
def bf.f (k:Nat) (a0:ByteArray):Option (Int × Int):=if a0.toList=([]:List UInt8) then (some (0,0)) else (if 0 < (a0.size:Int) then ((aW.f (bt a0 0)).bind fun t139=>(if t139=true then (bf.j0 k a0 true) else (if (bt a0 0)=61 then (bf.j0 k a0 true) else (if (bt a0 0)=35 then (bf.j0 k a0 true) else (bf.j0 k a0 ((bt a0 0) == 32)))))) else (none))
set_option maxHeartbeats 8000000 in
set_option maxRecDepth 100000 in
theorem bf.calls (k:Nat) (a0:ByteArray) (r1:Int) (r2:Int) (w:World) (h:bf.f k a0=some (r1,r2)) :
  Calls Tryz.prog 137 #[.string a0] w fun e w'=>e=.returned (.tuple #[.int .u8 r1,.int .i64 r2])∧aJ w w':=by
 have H:(if a0.toList=([]:List UInt8) then (some (0,0)) else (if 0 < (a0.size:Int) then ((aW.f (bt a0 0)).bind fun t139=>(if t139=true then (bf.j0 k a0 true) else (if (bt a0 0)=61 then (bf.j0 k a0 true) else (if (bt a0 0)=35 then (bf.j0 k a0 true) else (bf.j0 k a0 ((bt a0 0) == 32)))))) else (none)))=some (r1,r2):=h
 clear h
 by_cases c2:a0.toList=([]:List UInt8)
 ·rw [if_pos c2] at H
  have c2b0:(a0.toList == ([]:List UInt8))=true:=beq_iff_eq.mpr c2
  have c2b1:(a0.toList != ([]:List UInt8))=false:=bne_eq_false_iff_eq.mpr c2
  clear c2
  simp only [Option.some.injEq,Prod.mk.injEq] at H
  obtain ⟨rfl,rfl⟩:=H
  go_enter Tryz.func137,Tryz.ntmps137
  go_wp2
  repeat (go_quiet (fail);try go_wp2)
  go_ret2
  exact ⟨by first|rfl|(simp;done)|(simp [*];done)|(simp [*,aK,aM,bX];done)|(simp only [au,ak];done)|(simp only [au,ak];simp;done)|(simp only [au,ak];simp [*];done),by repeat (first|exact aJ.refl _|apply aJ.step)⟩
 ·rw [if_neg c2] at H
  have c2b0:(a0.toList == ([]:List UInt8))=false:=beq_eq_false_iff_ne.mpr c2
  have c2b1:(a0.toList != ([]:List UInt8))=true:=bne_iff_ne.mpr c2
  have HC3:=aa.mk H
  clear H
  go_enter Tryz.func137,Tryz.ntmps137
  go_upto_region 3 with (fail)
  repeat (go_quiet (fail);go_upto_region 3 with (fail))
  go_cut [7] (fun v7 wc=>∃ (kq:Nat) (x7_2:Bool),v7=.bool x7_2∧aa (bf.j0 kq a0 x7_2=some (r1,r2))∧aa (kq≤k)∧aJ w wc)
  case first =>
   have H:=HC3.out
   clear HC3
   by_cases c4:0 < (a0.size:Int)
   ·rw [if_pos c4] at H
    have c4b0:decide (0 < (a0.size:Int))=true:=decide_eq_true c4
    have c4b1:decide (0 < a0.size)=true:=decide_eq_true (by omega)
    clear c4
    (first|rw [c4b0]|(simp only [aK,aM];rw [c4b0])|skip)
    replace H:=Option.bind_eq_some_iff.mp H
    obtain ⟨t139,A60,H⟩:=H
    replace H:(if t139=true then (bf.j0 k a0 true) else (if (bt a0 0)=61 then (bf.j0 k a0 true) else (if (bt a0 0)=35 then (bf.j0 k a0 true) else (bf.j0 k a0 ((bt a0 0) == 32)))))=some (r1,r2):=H
    have A6:=aa.mk A60
    clear A60
    by_cases c7:t139=true
    ·subst c7
     have H1:(bf.j0 k a0 true)=some (r1,r2):=by rw [if_pos rfl] at H;exact H
     clear H
     have H:=H1
     clear H1
     have H':=aa.mk H
     clear H
     have p5:0≤(0:Int):=(by omega)
     have q5:0 < a0.size:=(by have:(0:Int) < (a0.size:Int):=of_decide_eq_true (by first|(with_reducible assumption)|assumption);omega)
     have hx5:∀ h:0 < a0.size,((a0[0]'h).toNat:Int)=bt a0 0:=dJ a0 0
     clear p5
     have qi5:(0 < (a0.size:Int))=True:=eq_true (of_decide_eq_true (by first|(with_reducible assumption)|assumption))
     replace q5:=eq_true q5
     go_wp2_with (first|(go_at_call 118;(with_reducible refine (aW.calls (bt a0 0) true _ A6.out).mono ?_);rintro e w' ⟨rfl,⟨nd,rfl⟩⟩;(try first|exact ⟨rfl,_,World.drewN_drewN _ _ _⟩|exact ⟨rfl,_,Eq.trans (World.drewN_drewN _ _ _) (congrArg (World.drewN _) (Nat.add_assoc _ _ _))⟩)))
     repeat (go_quiet (first|(go_at_call 118;(with_reducible refine (aW.calls (bt a0 0) true _ A6.out).mono ?_);rintro e w' ⟨rfl,⟨nd,rfl⟩⟩;(try first|exact ⟨rfl,_,World.drewN_drewN _ _ _⟩|exact ⟨rfl,_,Eq.trans (World.drewN_drewN _ _ _) (congrArg (World.drewN _) (Nat.add_assoc _ _ _))⟩)));try go_wp2_with (first|(go_at_call 118;(with_reducible refine (aW.calls (bt a0 0) true _ A6.out).mono ?_);rintro e w' ⟨rfl,⟨nd,rfl⟩⟩;(try first|exact ⟨rfl,_,World.drewN_drewN _ _ _⟩|exact ⟨rfl,_,Eq.trans (World.drewN_drewN _ _ _) (congrArg (World.drewN _) (Nat.add_assoc _ _ _))⟩))))
     go_meet
     case rel=>exact ⟨_,(true),(by first|rfl|(simp;done)|(simp [*];done)|(simp [*,aK,aM,bX];done)|(simp only [au,ak];done)|(simp only [au,ak];simp;done)|(simp only [au,ak];simp [*];done)),H',⟨by first|omega|exact Nat.le_refl _⟩,by repeat (first|exact aJ.refl _|apply aJ.step)⟩
    ·replace c7:=Bool.eq_false_iff.mpr c7
     subst c7
     have H1:(if (bt a0 0)=61 then (bf.j0 k a0 true) else (if (bt a0 0)=35 then (bf.j0 k a0 true) else (bf.j0 k a0 ((bt a0 0) == 32))))=some (r1,r2):=by rw [if_neg (show ¬ (false=true) by decide)] at H;exact H
     clear H
     have H:=H1
     clear H1
     by_cases c9:(bt a0 0)=61
     ·rw [if_pos c9] at H
      have c9b0:((bt a0 0) == 61)=true:=beq_iff_eq.mpr c9
      have c9b1:((bt a0 0) != 61)=false:=bne_eq_false_iff_eq.mpr c9
      clear c9
      have H':=aa.mk H
      clear H
      have p5:0≤(0:Int):=(by omega)
      have q5:0 < a0.size:=(by have:(0:Int) < (a0.size:Int):=of_decide_eq_true (by first|(with_reducible assumption)|assumption);omega)
      have hx5:∀ h:0 < a0.size,((a0[0]'h).toNat:Int)=bt a0 0:=dJ a0 0
      clear p5
      have qi5:(0 < (a0.size:Int))=True:=eq_true (of_decide_eq_true (by first|(with_reducible assumption)|assumption))
      replace q5:=eq_true q5
      go_wp2_with (first|(go_at_call 118;(with_reducible refine (aW.calls (bt a0 0) false _ A6.out).mono ?_);rintro e w' ⟨rfl,⟨nd,rfl⟩⟩;(try first|exact ⟨rfl,_,World.drewN_drewN _ _ _⟩|exact ⟨rfl,_,Eq.trans (World.drewN_drewN _ _ _) (congrArg (World.drewN _) (Nat.add_assoc _ _ _))⟩);have p8:0≤(0:Int):=(by omega);have q8:0 < a0.size:=(by have:(0:Int) < (a0.size:Int):=of_decide_eq_true (by first|(with_reducible assumption)|assumption);omega);have hx8:∀ h:0 < a0.size,((a0[0]'h).toNat:Int)=bt a0 0:=dJ a0 0;clear p8;have qi8:(0 < (a0.size:Int))=True:=eq_true (of_decide_eq_true (by first|(with_reducible assumption)|assumption));replace q8:=eq_true q8))
      repeat (go_quiet (first|(go_at_call 118;(with_reducible refine (aW.calls (bt a0 0) false _ A6.out).mono ?_);rintro e w' ⟨rfl,⟨nd,rfl⟩⟩;(try first|exact ⟨rfl,_,World.drewN_drewN _ _ _⟩|exact ⟨rfl,_,Eq.trans (World.drewN_drewN _ _ _) (congrArg (World.drewN _) (Nat.add_assoc _ _ _))⟩);have p8:0≤(0:Int):=(by omega);have q8:0 < a0.size:=(by have:(0:Int) < (a0.size:Int):=of_decide_eq_true (by first|(with_reducible assumption)|assumption);omega);have hx8:∀ h:0 < a0.size,((a0[0]'h).toNat:Int)=bt a0 0:=dJ a0 0;clear p8;have qi8:(0 < (a0.size:Int))=True:=eq_true (of_decide_eq_true (by first|(with_reducible assumption)|assumption));replace q8:=eq_true q8));try go_wp2_with (first|(go_at_call 118;(with_reducible refine (aW.calls (bt a0 0) false _ A6.out).mono ?_);rintro e w' ⟨rfl,⟨nd,rfl⟩⟩;(try first|exact ⟨rfl,_,World.drewN_drewN _ _ _⟩|exact ⟨rfl,_,Eq.trans (World.drewN_drewN _ _ _) (congrArg (World.drewN _) (Nat.add_assoc _ _ _))⟩);have p8:0≤(0:Int):=(by omega);have q8:0 < a0.size:=(by have:(0:Int) < (a0.size:Int):=of_decide_eq_true (by first|(with_reducible assumption)|assumption);omega);have hx8:∀ h:0 < a0.size,((a0[0]'h).toNat:Int)=bt a0 0:=dJ a0 0;clear p8;have qi8:(0 < (a0.size:Int))=True:=eq_true (of_decide_eq_true (by first|(with_reducible assumption)|assumption));replace q8:=eq_true q8)))
      go_meet
      case rel=>exact ⟨_,(true),(by first|rfl|(simp;done)|(simp [*];done)|(simp [*,aK,aM,bX];done)|(simp only [au,ak];done)|(simp only [au,ak];simp;done)|(simp only [au,ak];simp [*];done)),H',⟨by first|omega|exact Nat.le_refl _⟩,by repeat (first|exact aJ.refl _|apply aJ.step)⟩
     ·rw [if_neg c9] at H
      have c9b0:((bt a0 0) == 61)=false:=beq_eq_false_iff_ne.mpr c9
      have c9b1:((bt a0 0) != 61)=true:=bne_iff_ne.mpr c9
      by_cases c11:(bt a0 0)=35
      ·rw [if_pos c11] at H
       have c11b0:((bt a0 0) == 35)=true:=beq_iff_eq.mpr c11
       have c11b1:((bt a0 0) != 35)=false:=bne_eq_false_iff_eq.mpr c11
       clear c11
       have H':=aa.mk H
       clear H
       have p5:0≤(0:Int):=(by omega)
       have q5:0 < a0.size:=(by have:(0:Int) < (a0.size:Int):=of_decide_eq_true (by first|(with_reducible assumption)|assumption);omega)
       have hx5:∀ h:0 < a0.size,((a0[0]'h).toNat:Int)=bt a0 0:=dJ a0 0
       clear p5
       have qi5:(0 < (a0.size:Int))=True:=eq_true (of_decide_eq_true (by first|(with_reducible assumption)|assumption))
       replace q5:=eq_true q5
       go_wp2_with (first|(go_at_call 118;(with_reducible refine (aW.calls (bt a0 0) false _ A6.out).mono ?_);rintro e w' ⟨rfl,⟨nd,rfl⟩⟩;(try first|exact ⟨rfl,_,World.drewN_drewN _ _ _⟩|exact ⟨rfl,_,Eq.trans (World.drewN_drewN _ _ _) (congrArg (World.drewN _) (Nat.add_assoc _ _ _))⟩);have p8:0≤(0:Int):=(by omega);have q8:0 < a0.size:=(by have:(0:Int) < (a0.size:Int):=of_decide_eq_true (by first|(with_reducible assumption)|assumption);omega);have hx8:∀ h:0 < a0.size,((a0[0]'h).toNat:Int)=bt a0 0:=dJ a0 0;clear p8;have qi8:(0 < (a0.size:Int))=True:=eq_true (of_decide_eq_true (by first|(with_reducible assumption)|assumption));replace q8:=eq_true q8;have p10:0≤(0:Int):=(by omega);have q10:0 < a0.size:=(by have:(0:Int) < (a0.size:Int):=of_decide_eq_true (by first|(with_reducible assumption)|assumption);omega);have hx10:∀ h:0 < a0.size,((a0[0]'h).toNat:Int)=bt a0 0:=dJ a0 0;clear p10;have qi10:(0 < (a0.size:Int))=True:=eq_true (of_decide_eq_true (by first|(with_reducible assumption)|assumption));replace q10:=eq_true q10))
       repeat (go_quiet (first|(go_at_call 118;(with_reducible refine (aW.calls (bt a0 0) false _ A6.out).mono ?_);rintro e w' ⟨rfl,⟨nd,rfl⟩⟩;(try first|exact ⟨rfl,_,World.drewN_drewN _ _ _⟩|exact ⟨rfl,_,Eq.trans (World.drewN_drewN _ _ _) (congrArg (World.drewN _) (Nat.add_assoc _ _ _))⟩);have p8:0≤(0:Int):=(by omega);have q8:0 < a0.size:=(by have:(0:Int) < (a0.size:Int):=of_decide_eq_true (by first|(with_reducible assumption)|assumption);omega);have hx8:∀ h:0 < a0.size,((a0[0]'h).toNat:Int)=bt a0 0:=dJ a0 0;clear p8;have qi8:(0 < (a0.size:Int))=True:=eq_true (of_decide_eq_true (by first|(with_reducible assumption)|assumption));replace q8:=eq_true q8;have p10:0≤(0:Int):=(by omega);have q10:0 < a0.size:=(by have:(0:Int) < (a0.size:Int):=of_decide_eq_true (by first|(with_reducible assumption)|assumption);omega);have hx10:∀ h:0 < a0.size,((a0[0]'h).toNat:Int)=bt a0 0:=dJ a0 0;clear p10;have qi10:(0 < (a0.size:Int))=True:=eq_true (of_decide_eq_true (by first|(with_reducible assumption)|assumption));replace q10:=eq_true q10));try go_wp2_with (first|(go_at_call 118;(with_reducible refine (aW.calls (bt a0 0) false _ A6.out).mono ?_);rintro e w' ⟨rfl,⟨nd,rfl⟩⟩;(try first|exact ⟨rfl,_,World.drewN_drewN _ _ _⟩|exact ⟨rfl,_,Eq.trans (World.drewN_drewN _ _ _) (congrArg (World.drewN _) (Nat.add_assoc _ _ _))⟩);have p8:0≤(0:Int):=(by omega);have q8:0 < a0.size:=(by have:(0:Int) < (a0.size:Int):=of_decide_eq_true (by first|(with_reducible assumption)|assumption);omega);have hx8:∀ h:0 < a0.size,((a0[0]'h).toNat:Int)=bt a0 0:=dJ a0 0;clear p8;have qi8:(0 < (a0.size:Int))=True:=eq_true (of_decide_eq_true (by first|(with_reducible assumption)|assumption));replace q8:=eq_true q8;have p10:0≤(0:Int):=(by omega);have q10:0 < a0.size:=(by have:(0:Int) < (a0.size:Int):=of_decide_eq_true (by first|(with_reducible assumption)|assumption);omega);have hx10:∀ h:0 < a0.size,((a0[0]'h).toNat:Int)=bt a0 0:=dJ a0 0;clear p10;have qi10:(0 < (a0.size:Int))=True:=eq_true (of_decide_eq_true (by first|(with_reducible assumption)|assumption));replace q10:=eq_true q10)))
       go_meet
       case rel=>exact ⟨_,(true),(by first|rfl|(simp;done)|(simp [*];done)|(simp [*,aK,aM,bX];done)|(simp only [au,ak];done)|(simp only [au,ak];simp;done)|(simp only [au,ak];simp [*];done)),H',⟨by first|omega|exact Nat.le_refl _⟩,by repeat (first|exact aJ.refl _|apply aJ.step)⟩
      ·rw [if_neg c11] at H
       have c11b0:((bt a0 0) == 35)=false:=beq_eq_false_iff_ne.mpr c11
       have c11b1:((bt a0 0) != 35)=true:=bne_iff_ne.mpr c11
       have H':=aa.mk H
       clear H
       have p5:0≤(0:Int):=(by omega)
       have q5:0 < a0.size:=(by have:(0:Int) < (a0.size:Int):=of_decide_eq_true (by first|(with_reducible assumption)|assumption);omega)
       have hx5:∀ h:0 < a0.size,((a0[0]'h).toNat:Int)=bt a0 0:=dJ a0 0
       clear p5
       have qi5:(0 < (a0.size:Int))=True:=eq_true (of_decide_eq_true (by first|(with_reducible assumption)|assumption))
       replace q5:=eq_true q5
       go_wp2_with (first|(go_at_call 118;(with_reducible refine (aW.calls (bt a0 0) false _ A6.out).mono ?_);rintro e w' ⟨rfl,⟨nd,rfl⟩⟩;(try first|exact ⟨rfl,_,World.drewN_drewN _ _ _⟩|exact ⟨rfl,_,Eq.trans (World.drewN_drewN _ _ _) (congrArg (World.drewN _) (Nat.add_assoc _ _ _))⟩);have p8:0≤(0:Int):=(by omega);have q8:0 < a0.size:=(by have:(0:Int) < (a0.size:Int):=of_decide_eq_true (by first|(with_reducible assumption)|assumption);omega);have hx8:∀ h:0 < a0.size,((a0[0]'h).toNat:Int)=bt a0 0:=dJ a0 0;clear p8;have qi8:(0 < (a0.size:Int))=True:=eq_true (of_decide_eq_true (by first|(with_reducible assumption)|assumption));replace q8:=eq_true q8;have p10:0≤(0:Int):=(by omega);have q10:0 < a0.size:=(by have:(0:Int) < (a0.size:Int):=of_decide_eq_true (by first|(with_reducible assumption)|assumption);omega);have hx10:∀ h:0 < a0.size,((a0[0]'h).toNat:Int)=bt a0 0:=dJ a0 0;clear p10;have qi10:(0 < (a0.size:Int))=True:=eq_true (of_decide_eq_true (by first|(with_reducible assumption)|assumption));replace q10:=eq_true q10;have p12:0≤(0:Int):=(by omega);have q12:0 < a0.size:=(by have:(0:Int) < (a0.size:Int):=of_decide_eq_true (by first|(with_reducible assumption)|assumption);omega);have hx12:∀ h:0 < a0.size,((a0[0]'h).toNat:Int)=bt a0 0:=dJ a0 0;clear p12;have qi12:(0 < (a0.size:Int))=True:=eq_true (of_decide_eq_true (by first|(with_reducible assumption)|assumption));replace q12:=eq_true q12))
       repeat (go_quiet (first|(go_at_call 118;(with_reducible refine (aW.calls (bt a0 0) false _ A6.out).mono ?_);rintro e w' ⟨rfl,⟨nd,rfl⟩⟩;(try first|exact ⟨rfl,_,World.drewN_drewN _ _ _⟩|exact ⟨rfl,_,Eq.trans (World.drewN_drewN _ _ _) (congrArg (World.drewN _) (Nat.add_assoc _ _ _))⟩);have p8:0≤(0:Int):=(by omega);have q8:0 < a0.size:=(by have:(0:Int) < (a0.size:Int):=of_decide_eq_true (by first|(with_reducible assumption)|assumption);omega);have hx8:∀ h:0 < a0.size,((a0[0]'h).toNat:Int)=bt a0 0:=dJ a0 0;clear p8;have qi8:(0 < (a0.size:Int))=True:=eq_true (of_decide_eq_true (by first|(with_reducible assumption)|assumption));replace q8:=eq_true q8;have p10:0≤(0:Int):=(by omega);have q10:0 < a0.size:=(by have:(0:Int) < (a0.size:Int):=of_decide_eq_true (by first|(with_reducible assumption)|assumption);omega);have hx10:∀ h:0 < a0.size,((a0[0]'h).toNat:Int)=bt a0 0:=dJ a0 0;clear p10;have qi10:(0 < (a0.size:Int))=True:=eq_true (of_decide_eq_true (by first|(with_reducible assumption)|assumption));replace q10:=eq_true q10;have p12:0≤(0:Int):=(by omega);have q12:0 < a0.size:=(by have:(0:Int) < (a0.size:Int):=of_decide_eq_true (by first|(with_reducible assumption)|assumption);omega);have hx12:∀ h:0 < a0.size,((a0[0]'h).toNat:Int)=bt a0 0:=dJ a0 0;clear p12;have qi12:(0 < (a0.size:Int))=True:=eq_true (of_decide_eq_true (by first|(with_reducible assumption)|assumption));replace q12:=eq_true q12));try go_wp2_with (first|(go_at_call 118;(with_reducible refine (aW.calls (bt a0 0) false _ A6.out).mono ?_);rintro e w' ⟨rfl,⟨nd,rfl⟩⟩;(try first|exact ⟨rfl,_,World.drewN_drewN _ _ _⟩|exact ⟨rfl,_,Eq.trans (World.drewN_drewN _ _ _) (congrArg (World.drewN _) (Nat.add_assoc _ _ _))⟩);have p8:0≤(0:Int):=(by omega);have q8:0 < a0.size:=(by have:(0:Int) < (a0.size:Int):=of_decide_eq_true (by first|(with_reducible assumption)|assumption);omega);have hx8:∀ h:0 < a0.size,((a0[0]'h).toNat:Int)=bt a0 0:=dJ a0 0;clear p8;have qi8:(0 < (a0.size:Int))=True:=eq_true (of_decide_eq_true (by first|(with_reducible assumption)|assumption));replace q8:=eq_true q8;have p10:0≤(0:Int):=(by omega);have q10:0 < a0.size:=(by have:(0:Int) < (a0.size:Int):=of_decide_eq_true (by first|(with_reducible assumption)|assumption);omega);have hx10:∀ h:0 < a0.size,((a0[0]'h).toNat:Int)=bt a0 0:=dJ a0 0;clear p10;have qi10:(0 < (a0.size:Int))=True:=eq_true (of_decide_eq_true (by first|(with_reducible assumption)|assumption));replace q10:=eq_true q10;have p12:0≤(0:Int):=(by omega);have q12:0 < a0.size:=(by have:(0:Int) < (a0.size:Int):=of_decide_eq_true (by first|(with_reducible assumption)|assumption);omega);have hx12:∀ h:0 < a0.size,((a0[0]'h).toNat:Int)=bt a0 0:=dJ a0 0;clear p12;have qi12:(0 < (a0.size:Int))=True:=eq_true (of_decide_eq_true (by first|(with_reducible assumption)|assumption));replace q12:=eq_true q12)))
       go_meet
       case rel=>exact ⟨_,(((bt a0 0) == 32)),(by first|rfl|(simp;done)|(simp [*];done)|(simp [*,aK,aM,bX];done)|(simp only [au,ak];done)|(simp only [au,ak];simp;done)|(simp only [au,ak];simp [*];done)),H',⟨by first|omega|exact Nat.le_refl _⟩,by repeat (first|exact aJ.refl _|apply aJ.step)⟩
   ·rw [if_neg c4] at H
    exact absurd H (by simp)
  case rest =>
   clear HC3
   try clear c1
   try clear p1
   try clear q1
   try clear hx1
   try clear qi1
   try clear c2
   try clear c2b0
   try clear c2b1
   try clear p2
   try clear c4
   try clear c4b0
   try clear c4b1
   try clear p5
   try clear q5
   try clear hx5
   try clear qi5
   try clear c7
   try clear p8
   try clear q8
   try clear hx8
   try clear qi8
   try clear c9
   try clear c9b0
   try clear c9b1
   try clear p10
   try clear q10
   try clear hx10
   try clear qi10
   try clear c11
   try clear c11b0
   try clear c11b1
   try clear p12
   try clear q12
   try clear hx12
   try clear qi12
   try clear p10
   try clear p12
   try clear p5
   try clear p8
   try clear q10
   try clear q12
   try clear q5
   try clear q8
   obtain ⟨kq,x7_2,rfl,HA,HJ2,⟨mc2,rfl⟩⟩:=hcut
   cases kq with
   | zero=>exact absurd HA.out (by simp [bf.j0])
   | succ kj2 =>
    have H:=HA.out
    clear HA
    simp only [bf.j0] at H
    by_cases c13:x7_2=true
    ·subst c13
     have H1:(if 0 < (a0.size:Int) then (some (bt a0 0,1)) else (none))=some (r1,r2):=by rw [if_pos rfl] at H;exact H
     clear H
     have H:=H1
     clear H1
     by_cases c14:0 < (a0.size:Int)
     ·rw [if_pos c14] at H
      have c14b0:decide (0 < (a0.size:Int))=true:=decide_eq_true c14
      have c14b1:decide (0 < a0.size)=true:=decide_eq_true (by omega)
      clear c14
      simp only [Option.some.injEq,Prod.mk.injEq] at H
      obtain ⟨rfl,rfl⟩:=H
      have p15:0≤(0:Int):=(by omega)
      have q15:0 < a0.size:=(by have:(0:Int) < (a0.size:Int):=of_decide_eq_true (by first|(with_reducible assumption)|assumption);omega)
      have hx15:∀ h:0 < a0.size,((a0[0]'h).toNat:Int)=bt a0 0:=dJ a0 0
      clear p15
      have qi15:(0 < (a0.size:Int))=True:=eq_true (of_decide_eq_true (by first|(with_reducible assumption)|assumption))
      replace q15:=eq_true q15
      go_wp2
      repeat (go_quiet (fail);try go_wp2)
      go_ret2
      exact ⟨by first|rfl|(simp;done)|(simp [*];done)|(simp [*,aK,aM,bX];done)|(simp only [au,ak];done)|(simp only [au,ak];simp;done)|(simp only [au,ak];simp [*];done),by repeat (first|exact aJ.refl _|apply aJ.step)⟩
     ·rw [if_neg c14] at H
      exact absurd H (by simp)
    ·replace c13:=Bool.eq_false_iff.mpr c13
     subst c13
     have H1:(if (a0.size:Int) > 1 then (if 0 < (a0.size:Int) then ((cK.f (bt a0 0)).bind fun t140=>(if t140 ≥ 0 then (if 1 < (a0.size:Int) then ((cK.f (bt a0 1)).bind fun t141=>(bf.j1 kj2 a0 (decide (t141 ≥ 0)))) else (none)) else (bf.j1 kj2 a0 false))) else (none)) else (bf.j1 kj2 a0 false))=some (r1,r2):=by rw [if_neg (show ¬ (false=true) by decide)] at H;exact H
     clear H
     have H:=H1
     clear H1
     have HC16:=aa.mk H
     clear H
     go_upto_region 5 with (fail)
     repeat (go_quiet (fail);go_upto_region 5 with (fail))
     go_cut [28] (fun v28 wc=>∃ (kq:Nat) (x28_15:Bool),v28=.bool x28_15∧aa (bf.j1 kq a0 x28_15=some (r1,r2))∧aa (kq≤kj2)∧aJ w wc)
     case first =>
      have H:=HC16.out
      clear HC16
      by_cases c17:(a0.size:Int) > 1
      ·rw [if_pos c17] at H
       have c17b0:decide (1 < (a0.size:Int))=true:=decide_eq_true c17
       have c17b1:decide (1 < a0.size)=true:=decide_eq_true (by omega)
       clear c17
       (first|rw [c17b0]|(simp only [aK,aM];rw [c17b0])|skip)
       by_cases c18:0 < (a0.size:Int)
       ·rw [if_pos c18] at H
        have c18b0:decide (0 < (a0.size:Int))=true:=decide_eq_true c18
        have c18b1:decide (0 < a0.size)=true:=decide_eq_true (by omega)
        clear c18
        replace H:=Option.bind_eq_some_iff.mp H
        obtain ⟨t140,A200,H⟩:=H
        replace H:(if t140 ≥ 0 then (if 1 < (a0.size:Int) then ((cK.f (bt a0 1)).bind fun t141=>(bf.j1 kj2 a0 (decide (t141 ≥ 0)))) else (none)) else (bf.j1 kj2 a0 false))=some (r1,r2):=H
        have A20:=aa.mk A200
        clear A200
        by_cases c21:t140 ≥ 0
        ·rw [if_pos c21] at H
         have c21b0:decide (0≤t140)=true:=decide_eq_true c21
         clear c21
         by_cases c22:1 < (a0.size:Int)
         ·rw [if_pos c22] at H
          have c22b0:decide (1 < (a0.size:Int))=true:=decide_eq_true c22
          have c22b1:decide (1 < a0.size)=true:=decide_eq_true (by omega)
          clear c22
          replace H:=Option.bind_eq_some_iff.mp H
          obtain ⟨t141,A240,H⟩:=H
          replace H:(bf.j1 kj2 a0 (decide (t141 ≥ 0)))=some (r1,r2):=H
          have A24:=aa.mk A240
          clear A240
          have H':=aa.mk H
          clear H
          have p19:0≤(0:Int):=(by omega)
          have q19:0 < a0.size:=(by have:(0:Int) < (a0.size:Int):=of_decide_eq_true (by first|(with_reducible assumption)|assumption);omega)
          have hx19:∀ h:0 < a0.size,((a0[0]'h).toNat:Int)=bt a0 0:=dJ a0 0
          clear p19
          have qi19:(0 < (a0.size:Int))=True:=eq_true (of_decide_eq_true (by first|(with_reducible assumption)|assumption))
          replace q19:=eq_true q19
          go_wp2_with (first|(go_at_call 157;(with_reducible refine (cK.calls (bt a0 0) t140 _ A20.out).mono ?_);rintro e w' ⟨rfl,⟨nd,rfl⟩⟩;(try first|exact ⟨rfl,_,World.drewN_drewN _ _ _⟩|exact ⟨rfl,_,Eq.trans (World.drewN_drewN _ _ _) (congrArg (World.drewN _) (Nat.add_assoc _ _ _))⟩);have p23:0≤(1:Int):=(by omega);have q23:1 < a0.size:=(by have:(1:Int) < (a0.size:Int):=of_decide_eq_true (by first|(with_reducible assumption)|assumption);omega);have hx23:∀ h:1 < a0.size,((a0[1]'h).toNat:Int)=bt a0 1:=dJ a0 1;clear p23;have qi23:(1 < (a0.size:Int))=True:=eq_true (of_decide_eq_true (by first|(with_reducible assumption)|assumption));replace q23:=eq_true q23)|(go_at_call 157;(with_reducible refine (cK.calls (bt a0 1) t141 _ A24.out).mono ?_);rintro e w' ⟨rfl,⟨nd,rfl⟩⟩;(try first|exact ⟨rfl,_,World.drewN_drewN _ _ _⟩|exact ⟨rfl,_,Eq.trans (World.drewN_drewN _ _ _) (congrArg (World.drewN _) (Nat.add_assoc _ _ _))⟩)))
          repeat (go_quiet (first|(go_at_call 157;(with_reducible refine (cK.calls (bt a0 0) t140 _ A20.out).mono ?_);rintro e w' ⟨rfl,⟨nd,rfl⟩⟩;(try first|exact ⟨rfl,_,World.drewN_drewN _ _ _⟩|exact ⟨rfl,_,Eq.trans (World.drewN_drewN _ _ _) (congrArg (World.drewN _) (Nat.add_assoc _ _ _))⟩);have p23:0≤(1:Int):=(by omega);have q23:1 < a0.size:=(by have:(1:Int) < (a0.size:Int):=of_decide_eq_true (by first|(with_reducible assumption)|assumption);omega);have hx23:∀ h:1 < a0.size,((a0[1]'h).toNat:Int)=bt a0 1:=dJ a0 1;clear p23;have qi23:(1 < (a0.size:Int))=True:=eq_true (of_decide_eq_true (by first|(with_reducible assumption)|assumption));replace q23:=eq_true q23)|(go_at_call 157;(with_reducible refine (cK.calls (bt a0 1) t141 _ A24.out).mono ?_);rintro e w' ⟨rfl,⟨nd,rfl⟩⟩;(try first|exact ⟨rfl,_,World.drewN_drewN _ _ _⟩|exact ⟨rfl,_,Eq.trans (World.drewN_drewN _ _ _) (congrArg (World.drewN _) (Nat.add_assoc _ _ _))⟩)));try go_wp2_with (first|(go_at_call 157;(with_reducible refine (cK.calls (bt a0 0) t140 _ A20.out).mono ?_);rintro e w' ⟨rfl,⟨nd,rfl⟩⟩;(try first|exact ⟨rfl,_,World.drewN_drewN _ _ _⟩|exact ⟨rfl,_,Eq.trans (World.drewN_drewN _ _ _) (congrArg (World.drewN _) (Nat.add_assoc _ _ _))⟩);have p23:0≤(1:Int):=(by omega);have q23:1 < a0.size:=(by have:(1:Int) < (a0.size:Int):=of_decide_eq_true (by first|(with_reducible assumption)|assumption);omega);have hx23:∀ h:1 < a0.size,((a0[1]'h).toNat:Int)=bt a0 1:=dJ a0 1;clear p23;have qi23:(1 < (a0.size:Int))=True:=eq_true (of_decide_eq_true (by first|(with_reducible assumption)|assumption));replace q23:=eq_true q23)|(go_at_call 157;(with_reducible refine (cK.calls (bt a0 1) t141 _ A24.out).mono ?_);rintro e w' ⟨rfl,⟨nd,rfl⟩⟩;(try first|exact ⟨rfl,_,World.drewN_drewN _ _ _⟩|exact ⟨rfl,_,Eq.trans (World.drewN_drewN _ _ _) (congrArg (World.drewN _) (Nat.add_assoc _ _ _))⟩))))
          go_meet
          case rel=>exact ⟨_,(decide (t141 ≥ 0)),(by first|rfl|(simp;done)|(simp [*];done)|(simp [*,aK,aM,bX];done)|(simp only [au,ak];done)|(simp only [au,ak];simp;done)|(simp only [au,ak];simp [*];done)),H',⟨by have:=HJ2.out;first|omega|exact Nat.le_refl _⟩,by repeat (first|exact aJ.refl _|apply aJ.step)⟩
         ·rw [if_neg c22] at H
          exact absurd H (by simp)
        ·rw [if_neg c21] at H
         have c21b0:decide (0≤t140)=false:=decide_eq_false c21
         clear c21
         have H':=aa.mk H
         clear H
         have p19:0≤(0:Int):=(by omega)
         have q19:0 < a0.size:=(by have:(0:Int) < (a0.size:Int):=of_decide_eq_true (by first|(with_reducible assumption)|assumption);omega)
         have hx19:∀ h:0 < a0.size,((a0[0]'h).toNat:Int)=bt a0 0:=dJ a0 0
         clear p19
         have qi19:(0 < (a0.size:Int))=True:=eq_true (of_decide_eq_true (by first|(with_reducible assumption)|assumption))
         replace q19:=eq_true q19
         go_wp2_with (first|(go_at_call 157;(with_reducible refine (cK.calls (bt a0 0) t140 _ A20.out).mono ?_);rintro e w' ⟨rfl,⟨nd,rfl⟩⟩;(try first|exact ⟨rfl,_,World.drewN_drewN _ _ _⟩|exact ⟨rfl,_,Eq.trans (World.drewN_drewN _ _ _) (congrArg (World.drewN _) (Nat.add_assoc _ _ _))⟩)))
         repeat (go_quiet (first|(go_at_call 157;(with_reducible refine (cK.calls (bt a0 0) t140 _ A20.out).mono ?_);rintro e w' ⟨rfl,⟨nd,rfl⟩⟩;(try first|exact ⟨rfl,_,World.drewN_drewN _ _ _⟩|exact ⟨rfl,_,Eq.trans (World.drewN_drewN _ _ _) (congrArg (World.drewN _) (Nat.add_assoc _ _ _))⟩)));try go_wp2_with (first|(go_at_call 157;(with_reducible refine (cK.calls (bt a0 0) t140 _ A20.out).mono ?_);rintro e w' ⟨rfl,⟨nd,rfl⟩⟩;(try first|exact ⟨rfl,_,World.drewN_drewN _ _ _⟩|exact ⟨rfl,_,Eq.trans (World.drewN_drewN _ _ _) (congrArg (World.drewN _) (Nat.add_assoc _ _ _))⟩))))
         go_meet
         case rel=>exact ⟨_,(false),(by first|rfl|(simp;done)|(simp [*];done)|(simp [*,aK,aM,bX];done)|(simp only [au,ak];done)|(simp only [au,ak];simp;done)|(simp only [au,ak];simp [*];done)),H',⟨by have:=HJ2.out;first|omega|exact Nat.le_refl _⟩,by repeat (first|exact aJ.refl _|apply aJ.step)⟩
       ·rw [if_neg c18] at H
        exact absurd H (by simp)
      ·rw [if_neg c17] at H
       have c17b0:decide (1 < (a0.size:Int))=false:=decide_eq_false c17
       have c17b1:decide (1 < a0.size)=false:=decide_eq_false (by omega)
       clear c17
       (first|rw [c17b0]|(simp only [aK,aM];rw [c17b0])|skip)
       have H':=aa.mk H
       clear H
       go_wp2
       repeat (go_quiet (fail);try go_wp2)
       go_meet
       case rel=>exact ⟨_,(false),(by first|rfl|(simp;done)|(simp [*];done)|(simp [*,aK,aM,bX];done)|(simp only [au,ak];done)|(simp only [au,ak];simp;done)|(simp only [au,ak];simp [*];done)),H',⟨by have:=HJ2.out;first|omega|exact Nat.le_refl _⟩,by repeat (first|exact aJ.refl _|apply aJ.step)⟩
     case rest =>
      clear HC16
      try clear c1
      try clear p1
      try clear q1
      try clear hx1
      try clear qi1
      try clear c2
      try clear c2b0
      try clear c2b1
      try clear p2
      try clear q2
      try clear hx2
      try clear qi2
      try clear c4
      try clear c4b0
      try clear c4b1
      try clear p5
      try clear q5
      try clear hx5
      try clear qi5
      try clear c7
      try clear p8
      try clear q8
      try clear hx8
      try clear qi8
      try clear c9
      try clear c9b0
      try clear c9b1
      try clear p10
      try clear q10
      try clear hx10
      try clear qi10
      try clear c11
      try clear c11b0
      try clear c11b1
      try clear p12
      try clear q12
      try clear hx12
      try clear qi12
      try clear c13
      try clear c14
      try clear c14b0
      try clear c14b1
      try clear p15
      try clear q15
      try clear hx15
      try clear qi15
      try clear c17
      try clear c17b0
      try clear c17b1
      try clear c18
      try clear c18b0
      try clear c18b1
      try clear p19
      try clear q19
      try clear hx19
      try clear qi19
      try clear c21
      try clear c21b0
      try clear c22
      try clear c22b0
      try clear c22b1
      try clear p23
      try clear q23
      try clear hx23
      try clear qi23
      try clear p1
      try clear p10
      try clear p12
      try clear p15
      try clear p19
      try clear p2
      try clear p23
      try clear p5
      try clear p8
      try clear q1
      try clear q10
      try clear q12
      try clear q15
      try clear q19
      try clear q23
      try clear q5
      try clear q8
      obtain ⟨kq,x28_15,rfl,HA,HJ15,⟨mc15,rfl⟩⟩:=hcut
      cases kq with
      | zero=>exact absurd HA.out (by simp [bf.j1])
      | succ kj15 =>
       have H:=HA.out
       clear HA
       simp only [bf.j1] at H
       by_cases c25:x28_15=true
       ·subst c25
        have H1:(if 0 < (a0.size:Int) then ((cK.f (bt a0 0)).bind fun t142=>(if 1 < (a0.size:Int) then ((cK.f (bt a0 1)).bind fun t143=>(some ((Go.bits .or .i64 (wrap64 (t142 * 16)) t143) % 256,2))) else (none))) else (none))=some (r1,r2):=by rw [if_pos rfl] at H;exact H
        clear H
        have H:=H1
        clear H1
        by_cases c26:0 < (a0.size:Int)
        ·rw [if_pos c26] at H
         have c26b0:decide (0 < (a0.size:Int))=true:=decide_eq_true c26
         have c26b1:decide (0 < a0.size)=true:=decide_eq_true (by omega)
         clear c26
         replace H:=Option.bind_eq_some_iff.mp H
         obtain ⟨t142,A280,H⟩:=H
         replace H:(if 1 < (a0.size:Int) then ((cK.f (bt a0 1)).bind fun t143=>(some ((Go.bits .or .i64 (wrap64 (t142 * 16)) t143) % 256,2))) else (none))=some (r1,r2):=H
         have A28:=aa.mk A280
         clear A280
         by_cases c29:1 < (a0.size:Int)
         ·rw [if_pos c29] at H
          have c29b0:decide (1 < (a0.size:Int))=true:=decide_eq_true c29
          have c29b1:decide (1 < a0.size)=true:=decide_eq_true (by omega)
          clear c29
          replace H:=Option.bind_eq_some_iff.mp H
          obtain ⟨t143,A310,H⟩:=H
          replace H:(some ((Go.bits .or .i64 (wrap64 (t142 * 16)) t143) % 256,2))=some (r1,r2):=H
          have A31:=aa.mk A310
          clear A310
          simp only [Option.some.injEq,Prod.mk.injEq] at H
          obtain ⟨rfl,rfl⟩:=H
          have p27:0≤(0:Int):=(by omega)
          have q27:0 < a0.size:=(by have:(0:Int) < (a0.size:Int):=of_decide_eq_true (by first|(with_reducible assumption)|assumption);omega)
          have hx27:∀ h:0 < a0.size,((a0[0]'h).toNat:Int)=bt a0 0:=dJ a0 0
          clear p27
          have qi27:(0 < (a0.size:Int))=True:=eq_true (of_decide_eq_true (by first|(with_reducible assumption)|assumption))
          replace q27:=eq_true q27
          go_wp2_with (first|(go_at_call 157;(with_reducible refine (cK.calls (bt a0 0) t142 _ A28.out).mono ?_);rintro e w' ⟨rfl,⟨nd,rfl⟩⟩;(try first|exact ⟨rfl,_,World.drewN_drewN _ _ _⟩|exact ⟨rfl,_,Eq.trans (World.drewN_drewN _ _ _) (congrArg (World.drewN _) (Nat.add_assoc _ _ _))⟩);have p30:0≤(1:Int):=(by omega);have q30:1 < a0.size:=(by have:(1:Int) < (a0.size:Int):=of_decide_eq_true (by first|(with_reducible assumption)|assumption);omega);have hx30:∀ h:1 < a0.size,((a0[1]'h).toNat:Int)=bt a0 1:=dJ a0 1;clear p30;have qi30:(1 < (a0.size:Int))=True:=eq_true (of_decide_eq_true (by first|(with_reducible assumption)|assumption));replace q30:=eq_true q30)|(go_at_call 157;(with_reducible refine (cK.calls (bt a0 1) t143 _ A31.out).mono ?_);rintro e w' ⟨rfl,⟨nd,rfl⟩⟩;(try first|exact ⟨rfl,_,World.drewN_drewN _ _ _⟩|exact ⟨rfl,_,Eq.trans (World.drewN_drewN _ _ _) (congrArg (World.drewN _) (Nat.add_assoc _ _ _))⟩)))
          repeat (go_quiet (first|(go_at_call 157;(with_reducible refine (cK.calls (bt a0 0) t142 _ A28.out).mono ?_);rintro e w' ⟨rfl,⟨nd,rfl⟩⟩;(try first|exact ⟨rfl,_,World.drewN_drewN _ _ _⟩|exact ⟨rfl,_,Eq.trans (World.drewN_drewN _ _ _) (congrArg (World.drewN _) (Nat.add_assoc _ _ _))⟩);have p30:0≤(1:Int):=(by omega);have q30:1 < a0.size:=(by have:(1:Int) < (a0.size:Int):=of_decide_eq_true (by first|(with_reducible assumption)|assumption);omega);have hx30:∀ h:1 < a0.size,((a0[1]'h).toNat:Int)=bt a0 1:=dJ a0 1;clear p30;have qi30:(1 < (a0.size:Int))=True:=eq_true (of_decide_eq_true (by first|(with_reducible assumption)|assumption));replace q30:=eq_true q30)|(go_at_call 157;(with_reducible refine (cK.calls (bt a0 1) t143 _ A31.out).mono ?_);rintro e w' ⟨rfl,⟨nd,rfl⟩⟩;(try first|exact ⟨rfl,_,World.drewN_drewN _ _ _⟩|exact ⟨rfl,_,Eq.trans (World.drewN_drewN _ _ _) (congrArg (World.drewN _) (Nat.add_assoc _ _ _))⟩)));try go_wp2_with (first|(go_at_call 157;(with_reducible refine (cK.calls (bt a0 0) t142 _ A28.out).mono ?_);rintro e w' ⟨rfl,⟨nd,rfl⟩⟩;(try first|exact ⟨rfl,_,World.drewN_drewN _ _ _⟩|exact ⟨rfl,_,Eq.trans (World.drewN_drewN _ _ _) (congrArg (World.drewN _) (Nat.add_assoc _ _ _))⟩);have p30:0≤(1:Int):=(by omega);have q30:1 < a0.size:=(by have:(1:Int) < (a0.size:Int):=of_decide_eq_true (by first|(with_reducible assumption)|assumption);omega);have hx30:∀ h:1 < a0.size,((a0[1]'h).toNat:Int)=bt a0 1:=dJ a0 1;clear p30;have qi30:(1 < (a0.size:Int))=True:=eq_true (of_decide_eq_true (by first|(with_reducible assumption)|assumption));replace q30:=eq_true q30)|(go_at_call 157;(with_reducible refine (cK.calls (bt a0 1) t143 _ A31.out).mono ?_);rintro e w' ⟨rfl,⟨nd,rfl⟩⟩;(try first|exact ⟨rfl,_,World.drewN_drewN _ _ _⟩|exact ⟨rfl,_,Eq.trans (World.drewN_drewN _ _ _) (congrArg (World.drewN _) (Nat.add_assoc _ _ _))⟩))))
          go_ret2
          exact ⟨by first|rfl|(simp;done)|(simp [*];done)|(simp [*,aK,aM,bX];done)|(simp only [au,ak];done)|(simp only [au,ak];simp;done)|(simp only [au,ak];simp [*];done),by repeat (first|exact aJ.refl _|apply aJ.step)⟩
         ·rw [if_neg c29] at H
          exact absurd H (by simp)
        ·rw [if_neg c26] at H
         exact absurd H (by simp)
       ·replace c25:=Bool.eq_false_iff.mpr c25
        subst c25
        have H1:(some (0,0))=some (r1,r2):=by rw [if_neg (show ¬ (false=true) by decide)] at H;exact H
        clear H
        have H:=H1
        clear H1
        simp only [Option.some.injEq,Prod.mk.injEq] at H
        obtain ⟨rfl,rfl⟩:=H
        go_wp2
        repeat (go_quiet (fail);try go_wp2)
        go_ret2
        exact ⟨by first|rfl|(simp;done)|(simp [*];done)|(simp [*,aK,aM,bX];done)|(simp only [au,ak];done)|(simp only [au,ak];simp;done)|(simp only [au,ak];simp [*];done),by repeat (first|exact aJ.refl _|apply aJ.step)⟩
mutual
def bD.l0:Nat→ByteArray→List Int→Bool→Int→Option (ByteArray × ByteArray × Bool)
 | 0,_,_,_,_=>none
 | k+1,x0,x5,x6,x7=>if x7 < (x0.size:Int) then (if 0≤x7 then (bD.j1 k x0 x5 x6 x7 ((bt x0 x7) != 44)) else (none)) else (bD.j1 k x0 x5 x6 x7 false)
def bD.j1:Nat→ByteArray→List Int→Bool→Int→Bool→Option (ByteArray × ByteArray × Bool)
 | 0,_,_,_,_,_=>none
 | k+1,x0,x5,x6,x7,x20=>if x20=true then (if 0≤x7 then (if x7 < (x0.size:Int) then (if (bt x0 x7)=92 then (if 0≤(wrap64 (x7+1)) then (if (wrap64 (x7+1))≤(x0.size:Int) then ((bf.f k (x0.extract ((wrap64 (x7+1)):Int).toNat x0.size)).bind fun bt144=>(if bt144.2=0 then (some ((⟨#[]⟩:ByteArray),(⟨#[]⟩:ByteArray),false)) else (if x5.length < 140737488355328 then (bD.l0 k x0 (x5++[bt144.1]) ((bt x0 x7) == 32) (wrap64 ((wrap64 (x7+bt144.2))+1))) else (none)))) else (none)) else (none)) else (if (bt x0 x7) < 32 then (some ((⟨#[]⟩:ByteArray),(⟨#[]⟩:ByteArray),false)) else (if (bt x0 x7) > 126 then (some ((⟨#[]⟩:ByteArray),(⟨#[]⟩:ByteArray),false)) else ((aW.f (bt x0 x7)).bind fun t149=>(if t149=true then (some ((⟨#[]⟩:ByteArray),(⟨#[]⟩:ByteArray),false)) else (if x7=0 then (if (bt x0 x7)=35 then (some ((⟨#[]⟩:ByteArray),(⟨#[]⟩:ByteArray),false)) else (if (bt x0 x7)=32 then (some ((⟨#[]⟩:ByteArray),(⟨#[]⟩:ByteArray),false)) else (if x5.length < 140737488355328 then (bD.l0 k x0 (x5++[bt x0 x7]) ((bt x0 x7) == 32) (wrap64 (x7+1))) else (none)))) else (if x5.length < 140737488355328 then (bD.l0 k x0 (x5++[bt x0 x7]) ((bt x0 x7) == 32) (wrap64 (x7+1))) else (none)))))))) else (none)) else (none)) else (if 0≤x7 then (if x7≤(x0.size:Int) then (some (strOfNums x5,x0.extract (x7:Int).toNat x0.size,!x6)) else (none)) else (none))
end
def bD.f (k:Nat) (a0:ByteArray):Option (ByteArray × ByteArray × Bool):=bD.l0 k a0 ([]:List Int) false 0
set_option maxHeartbeats 8000000 in
set_option maxRecDepth 100000 in
theorem bD.calls (k:Nat) (a0:ByteArray) (r1:ByteArray) (r2:ByteArray) (r3:Bool) (w:World) (h:bD.f k a0=some (r1,r2,r3)) :
  Calls Tryz.prog 113 #[.string a0] w fun e w'=>e=.returned (.tuple #[.string r1,.string r2,.bool r3])∧Below w.heap.size w w':=by
 have HB:=aa.mk (Below.refl w.heap.size w)
 have H:(bD.l0 k a0 ([]:List Int) false 0)=some (r1,r2,r3):=h
 clear h
 have H':=aa.mk H
 clear H
 go_enter Tryz.func113,Tryz.ntmps113
 go_wp2
 repeat (go_quiet (fail);try go_wp2)
 go_loopg [5,6,7] k (fun kq v5 v6 v7 w'=>∃ (x5_1:List Int) (x6_1:Bool) (x7_1:Int),v6=.bool x6_1∧v7=.int .i64 x7_1∧aa (bD.l0 kq a0 x5_1 x6_1 x7_1=some (r1,r2,r3))∧aa (kq≤k)∧aa (Kd.R (Kd.int .u8) 5 w' w.heap.size (fun _=>True) v5 x5_1)∧aa (Below w.heap.size w w'))
 case atStart=>exact ⟨(([]:List Int)),(false),(0),(by first|rfl|(simp;done)|(simp [*];done)|(simp [*,aK,aM,bX];done)|(simp only [au,ak];done)|(simp only [au,ak];simp;done)|(simp only [au,ak];simp [*];done)),(by first|rfl|(simp;done)|(simp [*];done)|(simp [*,aK,aM,bX];done)|(simp only [au,ak];done)|(simp only [au,ak];simp;done)|(simp only [au,ak];simp [*];done)),H',⟨Nat.le_refl _⟩,⟨by first|exact Kd.kH _ _ _ _ _|exact Kd.qj _ _ _ _ _|exact Kd.qE _ _ _ _ _|exact Kd.qQ _ _ _ _ _|exact Kd.qM _ _ _ _ _⟩,⟨by repeat (first|(with_reducible first|exact HB.out|apply af|apply ae|apply ag)|exact HB.out)⟩⟩
 case round =>
  clear H'
  try clear c1
  obtain ⟨x5_1,x6_1,x7_1,rfl,rfl,HA,HK1,HO_5,HB⟩:=hrel
  cases gk with
  | zero=>exact absurd HA.out (by simp [bD.l0])
  | succ k1 =>
   have H:=HA.out
   clear HA
   simp only [bD.l0] at H
   have HC2:=aa.mk H
   clear H
   go_upto_region 4 with (fail)
   repeat (go_quiet (fail);go_upto_region 4 with (fail))
   go_cut [20] (fun v20 wc=>∃ (kq:Nat) (x20_1:Bool),v20=.bool x20_1∧aa (bD.j1 kq a0 x5_1 x6_1 x7_1 x20_1=some (r1,r2,r3))∧aa (kq≤k1)∧aa (Kd.R (Kd.int .u8) 5 wc w.heap.size (fun _=>True) u5 x5_1)∧aa (Below w.heap.size w wc))
   case first =>
    have H:=HC2.out
    clear HC2
    by_cases c3:x7_1 < (a0.size:Int)
    ·rw [if_pos c3] at H
     have c3b0:decide (x7_1 < (a0.size:Int))=true:=decide_eq_true c3
     clear c3
     (first|rw [c3b0]|(simp only [aK,aM];rw [c3b0])|skip)
     by_cases c4:0≤x7_1
     ·rw [if_pos c4] at H
      have c4b0:decide (0≤x7_1)=true:=decide_eq_true c4
      clear c4
      have H':=aa.mk H
      clear H
      have p5:0≤(x7_1:Int):=of_decide_eq_true (by first|(with_reducible assumption)|assumption)
      have q5:x7_1 < (a0.size:Int):=of_decide_eq_true (by first|(with_reducible assumption)|assumption)
      have hx5:=dJ a0 x7_1
      replace p5:=eq_true p5
      replace q5:=eq_true q5
      go_wp2
      repeat (go_quiet (fail);try go_wp2)
      go_meet
      case rel=>exact ⟨_,(((bt a0 x7_1) != 44)),(by first|rfl|(simp;done)|(simp [*];done)|(simp [*,aK,aM,bX];done)|(simp only [au,ak];done)|(simp only [au,ak];simp;done)|(simp only [au,ak];simp [*];done)),H',⟨by have:=HK1.out;first|omega|exact Nat.le_refl _⟩,⟨by (with_reducible repeat (first|apply Kd.aQ|apply Kd.aN|apply Kd.aU));exact HO_5.out⟩,⟨by repeat (first|(with_reducible first|exact HB.out|apply af|apply ae|apply ag)|exact HB.out)⟩⟩
     ·rw [if_neg c4] at H
      exact absurd H (by simp)
    ·rw [if_neg c3] at H
     have c3b0:decide (x7_1 < (a0.size:Int))=false:=decide_eq_false c3
     clear c3
     (first|rw [c3b0]|(simp only [aK,aM];rw [c3b0])|skip)
     have H':=aa.mk H
     clear H
     go_wp2
     repeat (go_quiet (fail);try go_wp2)
     go_meet
     case rel=>exact ⟨_,(false),(by first|rfl|(simp;done)|(simp [*];done)|(simp [*,aK,aM,bX];done)|(simp only [au,ak];done)|(simp only [au,ak];simp;done)|(simp only [au,ak];simp [*];done)),H',⟨by have:=HK1.out;first|omega|exact Nat.le_refl _⟩,⟨by (with_reducible repeat (first|apply Kd.aQ|apply Kd.aN|apply Kd.aU));exact HO_5.out⟩,⟨by repeat (first|(with_reducible first|exact HB.out|apply af|apply ae|apply ag)|exact HB.out)⟩⟩
   case rest =>
    clear HC2
    try clear c1
    try clear p2
    try clear c3
    try clear c3b0
    try clear c4
    try clear c4b0
    try clear p5
    try clear q5
    try clear hx5
    try clear p5
    try clear q5
    obtain ⟨kq,x20_1,rfl,HA,HJ1,HO_5,HB⟩:=hcut
    cases kq with
    | zero=>exact absurd HA.out (by simp [bD.j1])
    | succ kj1 =>
     have H:=HA.out
     clear HA
     simp only [bD.j1] at H
     by_cases c6:x20_1=true
     ·subst c6
      have H1:(if 0≤x7_1 then (if x7_1 < (a0.size:Int) then (if (bt a0 x7_1)=92 then (if 0≤(wrap64 (x7_1+1)) then (if (wrap64 (x7_1+1))≤(a0.size:Int) then ((bf.f kj1 (a0.extract ((wrap64 (x7_1+1)):Int).toNat a0.size)).bind fun bt144=>(if bt144.2=0 then (some ((⟨#[]⟩:ByteArray),(⟨#[]⟩:ByteArray),false)) else (if x5_1.length < 140737488355328 then (bD.l0 kj1 a0 (x5_1++[bt144.1]) ((bt a0 x7_1) == 32) (wrap64 ((wrap64 (x7_1+bt144.2))+1))) else (none)))) else (none)) else (none)) else (if (bt a0 x7_1) < 32 then (some ((⟨#[]⟩:ByteArray),(⟨#[]⟩:ByteArray),false)) else (if (bt a0 x7_1) > 126 then (some ((⟨#[]⟩:ByteArray),(⟨#[]⟩:ByteArray),false)) else ((aW.f (bt a0 x7_1)).bind fun t149=>(if t149=true then (some ((⟨#[]⟩:ByteArray),(⟨#[]⟩:ByteArray),false)) else (if x7_1=0 then (if (bt a0 x7_1)=35 then (some ((⟨#[]⟩:ByteArray),(⟨#[]⟩:ByteArray),false)) else (if (bt a0 x7_1)=32 then (some ((⟨#[]⟩:ByteArray),(⟨#[]⟩:ByteArray),false)) else (if x5_1.length < 140737488355328 then (bD.l0 kj1 a0 (x5_1++[bt a0 x7_1]) ((bt a0 x7_1) == 32) (wrap64 (x7_1+1))) else (none)))) else (if x5_1.length < 140737488355328 then (bD.l0 kj1 a0 (x5_1++[bt a0 x7_1]) ((bt a0 x7_1) == 32) (wrap64 (x7_1+1))) else (none)))))))) else (none)) else (none))=some (r1,r2,r3):=by rw [if_pos rfl] at H;exact H
      clear H
      have H:=H1
      clear H1
      by_cases c7:0≤x7_1
      ·rw [if_pos c7] at H
       have c7b0:decide (0≤x7_1)=true:=decide_eq_true c7
       clear c7
       by_cases c8:x7_1 < (a0.size:Int)
       ·rw [if_pos c8] at H
        have c8b0:decide (x7_1 < (a0.size:Int))=true:=decide_eq_true c8
        clear c8
        by_cases c10:(bt a0 x7_1)=92
        ·rw [if_pos c10] at H
         have c10b0:((bt a0 x7_1) == 92)=true:=beq_iff_eq.mpr c10
         have c10b1:((bt a0 x7_1) != 92)=false:=bne_eq_false_iff_eq.mpr c10
         clear c10
         obtain ⟨ji11,hji11⟩:∃ j_:Int,(wrap64 (x7_1+1))=j_:=⟨_,rfl⟩
         replace H:(if 0≤(ji11) then (if (ji11)≤(a0.size:Int) then ((bf.f kj1 (a0.extract ((ji11):Int).toNat a0.size)).bind fun bt144=>(if bt144.2=0 then (some ((⟨#[]⟩:ByteArray),(⟨#[]⟩:ByteArray),false)) else (if x5_1.length < 140737488355328 then (bD.l0 kj1 a0 (x5_1++[bt144.1]) ((bt a0 x7_1) == 32) (wrap64 ((wrap64 (x7_1+bt144.2))+1))) else (none)))) else (none)) else (none))=some (r1,r2,r3):=by first|(rw [hji11] at H;exact H)|(simp only [hji11] at H ⊢;exact H)
         have hji11w:(IntKind.i64.wrap (x7_1+1))=ji11:=(aK _).trans hji11
         by_cases c12:0≤(ji11)
         ·rw [if_pos c12] at H
          have c12b0:=eq_true c12
          have c12b1:decide (0≤(ji11))=true:=decide_eq_true c12
          clear c12
          by_cases c13:(ji11)≤(a0.size:Int)
          ·rw [if_pos c13] at H
           have c13b0:=eq_true c13
           have c13b1:decide ((ji11)≤(a0.size:Int))=true:=decide_eq_true c13
           clear c13
           replace H:=Option.bind_eq_some_iff.mp H
           obtain ⟨⟨t144,t145⟩,A140,H⟩:=H
           replace H:(if t145=0 then (some ((⟨#[]⟩:ByteArray),(⟨#[]⟩:ByteArray),false)) else (if x5_1.length < 140737488355328 then (bD.l0 kj1 a0 (x5_1++[t144]) ((bt a0 x7_1) == 32) (wrap64 ((wrap64 (x7_1+t145))+1))) else (none)))=some (r1,r2,r3):=H
           have A14:=aa.mk A140
           clear A140
           by_cases c15:t145=0
           ·rw [if_pos c15] at H
            have c15b0:(t145 == 0)=true:=beq_iff_eq.mpr c15
            have c15b1:(t145 != 0)=false:=bne_eq_false_iff_eq.mpr c15
            clear c15
            simp only [Option.some.injEq,Prod.mk.injEq] at H
            obtain ⟨rfl,rfl,rfl⟩:=H
            have p9:0≤(x7_1:Int):=of_decide_eq_true (by first|(with_reducible assumption)|assumption)
            have q9:x7_1 < (a0.size:Int):=of_decide_eq_true (by first|(with_reducible assumption)|assumption)
            have hx9:=dJ a0 x7_1
            replace p9:=eq_true p9
            replace q9:=eq_true q9
            go_wp2_with (first|(go_at_call 137;(with_reducible refine (bf.calls kj1 (a0.extract ((ji11):Int).toNat a0.size) t144 t145 _ A14.out).mono ?_);rintro e w' ⟨rfl,⟨nd,rfl⟩⟩;(try first|exact ⟨rfl,_,World.drewN_drewN _ _ _⟩|exact ⟨rfl,_,Eq.trans (World.drewN_drewN _ _ _) (congrArg (World.drewN _) (Nat.add_assoc _ _ _))⟩)))
            repeat (go_quiet (first|(go_at_call 137;(with_reducible refine (bf.calls kj1 (a0.extract ((ji11):Int).toNat a0.size) t144 t145 _ A14.out).mono ?_);rintro e w' ⟨rfl,⟨nd,rfl⟩⟩;(try first|exact ⟨rfl,_,World.drewN_drewN _ _ _⟩|exact ⟨rfl,_,Eq.trans (World.drewN_drewN _ _ _) (congrArg (World.drewN _) (Nat.add_assoc _ _ _))⟩)));try go_wp2_with (first|(go_at_call 137;(with_reducible refine (bf.calls kj1 (a0.extract ((ji11):Int).toNat a0.size) t144 t145 _ A14.out).mono ?_);rintro e w' ⟨rfl,⟨nd,rfl⟩⟩;(try first|exact ⟨rfl,_,World.drewN_drewN _ _ _⟩|exact ⟨rfl,_,Eq.trans (World.drewN_drewN _ _ _) (congrArg (World.drewN _) (Nat.add_assoc _ _ _))⟩))))
            go_ret3
            exact ⟨by first|rfl|(simp [aD,aG] <;> rfl)|(simp only [← hji11];first|rfl|(simp [aD,aG] <;> rfl))|(simp [*,aD,aG] <;> rfl),by repeat (first|(with_reducible first|exact HB.out|apply af|apply ae|apply ag)|exact HB.out)⟩
           ·rw [if_neg c15] at H
            have c15b0:(t145 == 0)=false:=beq_eq_false_iff_ne.mpr c15
            have c15b1:(t145 != 0)=true:=bne_iff_ne.mpr c15
            by_cases c16:x5_1.length < 140737488355328
            ·rw [if_pos c16] at H
             have LMc16:=aa.mk c16
             clear c16
             obtain ⟨y146,hy146⟩:∃ y_:List Int,y_=(x5_1++[t144]):=⟨_,rfl⟩
             replace H:(bD.l0 kj1 a0 y146 ((bt a0 x7_1) == 32) (wrap64 ((wrap64 (x7_1+t145))+1)))=some (r1,r2,r3):=by first|(rw [hy146];with_reducible exact H)|(have H2_:=(Option.bind_some _ _).symm.trans H;rw [hy146];with_reducible exact H2_)|(have H2_:=(Option.bind_some _ _).symm.trans H;with_reducible exact H2_)|with_reducible exact H|(rw [hy146];exact H)|exact H
             have Ny146:=aa.mk hy146
             clear hy146
             have H':=aa.mk H
             clear H
             have p9:0≤(x7_1:Int):=of_decide_eq_true (by first|(with_reducible assumption)|assumption)
             have q9:x7_1 < (a0.size:Int):=of_decide_eq_true (by first|(with_reducible assumption)|assumption)
             have hx9:=dJ a0 x7_1
             replace p9:=eq_true p9
             replace q9:=eq_true q9
             go_wp2_with (first|(go_at_call 137;(with_reducible refine (bf.calls kj1 (a0.extract ((ji11):Int).toNat a0.size) t144 t145 _ A14.out).mono ?_);rintro e w' ⟨rfl,⟨nd,rfl⟩⟩;(try first|exact ⟨rfl,_,World.drewN_drewN _ _ _⟩|exact ⟨rfl,_,Eq.trans (World.drewN_drewN _ _ _) (congrArg (World.drewN _) (Nat.add_assoc _ _ _))⟩))|((with_reducible refine dC (b:=.append) (xs:=#[.tmp 66,.tmp 68]) rfl ?_);at_builtin;refine Kd.fF (Kd.int .u8) (w0:=w) w.heap.size rfl (.tmp 66) (.tmp 68) 34 5 (.int .u8 0) 1 rfl Tryz.underlying34 info5 rfl (by decide) (by omega) u5 x5_1 t144 [.int .u8 t144] (fun _=>True) (fun _=>False) rfl rfl ?aP (fun _ hk=>hk.elim) ?aF ?aO ?aB ?aS ?aL ?_;(case aP=>exact rfl);(case aB=>exact (by repeat (first|(with_reducible first|exact HB.out|apply af|apply ae|apply ag)|exact HB.out)));(case aF=>exact (fun _ _=>trivial));(case aO=>exact (by (with_reducible repeat (first|apply Kd.aQ|apply Kd.aN|apply Kd.aU));exact HO_5.out));(case aS=>exact (aC (by repeat (first|(with_reducible first|exact HB.out|apply af|apply ae|apply ag)|exact HB.out))));(case aL=>have:=LMc16.out;omega);intro v147 w17 ho hb hg hat;rw [← Ny146.out] at ho;have n0_:=aa.mk (hb);have n1_:=aa.mk (ho);clear HB;clear HO_5;have HB:=n0_;have HO148:=n1_;clear n0_ n1_;clear ho hb hg hat))
             repeat (go_quiet (first|(go_at_call 137;(with_reducible refine (bf.calls kj1 (a0.extract ((ji11):Int).toNat a0.size) t144 t145 _ A14.out).mono ?_);rintro e w' ⟨rfl,⟨nd,rfl⟩⟩;(try first|exact ⟨rfl,_,World.drewN_drewN _ _ _⟩|exact ⟨rfl,_,Eq.trans (World.drewN_drewN _ _ _) (congrArg (World.drewN _) (Nat.add_assoc _ _ _))⟩))|((with_reducible refine dC (b:=.append) (xs:=#[.tmp 66,.tmp 68]) rfl ?_);at_builtin;refine Kd.fF (Kd.int .u8) (w0:=w) w.heap.size rfl (.tmp 66) (.tmp 68) 34 5 (.int .u8 0) 1 rfl Tryz.underlying34 info5 rfl (by decide) (by omega) u5 x5_1 t144 [.int .u8 t144] (fun _=>True) (fun _=>False) rfl rfl ?aP (fun _ hk=>hk.elim) ?aF ?aO ?aB ?aS ?aL ?_;(case aP=>exact rfl);(case aB=>exact (by repeat (first|(with_reducible first|exact HB.out|apply af|apply ae|apply ag)|exact HB.out)));(case aF=>exact (fun _ _=>trivial));(case aO=>exact (by (with_reducible repeat (first|apply Kd.aQ|apply Kd.aN|apply Kd.aU));exact HO_5.out));(case aS=>exact (aC (by repeat (first|(with_reducible first|exact HB.out|apply af|apply ae|apply ag)|exact HB.out))));(case aL=>have:=LMc16.out;omega);intro v147 w17 ho hb hg hat;rw [← Ny146.out] at ho;have n0_:=aa.mk (hb);have n1_:=aa.mk (ho);clear HB;clear HO_5;have HB:=n0_;have HO148:=n1_;clear n0_ n1_;clear ho hb hg hat));try go_wp2_with (first|(go_at_call 137;(with_reducible refine (bf.calls kj1 (a0.extract ((ji11):Int).toNat a0.size) t144 t145 _ A14.out).mono ?_);rintro e w' ⟨rfl,⟨nd,rfl⟩⟩;(try first|exact ⟨rfl,_,World.drewN_drewN _ _ _⟩|exact ⟨rfl,_,Eq.trans (World.drewN_drewN _ _ _) (congrArg (World.drewN _) (Nat.add_assoc _ _ _))⟩))|((with_reducible refine dC (b:=.append) (xs:=#[.tmp 66,.tmp 68]) rfl ?_);at_builtin;refine Kd.fF (Kd.int .u8) (w0:=w) w.heap.size rfl (.tmp 66) (.tmp 68) 34 5 (.int .u8 0) 1 rfl Tryz.underlying34 info5 rfl (by decide) (by omega) u5 x5_1 t144 [.int .u8 t144] (fun _=>True) (fun _=>False) rfl rfl ?aP (fun _ hk=>hk.elim) ?aF ?aO ?aB ?aS ?aL ?_;(case aP=>exact rfl);(case aB=>exact (by repeat (first|(with_reducible first|exact HB.out|apply af|apply ae|apply ag)|exact HB.out)));(case aF=>exact (fun _ _=>trivial));(case aO=>exact (by (with_reducible repeat (first|apply Kd.aQ|apply Kd.aN|apply Kd.aU));exact HO_5.out));(case aS=>exact (aC (by repeat (first|(with_reducible first|exact HB.out|apply af|apply ae|apply ag)|exact HB.out))));(case aL=>have:=LMc16.out;omega);intro v147 w17 ho hb hg hat;rw [← Ny146.out] at ho;have n0_:=aa.mk (hb);have n1_:=aa.mk (ho);clear HB;clear HO_5;have HB:=n0_;have HO148:=n1_;clear n0_ n1_;clear ho hb hg hat)))
             go_roundg kj1
             case measure=>have:=HK1.out;have:=HJ1.out;omega
             case rel=>exact ⟨(y146),(((bt a0 x7_1) == 32)),(wrap64 ((wrap64 (x7_1+t145))+1)),(by first|rfl|(simp;done)|(simp [*];done)|(simp [*,aK,aM,bX];done)|(simp only [au,ak];done)|(simp only [au,ak];simp;done)|(simp only [au,ak];simp [*];done)),(by first|rfl|(simp;done)|(simp [*];done)|(simp [*,aK,aM,bX];done)|(simp only [au,ak];done)|(simp only [au,ak];simp;done)|(simp only [au,ak];simp [*];done)),H',⟨by have:=HK1.out;have:=HJ1.out;omega⟩,⟨by (with_reducible repeat (first|apply Kd.aQ|apply Kd.aN|apply Kd.aU));exact HO148.out⟩,⟨by repeat (first|(with_reducible first|exact HB.out|apply af|apply ae|apply ag)|exact HB.out)⟩⟩
            ·rw [if_neg c16] at H
             exact absurd H (by simp)
          ·rw [if_neg c13] at H
           exact absurd H (by simp)
         ·rw [if_neg c12] at H
          exact absurd H (by simp)
        ·rw [if_neg c10] at H
         have c10b0:((bt a0 x7_1) == 92)=false:=beq_eq_false_iff_ne.mpr c10
         have c10b1:((bt a0 x7_1) != 92)=true:=bne_iff_ne.mpr c10
         by_cases c18:(bt a0 x7_1) < 32
         ·rw [if_pos c18] at H
          have c18b0:decide ((bt a0 x7_1) < 32)=true:=decide_eq_true c18
          clear c18
          simp only [Option.some.injEq,Prod.mk.injEq] at H
          obtain ⟨rfl,rfl,rfl⟩:=H
          have p9:0≤(x7_1:Int):=of_decide_eq_true (by first|(with_reducible assumption)|assumption)
          have q9:x7_1 < (a0.size:Int):=of_decide_eq_true (by first|(with_reducible assumption)|assumption)
          have hx9:=dJ a0 x7_1
          replace p9:=eq_true p9
          replace q9:=eq_true q9
          go_wp2
          repeat (go_quiet (fail);try go_wp2)
          go_ret3
          exact ⟨by first|rfl|(simp [aD,aG] <;> rfl)|(simp [*,aD,aG] <;> rfl),by repeat (first|(with_reducible first|exact HB.out|apply af|apply ae|apply ag)|exact HB.out)⟩
         ·rw [if_neg c18] at H
          have c18b0:decide ((bt a0 x7_1) < 32)=false:=decide_eq_false c18
          clear c18
          by_cases c19:(bt a0 x7_1) > 126
          ·rw [if_pos c19] at H
           have c19b0:decide (126 < (bt a0 x7_1))=true:=decide_eq_true c19
           clear c19
           simp only [Option.some.injEq,Prod.mk.injEq] at H
           obtain ⟨rfl,rfl,rfl⟩:=H
           have p9:0≤(x7_1:Int):=of_decide_eq_true (by first|(with_reducible assumption)|assumption)
           have q9:x7_1 < (a0.size:Int):=of_decide_eq_true (by first|(with_reducible assumption)|assumption)
           have hx9:=dJ a0 x7_1
           replace p9:=eq_true p9
           replace q9:=eq_true q9
           go_wp2
           repeat (go_quiet (fail);try go_wp2)
           go_ret3
           exact ⟨by first|rfl|(simp [aD,aG] <;> rfl)|(simp [*,aD,aG] <;> rfl),by repeat (first|(with_reducible first|exact HB.out|apply af|apply ae|apply ag)|exact HB.out)⟩
          ·rw [if_neg c19] at H
           have c19b0:decide (126 < (bt a0 x7_1))=false:=decide_eq_false c19
           clear c19
           replace H:=Option.bind_eq_some_iff.mp H
           obtain ⟨t149,A200,H⟩:=H
           replace H:(if t149=true then (some ((⟨#[]⟩:ByteArray),(⟨#[]⟩:ByteArray),false)) else (if x7_1=0 then (if (bt a0 x7_1)=35 then (some ((⟨#[]⟩:ByteArray),(⟨#[]⟩:ByteArray),false)) else (if (bt a0 x7_1)=32 then (some ((⟨#[]⟩:ByteArray),(⟨#[]⟩:ByteArray),false)) else (if x5_1.length < 140737488355328 then (bD.l0 kj1 a0 (x5_1++[bt a0 x7_1]) ((bt a0 x7_1) == 32) (wrap64 (x7_1+1))) else (none)))) else (if x5_1.length < 140737488355328 then (bD.l0 kj1 a0 (x5_1++[bt a0 x7_1]) ((bt a0 x7_1) == 32) (wrap64 (x7_1+1))) else (none))))=some (r1,r2,r3):=H
           have A20:=aa.mk A200
           clear A200
           by_cases c21:t149=true
           ·subst c21
            have H1:(some ((⟨#[]⟩:ByteArray),(⟨#[]⟩:ByteArray),false))=some (r1,r2,r3):=by rw [if_pos rfl] at H;exact H
            clear H
            have H:=H1
            clear H1
            simp only [Option.some.injEq,Prod.mk.injEq] at H
            obtain ⟨rfl,rfl,rfl⟩:=H
            have p9:0≤(x7_1:Int):=of_decide_eq_true (by first|(with_reducible assumption)|assumption)
            have q9:x7_1 < (a0.size:Int):=of_decide_eq_true (by first|(with_reducible assumption)|assumption)
            have hx9:=dJ a0 x7_1
            replace p9:=eq_true p9
            replace q9:=eq_true q9
            go_wp2_with (first|(go_at_call 118;(with_reducible refine (aW.calls (bt a0 x7_1) true _ A20.out).mono ?_);rintro e w' ⟨rfl,⟨nd,rfl⟩⟩;(try first|exact ⟨rfl,_,World.drewN_drewN _ _ _⟩|exact ⟨rfl,_,Eq.trans (World.drewN_drewN _ _ _) (congrArg (World.drewN _) (Nat.add_assoc _ _ _))⟩)))
            repeat (go_quiet (first|(go_at_call 118;(with_reducible refine (aW.calls (bt a0 x7_1) true _ A20.out).mono ?_);rintro e w' ⟨rfl,⟨nd,rfl⟩⟩;(try first|exact ⟨rfl,_,World.drewN_drewN _ _ _⟩|exact ⟨rfl,_,Eq.trans (World.drewN_drewN _ _ _) (congrArg (World.drewN _) (Nat.add_assoc _ _ _))⟩)));try go_wp2_with (first|(go_at_call 118;(with_reducible refine (aW.calls (bt a0 x7_1) true _ A20.out).mono ?_);rintro e w' ⟨rfl,⟨nd,rfl⟩⟩;(try first|exact ⟨rfl,_,World.drewN_drewN _ _ _⟩|exact ⟨rfl,_,Eq.trans (World.drewN_drewN _ _ _) (congrArg (World.drewN _) (Nat.add_assoc _ _ _))⟩))))
            go_ret3
            exact ⟨by first|rfl|(simp [aD,aG] <;> rfl)|(simp [*,aD,aG] <;> rfl),by repeat (first|(with_reducible first|exact HB.out|apply af|apply ae|apply ag)|exact HB.out)⟩
           ·replace c21:=Bool.eq_false_iff.mpr c21
            subst c21
            have H1:(if x7_1=0 then (if (bt a0 x7_1)=35 then (some ((⟨#[]⟩:ByteArray),(⟨#[]⟩:ByteArray),false)) else (if (bt a0 x7_1)=32 then (some ((⟨#[]⟩:ByteArray),(⟨#[]⟩:ByteArray),false)) else (if x5_1.length < 140737488355328 then (bD.l0 kj1 a0 (x5_1++[bt a0 x7_1]) ((bt a0 x7_1) == 32) (wrap64 (x7_1+1))) else (none)))) else (if x5_1.length < 140737488355328 then (bD.l0 kj1 a0 (x5_1++[bt a0 x7_1]) ((bt a0 x7_1) == 32) (wrap64 (x7_1+1))) else (none)))=some (r1,r2,r3):=by rw [if_neg (show ¬ (false=true) by decide)] at H;exact H
            clear H
            have H:=H1
            clear H1
            by_cases c22:x7_1=0
            ·rw [if_pos c22] at H
             have c22b0:(x7_1 == 0)=true:=beq_iff_eq.mpr c22
             have c22b1:(x7_1 != 0)=false:=bne_eq_false_iff_eq.mpr c22
             clear c22
             by_cases c23:(bt a0 x7_1)=35
             ·rw [if_pos c23] at H
              have c23b0:((bt a0 x7_1) == 35)=true:=beq_iff_eq.mpr c23
              have c23b1:((bt a0 x7_1) != 35)=false:=bne_eq_false_iff_eq.mpr c23
              clear c23
              simp only [Option.some.injEq,Prod.mk.injEq] at H
              obtain ⟨rfl,rfl,rfl⟩:=H
              have p9:0≤(x7_1:Int):=of_decide_eq_true (by first|(with_reducible assumption)|assumption)
              have q9:x7_1 < (a0.size:Int):=of_decide_eq_true (by first|(with_reducible assumption)|assumption)
              have hx9:=dJ a0 x7_1
              replace p9:=eq_true p9
              replace q9:=eq_true q9
              go_wp2_with (first|(go_at_call 118;(with_reducible refine (aW.calls (bt a0 x7_1) false _ A20.out).mono ?_);rintro e w' ⟨rfl,⟨nd,rfl⟩⟩;(try first|exact ⟨rfl,_,World.drewN_drewN _ _ _⟩|exact ⟨rfl,_,Eq.trans (World.drewN_drewN _ _ _) (congrArg (World.drewN _) (Nat.add_assoc _ _ _))⟩)))
              repeat (go_quiet (first|(go_at_call 118;(with_reducible refine (aW.calls (bt a0 x7_1) false _ A20.out).mono ?_);rintro e w' ⟨rfl,⟨nd,rfl⟩⟩;(try first|exact ⟨rfl,_,World.drewN_drewN _ _ _⟩|exact ⟨rfl,_,Eq.trans (World.drewN_drewN _ _ _) (congrArg (World.drewN _) (Nat.add_assoc _ _ _))⟩)));try go_wp2_with (first|(go_at_call 118;(with_reducible refine (aW.calls (bt a0 x7_1) false _ A20.out).mono ?_);rintro e w' ⟨rfl,⟨nd,rfl⟩⟩;(try first|exact ⟨rfl,_,World.drewN_drewN _ _ _⟩|exact ⟨rfl,_,Eq.trans (World.drewN_drewN _ _ _) (congrArg (World.drewN _) (Nat.add_assoc _ _ _))⟩))))
              go_ret3
              exact ⟨by first|rfl|(simp [aD,aG] <;> rfl)|(simp [*,aD,aG] <;> rfl),by repeat (first|(with_reducible first|exact HB.out|apply af|apply ae|apply ag)|exact HB.out)⟩
             ·rw [if_neg c23] at H
              have c23b0:((bt a0 x7_1) == 35)=false:=beq_eq_false_iff_ne.mpr c23
              have c23b1:((bt a0 x7_1) != 35)=true:=bne_iff_ne.mpr c23
              by_cases c24:(bt a0 x7_1)=32
              ·rw [if_pos c24] at H
               have c24b0:((bt a0 x7_1) == 32)=true:=beq_iff_eq.mpr c24
               have c24b1:((bt a0 x7_1) != 32)=false:=bne_eq_false_iff_eq.mpr c24
               clear c24
               simp only [Option.some.injEq,Prod.mk.injEq] at H
               obtain ⟨rfl,rfl,rfl⟩:=H
               have p9:0≤(x7_1:Int):=of_decide_eq_true (by first|(with_reducible assumption)|assumption)
               have q9:x7_1 < (a0.size:Int):=of_decide_eq_true (by first|(with_reducible assumption)|assumption)
               have hx9:=dJ a0 x7_1
               replace p9:=eq_true p9
               replace q9:=eq_true q9
               go_wp2_with (first|(go_at_call 118;(with_reducible refine (aW.calls (bt a0 x7_1) false _ A20.out).mono ?_);rintro e w' ⟨rfl,⟨nd,rfl⟩⟩;(try first|exact ⟨rfl,_,World.drewN_drewN _ _ _⟩|exact ⟨rfl,_,Eq.trans (World.drewN_drewN _ _ _) (congrArg (World.drewN _) (Nat.add_assoc _ _ _))⟩)))
               repeat (go_quiet (first|(go_at_call 118;(with_reducible refine (aW.calls (bt a0 x7_1) false _ A20.out).mono ?_);rintro e w' ⟨rfl,⟨nd,rfl⟩⟩;(try first|exact ⟨rfl,_,World.drewN_drewN _ _ _⟩|exact ⟨rfl,_,Eq.trans (World.drewN_drewN _ _ _) (congrArg (World.drewN _) (Nat.add_assoc _ _ _))⟩)));try go_wp2_with (first|(go_at_call 118;(with_reducible refine (aW.calls (bt a0 x7_1) false _ A20.out).mono ?_);rintro e w' ⟨rfl,⟨nd,rfl⟩⟩;(try first|exact ⟨rfl,_,World.drewN_drewN _ _ _⟩|exact ⟨rfl,_,Eq.trans (World.drewN_drewN _ _ _) (congrArg (World.drewN _) (Nat.add_assoc _ _ _))⟩))))
               go_ret3
               exact ⟨by first|rfl|(simp [aD,aG] <;> rfl)|(simp [*,aD,aG] <;> rfl),by repeat (first|(with_reducible first|exact HB.out|apply af|apply ae|apply ag)|exact HB.out)⟩
              ·rw [if_neg c24] at H
               have c24b0:((bt a0 x7_1) == 32)=false:=beq_eq_false_iff_ne.mpr c24
               have c24b1:((bt a0 x7_1) != 32)=true:=bne_iff_ne.mpr c24
               by_cases c25:x5_1.length < 140737488355328
               ·rw [if_pos c25] at H
                have LMc25:=aa.mk c25
                clear c25
                obtain ⟨y150,hy150⟩:∃ y_:List Int,y_=(x5_1++[bt a0 x7_1]):=⟨_,rfl⟩
                replace H:(bD.l0 kj1 a0 y150 ((bt a0 x7_1) == 32) (wrap64 (x7_1+1)))=some (r1,r2,r3):=by first|(rw [hy150];with_reducible exact H)|(have H2_:=(Option.bind_some _ _).symm.trans H;rw [hy150];with_reducible exact H2_)|(have H2_:=(Option.bind_some _ _).symm.trans H;with_reducible exact H2_)|with_reducible exact H|(rw [hy150];exact H)|exact H
                have Ny150:=aa.mk hy150
                clear hy150
                have H':=aa.mk H
                clear H
                have p9:0≤(x7_1:Int):=of_decide_eq_true (by first|(with_reducible assumption)|assumption)
                have q9:x7_1 < (a0.size:Int):=of_decide_eq_true (by first|(with_reducible assumption)|assumption)
                have hx9:=dJ a0 x7_1
                replace p9:=eq_true p9
                replace q9:=eq_true q9
                go_wp2_with (first|(go_at_call 118;(with_reducible refine (aW.calls (bt a0 x7_1) false _ A20.out).mono ?_);rintro e w' ⟨rfl,⟨nd,rfl⟩⟩;(try first|exact ⟨rfl,_,World.drewN_drewN _ _ _⟩|exact ⟨rfl,_,Eq.trans (World.drewN_drewN _ _ _) (congrArg (World.drewN _) (Nat.add_assoc _ _ _))⟩))|((with_reducible refine dC (b:=.append) (xs:=#[.tmp 66,.tmp 68]) rfl ?_);at_builtin;refine Kd.fF (Kd.int .u8) (w0:=w) w.heap.size rfl (.tmp 66) (.tmp 68) 34 5 (.int .u8 0) 1 rfl Tryz.underlying34 info5 rfl (by decide) (by omega) u5 x5_1 (bt a0 x7_1) [.int .u8 (bt a0 x7_1)] (fun _=>True) (fun _=>False) rfl rfl ?aP (fun _ hk=>hk.elim) ?aF ?aO ?aB ?aS ?aL ?_;(case aP=>exact rfl);(case aB=>exact (by repeat (first|(with_reducible first|exact HB.out|apply af|apply ae|apply ag)|exact HB.out)));(case aF=>exact (fun _ _=>trivial));(case aO=>exact (by (with_reducible repeat (first|apply Kd.aQ|apply Kd.aN|apply Kd.aU));exact HO_5.out));(case aS=>exact (aC (by repeat (first|(with_reducible first|exact HB.out|apply af|apply ae|apply ag)|exact HB.out))));(case aL=>have:=LMc25.out;omega);intro v151 w26 ho hb hg hat;rw [← Ny150.out] at ho;have n0_:=aa.mk (hb);have n1_:=aa.mk (ho);clear HB;clear HO_5;have HB:=n0_;have HO152:=n1_;clear n0_ n1_;clear ho hb hg hat))
                repeat (go_quiet (first|(go_at_call 118;(with_reducible refine (aW.calls (bt a0 x7_1) false _ A20.out).mono ?_);rintro e w' ⟨rfl,⟨nd,rfl⟩⟩;(try first|exact ⟨rfl,_,World.drewN_drewN _ _ _⟩|exact ⟨rfl,_,Eq.trans (World.drewN_drewN _ _ _) (congrArg (World.drewN _) (Nat.add_assoc _ _ _))⟩))|((with_reducible refine dC (b:=.append) (xs:=#[.tmp 66,.tmp 68]) rfl ?_);at_builtin;refine Kd.fF (Kd.int .u8) (w0:=w) w.heap.size rfl (.tmp 66) (.tmp 68) 34 5 (.int .u8 0) 1 rfl Tryz.underlying34 info5 rfl (by decide) (by omega) u5 x5_1 (bt a0 x7_1) [.int .u8 (bt a0 x7_1)] (fun _=>True) (fun _=>False) rfl rfl ?aP (fun _ hk=>hk.elim) ?aF ?aO ?aB ?aS ?aL ?_;(case aP=>exact rfl);(case aB=>exact (by repeat (first|(with_reducible first|exact HB.out|apply af|apply ae|apply ag)|exact HB.out)));(case aF=>exact (fun _ _=>trivial));(case aO=>exact (by (with_reducible repeat (first|apply Kd.aQ|apply Kd.aN|apply Kd.aU));exact HO_5.out));(case aS=>exact (aC (by repeat (first|(with_reducible first|exact HB.out|apply af|apply ae|apply ag)|exact HB.out))));(case aL=>have:=LMc25.out;omega);intro v151 w26 ho hb hg hat;rw [← Ny150.out] at ho;have n0_:=aa.mk (hb);have n1_:=aa.mk (ho);clear HB;clear HO_5;have HB:=n0_;have HO152:=n1_;clear n0_ n1_;clear ho hb hg hat));try go_wp2_with (first|(go_at_call 118;(with_reducible refine (aW.calls (bt a0 x7_1) false _ A20.out).mono ?_);rintro e w' ⟨rfl,⟨nd,rfl⟩⟩;(try first|exact ⟨rfl,_,World.drewN_drewN _ _ _⟩|exact ⟨rfl,_,Eq.trans (World.drewN_drewN _ _ _) (congrArg (World.drewN _) (Nat.add_assoc _ _ _))⟩))|((with_reducible refine dC (b:=.append) (xs:=#[.tmp 66,.tmp 68]) rfl ?_);at_builtin;refine Kd.fF (Kd.int .u8) (w0:=w) w.heap.size rfl (.tmp 66) (.tmp 68) 34 5 (.int .u8 0) 1 rfl Tryz.underlying34 info5 rfl (by decide) (by omega) u5 x5_1 (bt a0 x7_1) [.int .u8 (bt a0 x7_1)] (fun _=>True) (fun _=>False) rfl rfl ?aP (fun _ hk=>hk.elim) ?aF ?aO ?aB ?aS ?aL ?_;(case aP=>exact rfl);(case aB=>exact (by repeat (first|(with_reducible first|exact HB.out|apply af|apply ae|apply ag)|exact HB.out)));(case aF=>exact (fun _ _=>trivial));(case aO=>exact (by (with_reducible repeat (first|apply Kd.aQ|apply Kd.aN|apply Kd.aU));exact HO_5.out));(case aS=>exact (aC (by repeat (first|(with_reducible first|exact HB.out|apply af|apply ae|apply ag)|exact HB.out))));(case aL=>have:=LMc25.out;omega);intro v151 w26 ho hb hg hat;rw [← Ny150.out] at ho;have n0_:=aa.mk (hb);have n1_:=aa.mk (ho);clear HB;clear HO_5;have HB:=n0_;have HO152:=n1_;clear n0_ n1_;clear ho hb hg hat)))
                go_roundg kj1
                case measure=>have:=HK1.out;have:=HJ1.out;omega
                case rel=>exact ⟨(y150),(((bt a0 x7_1) == 32)),(wrap64 (x7_1+1)),(by first|rfl|(simp;done)|(simp [*];done)|(simp [*,aK,aM,bX];done)|(simp only [au,ak];done)|(simp only [au,ak];simp;done)|(simp only [au,ak];simp [*];done)),(by first|rfl|(simp;done)|(simp [*];done)|(simp [*,aK,aM,bX];done)|(simp only [au,ak];done)|(simp only [au,ak];simp;done)|(simp only [au,ak];simp [*];done)),H',⟨by have:=HK1.out;have:=HJ1.out;omega⟩,⟨by (with_reducible repeat (first|apply Kd.aQ|apply Kd.aN|apply Kd.aU));exact HO152.out⟩,⟨by repeat (first|(with_reducible first|exact HB.out|apply af|apply ae|apply ag)|exact HB.out)⟩⟩
               ·rw [if_neg c25] at H
                exact absurd H (by simp)
            ·rw [if_neg c22] at H
             have c22b0:(x7_1 == 0)=false:=beq_eq_false_iff_ne.mpr c22
             have c22b1:(x7_1 != 0)=true:=bne_iff_ne.mpr c22
             by_cases c27:x5_1.length < 140737488355328
             ·rw [if_pos c27] at H
              have LMc27:=aa.mk c27
              clear c27
              obtain ⟨y153,hy153⟩:∃ y_:List Int,y_=(x5_1++[bt a0 x7_1]):=⟨_,rfl⟩
              replace H:(bD.l0 kj1 a0 y153 ((bt a0 x7_1) == 32) (wrap64 (x7_1+1)))=some (r1,r2,r3):=by first|(rw [hy153];with_reducible exact H)|(have H2_:=(Option.bind_some _ _).symm.trans H;rw [hy153];with_reducible exact H2_)|(have H2_:=(Option.bind_some _ _).symm.trans H;with_reducible exact H2_)|with_reducible exact H|(rw [hy153];exact H)|exact H
              have Ny153:=aa.mk hy153
              clear hy153
              have H':=aa.mk H
              clear H
              have p9:0≤(x7_1:Int):=of_decide_eq_true (by first|(with_reducible assumption)|assumption)
              have q9:x7_1 < (a0.size:Int):=of_decide_eq_true (by first|(with_reducible assumption)|assumption)
              have hx9:=dJ a0 x7_1
              replace p9:=eq_true p9
              replace q9:=eq_true q9
              go_wp2_with (first|(go_at_call 118;(with_reducible refine (aW.calls (bt a0 x7_1) false _ A20.out).mono ?_);rintro e w' ⟨rfl,⟨nd,rfl⟩⟩;(try first|exact ⟨rfl,_,World.drewN_drewN _ _ _⟩|exact ⟨rfl,_,Eq.trans (World.drewN_drewN _ _ _) (congrArg (World.drewN _) (Nat.add_assoc _ _ _))⟩))|((with_reducible refine dC (b:=.append) (xs:=#[.tmp 66,.tmp 68]) rfl ?_);at_builtin;refine Kd.fF (Kd.int .u8) (w0:=w) w.heap.size rfl (.tmp 66) (.tmp 68) 34 5 (.int .u8 0) 1 rfl Tryz.underlying34 info5 rfl (by decide) (by omega) u5 x5_1 (bt a0 x7_1) [.int .u8 (bt a0 x7_1)] (fun _=>True) (fun _=>False) rfl rfl ?aP (fun _ hk=>hk.elim) ?aF ?aO ?aB ?aS ?aL ?_;(case aP=>exact rfl);(case aB=>exact (by repeat (first|(with_reducible first|exact HB.out|apply af|apply ae|apply ag)|exact HB.out)));(case aF=>exact (fun _ _=>trivial));(case aO=>exact (by (with_reducible repeat (first|apply Kd.aQ|apply Kd.aN|apply Kd.aU));exact HO_5.out));(case aS=>exact (aC (by repeat (first|(with_reducible first|exact HB.out|apply af|apply ae|apply ag)|exact HB.out))));(case aL=>have:=LMc27.out;omega);intro v154 w28 ho hb hg hat;rw [← Ny153.out] at ho;have n0_:=aa.mk (hb);have n1_:=aa.mk (ho);clear HB;clear HO_5;have HB:=n0_;have HO155:=n1_;clear n0_ n1_;clear ho hb hg hat))
              repeat (go_quiet (first|(go_at_call 118;(with_reducible refine (aW.calls (bt a0 x7_1) false _ A20.out).mono ?_);rintro e w' ⟨rfl,⟨nd,rfl⟩⟩;(try first|exact ⟨rfl,_,World.drewN_drewN _ _ _⟩|exact ⟨rfl,_,Eq.trans (World.drewN_drewN _ _ _) (congrArg (World.drewN _) (Nat.add_assoc _ _ _))⟩))|((with_reducible refine dC (b:=.append) (xs:=#[.tmp 66,.tmp 68]) rfl ?_);at_builtin;refine Kd.fF (Kd.int .u8) (w0:=w) w.heap.size rfl (.tmp 66) (.tmp 68) 34 5 (.int .u8 0) 1 rfl Tryz.underlying34 info5 rfl (by decide) (by omega) u5 x5_1 (bt a0 x7_1) [.int .u8 (bt a0 x7_1)] (fun _=>True) (fun _=>False) rfl rfl ?aP (fun _ hk=>hk.elim) ?aF ?aO ?aB ?aS ?aL ?_;(case aP=>exact rfl);(case aB=>exact (by repeat (first|(with_reducible first|exact HB.out|apply af|apply ae|apply ag)|exact HB.out)));(case aF=>exact (fun _ _=>trivial));(case aO=>exact (by (with_reducible repeat (first|apply Kd.aQ|apply Kd.aN|apply Kd.aU));exact HO_5.out));(case aS=>exact (aC (by repeat (first|(with_reducible first|exact HB.out|apply af|apply ae|apply ag)|exact HB.out))));(case aL=>have:=LMc27.out;omega);intro v154 w28 ho hb hg hat;rw [← Ny153.out] at ho;have n0_:=aa.mk (hb);have n1_:=aa.mk (ho);clear HB;clear HO_5;have HB:=n0_;have HO155:=n1_;clear n0_ n1_;clear ho hb hg hat));try go_wp2_with (first|(go_at_call 118;(with_reducible refine (aW.calls (bt a0 x7_1) false _ A20.out).mono ?_);rintro e w' ⟨rfl,⟨nd,rfl⟩⟩;(try first|exact ⟨rfl,_,World.drewN_drewN _ _ _⟩|exact ⟨rfl,_,Eq.trans (World.drewN_drewN _ _ _) (congrArg (World.drewN _) (Nat.add_assoc _ _ _))⟩))|((with_reducible refine dC (b:=.append) (xs:=#[.tmp 66,.tmp 68]) rfl ?_);at_builtin;refine Kd.fF (Kd.int .u8) (w0:=w) w.heap.size rfl (.tmp 66) (.tmp 68) 34 5 (.int .u8 0) 1 rfl Tryz.underlying34 info5 rfl (by decide) (by omega) u5 x5_1 (bt a0 x7_1) [.int .u8 (bt a0 x7_1)] (fun _=>True) (fun _=>False) rfl rfl ?aP (fun _ hk=>hk.elim) ?aF ?aO ?aB ?aS ?aL ?_;(case aP=>exact rfl);(case aB=>exact (by repeat (first|(with_reducible first|exact HB.out|apply af|apply ae|apply ag)|exact HB.out)));(case aF=>exact (fun _ _=>trivial));(case aO=>exact (by (with_reducible repeat (first|apply Kd.aQ|apply Kd.aN|apply Kd.aU));exact HO_5.out));(case aS=>exact (aC (by repeat (first|(with_reducible first|exact HB.out|apply af|apply ae|apply ag)|exact HB.out))));(case aL=>have:=LMc27.out;omega);intro v154 w28 ho hb hg hat;rw [← Ny153.out] at ho;have n0_:=aa.mk (hb);have n1_:=aa.mk (ho);clear HB;clear HO_5;have HB:=n0_;have HO155:=n1_;clear n0_ n1_;clear ho hb hg hat)))
              go_roundg kj1
              case measure=>have:=HK1.out;have:=HJ1.out;omega
              case rel=>exact ⟨(y153),(((bt a0 x7_1) == 32)),(wrap64 (x7_1+1)),(by first|rfl|(simp;done)|(simp [*];done)|(simp [*,aK,aM,bX];done)|(simp only [au,ak];done)|(simp only [au,ak];simp;done)|(simp only [au,ak];simp [*];done)),(by first|rfl|(simp;done)|(simp [*];done)|(simp [*,aK,aM,bX];done)|(simp only [au,ak];done)|(simp only [au,ak];simp;done)|(simp only [au,ak];simp [*];done)),H',⟨by have:=HK1.out;have:=HJ1.out;omega⟩,⟨by (with_reducible repeat (first|apply Kd.aQ|apply Kd.aN|apply Kd.aU));exact HO155.out⟩,⟨by repeat (first|(with_reducible first|exact HB.out|apply af|apply ae|apply ag)|exact HB.out)⟩⟩
             ·rw [if_neg c27] at H
              exact absurd H (by simp)
       ·rw [if_neg c8] at H
        exact absurd H (by simp)
      ·rw [if_neg c7] at H
       exact absurd H (by simp)
     ·replace c6:=Bool.eq_false_iff.mpr c6
      subst c6
      have H1:(if 0≤x7_1 then (if x7_1≤(a0.size:Int) then (some (strOfNums x5_1,a0.extract (x7_1:Int).toNat a0.size,!x6_1)) else (none)) else (none))=some (r1,r2,r3):=by rw [if_neg (show ¬ (false=true) by decide)] at H;exact H
      clear H
      have H:=H1
      clear H1
      by_cases c29:0≤x7_1
      ·rw [if_pos c29] at H
       have c29b0:=eq_true c29
       have c29b1:decide (0≤x7_1)=true:=decide_eq_true c29
       clear c29
       by_cases c30:x7_1≤(a0.size:Int)
       ·rw [if_pos c30] at H
        have c30b0:=eq_true c30
        have c30b1:decide (x7_1≤(a0.size:Int))=true:=decide_eq_true c30
        clear c30
        simp only [Option.some.injEq,Prod.mk.injEq] at H
        obtain ⟨rfl,rfl,rfl⟩:=H
        have hcv31:=lY (P:=Tryz.prog) Tryz.underlying34 Tryz.underlying5 Tryz.underlying9 (Kd.kI HO_5.out)
        have hcvd32:=fun nq_=>lY (P:=Tryz.prog) Tryz.underlying34 Tryz.underlying5 Tryz.underlying9 (Kd.kI (Kd.aN HO_5.out nq_))
        go_wp2
        repeat (go_quiet (fail);try go_wp2)
        go_ret3
        exact ⟨by first|rfl|(simp [aD,aG] <;> rfl)|(simp [*,aD,aG] <;> rfl),by repeat (first|(with_reducible first|exact HB.out|apply af|apply ae|apply ag)|exact HB.out)⟩
       ·rw [if_neg c30] at H
        exact absurd H (by simp)
      ·rw [if_neg c29] at H
       exact absurd H (by simp)
def fZ.f (a0:Int):Option (Bool):=(eX.f a0).bind fun t134=>(if 97≤t134 then ((eX.f a0).bind fun t135=>(some (decide (t135≤122)))) else (some false))
set_option maxHeartbeats 8000000 in
set_option maxRecDepth 100000 in
theorem fZ.calls (a0:Int) (r:Bool) (w:World) (h:fZ.f a0=some r) :
  Calls Tryz.prog 136 #[.int .u8 a0] w fun e w'=>e=.returned (.bool r)∧aJ w w':=by
 have H:((eX.f a0).bind fun t134=>(if 97≤t134 then ((eX.f a0).bind fun t135=>(some (decide (t135≤122)))) else (some false)))=some r:=h
 clear h
 replace H:=Option.bind_eq_some_iff.mp H
 obtain ⟨t134,A20,H⟩:=H
 replace H:(if 97≤t134 then ((eX.f a0).bind fun t135=>(some (decide (t135≤122)))) else (some false))=some r:=H
 have A2:=aa.mk A20
 clear A20
 by_cases c3:97≤t134
 ·rw [if_pos c3] at H
  have c3b0:decide (97≤t134)=true:=decide_eq_true c3
  clear c3
  replace H:=Option.bind_eq_some_iff.mp H
  obtain ⟨t135,A40,H⟩:=H
  replace H:(some (decide (t135≤122)))=some r:=H
  have A4:=aa.mk A40
  clear A40
  obtain rfl:=Option.some.inj H
  go_enter Tryz.func136,Tryz.ntmps136
  go_wp2_with (first|((with_reducible refine aH (f:=100) rfl ?_);refine bq (some 4) rfl rfl Tryz.func100 (by kernel_rfl) rfl #[.int .u8 a0] rfl (by (try simp only [List.map_toArray,List.map_cons,List.map_nil]);first|done|rfl|(simp only [List.length_drop,List.length_take];rfl)) ?_;(with_reducible refine (eX.calls a0 t134 _ A2.out).mono ?_);rintro e w' ⟨rfl,⟨nd,rfl⟩⟩;refine ⟨_,rfl,?_⟩)|(go_at_call 100;(with_reducible refine (eX.calls a0 t135 _ A4.out).mono ?_);rintro e w' ⟨rfl,⟨nd,rfl⟩⟩))
  go_ret
  exact ⟨by first|rfl|(simp;done)|(simp [*];done)|(simp [*,aK,aM,bX];done)|(simp only [au,ak];done)|(simp only [au,ak];simp;done)|(simp only [au,ak];simp [*];done),by repeat (first|exact aJ.refl _|apply aJ.step)⟩
 ·rw [if_neg c3] at H
  have c3b0:decide (97≤t134)=false:=decide_eq_false c3
  clear c3
  obtain rfl:=Option.some.inj H
  go_enter Tryz.func136,Tryz.ntmps136
  go_wp2_with (first|((with_reducible refine aH (f:=100) rfl ?_);refine bq (some 4) rfl rfl Tryz.func100 (by kernel_rfl) rfl #[.int .u8 a0] rfl (by (try simp only [List.map_toArray,List.map_cons,List.map_nil]);first|done|rfl|(simp only [List.length_drop,List.length_take];rfl)) ?_;(with_reducible refine (eX.calls a0 t134 _ A2.out).mono ?_);rintro e w' ⟨rfl,⟨nd,rfl⟩⟩;refine ⟨_,rfl,?_⟩))
  go_ret
  exact ⟨by first|rfl|(simp;done)|(simp [*];done)|(simp [*,aK,aM,bX];done)|(simp only [au,ak];done)|(simp only [au,ak];simp;done)|(simp only [au,ak];simp [*];done),by repeat (first|exact aJ.refl _|apply aJ.step)⟩
end Go.Proofs.YthfpaoacjpjnfaaGreatDoor.P

namespace Go.Proofs.YthfpaoacjpjnfaaGreatDoor.P
open Go.RowKit Go.Proofs.YthfpaoacjpjnfaaGreatDoorW.PrintWords Go.Proofs.YthfpaoacjpjnfaaGreatDoorW.PrintLast Go.Proofs.YthfpaoacjpjnfaaGreatDoorW.PrintMore
theorem mM (c:UInt8):fZ.f (c.toNat:Int)=some (iJ c):=dL (p:=fun c=>fZ.f (c.toNat:Int)=some (iJ c)) (by decide +kernel) c
theorem rD (c:UInt8) (h:iJ c=false):dH c=((decide ((48:Int)≤(c.toNat:Int)) && decide ((c.toNat:Int)≤57)) || decide ((c.toNat:Int)=45)) :=
  dL (p:=fun c=>iJ c=false→dH c=((decide ((48:Int)≤(c.toNat:Int)) && decide ((c.toNat:Int)≤57)) || decide ((c.toNat:Int)=45))) (by decide +kernel) c h
theorem tQ (c:UInt8) (h:iJ c=true):dH c=true:=by unfold dH;rw [h];rfl
def eU.f (a0:ByteArray):Option Bool:=some (cZ a0.data.toList)
set_option maxHeartbeats 8000000 in
theorem eU.calls (a0:ByteArray) (r:Bool) (w:World) (h:eU.f a0=some r) :
    Calls Tryz.prog 112 #[.string a0] w fun e w'=>e=.returned (.bool r)∧Below w.heap.size w w':=by
  obtain rfl:=Option.some.inj h
  clear h
  have hcv:=fun W=>Lib.run_convert_string_bytes (P:=Tryz.prog) W 9 34 5 a0 (u:=.string) Tryz.underlying9 Tryz.underlying34 Tryz.underlying5
  by_cases h0:a0.toList=[]
  · have hr:cZ a0.data.toList=false:=by rw [← toList_data,h0];rfl
    have b0:(a0.toList == ([]:List UInt8))=true:=beq_iff_eq.2 h0
    rw [hr]
    clear hr h0
    go_enter Tryz.func112,Tryz.ntmps112
    go_wp2
    go_ret
    exact ⟨rfl,Below.refl _ _⟩
  · have b0:(a0.toList == ([]:List UInt8))=false:=beq_eq_false_iff_ne.2 h0
    have hp:0 < a0.size:=Nat.pos_of_ne_zero fun h=>h0 ((kL a0).2 h)
    have he:a0.data.toList.isEmpty=false:=by rw [← toList_data];cases hh:a0.toList with|nil=>exact absurd hh h0|cons _ _=>rfl
    by_cases h3:a0.size≤30
    · have d3:decide (30 < a0.size)=false:=decide_eq_false (by omega)
      have d3':decide ((30:Int) < (a0.size:Int))=false:=decide_eq_false (by omega)
      have hx0:∀ h:0 < a0.size,((a0[0]'h).toNat:Int)=bt a0 0:=dJ a0 0
      have qi0:((0:Int) < (a0.size:Int))=True:=eq_true (by omega)
      have q0:(0 < a0.size)=True:=eq_true hp
      have hs:a0.size≤9223372036854775807:=by omega
      clear hp
      have hL0:=mM (a0.data.toList.getD 0 0)
      rw [← oP a0 0] at hL0
      have HL0:=Lib.hid hL0
      clear hL0
      by_cases hl:iJ (a0.data.toList.getD 0 0)=true
      · rw [hl] at HL0
        have hr:cZ a0.data.toList=a0.data.toList.all dH:=by
          unfold cZ
          rw [he,hl,decide_eq_true (by rw [← bL];exact h3)]
          rfl
        obtain ⟨R,hR⟩:∃ R,a0.data.toList.all dH=R:=⟨_,rfl⟩
        rw [hr,hR]
        clear hr
        have HALL:=Lib.hid hR
        clear hR
        go_enter Tryz.func112,Tryz.ntmps112
        go_wp2_with (go_at_call 136;refine (fZ.calls _ _ _ HL0.out).mono ?_;rintro e w' ⟨rfl,⟨nq,rfl⟩⟩)
        go_loopw [21] (fun i wr=>∃ k:Nat,k≤a0.size∧i=.int .i64 k∧aa (Below w.heap.size w wr)∧aa (iR wr w.heap.size a0.size (fun j=>((a0.data.toList.getD j 0).toNat:Int)))∧aa ((a0.data.toList.take k).all dH=true)) (fun i _=>a0.size - (intOf i).toNat)
        case atStart=>exact ⟨0,Nat.zero_le _,rfl,⟨nV _ _ _⟩,⟨lX _ _ _⟩,⟨rfl⟩⟩
        case round =>
          clear hx0
          obtain ⟨k,hk,rfl,HB,HR,HA⟩:=hrel
          by_cases hlt:k < a0.size
          · have hc:=HR.out.cell k hlt
            have hz:=HR.out.free k hlt
            have hL:=mM (a0.data.toList.getD k 0)
            have hsn:=qa dH a0.data.toList k (by rw [← bL];exact hlt)
            rw [HA.out,Bool.true_and] at hsn
            obtain ⟨u,hu⟩:∃ u:UInt8,a0.data.toList.getD k 0=u:=⟨_,rfl⟩
            have hf:=fun (h:dH u=false)=>qZ (p:=dH) (l:=a0.data.toList) (k:=k) (by rw [← bL];exact hlt) (by rw [hu];exact h)
            rw [hu] at hc hL hsn
            have HF:=Lib.hid hf
            clear hf hu
            have hdig:=rD u
            have hlet:=tQ u
            obtain ⟨c,hcc⟩:∃ c:Int,(u.toNat:Int)=c:=⟨_,rfl⟩
            rw [hcc] at hc hL hdig
            have hcr:0≤c∧c≤255:=by have:=u.toNat_lt;omega
            have hc0:0≤c:=hcr.1
            have hc1:c≤255:=hcr.2
            clear hcr hcc
            have HL:=Lib.hid hL
            have HS:=Lib.hid hsn
            clear hL hsn
            cases hb:iJ u with
            | true =>
              rw [hb] at HL
              have hn:=hlet hb
              have HN:=Lib.hid hn
              clear hn hdig hlet hb
              go_wp2_with (go_at_call 136;refine (fZ.calls _ _ _ HL.out).mono ?_;rintro e w' ⟨rfl,⟨nq2,rfl⟩⟩)
              refine ⟨⟨k+1,by omega,by go_num,⟨ae HB.out nq2⟩,⟨ko HR.out nq2⟩,⟨?_⟩⟩,by simp [intOf];omega⟩
              rw [HS.out];exact HN.out
            | false =>
              rw [hb] at HL
              have hn:=hdig hb
              clear hdig hlet hb
              by_cases h1:48≤c∧c≤57
              · have hn2:dH u=true:=by rw [hn,decide_eq_true h1.1,decide_eq_true h1.2];rfl
                have HN:=Lib.hid hn2
                clear hn hn2
                have d1:decide (48≤c)=true:=decide_eq_true h1.1
                have d2:decide (c≤57)=true:=decide_eq_true h1.2
                clear h1
                go_wp2_with (go_at_call 136;refine (fZ.calls _ _ _ HL.out).mono ?_;rintro e w' ⟨rfl,⟨nq2,rfl⟩⟩)
                refine ⟨⟨k+1,by omega,by go_num,⟨ae HB.out nq2⟩,⟨ko HR.out nq2⟩,⟨?_⟩⟩,by simp [intOf];omega⟩
                rw [HS.out];exact HN.out
              · by_cases h2:c=45
                · have hn2:dH u=true:=by rw [hn,decide_eq_true h2];simp
                  have HN:=Lib.hid hn2
                  clear hn hn2 h1
                  subst h2
                  go_wp2_with (go_at_call 136;refine (fZ.calls _ _ _ HL.out).mono ?_;rintro e w' ⟨rfl,⟨nq2,rfl⟩⟩)
                  refine ⟨⟨k+1,by omega,by go_num,⟨ae HB.out nq2⟩,⟨ko HR.out nq2⟩,⟨?_⟩⟩,by simp [intOf];omega⟩
                  rw [HS.out];exact HN.out
                · have hn2:dH u=false:=by
                    rw [hn,decide_eq_false h2,Bool.or_false,Bool.and_eq_false_iff]
                    by_cases h3:48≤c
                    · exact .inr (decide_eq_false (by omega))
                    · exact .inl (decide_eq_false h3)
                  have HN:=Lib.hid (HF.out hn2)
                  clear hn hn2
                  have b2:(c == 45)=false:=beq_eq_false_iff_ne.2 h2
                  have b3:(c != 45)=true:=bne_iff_ne.2 h2
                  clear h2
                  by_cases h3:48≤c
                  · have d1:decide (48≤c)=true:=decide_eq_true h3
                    have d2:decide (c≤57)=false:=decide_eq_false (by omega)
                    clear h1
                    go_wp2_with (go_at_call 136;refine (fZ.calls _ _ _ HL.out).mono ?_;rintro e w' ⟨rfl,⟨nq2,rfl⟩⟩)
                    go_ret
                    obtain rfl:R=false:=HALL.out.symm.trans HN.out
                    exact ⟨rfl,ae HB.out nq2⟩
                  · have d1:decide (48≤c)=false:=decide_eq_false h3
                    clear h1
                    go_wp2_with (go_at_call 136;refine (fZ.calls _ _ _ HL.out).mono ?_;rintro e w' ⟨rfl,⟨nq2,rfl⟩⟩)
                    go_ret
                    obtain rfl:R=false:=HALL.out.symm.trans HN.out
                    exact ⟨rfl,ae HB.out nq2⟩
          · have hge:¬ (k:Int) < (a0.size:Int):=by omega
            have hall:=HA.out
            rw [List.take_of_length_le (by rw [← bL];omega)] at hall
            have HN:=Lib.hid hall
            clear hall
            go_wp2
            go_ret
            obtain rfl:R=true:=HALL.out.symm.trans HN.out
            exact ⟨rfl,HB.out⟩
      · have hl:iJ (a0.data.toList.getD 0 0)=false:=by simpa using hl
        rw [hl] at HL0
        have hr:cZ a0.data.toList=false:=by unfold cZ;rw [hl];simp
        rw [hr]
        clear hr
        go_enter Tryz.func112,Tryz.ntmps112
        go_wp2_with (go_at_call 136;refine (fZ.calls _ _ _ HL0.out).mono ?_;rintro e w' ⟨rfl,⟨nq,rfl⟩⟩)
        go_ret
        exact ⟨rfl,ae (Below.refl _ _) nq⟩
    · have hr:cZ a0.data.toList=false:=by unfold cZ;rw [decide_eq_false (by rw [← bL];exact h3)];simp
      have d3:decide (30 < a0.size)=true:=decide_eq_true (by omega)
      rw [hr]
      clear hr
      go_enter Tryz.func112,Tryz.ntmps112
      go_wp2
      go_ret
      exact ⟨rfl,Below.refl _ _⟩
end Go.Proofs.YthfpaoacjpjnfaaGreatDoor.P

namespace Go.Proofs.YthfpaoacjpjnfaaGreatDoor.P
open Go.RowKit Go.Proofs.YthfpaoacjpjnfaaGreatDoorW.PrintWords Go.Proofs.YthfpaoacjpjnfaaGreatDoorW.PrintLast Go.Proofs.YthfpaoacjpjnfaaGreatDoorW.PrintMore
attribute [local go_sem] dP dS eP eO dE dD dQ dR
def gp.l0:Nat→List (dx)→List (dx)→Int→Int→Option (Bool)
 | 0,_,_,_,_=>none
 | k+1,x0,x5,x6,x7=>if x7 < x6 then (if 0≤x7 then (if x7 < (x5.length:Int) then ((eU.f ((aX x5 x7).f0)).bind fun t158=>(if t158=true then (if ((aX x5 x7).f1).toList=([]:List UInt8) then (some false) else (if (((aX x5 x7).f1).size:Int) > 100 then (some false) else (gp.l0 k x0 x5 x6 (wrap64 (x7+1))))) else (some false))) else (none)) else (none)) else (some (decide ((x0.length:Int)≤8)))
def gp.f (k:Nat) (l0:List (dx)):Option (Bool):=gp.l0 k l0 l0 (l0.length:Int) 0
set_option maxHeartbeats 8000000 in
set_option maxRecDepth 100000 in
theorem gp.calls (k:Nat) (A0:Option Addr) (c0:Nat) (l0:List (dx)) (r:Bool) (w:World) (hr0:Kd.C nI w A0 l0.length l0) (hc0:l0.length≤c0) (h:gp.f k l0=some r) :
  Calls Tryz.prog 114 #[.slice A0 l0.length c0] w fun e w'=>e=.returned (.bool r)∧Below w.heap.size w w':=by
 have hu102:=Tryz.underlying102
 have HR0:=aa.mk hr0
 have HC0:=aa.mk hc0
 clear hr0 hc0
 have HB:=aa.mk (Below.refl w.heap.size w)
 have H:(gp.l0 k l0 l0 (l0.length:Int) 0)=some r:=h
 clear h
 have H':=aa.mk H
 clear H
 go_enter Tryz.func114,Tryz.ntmps114
 go_wp2
 go_loopg [7] k (fun kq v7 w'=>∃ (x7_1:Int),v7=.int .i64 x7_1∧aa (gp.l0 kq l0 l0 (l0.length:Int) x7_1=some r)∧aa (kq≤k)∧aa (Below w.heap.size w w'))
 case atStart=>exact ⟨(0),(by first|rfl|(simp;done)|(simp [*];done)|(simp [*,aK,aM,bX];done)|(simp only [au,ak];done)|(simp only [au,ak];simp;done)|(simp only [au,ak];simp [*];done)),H',⟨Nat.le_refl _⟩,⟨by repeat (first|(with_reducible first|exact HB.out|apply af|apply ae|apply ag)|exact HB.out)⟩⟩
 case round =>
  clear H'
  try clear c1
  obtain ⟨x7_1,rfl,HA,HK1,HB⟩:=hrel
  cases gk with
  | zero=>exact absurd HA.out (by simp [gp.l0])
  | succ k1 =>
   have H:=HA.out
   clear HA
   simp only [gp.l0] at H
   by_cases c2:x7_1 < (l0.length:Int)
   ·rw [if_pos c2] at H
    have c2b0:decide (x7_1 < (l0.length:Int))=true:=decide_eq_true c2
    clear c2
    by_cases c3:0≤x7_1
    ·rw [if_pos c3] at H
     have c3b0:decide (0≤x7_1)=true:=decide_eq_true c3
     clear c3
     by_cases c4:x7_1 < (l0.length:Int)
     ·rw [if_pos c4] at H
      have c4b0:decide (x7_1 < (l0.length:Int))=true:=decide_eq_true c4
      clear c4
      replace H:=Option.bind_eq_some_iff.mp H
      obtain ⟨t158,A50,H⟩:=H
      replace H:(if t158=true then (if ((aX l0 x7_1).f1).toList=([]:List UInt8) then (some false) else (if (((aX l0 x7_1).f1).size:Int) > 100 then (some false) else (gp.l0 k1 l0 l0 (l0.length:Int) (wrap64 (x7_1+1))))) else (some false))=some r:=H
      have A5:=aa.mk A50
      clear A50
      by_cases c6:t158=true
      ·subst c6
       have H1:(if ((aX l0 x7_1).f1).toList=([]:List UInt8) then (some false) else (if (((aX l0 x7_1).f1).size:Int) > 100 then (some false) else (gp.l0 k1 l0 l0 (l0.length:Int) (wrap64 (x7_1+1)))))=some r:=by rw [if_pos rfl] at H;exact H
       clear H
       have H:=H1
       clear H1
       by_cases c7:((aX l0 x7_1).f1).toList=([]:List UInt8)
       ·rw [if_pos c7] at H
        have c7b0:(((aX l0 x7_1).f1).toList == ([]:List UInt8))=true:=beq_iff_eq.mpr c7
        have c7b1:(((aX l0 x7_1).f1).toList != ([]:List UInt8))=false:=bne_eq_false_iff_eq.mpr c7
        clear c7
        obtain rfl:=Option.some.inj H
        have p156:0≤(x7_1:Int):=of_decide_eq_true (by first|(with_reducible assumption)|assumption)
        have q156:x7_1 < (l0.length:Int):=of_decide_eq_true (by first|(with_reducible assumption)|assumption)
        obtain ⟨ad156,e156,hx156_0,hx156_1⟩:=jc HR0.out x7_1 p156 q156
        cases e156
        replace hx156_0:=(HB.out.cell (World.block_lt_of_cell? w _ hx156_0)).trans hx156_0
        replace hx156_1:=(HB.out.cell (World.block_lt_of_cell? w _ hx156_1)).trans hx156_1
        replace p156:=eq_true p156
        replace q156:=eq_true q156
        go_wp2_with (first|((with_reducible refine cz (N:=4) rfl ?_);(try (refine dW (by rfl) ?_;dsimp only));refine dO ?hg (N:=4) ?hd (cs:=#[.string (⟨#[]⟩:ByteArray),.string (⟨#[]⟩:ByteArray)]) (t:=102) ?hr ?_;(case hd=>rfl);(case hg=>rfl);(case hr=>first|(go_simp;done)|(go_simp;rfl));intro gb157 hg w8 hbox hb;have n0_:=aa.mk (aA (by repeat (first|(with_reducible first|exact HB.out|apply af|apply ae|apply ag)|exact HB.out)) hb);have n1_:=aa.mk (hbox);have n2_:=aa.mk ((by rw [hg];exact (aC (by repeat (first|(with_reducible first|exact HB.out|apply af|apply ae|apply ag)|exact HB.out))):w.heap.size≤gb157));have n3_:=aa.mk ((by rw [hg];exact (aC (by repeat (first|(with_reducible first|exact HB.out|apply af|apply ae|apply ag)|exact HB.out))):w.heap.size≤gb157));clear HB;have HB:=n0_;have BK157:=n1_;have GW157:=n2_;have GE157:=n3_;clear n0_ n1_ n2_ n3_;clear hb hbox hg;have hcz9_0:w8.cell? ⟨gb157,0,none⟩=some (.string (⟨#[]⟩:ByteArray)):=(az BK157.out 0).trans rfl;have hcz9_1:w8.cell? ⟨gb157,1,none⟩=some (.string (⟨#[]⟩:ByteArray)):=(az BK157.out 1).trans rfl;have hfz9_0:=ay BK157.out 0;have hfz9_1:=ay BK157.out 1)|((with_reducible refine aH (f:=112) rfl ?_);refine bq (some 13) rfl rfl Tryz.func112 (by kernel_rfl) rfl #[.string ((aX l0 x7_1).f0)] rfl (by (try simp only [List.map_toArray,List.map_cons,List.map_nil]);first|done|rfl|(simp only [List.length_drop,List.length_take];rfl)) ?_;(with_reducible refine (eU.calls ((aX l0 x7_1).f0) true _ A5.out).mono ?_);rintro e w10 ⟨rfl,hb⟩;refine ⟨_,rfl,?_⟩;have n0_:=aa.mk (aI (g:=gb157) (o:=.cells #[.string ((aX l0 x7_1).f0),.string ((aX l0 x7_1).f1)] 102 (0,0)) (by (with_reducible repeat (first|refine aj ?_ _|refine ax ?_|refine ai ?_ _));refine bT (cs:=#[.string ((aX l0 x7_1).f0),.string (⟨#[]⟩:ByteArray)]) ?_ 1 _ (by first|rfl|(simp only [au,ak];rfl)|simp [au,ak]);(with_reducible repeat (first|refine aj ?_ _|refine ax ?_|refine ai ?_ _));refine bT (cs:=#[.string (⟨#[]⟩:ByteArray),.string (⟨#[]⟩:ByteArray)]) ?_ 0 _ (by first|rfl|(simp only [au,ak];rfl)|simp [au,ak]);(with_reducible repeat (first|refine aj ?_ _|refine ax ?_|refine ai ?_ _));exact BK157.out) hb);have n1_:=aa.mk (aA (by repeat (first|(with_reducible first|exact HB.out|apply af|apply ae|apply ag|refine ah ?_ GE157.out)|exact HB.out)) hb);clear BK157;clear HB;have BK157:=n0_;have HB:=n1_;clear n0_ n1_;(try clear hb);(try clear hb2);(try clear hk);(try clear hi);have hcz11_0:w10.cell? ⟨gb157,0,none⟩=some (.string ((aX l0 x7_1).f0)):=(az BK157.out 0).trans rfl;have hcz11_1:w10.cell? ⟨gb157,1,none⟩=some (.string ((aX l0 x7_1).f1)):=(az BK157.out 1).trans rfl;have hfz11_0:=ay BK157.out 0;have hfz11_1:=ay BK157.out 1))
        go_ret
        exact ⟨by first|rfl|(simp [aD,aG] <;> rfl)|(simp [*,aD,aG] <;> rfl),by repeat (first|(with_reducible first|exact HB.out|apply af|apply ae|apply ag|refine ah ?_ GE157.out)|exact HB.out)⟩
       ·rw [if_neg c7] at H
        have c7b0:(((aX l0 x7_1).f1).toList == ([]:List UInt8))=false:=beq_eq_false_iff_ne.mpr c7
        have c7b1:(((aX l0 x7_1).f1).toList != ([]:List UInt8))=true:=bne_iff_ne.mpr c7
        by_cases c12:(((aX l0 x7_1).f1).size:Int) > 100
        ·rw [if_pos c12] at H
         have c12b0:decide (100 < (((aX l0 x7_1).f1).size:Int))=true:=decide_eq_true c12
         have c12b1:decide (100 < ((aX l0 x7_1).f1).size)=true:=decide_eq_true (by omega)
         clear c12
         obtain rfl:=Option.some.inj H
         have p156:0≤(x7_1:Int):=of_decide_eq_true (by first|(with_reducible assumption)|assumption)
         have q156:x7_1 < (l0.length:Int):=of_decide_eq_true (by first|(with_reducible assumption)|assumption)
         obtain ⟨ad156,e156,hx156_0,hx156_1⟩:=jc HR0.out x7_1 p156 q156
         cases e156
         replace hx156_0:=(HB.out.cell (World.block_lt_of_cell? w _ hx156_0)).trans hx156_0
         replace hx156_1:=(HB.out.cell (World.block_lt_of_cell? w _ hx156_1)).trans hx156_1
         replace p156:=eq_true p156
         replace q156:=eq_true q156
         go_wp2_with (first|((with_reducible refine cz (N:=4) rfl ?_);(try (refine dW (by rfl) ?_;dsimp only));refine dO ?hg (N:=4) ?hd (cs:=#[.string (⟨#[]⟩:ByteArray),.string (⟨#[]⟩:ByteArray)]) (t:=102) ?hr ?_;(case hd=>rfl);(case hg=>rfl);(case hr=>first|(go_simp;done)|(go_simp;rfl));intro gb157 hg w13 hbox hb;have n0_:=aa.mk (aA (by repeat (first|(with_reducible first|exact HB.out|apply af|apply ae|apply ag)|exact HB.out)) hb);have n1_:=aa.mk (hbox);have n2_:=aa.mk ((by rw [hg];exact (aC (by repeat (first|(with_reducible first|exact HB.out|apply af|apply ae|apply ag)|exact HB.out))):w.heap.size≤gb157));have n3_:=aa.mk ((by rw [hg];exact (aC (by repeat (first|(with_reducible first|exact HB.out|apply af|apply ae|apply ag)|exact HB.out))):w.heap.size≤gb157));clear HB;have HB:=n0_;have BK157:=n1_;have GW157:=n2_;have GE157:=n3_;clear n0_ n1_ n2_ n3_;clear hb hbox hg;have hcz14_0:w13.cell? ⟨gb157,0,none⟩=some (.string (⟨#[]⟩:ByteArray)):=(az BK157.out 0).trans rfl;have hcz14_1:w13.cell? ⟨gb157,1,none⟩=some (.string (⟨#[]⟩:ByteArray)):=(az BK157.out 1).trans rfl;have hfz14_0:=ay BK157.out 0;have hfz14_1:=ay BK157.out 1)|((with_reducible refine aH (f:=112) rfl ?_);refine bq (some 13) rfl rfl Tryz.func112 (by kernel_rfl) rfl #[.string ((aX l0 x7_1).f0)] rfl (by (try simp only [List.map_toArray,List.map_cons,List.map_nil]);first|done|rfl|(simp only [List.length_drop,List.length_take];rfl)) ?_;(with_reducible refine (eU.calls ((aX l0 x7_1).f0) true _ A5.out).mono ?_);rintro e w15 ⟨rfl,hb⟩;refine ⟨_,rfl,?_⟩;have n0_:=aa.mk (aI (g:=gb157) (o:=.cells #[.string ((aX l0 x7_1).f0),.string ((aX l0 x7_1).f1)] 102 (0,0)) (by (with_reducible repeat (first|refine aj ?_ _|refine ax ?_|refine ai ?_ _));refine bT (cs:=#[.string ((aX l0 x7_1).f0),.string (⟨#[]⟩:ByteArray)]) ?_ 1 _ (by first|rfl|(simp only [au,ak];rfl)|simp [au,ak]);(with_reducible repeat (first|refine aj ?_ _|refine ax ?_|refine ai ?_ _));refine bT (cs:=#[.string (⟨#[]⟩:ByteArray),.string (⟨#[]⟩:ByteArray)]) ?_ 0 _ (by first|rfl|(simp only [au,ak];rfl)|simp [au,ak]);(with_reducible repeat (first|refine aj ?_ _|refine ax ?_|refine ai ?_ _));exact BK157.out) hb);have n1_:=aa.mk (aA (by repeat (first|(with_reducible first|exact HB.out|apply af|apply ae|apply ag|refine ah ?_ GE157.out)|exact HB.out)) hb);clear BK157;clear HB;have BK157:=n0_;have HB:=n1_;clear n0_ n1_;(try clear hb);(try clear hb2);(try clear hk);(try clear hi);have hcz16_0:w15.cell? ⟨gb157,0,none⟩=some (.string ((aX l0 x7_1).f0)):=(az BK157.out 0).trans rfl;have hcz16_1:w15.cell? ⟨gb157,1,none⟩=some (.string ((aX l0 x7_1).f1)):=(az BK157.out 1).trans rfl;have hfz16_0:=ay BK157.out 0;have hfz16_1:=ay BK157.out 1))
         go_ret
         exact ⟨by first|rfl|(simp [aD,aG] <;> rfl)|(simp [*,aD,aG] <;> rfl),by repeat (first|(with_reducible first|exact HB.out|apply af|apply ae|apply ag|refine ah ?_ GE157.out)|exact HB.out)⟩
        ·rw [if_neg c12] at H
         have c12b0:decide (100 < (((aX l0 x7_1).f1).size:Int))=false:=decide_eq_false c12
         have c12b1:decide (100 < ((aX l0 x7_1).f1).size)=false:=decide_eq_false (by omega)
         clear c12
         have H':=aa.mk H
         clear H
         have p156:0≤(x7_1:Int):=of_decide_eq_true (by first|(with_reducible assumption)|assumption)
         have q156:x7_1 < (l0.length:Int):=of_decide_eq_true (by first|(with_reducible assumption)|assumption)
         obtain ⟨ad156,e156,hx156_0,hx156_1⟩:=jc HR0.out x7_1 p156 q156
         cases e156
         replace hx156_0:=(HB.out.cell (World.block_lt_of_cell? w _ hx156_0)).trans hx156_0
         replace hx156_1:=(HB.out.cell (World.block_lt_of_cell? w _ hx156_1)).trans hx156_1
         replace p156:=eq_true p156
         replace q156:=eq_true q156
         go_wp2_with (first|((with_reducible refine cz (N:=4) rfl ?_);(try (refine dW (by rfl) ?_;dsimp only));refine dO ?hg (N:=4) ?hd (cs:=#[.string (⟨#[]⟩:ByteArray),.string (⟨#[]⟩:ByteArray)]) (t:=102) ?hr ?_;(case hd=>rfl);(case hg=>rfl);(case hr=>first|(go_simp;done)|(go_simp;rfl));intro gb157 hg w17 hbox hb;have n0_:=aa.mk (aA (by repeat (first|(with_reducible first|exact HB.out|apply af|apply ae|apply ag)|exact HB.out)) hb);have n1_:=aa.mk (hbox);have n2_:=aa.mk ((by rw [hg];exact (aC (by repeat (first|(with_reducible first|exact HB.out|apply af|apply ae|apply ag)|exact HB.out))):w.heap.size≤gb157));have n3_:=aa.mk ((by rw [hg];exact (aC (by repeat (first|(with_reducible first|exact HB.out|apply af|apply ae|apply ag)|exact HB.out))):w.heap.size≤gb157));clear HB;have HB:=n0_;have BK157:=n1_;have GW157:=n2_;have GE157:=n3_;clear n0_ n1_ n2_ n3_;clear hb hbox hg;have hcz18_0:w17.cell? ⟨gb157,0,none⟩=some (.string (⟨#[]⟩:ByteArray)):=(az BK157.out 0).trans rfl;have hcz18_1:w17.cell? ⟨gb157,1,none⟩=some (.string (⟨#[]⟩:ByteArray)):=(az BK157.out 1).trans rfl;have hfz18_0:=ay BK157.out 0;have hfz18_1:=ay BK157.out 1)|((with_reducible refine aH (f:=112) rfl ?_);refine bq (some 13) rfl rfl Tryz.func112 (by kernel_rfl) rfl #[.string ((aX l0 x7_1).f0)] rfl (by (try simp only [List.map_toArray,List.map_cons,List.map_nil]);first|done|rfl|(simp only [List.length_drop,List.length_take];rfl)) ?_;(with_reducible refine (eU.calls ((aX l0 x7_1).f0) true _ A5.out).mono ?_);rintro e w19 ⟨rfl,hb⟩;refine ⟨_,rfl,?_⟩;have n0_:=aa.mk (aI (g:=gb157) (o:=.cells #[.string ((aX l0 x7_1).f0),.string ((aX l0 x7_1).f1)] 102 (0,0)) (by (with_reducible repeat (first|refine aj ?_ _|refine ax ?_|refine ai ?_ _));refine bT (cs:=#[.string ((aX l0 x7_1).f0),.string (⟨#[]⟩:ByteArray)]) ?_ 1 _ (by first|rfl|(simp only [au,ak];rfl)|simp [au,ak]);(with_reducible repeat (first|refine aj ?_ _|refine ax ?_|refine ai ?_ _));refine bT (cs:=#[.string (⟨#[]⟩:ByteArray),.string (⟨#[]⟩:ByteArray)]) ?_ 0 _ (by first|rfl|(simp only [au,ak];rfl)|simp [au,ak]);(with_reducible repeat (first|refine aj ?_ _|refine ax ?_|refine ai ?_ _));exact BK157.out) hb);have n1_:=aa.mk (aA (by repeat (first|(with_reducible first|exact HB.out|apply af|apply ae|apply ag|refine ah ?_ GE157.out)|exact HB.out)) hb);clear BK157;clear HB;have BK157:=n0_;have HB:=n1_;clear n0_ n1_;(try clear hb);(try clear hb2);(try clear hk);(try clear hi);have hcz20_0:w19.cell? ⟨gb157,0,none⟩=some (.string ((aX l0 x7_1).f0)):=(az BK157.out 0).trans rfl;have hcz20_1:w19.cell? ⟨gb157,1,none⟩=some (.string ((aX l0 x7_1).f1)):=(az BK157.out 1).trans rfl;have hfz20_0:=ay BK157.out 0;have hfz20_1:=ay BK157.out 1))
         go_roundg k1
         case measure=>have:=HK1.out;omega
         case rel=>exact ⟨(wrap64 (x7_1+1)),(by first|rfl|(simp;done)|(simp [*];done)|(simp [*,aK,aM,bX];done)|(simp only [au,ak];done)|(simp only [au,ak];simp;done)|(simp only [au,ak];simp [*];done)),H',⟨by have:=HK1.out;omega⟩,⟨by repeat (first|(with_reducible first|exact HB.out|apply af|apply ae|apply ag|refine ah ?_ GE157.out)|exact HB.out)⟩⟩
      ·replace c6:=Bool.eq_false_iff.mpr c6
       subst c6
       have H1:(some false)=some r:=by rw [if_neg (show ¬ (false=true) by decide)] at H;exact H
       clear H
       have H:=H1
       clear H1
       obtain rfl:=Option.some.inj H
       have p156:0≤(x7_1:Int):=of_decide_eq_true (by first|(with_reducible assumption)|assumption)
       have q156:x7_1 < (l0.length:Int):=of_decide_eq_true (by first|(with_reducible assumption)|assumption)
       obtain ⟨ad156,e156,hx156_0,hx156_1⟩:=jc HR0.out x7_1 p156 q156
       cases e156
       replace hx156_0:=(HB.out.cell (World.block_lt_of_cell? w _ hx156_0)).trans hx156_0
       replace hx156_1:=(HB.out.cell (World.block_lt_of_cell? w _ hx156_1)).trans hx156_1
       replace p156:=eq_true p156
       replace q156:=eq_true q156
       go_wp2_with (first|((with_reducible refine cz (N:=4) rfl ?_);(try (refine dW (by rfl) ?_;dsimp only));refine dO ?hg (N:=4) ?hd (cs:=#[.string (⟨#[]⟩:ByteArray),.string (⟨#[]⟩:ByteArray)]) (t:=102) ?hr ?_;(case hd=>rfl);(case hg=>rfl);(case hr=>first|(go_simp;done)|(go_simp;rfl));intro gb157 hg w21 hbox hb;have n0_:=aa.mk (aA (by repeat (first|(with_reducible first|exact HB.out|apply af|apply ae|apply ag)|exact HB.out)) hb);have n1_:=aa.mk (hbox);have n2_:=aa.mk ((by rw [hg];exact (aC (by repeat (first|(with_reducible first|exact HB.out|apply af|apply ae|apply ag)|exact HB.out))):w.heap.size≤gb157));have n3_:=aa.mk ((by rw [hg];exact (aC (by repeat (first|(with_reducible first|exact HB.out|apply af|apply ae|apply ag)|exact HB.out))):w.heap.size≤gb157));clear HB;have HB:=n0_;have BK157:=n1_;have GW157:=n2_;have GE157:=n3_;clear n0_ n1_ n2_ n3_;clear hb hbox hg;have hcz22_0:w21.cell? ⟨gb157,0,none⟩=some (.string (⟨#[]⟩:ByteArray)):=(az BK157.out 0).trans rfl;have hcz22_1:w21.cell? ⟨gb157,1,none⟩=some (.string (⟨#[]⟩:ByteArray)):=(az BK157.out 1).trans rfl;have hfz22_0:=ay BK157.out 0;have hfz22_1:=ay BK157.out 1)|((with_reducible refine aH (f:=112) rfl ?_);refine bq (some 13) rfl rfl Tryz.func112 (by kernel_rfl) rfl #[.string ((aX l0 x7_1).f0)] rfl (by (try simp only [List.map_toArray,List.map_cons,List.map_nil]);first|done|rfl|(simp only [List.length_drop,List.length_take];rfl)) ?_;(with_reducible refine (eU.calls ((aX l0 x7_1).f0) false _ A5.out).mono ?_);rintro e w23 ⟨rfl,hb⟩;refine ⟨_,rfl,?_⟩;have n0_:=aa.mk (aI (g:=gb157) (o:=.cells #[.string ((aX l0 x7_1).f0),.string ((aX l0 x7_1).f1)] 102 (0,0)) (by (with_reducible repeat (first|refine aj ?_ _|refine ax ?_|refine ai ?_ _));refine bT (cs:=#[.string ((aX l0 x7_1).f0),.string (⟨#[]⟩:ByteArray)]) ?_ 1 _ (by first|rfl|(simp only [au,ak];rfl)|simp [au,ak]);(with_reducible repeat (first|refine aj ?_ _|refine ax ?_|refine ai ?_ _));refine bT (cs:=#[.string (⟨#[]⟩:ByteArray),.string (⟨#[]⟩:ByteArray)]) ?_ 0 _ (by first|rfl|(simp only [au,ak];rfl)|simp [au,ak]);(with_reducible repeat (first|refine aj ?_ _|refine ax ?_|refine ai ?_ _));exact BK157.out) hb);have n1_:=aa.mk (aA (by repeat (first|(with_reducible first|exact HB.out|apply af|apply ae|apply ag|refine ah ?_ GE157.out)|exact HB.out)) hb);clear BK157;clear HB;have BK157:=n0_;have HB:=n1_;clear n0_ n1_;(try clear hb);(try clear hb2);(try clear hk);(try clear hi)))
       go_ret
       exact ⟨by first|rfl|(simp [aD,aG] <;> rfl)|(simp [*,aD,aG] <;> rfl),by repeat (first|(with_reducible first|exact HB.out|apply af|apply ae|apply ag|refine ah ?_ GE157.out)|exact HB.out)⟩
     ·rw [if_neg c4] at H
      exact absurd H (by simp)
    ·rw [if_neg c3] at H
     exact absurd H (by simp)
   ·rw [if_neg c2] at H
    have c2b0:decide (x7_1 < (l0.length:Int))=false:=decide_eq_false c2
    clear c2
    obtain rfl:=Option.some.inj H
    go_wp2
    go_ret
    exact ⟨by first|rfl|(simp [aD,aG] <;> rfl)|(simp [*,aD,aG] <;> rfl),by repeat (first|(with_reducible first|exact HB.out|apply af|apply ae|apply ag)|exact HB.out)⟩
end Go.Proofs.YthfpaoacjpjnfaaGreatDoor.P
