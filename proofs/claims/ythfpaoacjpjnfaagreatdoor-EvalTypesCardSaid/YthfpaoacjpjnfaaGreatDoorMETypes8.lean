/- The card of EvalTypes: of a type that there is not all is undefined, and so is what may not be asked; its conditions are those of the card's own row. -/
import Derived.Test.YthfpaoacjpjnfaaGreatDoorMETypes7
import Derived.Test.YthfpaoacjpjnfaaGreatDoorMETypes5
import Derived.Test.YthfpaoacjpjnfaaGreatDoorMETypes4
import Derived.Test.YthfpaoacjpjnfaaGreatDoorMETypes2
import Derived.Test.YthfpaoacjpjnfaaGreatDoorCards
import Derived.Test.YthfpaoacjpjnfaaGreatDoorTie
import Derived.WalkKit
import Derived.ProofKit
import Derived.OpenShut
import Derived.ShutString
import Derived.ChangeOld
import Derived.ChangeSame
import Derived.Below
import Derived.SizedLaws
import Derived.Deep.DeepHandedRow
import Derived.JoinedCond
import Derived.SevenTiedAt
import Derived.Lay
set_option linter.unusedVariables false
set_option linter.unusedSimpArgs false

namespace Go.Proofs.YthfpaoacjpjnfaaGreatDoor.P
open Go.RowKit Go.Proofs.YthfpaoacjpjnfaaGreatDoorW.PrintWords Go.Proofs.YthfpaoacjpjnfaaGreatDoorW.PrintLast Go.Proofs.YthfpaoacjpjnfaaGreatDoorW.PrintMore
def fI:List ByteArray:=[⟨#[99,110]⟩,⟨#[111,98,106,101,99,116,99,108,97,115,115]⟩,⟨#[115,110]⟩,⟨#[109,97,105,108]⟩,⟨#[68,101,115,99,114,105,112,116,105,111,110]⟩,⟨#[117,105,100]⟩,⟨#[117,105,100,78,117,109,98,101,114]⟩,⟨#[117,115,101,114,80,97,115,115,119,111,114,100]⟩]
structure fe (n:Nat) (l:List S45):Prop where
  head:∃ m b r,l=⟨⟨#[99,110]⟩,[m]⟩ :: b :: r
  len:l.length≤n
  each:∀ a ∈ l,a.f0 ∈ fI∧a.f1.length≤n
theorem fe.le {n m:Nat} {l:List S45} (h:fe n l) (hm:n≤m):fe m l:=⟨h.head,by have:=h.len;omega,fun a ha=>⟨(h.each a ha).1,by have:=(h.each a ha).2;omega⟩⟩
theorem fe.snoc {n:Nat} {l:List S45} (h:fe n l) (a:S45) (ha:a.f0 ∈ fI) (hl:a.f1.length≤n+1):fe (n+1) (l++[a]):=by
  obtain ⟨m,b,r,e⟩:=h.head
  refine ⟨⟨m,b,r++[a],by rw [e];rfl⟩,by rw [List.length_append];have:=h.len;simp;omega,fun x hx=>?_⟩
  rcases List.mem_append.1 hx with hx|hx
  · exact ⟨(h.each x hx).1,by have:=(h.each x hx).2;omega⟩
  · rw [List.mem_singleton] at hx
    rw [hx]
    exact ⟨ha,hl⟩
theorem fe.two {n:Nat} {l:List S45} (h:fe n l):2≤l.length:=by
  obtain ⟨m,b,r,e⟩:=h.head
  rw [e]
  simp
theorem fe.set1 {n:Nat} {l:List S45} (h:fe n l) (vs:List ByteArray) (hv:vs.length≤n+1):fe (n+1) (l.set (1:Int).toNat ⟨(bQ l 1).f0,vs⟩):=by
  obtain ⟨m,b,r,e⟩:=h.head
  have hb:b ∈ l:=by rw [e];simp
  have hs:l.set (1:Int).toNat ⟨(bQ l 1).f0,vs⟩=⟨⟨#[99,110]⟩,[m]⟩ :: ⟨b.f0,vs⟩ :: r:=by rw [e];rfl
  rw [hs]
  refine ⟨⟨m,⟨b.f0,vs⟩,r,rfl⟩,by have:=h.len;rw [e] at this;simp at this ⊢;omega,fun x hx=>?_⟩
  rcases List.mem_cons.1 hx with hx|hx
  · have:=h.each x (by rw [e,hx];exact List.mem_cons_self)
    exact ⟨this.1,by omega⟩
  · rcases List.mem_cons.1 hx with hx|hx
    · rw [hx]
      exact ⟨(h.each b hb).1,hv⟩
    · have:=h.each x (by rw [e];exact List.mem_cons_of_mem _ (List.mem_cons_of_mem _ hx))
      exact ⟨this.1,by omega⟩
theorem iw (n:Int) (h0:-1000≤n) (h1:n≤1000):∃ s,bg.f n=some s∧s.size≤16:=by
  refine ⟨mk (Lib.itoa n),?_,by rw [dZ];exact (yn n (by omega) (by omega)).1⟩
  unfold bg.f
  rw [if_pos (by omega)]
def nz (l:List Int):Prop:=l.length=8∧∀ i:Nat,0≤rd l (i:Int)∧rd l (i:Int)≤255
theorem ic {a b:Int} (h0:0≤a) (hb:0 < b):0≤Int.tmod a b∧Int.tmod a b < b:=⟨Int.tmod_nonneg b h0,Int.tmod_lt_of_pos a hb⟩
theorem uX {x3:List Int} (h3:nz x3) (x5 dn:ByteArray) (hx:x5.size≤100) (l:List S45):∃ d,Ev (fun k=>av.j5 k x3 x5 dn l) (d,l):=by
  have h8:=h3.1
  by_cases c0:Int.tmod (rd x3 5) 5=0
  · refine ⟨_,Ev.step (fun k=>by rw [av.j5]) (Ev.ifp (by omega) (Ev.ifp c0 (Ev.ifp (by omega) (Ev.now _))))⟩
  · by_cases c1:Int.tmod (rd x3 5) 5=1
    · refine ⟨_,Ev.step (fun k=>by rw [av.j5]) (Ev.ifp (by omega) (Ev.ifn c0 (Ev.ifp c1 (Ev.ifp (by omega) (Ev.ifp ?_ (Ev.now _))))))⟩
      rw [ByteArray.size_append]
      have:(⟨#[67,78,61]⟩:ByteArray).size=3:=rfl
      omega
    · exact ⟨_,Ev.step (fun k=>by rw [av.j5]) (Ev.ifp (by omega) (Ev.ifn c0 (Ev.ifn c1 (Ev.now _))))⟩
theorem uY {x3:List Int} (h3:nz x3) (x5 dn:ByteArray) (hx:x5.size≤100) {n:Nat} {l:List S45} (hl:fe n l) (hn:n≤100):∃ d l',Ev (fun k=>av.j4 k x3 x5 dn l) (d,l')∧fe (n+1) l':=by
  have h8:=h3.1
  have hle:=hl.len
  by_cases c1:Int.tmod (rd x3 3) 4=1
  · obtain ⟨d,hd⟩:=uX h3 x5 dn hx (l++[(⟨(⟨#[117,115,101,114,80,97,115,115,119,111,114,100]⟩:ByteArray),(([(⟨#[115,101,99,114,101,116]⟩:ByteArray)]:List ByteArray))⟩:S45)])
    exact ⟨d,_,Ev.step (fun k=>by rw [av.j4]) (Ev.ifp (by omega) (Ev.ifp c1 (Ev.ifp (by omega) hd))),hl.snoc _ (by simp [fI]) (show 1≤n+1 by omega)⟩
  · obtain ⟨d,hd⟩:=uX h3 x5 dn hx l
    exact ⟨d,_,Ev.step (fun k=>by rw [av.j4]) (Ev.ifp (by omega) (Ev.ifn c1 hd)),hl.le (by omega)⟩
theorem vR {x3:List Int} (h3:nz x3) (x5 dn:ByteArray) (hx:x5.size≤100) {n:Nat} {l:List S45} (hl:fe n l) (hn:n≤50) (hn1:1≤n):∃ d l',Ev (fun k=>av.j3 k x3 x5 dn l) (d,l')∧fe (n+4) l':=by
  have h8:=h3.1
  have hle:=hl.len
  have h2:=hl.two
  by_cases c0:Int.tmod (rd x3 3) 4=0
  · have hb1:(bQ l 1).f1.length≤n:=by
      obtain ⟨m,b,r,e⟩:=hl.head
      have:bQ l 1=b:=by rw [e];rfl
      rw [this]
      exact (hl.each b (by rw [e];simp)).2
    have hk:0≤rd x3 4∧rd x3 4≤255:=h3.2 4
    obtain ⟨s1,e1,z1⟩:=iw (Int.tmod (rd x3 4) 9) (by have:=ic hk.1 (b:=9) (by decide);omega) (by have:=ic hk.1 (b:=9) (by decide);omega)
    have hk':0≤rd x3 4∧rd x3 4≤255:=hk
    have hw:wrap64 (rd x3 4 - 100)=rd x3 4 - 100:=by unfold wrap64;omega
    obtain ⟨s2,e2,z2⟩:=iw (rd x3 4 - 100) (by omega) (by omega)
    have hl1:=hl.set1 ((bQ l 1).f1++[(⟨#[112,111,115,105,120]⟩:ByteArray)]) (by rw [List.length_append];simp;omega)
    have hl2:=(hl1.snoc (⟨(⟨#[117,105,100]⟩:ByteArray),(([(⟨#[117]⟩:ByteArray)++s1]:List ByteArray))⟩:S45) (by simp [fI]) (show 1≤_ by omega)).snoc (⟨(⟨#[117,105,100,78,117,109,98,101,114]⟩:ByteArray),(([s2]:List ByteArray))⟩:S45) (by simp [fI]) (show 1≤_ by omega)
    obtain ⟨d,l',hd,hm⟩:=uY h3 x5 dn hx hl2 (by omega)
    rw [List.append_assoc] at hd
    refine ⟨d,l',Ev.step (fun k=>by rw [av.j3]) (Ev.ifp (by omega) (Ev.ifp c0 (Ev.ifp (by omega) (Ev.ifp (by omega) ?_)))),hm⟩
    refine Ev.bs (Ev.ifp (by omega) ?_)
    rw [e1,hw,e2]
    refine Ev.bs (Ev.ifp (by omega) (Ev.bs (Ev.bs (Ev.ifp ?_ hd))))
    have:=hl1.len
    show _+2 < 3518437208883
    omega
  · obtain ⟨d,l',hd,hm⟩:=uY h3 x5 dn hx hl (by omega)
    exact ⟨d,l',Ev.step (fun k=>by rw [av.j3]) (Ev.ifp (by omega) (Ev.ifn c0 hd)),hm.le (by omega)⟩
theorem vE {x3:List Int} (h3:nz x3) (x5 dn:ByteArray) (hx:x5.size≤100) {n:Nat} {l:List S45} (hl:fe n l) (hn:n≤40) (hn1:1≤n):∃ d l',Ev (fun k=>av.j2 k x3 x5 dn l) (d,l')∧fe (n+5) l':=by
  have h8:=h3.1
  have hle:=hl.len
  by_cases c1:Int.tmod (rd x3 1) 3=1
  · have hk:0≤rd x3 2∧rd x3 2≤255:=h3.2 2
    obtain ⟨s1,e1,z1⟩:=iw (Int.tmod (rd x3 2) 9) (by have:=ic hk.1 (b:=9) (by decide);omega) (by have:=ic hk.1 (b:=9) (by decide);omega)
    obtain ⟨d,l',hd,hm⟩:=vR h3 x5 dn hx (hl.snoc (⟨(⟨#[68,101,115,99,114,105,112,116,105,111,110]⟩:ByteArray),(([(⟨#[100,32]⟩:ByteArray)++s1,(⟨#[101]⟩:ByteArray)]:List ByteArray))⟩:S45) (by simp [fI]) (show 2≤_ by omega)) (by omega) (by omega)
    refine ⟨d,l',Ev.step (fun k=>by rw [av.j2]) (Ev.ifp (by omega) (Ev.ifp c1 (Ev.ifp (by omega) ?_))),hm⟩
    rw [e1]
    exact Ev.bs (Ev.ifp (by omega) (Ev.ifp (by omega) hd))
  · obtain ⟨d,l',hd,hm⟩:=vR h3 x5 dn hx hl (by omega) (by omega)
    exact ⟨d,l',Ev.step (fun k=>by rw [av.j2]) (Ev.ifp (by omega) (Ev.ifn c1 hd)),hm.le (by omega)⟩
theorem vP {x3:List Int} (h3:nz x3):∃ d l',Ev (fun k=>av.j1 k x3) (d,l')∧fe 20 l':=by
  have h8:=h3.1
  have hk0:0≤rd x3 0∧rd x3 0≤255:=h3.2 0
  have hk2:0≤rd x3 2∧rd x3 2≤255:=h3.2 2
  obtain ⟨s0,e0,z0⟩:=iw (Int.tmod (rd x3 0) 6) (by have:=ic hk0.1 (b:=6) (by decide);omega) (by have:=ic hk0.1 (b:=6) (by decide);omega)
  obtain ⟨s2,e2,z2⟩:=iw (rd x3 2) (by omega) (by omega)
  have zn:((⟨#[110]⟩:ByteArray)++s0).size≤20:=by rw [ByteArray.size_append];have:(⟨#[110]⟩:ByteArray).size=1:=rfl;omega
  have hp:bR.f ((⟨#[110]⟩:ByteArray)++s0)=some ((((⟨#[99,110,61]⟩:ByteArray)++((⟨#[110]⟩:ByteArray)++s0))++(⟨#[44,111,61,120]⟩:ByteArray)),([(⟨(⟨#[99,110]⟩:ByteArray),(([((⟨#[110]⟩:ByteArray)++s0)]:List ByteArray))⟩:S45),(⟨(⟨#[111,98,106,101,99,116,99,108,97,115,115]⟩:ByteArray),(([(⟨#[112,101,114,115,111,110]⟩:ByteArray)]:List ByteArray))⟩:S45),(⟨(⟨#[115,110]⟩:ByteArray),(([(⟨#[115]⟩:ByteArray)]:List ByteArray))⟩:S45)])):=by
    unfold bR.f
    rw [if_pos (by omega),if_pos (by rw [ByteArray.size_append];have:(⟨#[99,110,61]⟩:ByteArray).size=3:=rfl;omega)]
  have hb:∀ vs:List ByteArray,vs.length≤5→fe 5 ([(⟨(⟨#[99,110]⟩:ByteArray),(([((⟨#[110]⟩:ByteArray)++s0)]:List ByteArray))⟩:S45),(⟨(⟨#[111,98,106,101,99,116,99,108,97,115,115]⟩:ByteArray),vs⟩:S45),(⟨(⟨#[115,110]⟩:ByteArray),(([(⟨#[115]⟩:ByteArray)]:List ByteArray))⟩:S45)]):=fun vs hv=>⟨⟨_,_,_,rfl⟩,show 3≤5 by decide,fun a ha=>by
    rcases List.mem_cons.1 ha with h|ha
    · rw [h];exact ⟨by simp [fI],by show 1≤5;decide⟩
    rcases List.mem_cons.1 ha with h|ha
    · rw [h];exact ⟨by simp [fI],hv⟩
    rcases List.mem_cons.1 ha with h|ha
    · rw [h];exact ⟨by simp [fI],by show 1≤5;decide⟩
    · cases ha⟩
  by_cases c0:Int.tmod (rd x3 1) 3=0
  · obtain ⟨d,l',hd,hm⟩:=vE h3 ((⟨#[110]⟩:ByteArray)++s0) (((⟨#[99,110,61]⟩:ByteArray)++((⟨#[110]⟩:ByteArray)++s0))++(⟨#[44,111,61,120]⟩:ByteArray)) (by omega) ((hb [(⟨#[105,110,101,116,79,114,103,80,101,114,115,111,110]⟩:ByteArray)] (by decide)).snoc (⟨(⟨#[109,97,105,108]⟩:ByteArray),(([(⟨#[97,64]⟩:ByteArray)++s2]:List ByteArray))⟩:S45) (by simp [fI]) (show 1≤6 by decide)) (by decide) (by decide)
    refine ⟨d,l',Ev.step (fun k=>by rw [av.j1]) (Ev.ifp (by omega) ?_),hm.le (by decide)⟩
    rw [e0]
    refine Ev.bs (Ev.ifp (by omega) ?_)
    rw [hp]
    refine Ev.bs (Ev.ifp (by omega) (Ev.ifp c0 (Ev.ifp (show (1:Int) < 3 by decide) (Ev.bs (Ev.ifp (by omega) ?_)))))
    rw [e2]
    exact Ev.bs (Ev.ifp (by omega) (Ev.ifp (show (3:Nat) < 3518437208883 by decide) hd))
  · obtain ⟨d,l',hd,hm⟩:=vE h3 ((⟨#[110]⟩:ByteArray)++s0) (((⟨#[99,110,61]⟩:ByteArray)++((⟨#[110]⟩:ByteArray)++s0))++(⟨#[44,111,61,120]⟩:ByteArray)) (by omega) (hb [(⟨#[112,101,114,115,111,110]⟩:ByteArray)] (by decide)) (by decide) (by decide)
    refine ⟨d,l',Ev.step (fun k=>by rw [av.j1]) (Ev.ifp (by omega) ?_),hm.le (by decide)⟩
    rw [e0]
    refine Ev.bs (Ev.ifp (by omega) ?_)
    rw [hp]
    exact Ev.bs (Ev.ifp (by omega) (Ev.ifn c0 hd))
theorem AL (l:List Int) (j i:Nat) (v:Int):rd (l.set j v) (i:Int)=if i=j∧j < l.length then v else rd l (i:Int):=by
  unfold rd
  rw [Int.toNat_natCast,List.getD_eq_getElem?_getD,List.getD_eq_getElem?_getD,List.getElem?_set]
  by_cases h:j=i
  · subst h
    by_cases hl:j < l.length
    · rw [if_pos rfl,if_pos hl,if_pos ⟨rfl,hl⟩];rfl
    · rw [if_pos rfl,if_neg hl,if_neg (fun hh=>hl hh.2),List.getElem?_eq_none (by omega)]
  · rw [if_neg h,if_neg (fun hh=>h hh.1.symm)]
theorem wy (x0:List Int) (h0:∀ i:Nat,0≤rd x0 (i:Int)∧rd x0 (i:Int)≤255):∀ (n i:Nat),8 - i=n→i≤8→∀ x3:List Int,nz x3→∃ d l',Ev (fun k=>av.l0 k x0 x3 (i:Int)) (d,l')∧fe 20 l':=by
  intro n
  induction n with
  | zero =>
    intro i hn hi x3 h3
    obtain ⟨d,l',hd,hm⟩:=vP h3
    exact ⟨d,l',Ev.step (fun k=>by rw [av.l0]) (Ev.ifn (by omega) hd),hm⟩
  | succ n ih =>
    intro i hn hi x3 h3
    by_cases hx:(i:Int) < (x0.length:Int)
    · have hb:=h0 i
      have hw:wrap64 (rd x0 (i:Int))=rd x0 (i:Int):=by unfold wrap64;omega
      have hw2:wrap64 ((i:Int)+1)=((i+1:Nat):Int):=by unfold wrap64;omega
      have h8:=h3.1
      obtain ⟨d,l',hd,hm⟩:=ih (i+1) (by omega) (by omega) (x3.set i (rd x0 (i:Int))) ⟨by rw [List.length_set];exact h8,fun j=>by
        rw [AL]
        split
        · exact hb
        · exact h3.2 j⟩
      rw [← hw2] at hd
      refine ⟨d,l',Ev.step (fun k=>by rw [av.l0]) (Ev.ifp (by omega) (Ev.ifp hx (Ev.ifp (by omega) (Ev.ifp (by omega) ?_)))),hm⟩
      rw [hw,Int.toNat_natCast]
      exact hd
    · obtain ⟨d,l',hd,hm⟩:=vP h3
      exact ⟨d,l',Ev.step (fun k=>by rw [av.l0]) (Ev.ifp (by omega) (Ev.ifn hx hd)),hm⟩
theorem zu (x0:List Int) (h0:∀ i:Nat,0≤rd x0 (i:Int)∧rd x0 (i:Int)≤255):∃ d l',Ev (fun k=>av.f k x0) (d,l')∧fe 20 l':=by
  obtain ⟨d,l',hd,hm⟩:=wy x0 h0 8 0 rfl (by decide) (List.replicate 8 0) ⟨rfl,fun i=>by
    have:rd (List.replicate 8 0) (i:Int)=0:=by
      unfold rd
      rw [Int.toNat_natCast,List.getD_eq_getElem?_getD,List.getElem?_replicate]
      split <;> rfl
    rw [this]
    decide⟩
  refine ⟨d,l',?_,hm⟩
  unfold av.f
  exact Ev.ifp (by decide) hd
theorem uh {n:Nat} {l:List S45} (h:fe n l) (hn:n≤1000):kK l:=by
  refine ⟨by have:=h.len;omega,fun i hi=>?_⟩
  have hm:bQ l (i:Int) ∈ l:=by
    unfold bQ
    rw [Int.toNat_natCast,List.getD_eq_getElem?_getD,List.getElem?_eq_getElem hi]
    exact List.getElem_mem hi
  have h1:=h.each _ hm
  refine ⟨?_,by omega⟩
  have:∀ t ∈ fI,t.size≤1000:=by decide
  exact this _ h1.1
end Go.Proofs.YthfpaoacjpjnfaaGreatDoor.P

namespace Go.Proofs.YthfpaoacjpjnfaaGreatDoor.P
open Go.RowKit Go.Proofs.YthfpaoacjpjnfaaGreatDoorW.PrintWords Go.Proofs.YthfpaoacjpjnfaaGreatDoorW.PrintLast Go.Proofs.YthfpaoacjpjnfaaGreatDoorW.PrintMore
attribute [local go_sem] dP dS eP eO dE dD dQ dR
def dU.f (k:Nat)  : Option (Bool):=(bS.f k 1 (⟨#[]⟩:ByteArray) (⟨#[]⟩:ByteArray) ([]:List ByteArray) ([]:List (S25)) (⟨#[]⟩:ByteArray) ([]:List (S45))).bind fun t407=>(if t407=1 then ((bR.f (⟨#[97,110,110]⟩:ByteArray)).bind fun bt408=>((bS.f k 4 (⟨#[99,110]⟩:ByteArray) (⟨#[65,78,78]⟩:ByteArray) ([]:List ByteArray) ([]:List (S25)) bt408.1 bt408.2).bind fun t412=>(some (t412 == 1)))) else (some false))
set_option maxHeartbeats 8000000 in
set_option maxRecDepth 100000 in
theorem dU.calls (k:Nat)  (r:Bool) (w:World) (hG:Gl w) (h:dU.f k  = some r) :
  Calls Tryz.prog 15 #[] w fun e w'=>e=.returned (.bool r)∧Below w.heap.size w w':=by
 have hu25:=Tryz.underlying25
 have hu28:=Tryz.underlying28
 have HB:=aa.mk (Below.refl w.heap.size w)
 have HG:=aa.mk hG
 clear hG
 have H:((bS.f k 1 (⟨#[]⟩:ByteArray) (⟨#[]⟩:ByteArray) ([]:List ByteArray) ([]:List (S25)) (⟨#[]⟩:ByteArray) ([]:List (S45))).bind fun t407=>(if t407=1 then ((bR.f (⟨#[97,110,110]⟩:ByteArray)).bind fun bt408=>((bS.f k 4 (⟨#[99,110]⟩:ByteArray) (⟨#[65,78,78]⟩:ByteArray) ([]:List ByteArray) ([]:List (S25)) bt408.1 bt408.2).bind fun t412=>(some (t412 == 1)))) else (some false)))=some r:=h
 clear h
 replace H:=Option.bind_eq_some_iff.mp H
 obtain ⟨t407,A10,H⟩:=H
 replace H:(if t407=1 then ((bR.f (⟨#[97,110,110]⟩:ByteArray)).bind fun bt408=>((bS.f k 4 (⟨#[99,110]⟩:ByteArray) (⟨#[65,78,78]⟩:ByteArray) ([]:List ByteArray) ([]:List (S25)) bt408.1 bt408.2).bind fun t412=>(some (t412 == 1)))) else (some false))=some r:=H
 have A1:=aa.mk A10
 clear A10
 by_cases c2:t407=1
 ·rw [if_pos c2] at H
  have c2b0:(t407 == 1)=true:=beq_iff_eq.mpr c2
  have c2b1:(t407 != 1)=false:=bne_eq_false_iff_eq.mpr c2
  clear c2
  replace H:=Option.bind_eq_some_iff.mp H
  obtain ⟨⟨t408,t409⟩,A30,H⟩:=H
  replace H:((bS.f k 4 (⟨#[99,110]⟩:ByteArray) (⟨#[65,78,78]⟩:ByteArray) ([]:List ByteArray) ([]:List (S25)) t408 t409).bind fun t412=>(some (t412 == 1)))=some r:=H
  have A3:=aa.mk A30
  clear A30
  replace H:=Option.bind_eq_some_iff.mp H
  obtain ⟨t412,A40,H⟩:=H
  replace H:(some (t412 == 1))=some r:=H
  have A4:=aa.mk A40
  clear A40
  obtain rfl:=Option.some.inj H
  go_enter Tryz.func15,Tryz.ntmps15
  go_wp2_with (first|((with_reducible refine aH (f:=13) rfl ?_);refine bq (some 3) rfl rfl Tryz.func13 (by kernel_rfl) rfl #[.agg #[.int .i64 1,.string (⟨#[]⟩:ByteArray),.string (⟨#[]⟩:ByteArray),.slice none 0 0,.slice none 0 0],.agg #[.string (⟨#[]⟩:ByteArray),.slice none 0 0]] rfl (by (try simp only [List.map_toArray,List.map_cons,List.map_nil]);first|done|rfl|(simp only [List.length_drop,List.length_take];rfl)) ?_;(refine (bS.calls k 1 (⟨#[]⟩:ByteArray) (⟨#[]⟩:ByteArray) _ _ ([]:List ByteArray) _ _ ([]:List (S25)) (⟨#[]⟩:ByteArray) _ _ ([]:List (S45)) t407 _ ?side1 ?side2 ?side3 ?side4 ?side5 ?side6 ?side7 A1.out).mono ?_);(case side1=>exact Kd.iU _ _);(case side2=>exact Nat.le_refl _);(case side3=>exact Kd.iU _ _);(case side4=>exact Nat.le_refl _);(case side5=>exact Kd.iU _ _);(case side6=>exact Nat.le_refl _);(case side7=>first|exact HG.out|exact Gl.drewN HG.out _|exact Gl.below HG.out (by repeat (first|(with_reducible first|exact HB.out|apply af|apply ae|apply ag)|exact HB.out)));rintro e w5 ⟨rfl,hb⟩;refine ⟨_,rfl,?_⟩;have n0_:=aa.mk (aA (by repeat (first|(with_reducible first|exact HB.out|apply af|apply ae|apply ag)|exact HB.out)) hb);clear HB;have HB:=n0_;clear n0_;(try clear hb);(try clear hb2);(try clear hk);(try clear hi))|(go_at_call 29;(with_reducible refine (bR.calls (⟨#[97,110,110]⟩:ByteArray) t408 t409 _ A3.out).mono ?_);rintro e w6 ⟨v410,rfl,ho0,hb⟩;have n0_:=aa.mk (Kd.mP (Kd.di (ok':=fun k_=>True) ho0 (fun k_ hk_=>trivial)) (aC (by repeat (first|(with_reducible first|exact HB.out|apply af|apply ae|apply ag)|exact HB.out))));have n1_:=aa.mk (aA (by repeat (first|(with_reducible first|exact HB.out|apply af|apply ae|apply ag)|exact HB.out)) hb);clear HB;have HO411:=n0_;have HB:=n1_;clear n0_ n1_;(try clear hb);(try clear hb2);(try clear hk);(try clear hi);(try clear ho0);obtain ⟨Ao7,co7,eo7⟩:=Kd.gN HO411.out;subst eo7)|(go_at_call 13;(refine (bS.calls k 4 (⟨#[99,110]⟩:ByteArray) (⟨#[65,78,78]⟩:ByteArray) _ _ ([]:List ByteArray) _ _ ([]:List (S25)) t408 _ _ t409 t412 _ ?side1 ?side2 ?side3 ?side4 ?side5 ?side6 ?side7 A4.out).mono ?_);(case side1=>exact Kd.iU _ _);(case side2=>exact Nat.le_refl _);(case side3=>exact Kd.iU _ _);(case side4=>exact Nat.le_refl _);(case side5=>repeat (first|exact (Kd.iH HO411.out).2.2|(with_reducible refine Kd.dA ?_ _)|(with_reducible refine Kd.dG ?_ _)|(with_reducible refine Kd.eu ?_)));(case side6=>exact (Kd.iH HO411.out).2.1);(case side7=>first|exact HG.out|exact Gl.drewN HG.out _|exact Gl.below HG.out (by repeat (first|(with_reducible first|exact HB.out|apply af|apply ae|apply ag)|exact HB.out)));rintro e w8 ⟨rfl,hb⟩;have n0_:=aa.mk (Kd.iy (by (with_reducible repeat (first|apply Kd.bO|apply Kd.bN|apply Kd.bV));exact HO411.out) hb);have n1_:=aa.mk (aA (by repeat (first|(with_reducible first|exact HB.out|apply af|apply ae|apply ag)|exact HB.out)) hb);clear HO411;clear HB;have HO411:=n0_;have HB:=n1_;clear n0_ n1_;(try clear hb);(try clear hb2);(try clear hk);(try clear hi)))
  go_ret
  exact ⟨by first|rfl|(simp [aD,aG] <;> rfl)|(simp [*,aD,aG] <;> rfl),by repeat (first|(with_reducible first|exact HB.out|apply af|apply ae|apply ag)|exact HB.out)⟩
 ·rw [if_neg c2] at H
  have c2b0:(t407 == 1)=false:=beq_eq_false_iff_ne.mpr c2
  have c2b1:(t407 != 1)=true:=bne_iff_ne.mpr c2
  obtain rfl:=Option.some.inj H
  go_enter Tryz.func15,Tryz.ntmps15
  go_wp2_with (first|((with_reducible refine aH (f:=13) rfl ?_);refine bq (some 3) rfl rfl Tryz.func13 (by kernel_rfl) rfl #[.agg #[.int .i64 1,.string (⟨#[]⟩:ByteArray),.string (⟨#[]⟩:ByteArray),.slice none 0 0,.slice none 0 0],.agg #[.string (⟨#[]⟩:ByteArray),.slice none 0 0]] rfl (by (try simp only [List.map_toArray,List.map_cons,List.map_nil]);first|done|rfl|(simp only [List.length_drop,List.length_take];rfl)) ?_;(refine (bS.calls k 1 (⟨#[]⟩:ByteArray) (⟨#[]⟩:ByteArray) _ _ ([]:List ByteArray) _ _ ([]:List (S25)) (⟨#[]⟩:ByteArray) _ _ ([]:List (S45)) t407 _ ?side1 ?side2 ?side3 ?side4 ?side5 ?side6 ?side7 A1.out).mono ?_);(case side1=>exact Kd.iU _ _);(case side2=>exact Nat.le_refl _);(case side3=>exact Kd.iU _ _);(case side4=>exact Nat.le_refl _);(case side5=>exact Kd.iU _ _);(case side6=>exact Nat.le_refl _);(case side7=>first|exact HG.out|exact Gl.drewN HG.out _|exact Gl.below HG.out (by repeat (first|(with_reducible first|exact HB.out|apply af|apply ae|apply ag)|exact HB.out)));rintro e w9 ⟨rfl,hb⟩;refine ⟨_,rfl,?_⟩;have n0_:=aa.mk (aA (by repeat (first|(with_reducible first|exact HB.out|apply af|apply ae|apply ag)|exact HB.out)) hb);clear HB;have HB:=n0_;clear n0_;(try clear hb);(try clear hb2);(try clear hk);(try clear hi)))
  go_ret
  exact ⟨by first|rfl|(simp [aD,aG] <;> rfl)|(simp [*,aD,aG] <;> rfl),by repeat (first|(with_reducible first|exact HB.out|apply af|apply ae|apply ag)|exact HB.out)⟩
end Go.Proofs.YthfpaoacjpjnfaaGreatDoor.P


namespace Go.Proofs.YthfpaoacjpjnfaaGreatDoor.P
open Go.RowKit Go.Proofs.YthfpaoacjpjnfaaGreatDoorW.PrintWords Go.Proofs.YthfpaoacjpjnfaaGreatDoorW.PrintLast Go.Proofs.YthfpaoacjpjnfaaGreatDoorW.PrintMore
theorem mr (a:Int):Ev (fun k=>aZ.f k [] a) false:=by
  unfold aZ.f aT.f
  refine Ev.bind (a:=-1) (Ev.step (fun k=>by rw [aT.l0]) (Ev.ifn (c:=(0:Int) < (([]:List Int).length:Int)) (by decide) (Ev.now _))) (Ev.now _)
theorem rq (a0:ByteArray) (l1:List S45):Ev (fun k=>bS.f k 1 (⟨#[]⟩:ByteArray) (⟨#[]⟩:ByteArray) [] [] a0 l1) 1:=by
  unfold bS.f
  have hm:eH.f 1 (⟨#[]⟩:ByteArray) (⟨#[]⟩:ByteArray) [] []=some true:=by
    unfold eH.f
    rw [if_pos (show szF 12 ⟨1,⟨#[]⟩,⟨#[]⟩,[],[]⟩ from ⟨fun i hi=>absurd hi (Nat.not_lt_zero _),fun x hx=>by cases hx⟩)]
    congr 1
    unfold jP bZ mh
    dsimp only
    rw [if_pos (.inl rfl)]
    decide +kernel
  rw [hm]
  refine Ev.bs (Ev.congr (fun k=>if_pos rfl) ?_)
  suffices h:Ev (fun k=>bG.f k 1 (⟨#[]⟩:ByteArray) (⟨#[]⟩:ByteArray) [] [] a0 l1) 1 from h.bind (Ev.now _)
  refine Ev.step (fun k=>by rw [bG.f]) (Ev.step (fun k=>by rw [bG.l0]) ?_)
  refine Ev.ifn (c:=(0:Int) < (([]:List S25).length:Int)) (by decide) (Ev.ifp (c:=(1:Int)=1) rfl ?_)
  unfold gy.f
  refine Ev.bind (a:=1) ((mr 0).bind (Ev.congr (fun k=>if_neg (by decide)) ((mr 2).bind (Ev.congr (fun k=>if_neg (by decide)) (Ev.now _))))) (Ev.now _)
theorem qB:Ev (fun k=>dU.f k) true:=by
  unfold dU.f
  refine (rq (⟨#[]⟩:ByteArray) []).bind (Ev.congr (fun k=>if_pos rfl) ?_)
  have hp:bR.f (⟨#[97,110,110]⟩:ByteArray)=some ((((⟨#[99,110,61]⟩:ByteArray)++⟨#[97,110,110]⟩)++(⟨#[44,111,61,120]⟩:ByteArray)),([(⟨(⟨#[99,110]⟩:ByteArray),(([(⟨#[97,110,110]⟩:ByteArray)]:List ByteArray))⟩:S45),(⟨(⟨#[111,98,106,101,99,116,99,108,97,115,115]⟩:ByteArray),(([(⟨#[112,101,114,115,111,110]⟩:ByteArray)]:List ByteArray))⟩:S45),(⟨(⟨#[115,110]⟩:ByteArray),(([(⟨#[115]⟩:ByteArray)]:List ByteArray))⟩:S45)])):=by
    unfold bR.f
    rw [if_pos (by decide),if_pos (by decide)]
  rw [hp]
  refine Ev.bs ?_
  have h:=vU 4 (⟨#[99,110]⟩:ByteArray) (⟨#[65,78,78]⟩:ByteArray) (((⟨#[99,110,61]⟩:ByteArray)++⟨#[97,110,110]⟩)++(⟨#[44,111,61,120]⟩:ByteArray)) ([(⟨(⟨#[99,110]⟩:ByteArray),(([(⟨#[97,110,110]⟩:ByteArray)]:List ByteArray))⟩:S45),(⟨(⟨#[111,98,106,101,99,116,99,108,97,115,115]⟩:ByteArray),(([(⟨#[112,101,114,115,111,110]⟩:ByteArray)]:List ByteArray))⟩:S45),(⟨(⟨#[115,110]⟩:ByteArray),(([(⟨#[115]⟩:ByteArray)]:List ByteArray))⟩:S45)]) [(⟨#[97,110,110]⟩:ByteArray)] (.inl rfl) (by decide +kernel) (by decide) (by decide) (by decide +kernel) (by decide +kernel) (by decide)
  rw [show ky 4 (⟨#[99,110]⟩:ByteArray) (⟨#[65,78,78]⟩:ByteArray) [(⟨#[97,110,110]⟩:ByteArray)]=1 by decide +kernel] at h
  exact h.bind (Ev.now _)
def cnT:ByteArray:=⟨#[99,110]⟩
def cnU:ByteArray:=⟨#[67,78]⟩
def memT:ByteArray:=⟨#[109,101,109,98,101,114]⟩
def u6:ByteArray:=⟨#[110,111,110,101]⟩
def vo:ByteArray:=⟨#[110,111,116,104,105,110,103]⟩
def vL:ByteArray:=⟨#[117,115,101,114,112,97,115,115,119,111,114,100]⟩
def lL:ByteArray:=⟨#[117,105,100,110,117,109,98,101,114]⟩
def vB:ByteArray:=⟨#[117,105,100,78,117,109,98,101,114]⟩
def p1:List ByteArray:=[⟨#[49]⟩,⟨#[]⟩]
def p2:List ByteArray:=[⟨#[]⟩,⟨#[120]⟩]
def twelve (v:ByteArray):List S25:=[⟨8,u6,⟨#[]⟩,[],[]⟩,⟨4,vo,v,[],[]⟩,⟨6,vL,⟨#[120]⟩,[],[]⟩,⟨7,memT,⟨#[111,61,120]⟩,[],[]⟩,⟨5,lL,⟨#[]⟩,p1,[]⟩,⟨5,memT,⟨#[]⟩,p2,[]⟩,⟨4,lL,(⟨#[120]⟩:ByteArray)++v,[],[]⟩,⟨6,vB,⟨#[48,120]⟩,[],[]⟩,⟨4,cnT,⟨#[]⟩,[],[]⟩,⟨4,cnT,⟨#[]⟩,[],[]⟩,⟨0,⟨#[]⟩,⟨#[]⟩,[],[]⟩,⟨3,⟨#[]⟩,⟨#[]⟩,[],[]⟩]
theorem wN (v:List UInt8):fV (120 :: v)=false:=by
  cases h:fV (120 :: v) with
  | false=>rfl
  | true =>
    obtain ⟨n,_,e,_⟩:=nJ h
    have:=uo n 120 (by rw [← e];exact List.mem_cons_self)
    rcases this with h|h
    · exact absurd h (by decide)
    · exact absurd h.2 (by decide)
theorem pF (typ val:ByteArray) (vs:List ByteArray) (h:eQ typ.data.toList val.data.toList=none):ky 4 typ val vs=2:=by
  unfold ky
  rw [if_pos rfl,h,if_neg (by decide)]
theorem lZ (kind:Int) (typ val:ByteArray) (vs:List ByteArray) (hk:kind≠4) (h:(iV typ val val).2=false):ky kind typ val vs=2:=by
  unfold ky
  rw [if_neg hk,if_pos h]
theorem qK {l:List ByteArray} (h:gG l=true):∀ i:Nat,i < l.length→(bU ByteArray.empty l (i:Int)).size≤4611686018427387903:=fun i hi=>by
  have:=(nQ h).2.2 i hi
  omega
theorem Ab:gG p1=true:=by
  unfold gG p1
  rw [show (bU ByteArray.empty [(⟨#[49]⟩:ByteArray),⟨#[]⟩] 0).toList=[49] by show (⟨#[49]⟩:ByteArray).toList=[49];rw [toList_data]]
  have m0:kz [(⟨#[49]⟩:ByteArray),⟨#[]⟩] 0=true:=by
    unfold kz
    rw [decide_eq_false (Nat.lt_irrefl 0),Bool.and_false,Bool.false_and]
    rfl
  have m1:kz [(⟨#[49]⟩:ByteArray),⟨#[]⟩] 1=true:=by
    unfold kz
    rw [decide_eq_false (show ¬ (1+1 < ([(⟨#[49]⟩:ByteArray),⟨#[]⟩]:List ByteArray).length) from Nat.lt_irrefl 2),Bool.and_false]
    rfl
  rw [show ([(⟨#[49]⟩:ByteArray),⟨#[]⟩]:List ByteArray).length=2 from rfl]
  unfold fO fO fO
  rw [m0,m1,decide_eq_false (show ¬ ([49]:List UInt8)=[] by decide),Bool.false_and,Bool.and_false]
  rfl
theorem Ah:gG p2=true:=by
  unfold gG p2
  rw [show (bU ByteArray.empty [(⟨#[]⟩:ByteArray),⟨#[120]⟩] 1).toList=[120] by show (⟨#[120]⟩:ByteArray).toList=[120];rw [toList_data]]
  have m0:kz [(⟨#[]⟩:ByteArray),⟨#[120]⟩] 0=true:=by
    unfold kz
    rw [decide_eq_false (Nat.lt_irrefl 0),Bool.and_false,Bool.false_and]
    rfl
  have m1:kz [(⟨#[]⟩:ByteArray),⟨#[120]⟩] 1=true:=by
    unfold kz
    rw [decide_eq_false (show ¬ (1+1 < ([(⟨#[]⟩:ByteArray),⟨#[120]⟩]:List ByteArray).length) from Nat.lt_irrefl 2),Bool.and_false]
    rfl
  rw [show ([(⟨#[]⟩:ByteArray),⟨#[120]⟩]:List ByteArray).length=2 from rfl]
  unfold fO fO fO
  rw [m0,m1,decide_eq_false (show ¬ ([120]:List UInt8)=[] by decide),Bool.and_false,Bool.and_false]
  rfl
theorem yj:bZ 0 (⟨#[]⟩:ByteArray) (⟨#[]⟩:ByteArray) [] [] true true=false:=by
  unfold bZ
  rw [if_neg (by decide),if_neg (by decide),if_neg (by decide),if_neg (by decide),if_neg (by decide)]
theorem yT:bZ 3 (⟨#[]⟩:ByteArray) (⟨#[]⟩:ByteArray) [] [] true true=false:=by
  unfold bZ
  rw [if_neg (by decide),if_pos rfl,show (decide (([]:List S25).length=1))=false from rfl,Bool.and_false]
  rfl
theorem wD (d:ByteArray) {l:List S45} (hE:kK l) (v:ByteArray) (hv:v.size≤60) (i:Int) (h0:0≤i) (h1:i < 12) :
    Ev (fun k=>bS.f k (bi (twelve v) i).f0 (bi (twelve v) i).f1 (bi (twelve v) i).f2 (bi (twelve v) i).f3 (bi (twelve v) i).f4 d l) 2:=by
  have L:∀ (kind:Int) (typ val:ByteArray) (parts:List ByteArray),(kind≠1∧kind≠2∧kind≠3)→bZ kind typ val parts [] true true=true→(∀ i:Nat,i < parts.length→(bU ByteArray.empty parts (i:Int)).size≤4611686018427387903) →
      (if dI typ.data.toList=0 then 2 else jC kind typ val parts (fE l typ))=2→Ev (fun k=>bS.f k kind typ val parts [] d l) 2:=fun kind typ val parts hk hm hs he=>by
    have h:=qm d hE kind typ val parts hk hm hs
    rw [he] at h
    exact h
  have hc:i=0∨i=1∨i=2∨i=3∨i=4∨i=5∨i=6∨i=7∨i=8∨i=9∨i=10∨i=11:=by omega
  have lv:∀ (kind:Int) (typ val:ByteArray) (parts vs:List ByteArray),kind≠8→kind≠5→jC kind typ val parts vs=ky kind typ val vs:=fun kind typ val parts vs a b=>by
    unfold jC
    rw [if_neg a,if_neg b]
  have lp:∀ (typ:ByteArray) (parts vs:List ByteArray),dI typ.data.toList≠1→jC 5 typ ⟨#[]⟩ parts vs=2:=fun typ parts vs h=>by
    unfold jC
    rw [if_neg (by decide),if_pos rfl,if_pos h]
  rcases hc with rfl|rfl|rfl|rfl|rfl|rfl|rfl|rfl|rfl|rfl|rfl|rfl
  · exact L 8 u6 ⟨#[]⟩ [] (by decide) (Bb (by decide +kernel)) gM (if_pos (by decide +kernel))
  · exact L 4 vo v [] (by decide) (lW (.inl rfl) (by decide +kernel) (by omega)) gM (if_pos (by decide +kernel))
  · exact L 6 vL ⟨#[120]⟩ [] (by decide) (lW (.inr (.inl rfl)) (by decide +kernel) (by decide)) gM (by rw [if_neg (by decide +kernel),lv _ _ _ _ _ (by decide) (by decide)];exact lZ _ _ _ _ (by decide) (by decide +kernel))
  · exact L 7 memT ⟨#[111,61,120]⟩ [] (by decide) (lW (.inr (.inr rfl)) (by decide +kernel) (by decide)) gM (by rw [if_neg (by decide +kernel),lv _ _ _ _ _ (by decide) (by decide)];exact lZ _ _ _ _ (by decide) (by decide +kernel))
  · exact L 5 lL ⟨#[]⟩ p1 (by decide) (Bl (by decide +kernel) Ab) (qK Ab) (by rw [if_neg (by decide +kernel)];exact lp _ _ _ (by decide +kernel))
  · exact L 5 memT ⟨#[]⟩ p2 (by decide) (Bl (by decide +kernel) Ah) (qK Ah) (by rw [if_neg (by decide +kernel)];exact lp _ _ _ (by decide +kernel))
  · refine L 4 lL ((⟨#[120]⟩:ByteArray)++v) [] (by decide) (lW (.inl rfl) (by decide +kernel) ?_) gM ?_
    · rw [ByteArray.size_append]
      have:(⟨#[120]⟩:ByteArray).size=1:=rfl
      omega
    · rw [if_neg (by decide +kernel),lv _ _ _ _ _ (by decide) (by decide)]
      refine pF _ _ _ ?_
      have e:((⟨#[120]⟩:ByteArray)++v).data.toList=120 :: v.data.toList:=by rw [iK];rfl
      rw [e]
      unfold eQ jM
      rw [if_neg (by rw [not_or];refine ⟨by simp,?_⟩;rw [List.length_cons,← bL];omega),if_neg (by decide +kernel),if_pos (by decide +kernel),wN,if_neg (by decide)]
  · exact L 6 vB ⟨#[48,120]⟩ [] (by decide) (lW (.inr (.inl rfl)) (by decide +kernel) (by decide)) gM (by rw [if_neg (by decide +kernel),lv _ _ _ _ _ (by decide) (by decide)];exact lZ _ _ _ _ (by decide) (by decide +kernel))
  · exact L 4 cnT ⟨#[]⟩ [] (by decide) (lW (.inl rfl) (by decide +kernel) (by decide)) gM (by rw [if_neg (by decide +kernel),lv _ _ _ _ _ (by decide) (by decide)];exact pF _ _ _ (by decide +kernel))
  · exact L 4 cnT ⟨#[]⟩ [] (by decide) (lW (.inl rfl) (by decide +kernel) (by decide)) gM (by rw [if_neg (by decide +kernel),lv _ _ _ _ _ (by decide) (by decide)];exact pF _ _ _ (by decide +kernel))
  · exact sJ d hE 0 ⟨#[]⟩ ⟨#[]⟩ [] yj gM
  · exact sJ d hE 3 ⟨#[]⟩ ⟨#[]⟩ [] yT gM
theorem zt {n:Nat} {l:List S45} (h:fe n l):0 < (fE l cnU).length:=by
  obtain ⟨m,b,r,e⟩:=h.head
  have hv:jq l cnU 0=true:=by
    rw [e]
    show ((gm (⟨#[99,110]⟩:ByteArray)).toList == (gm cnU).toList)=true
    decide +kernel
  have hf:dY (jq l cnU) l.length=((0:Nat):Int):=fT _ _ 0 (by rw [e];simp) hv (fun j hj=>absurd hj (Nat.not_lt_zero _))
  have:fE l cnU=[m]:=by
    unfold fE
    rw [hf,if_neg (by decide),e]
    rfl
  rw [this]
  exact Nat.one_pos
theorem tu {n:Nat} {l:List S45} (h:fe n l):¬ 0 < (fE l memT).length:=by
  have hm:∀ t ∈ fI,((gm t).toList == (gm memT).toList)=false:=by decide +kernel
  have hf:dY (jq l memT) l.length=-1:=fq _ _ (fun j hj=>by
    have hx:bQ l (j:Int) ∈ l:=by
      unfold bQ
      rw [Int.toNat_natCast,List.getD_eq_getElem?_getD,List.getElem?_eq_getElem hj]
      exact List.getElem_mem hj
    exact hm _ (h.each _ hx).1)
  have:fE l memT=[]:=by
    unfold fE
    rw [hf,if_pos (by decide)]
  rw [this]
  exact Nat.lt_irrefl 0
theorem Ev.both {α β:Type} {g:Nat→Option α} {f:Nat→Option β} {a:α} {b:β} (h1:Ev g a) (h2:Ev f b):∃ K,∀ k,K≤k→g k=some a∧f k=some b:=by
  obtain ⟨k1,h1⟩:=h1
  obtain ⟨k2,h2⟩:=h2
  exact ⟨k1+k2,fun k hk=>⟨h1 k (by omega),h2 k (by omega)⟩⟩
theorem xn (l0:List Int) (h0:∀ i:Nat,0≤rd l0 (i:Int)∧rd l0 (i:Int)≤255) (v:ByteArray) (hv:v.size≤60) (i:Int) (hi0:0≤i) (hi1:i < 12):∃ (k:Nat) (d:ByteArray) (l:List S45),av.f k l0=some (d,l)∧bS.f k 8 cnU (⟨#[]⟩:ByteArray) [] [] d l=some 1 ∧
    bS.f k (bi (twelve v) i).f0 (bi (twelve v) i).f1 (bi (twelve v) i).f2 (bi (twelve v) i).f3 (bi (twelve v) i).f4 d l=some 2∧bS.f k 8 memT (⟨#[]⟩:ByteArray) [] [] d l=some 0∧dU.f k=some true:=by
  obtain ⟨d,l,hm,hk⟩:=zu l0 h0
  have hE:=uh hk (by decide)
  have e1:=sH d hE cnU (by decide +kernel) (by decide +kernel)
  rw [if_pos (zt hk)] at e1
  have e3:=sH d hE memT (by decide +kernel) (by decide +kernel)
  rw [if_neg (tu hk)] at e3
  obtain ⟨K1,a⟩:=Ev.both hm e1
  obtain ⟨K2,b⟩:=Ev.both (wD d hE v hv i hi0 hi1) e3
  obtain ⟨K3,c⟩:=qB
  exact ⟨K1+K2+K3,d,l,(a _ (by omega)).1,(a _ (by omega)).2,(b _ (by omega)).1,(b _ (by omega)).2,c _ (by omega)⟩
theorem mg {α:Type} (d:Kd α) {W:World} {b:Nat} {t:TypeId} {cs:List Value} {xs:List α} (hb:W.heap[b]?=some (.cells cs.toArray t (0,0))) (hr:bF (d.K W) d.sz xs cs) (hm:xs.length≤9223372036854775807):d.C W (some ⟨b,0,none⟩) xs.length xs:=by
  refine ⟨rfl,hm,fun _=>⟨⟨b,0,none⟩,rfl,fun j p hj=>?_⟩⟩
  have hk:=hr.2 j p hj
  refine ⟨_,d.K_len hk,hk,fun i u hu=>?_⟩
  rw [Av,Nat.zero_add,az hb]
  have hi:i < d.sz:=by
    have h1:=(List.getElem?_eq_some_iff.1 hu).1
    rw [List.length_take] at h1
    omega
  rw [List.getElem?_take_of_lt hi,List.getElem?_drop] at hu
  rw [List.getElem?_toArray]
  exact hu
theorem yP (W:World) (l:List ByteArray):bF (Kd.string.K W) Kd.string.sz l (l.map Value.string):=by
  refine ⟨by rw [List.length_map];exact (Nat.mul_one _).symm,fun j p hj=>?_⟩
  show ((l.map Value.string).drop (j * 1)).take 1=[Value.string p]
  have hjl:=(List.getElem?_eq_some_iff.1 hj).1
  rw [Nat.mul_one,List.drop_eq_getElem_cons (by rw [List.length_map];exact hjl),List.take_succ_cons,List.take_zero,List.getElem_map]
  rw [List.getElem?_eq_getElem hjl] at hj
  rw [Option.some.inj hj]
def oz (b1 b2:Nat) (v:ByteArray):List Value:=[.int .i64 8,.string u6,.string ⟨#[]⟩,.slice none 0 0,.slice none 0 0,.int .i64 4,.string vo,.string v,.slice none 0 0,.slice none 0 0,.int .i64 6,.string vL,.string ⟨#[120]⟩,.slice none 0 0,.slice none 0 0,.int .i64 7,.string memT,.string ⟨#[111,61,120]⟩,.slice none 0 0,.slice none 0 0,
  .int .i64 5,.string lL,.string ⟨#[]⟩,.slice (some ⟨b1,0,none⟩) 2 2,.slice none 0 0,.int .i64 5,.string memT,.string ⟨#[]⟩,.slice (some ⟨b2,0,none⟩) 2 2,.slice none 0 0,.int .i64 4,.string lL,.string ((⟨#[120]⟩:ByteArray)++v),.slice none 0 0,.slice none 0 0,.int .i64 6,.string vB,.string ⟨#[48,120]⟩,.slice none 0 0,.slice none 0 0,
  .int .i64 4,.string cnT,.string ⟨#[]⟩,.slice none 0 0,.slice none 0 0,.int .i64 4,.string cnT,.string ⟨#[]⟩,.slice none 0 0,.slice none 0 0,.int .i64 0,.string ⟨#[]⟩,.string ⟨#[]⟩,.slice none 0 0,.slice none 0 0,.int .i64 3,.string ⟨#[]⟩,.string ⟨#[]⟩,.slice none 0 0,.slice none 0 0]
theorem AR (W:World) (b1 b2:Nat) (v:ByteArray) (h1:Kd.string.C W (some ⟨b1,0,none⟩) 2 p1) (h2:Kd.string.C W (some ⟨b2,0,none⟩) 2 p2):bF (k25.K W) k25.sz (twelve v) (oz b1 b2 v):=by
  have n3:Kd.string.C W none 0 []:=Kd.iU _ _
  have n4:k25.C W none 0 []:=Kd.iU _ _
  have K0:∀ (kind:Int) (typ val:ByteArray),k25.K W ⟨kind,typ,val,[],[]⟩ [.int .i64 kind,.string typ,.string val,.slice none 0 0,.slice none 0 0]:=fun kind typ val=>uH W ⟨kind,typ,val,[],[]⟩ (Nat.le_refl 0) n3 (Nat.le_refl 0) n4
  have K1:k25.K W ⟨5,lL,⟨#[]⟩,p1,[]⟩ [.int .i64 5,.string lL,.string ⟨#[]⟩,.slice (some ⟨b1,0,none⟩) 2 2,.slice none 0 0]:=uH W ⟨5,lL,⟨#[]⟩,p1,[]⟩ (A3:=some ⟨b1,0,none⟩) (c3:=2) (Nat.le_refl 2) h1 (Nat.le_refl 0) n4
  have K2:k25.K W ⟨5,memT,⟨#[]⟩,p2,[]⟩ [.int .i64 5,.string memT,.string ⟨#[]⟩,.slice (some ⟨b2,0,none⟩) 2 2,.slice none 0 0]:=uH W ⟨5,memT,⟨#[]⟩,p2,[]⟩ (A3:=some ⟨b2,0,none⟩) (c3:=2) (Nat.le_refl 2) h2 (Nat.le_refl 0) n4
  exact bF.c5 (K0 _ _ _) (bF.c5 (K0 _ _ _) (bF.c5 (K0 _ _ _) (bF.c5 (K0 _ _ _) (bF.c5 K1 (bF.c5 K2 (bF.c5 (K0 _ _ _) (bF.c5 (K0 _ _ _) (bF.c5 (K0 _ _ _) (bF.c5 (K0 _ _ _) (bF.c5 (K0 _ _ _) (bF.c5 (K0 _ _ _) (bF.none _ _))))))))))))
structure mX (w:World) (b0 b4:Nat) (d:ByteArray) (Am:Option Addr) (l:List S45) (cm:Nat) (f:S25) (A3:Option Addr) (c3:Nat) (A4:Option Addr) (c4:Nat) (W:World):Prop where
  ent:W.heap[b0]?=some (.cells #[.string d,.slice Am l.length cm] 28 (0,0))
  fil:W.heap[b4]?=some (.cells #[.int .i64 f.f0,.string f.f1,.string f.f2,.slice A3 f.f3.length c3,.slice A4 f.f4.length c4] 25 (0,0))
  att:Kd.C k45 W Am l.length l
  par:Kd.C Kd.string W A3 f.f3.length f.f3
  kid:Kd.C k25 W A4 f.f4.length f.f4
  bel:Below w.heap.size w W
theorem mX.step {w:World} {b0 b4:Nat} {d:ByteArray} {Am:Option Addr} {l:List S45} {cm:Nat} {f:S25} {A3:Option Addr} {c3:Nat} {A4:Option Addr} {c4:Nat} {W W':World} (h:mX w b0 b4 d Am l cm f A3 c3 A4 c4 W) (hb:Below W.heap.size W W'):mX w b0 b4 d Am l cm f A3 c3 A4 c4 W' :=
  ⟨aI h.ent hb,aI h.fil hb,Kd.bP h.att hb,Kd.bP h.par hb,Kd.bP h.kid hb,aA h.bel hb⟩
theorem mX.cells {w:World} {b0 b4:Nat} {d:ByteArray} {Am:Option Addr} {l:List S45} {cm:Nat} {f:S25} {A3:Option Addr} {c3:Nat} {A4:Option Addr} {c4:Nat} {W:World} (h:mX w b0 b4 d Am l cm f A3 c3 A4 c4 W) :
    W.cell? ⟨b0,0,none⟩=some (.string d)∧W.cell? ⟨b0,1,none⟩=some (.slice Am l.length cm)∧W.cell? ⟨b4,0,none⟩=some (.int .i64 f.f0)∧W.cell? ⟨b4,1,none⟩=some (.string f.f1)∧W.cell? ⟨b4,2,none⟩=some (.string f.f2)∧W.cell? ⟨b4,3,none⟩=some (.slice A3 f.f3.length c3)∧W.cell? ⟨b4,4,none⟩=some (.slice A4 f.f4.length c4) :=
  ⟨(az h.ent 0).trans rfl,(az h.ent 1).trans rfl,(az h.fil 0).trans rfl,(az h.fil 1).trans rfl,(az h.fil 2).trans rfl,(az h.fil 3).trans rfl,(az h.fil 4).trans rfl⟩
set_option maxHeartbeats 4000000 in
set_option maxRecDepth 100000 in
theorem tq (k:Nat) (A0:Option Addr) (c0:Nat) (l0:List Int) (a1:Int) (a2:ByteArray) (w:World) (hG:Gl w) (hc:¬ a2.size≤60) (h:dU.f k=some true) :
    Calls Tryz.prog 8 #[.slice A0 l0.length c0,.int .u8 a1,.string a2] w fun e w'=>e=.returned (.bool true)∧Below w.heap.size w w':=by
  have s1:decide ((60:Int) < (a2.size:Int))=true:=decide_eq_true (by omega)
  have s2:((60:Int) < (a2.size:Int))=True:=eq_true (by omega)
  have s3:decide (60 < a2.size)=true:=decide_eq_true (by omega)
  have s4:(60 < a2.size)=True:=eq_true (by omega)
  have HG:=aa.mk hG
  have HA:=aa.mk h
  clear hG h hc
  go_enter Tryz.func8,Tryz.ntmps8
  go_wp2_with (go_at_call 15;refine (dU.calls k true _ HG.out HA.out).mono ?_;rintro e w1 ⟨rfl,hb⟩;have KB:=aa.mk hb;clear hb)
  go_ret
  exact ⟨rfl,KB.out⟩
set_option maxHeartbeats 4000000 in
set_option maxRecDepth 100000 in
theorem si (k:Nat) (A0:Option Addr) (c0:Nat) (l0:List Int) (a1:Int) (a2:ByteArray) (w:World) (hr0:Kd.C (Kd.int .u8) w A0 l0.length l0) (hc0:l0.length≤c0) (hG:Gl w) (hc:a2.size≤60) (h0:0≤a1) (h1:a1≤255)
    (d:ByteArray) (l:List S45) (hm:av.f k l0=some (d,l)) (e1:bS.f k 8 cnU (⟨#[]⟩:ByteArray) [] [] d l=some 1)
    (i:Int) (hi:Int.tmod a1 12=i) (hi0:0≤i) (hi1:i < 12) (f:S25) (hf:bi (twelve a2) i=f)
    (e2:bS.f k f.f0 f.f1 f.f2 f.f3 f.f4 d l=some 2) (e3:bS.f k 8 memT (⟨#[]⟩:ByteArray) [] [] d l=some 0) (e4:dU.f k=some true) :
    Calls Tryz.prog 8 #[.slice A0 l0.length c0,.int .u8 a1,.string a2] w fun e w'=>e=.returned (.bool true)∧Below w.heap.size w w':=by
  have s1:decide ((60:Int) < (a2.size:Int))=false:=decide_eq_false (by omega)
  have s2:((60:Int) < (a2.size:Int))=False:=eq_false (by omega)
  have s3:decide (60 < a2.size)=false:=decide_eq_false (by omega)
  have s4:(60 < a2.size)=False:=eq_false (by omega)
  have w8:IntKind.i64.wrap a1=a1:=by rw [aK];unfold wrap64;omega
  have sz:1+a2.size≤9223372036854775807:=by omega
  have sz2:decide (1+a2.size≤9223372036854775807)=true:=decide_eq_true sz
  have sz3:(1+a2.size≤9223372036854775807)=True:=eq_true sz
  have sz4:(9223372036854775807 < 1+a2.size)=False:=eq_false (by omega)
  have HR:=aa.mk hr0
  have HC:=aa.mk hc0
  have HG:=aa.mk hG
  have HM:=aa.mk hm
  have E1:=aa.mk e1
  have E2:=aa.mk e2
  have E3:=aa.mk e3
  have E4:=aa.mk e4
  have HF:=aa.mk hf
  have HI:=aa.mk (And.intro hi0 hi1)
  have hu25:=Tryz.underlying25
  have hu28:=Tryz.underlying28
  clear hr0 hc0 hG hm e1 e2 e3 e4 hf hc h0 h1 sz
  go_enter Tryz.func8,Tryz.ntmps8
  go_upto_region 5 with (go_at_call 17;refine (av.calls k _ _ l0 d l _ HR.out HC.out HM.out).mono ?_;rintro e w1 ⟨v1,rfl,hN,hb⟩;obtain ⟨Am,cm,em⟩:=Kd.gN hN;subst em;have KB1:=aa.mk hb;have HN:=aa.mk (Kd.iH hN).2;clear hb hN)
  obtain ⟨w4,hw4⟩:∃ w4,(((w1.alloc (.cells #[.string d,.slice Am l.length cm] 28)).alloc (.cells #[.string ⟨#[49]⟩,.string ⟨#[]⟩] 9)).alloc (.cells #[.string ⟨#[]⟩,.string ⟨#[120]⟩] 9)).alloc (.cells (oz (w1.heap.size+1) (w1.heap.size+1+1) a2).toArray 25)=w4:=⟨_,rfl⟩
  have kB:Below w1.heap.size w1 w4:=by rw [← hw4];exact af (af (af (af (Below.refl _ _) _) _) _) _
  have hb0:w4.heap[w1.heap.size]?=some (.cells #[.string d,.slice Am l.length cm] 28 (0,0)):=by rw [← hw4];exact ai (ai (ai (jb w1 _) _) _) _
  have hb1:w4.heap[w1.heap.size+1]?=some (.cells #[.string ⟨#[49]⟩,.string ⟨#[]⟩] 9 (0,0)):=by
    rw [← hw4,show w1.heap.size+1=(w1.alloc (.cells #[.string d,.slice Am l.length cm] 28)).heap.size by simp]
    exact ai (ai (jb _ _) _) _
  have hb2:w4.heap[w1.heap.size+1+1]?=some (.cells #[.string ⟨#[]⟩,.string ⟨#[120]⟩] 9 (0,0)):=by
    rw [← hw4,show w1.heap.size+1+1=((w1.alloc (.cells #[.string d,.slice Am l.length cm] 28)).alloc (.cells #[.string ⟨#[49]⟩,.string ⟨#[]⟩] 9)).heap.size by simp]
    exact ai (jb _ _) _
  have hb3:w4.heap[w1.heap.size+1+1+1]?=some (.cells (oz (w1.heap.size+1) (w1.heap.size+1+1) a2).toArray 25 (0,0)):=by
    rw [← hw4,show w1.heap.size+1+1+1=(((w1.alloc (.cells #[.string d,.slice Am l.length cm] 28)).alloc (.cells #[.string ⟨#[49]⟩,.string ⟨#[]⟩] 9)).alloc (.cells #[.string ⟨#[]⟩,.string ⟨#[120]⟩] 9)).heap.size by simp]
    exact jb _ _
  have hK:k25.C w4 (some ⟨w1.heap.size+1+1+1,0,none⟩) 12 (twelve a2):=mg k25 hb3 (AR w4 _ _ a2 (mg Kd.string (xs:=p1) hb1 (yP w4 p1) (by decide)) (mg Kd.string (xs:=p2) hb2 (yP w4 p2) (by decide))) (show 12≤_ by decide)
  have hA:Kd.C k45 w4 Am l.length l:=Kd.bP HN.out.2 kB
  have KB:=aa.mk (aA KB1.out kB)
  have hw:=hw4
  unfold oz u6 vo vL memT lL vB cnT at hw
  rw [hw]
  clear hw hw4 hb1 hb2 hb3 kB
  generalize (⟨w1.heap.size+1+1+1,0,none⟩:Addr)=ad at hK ⊢
  obtain ⟨ad',A3,c3,A4,c4,ea,x0,x1,x2,x3,x4,l3,g3,l4,g4⟩:=uM hK i HI.out.1 HI.out.2
  cases ea
  rw [HF.out] at x0 x1 x2 x3 x4 l3 g3 l4 g4
  have q0:=eq_true HI.out.1
  have q1:(i < ((12:Nat):Int))=True:=eq_true HI.out.2
  have q2:(i < 12)=True:=eq_true HI.out.2
  have c0:w4.cell? ⟨w1.heap.size,0,none⟩=some (.string d):=(az hb0 0).trans rfl
  have HB0:=aa.mk hb0
  have HA:=aa.mk hA
  have G3:=aa.mk (And.intro l3 g3)
  have G4:=aa.mk (And.intro l4 g4)
  clear hb0 hA l3 g3 l4 g4 hK c0
  go_upto_region 6 with (fail)
  obtain ⟨w5,hw5⟩:∃ w5,w4.alloc (.cells #[.int .i64 f.f0,.string f.f1,.string f.f2,.slice A3 f.f3.length c3,.slice A4 f.f4.length c4] 25)=w5:=⟨_,rfl⟩
  have KI:=aa.mk (show mX w w1.heap.size w4.heap.size d Am l cm f A3 c3 A4 c4 w5 from by
    rw [← hw5]
    exact ⟨ai HB0.out _,jb w4 _,Kd.dA HA.out _,Kd.dA G3.out.2 _,Kd.dA G4.out.2 _,af KB.out _⟩)
  rw [hw5]
  clear hw5 x0 x1 x2 x3 x4 HB0 HA KB q0 q1 q2
  have C1:=aa.mk (show ∀ W,mX w w1.heap.size w4.heap.size d Am l cm f A3 c3 A4 c4 W→Calls Tryz.prog 13 #[.agg #[.int .i64 8,.string ⟨#[67,78]⟩,.string ⟨#[]⟩,.slice none 0 0,.slice none 0 0],.agg #[.string d,.slice Am l.length cm]] W fun e w'=>e=.returned (.int .i64 1)∧Below W.heap.size W w' from
    fun W h=>bS.calls k 8 cnU ⟨#[]⟩ none 0 [] none 0 [] d Am cm l 1 W (Kd.iU _ _) (Nat.le_refl _) (Kd.iU _ _) (Nat.le_refl _) h.att HN.out.1 (HG.out.below h.bel) E1.out)
  have C2:=aa.mk (show ∀ W,mX w w1.heap.size w4.heap.size d Am l cm f A3 c3 A4 c4 W→Calls Tryz.prog 13 #[.agg #[.int .i64 f.f0,.string f.f1,.string f.f2,.slice A3 f.f3.length c3,.slice A4 f.f4.length c4],.agg #[.string d,.slice Am l.length cm]] W fun e w'=>e=.returned (.int .i64 2)∧Below W.heap.size W w' from
    fun W h=>bS.calls k f.f0 f.f1 f.f2 A3 c3 f.f3 A4 c4 f.f4 d Am cm l 2 W h.par G3.out.1 h.kid G4.out.1 h.att HN.out.1 (HG.out.below h.bel) E2.out)
  have C3:=aa.mk (show ∀ W,mX w w1.heap.size w4.heap.size d Am l cm f A3 c3 A4 c4 W→Calls Tryz.prog 13 #[.agg #[.int .i64 8,.string ⟨#[109,101,109,98,101,114]⟩,.string ⟨#[]⟩,.slice none 0 0,.slice none 0 0],.agg #[.string d,.slice Am l.length cm]] W fun e w'=>e=.returned (.int .i64 0)∧Below W.heap.size W w' from
    fun W h=>bS.calls k 8 memT ⟨#[]⟩ none 0 [] none 0 [] d Am cm l 0 W (Kd.iU _ _) (Nat.le_refl _) (Kd.iU _ _) (Nat.le_refl _) h.att HN.out.1 (HG.out.below h.bel) E3.out)
  obtain ⟨c0,c1,c2,c3_,c4_,c5,c6⟩:=KI.out.cells
  go_wp2_with (first|(go_at_call 13;(with_reducible refine (C1.out _ KI.out).mono ?_);rintro e w_ ⟨rfl,hb⟩;have n_:=aa.mk (KI.out.step hb);clear KI hb;have KI:=n_;clear n_;obtain ⟨c0,c1,c2,c3_,c4_,c5,c6⟩:=KI.out.cells)|(go_at_call 13;(with_reducible refine (C2.out _ KI.out).mono ?_);rintro e w_ ⟨rfl,hb⟩;have n_:=aa.mk (KI.out.step hb);clear KI hb;have KI:=n_;clear n_;obtain ⟨c0,c1,c2,c3_,c4_,c5,c6⟩:=KI.out.cells)|(go_at_call 13;(with_reducible refine (C3.out _ KI.out).mono ?_);rintro e w_ ⟨rfl,hb⟩;have n_:=aa.mk (KI.out.step hb);clear KI hb;have KI:=n_;clear n_;obtain ⟨c0,c1,c2,c3_,c4_,c5,c6⟩:=KI.out.cells)|(go_at_call 15;(with_reducible refine (dU.calls k true _ (HG.out.below KI.out.bel) E4.out).mono ?_);rintro e w_ ⟨rfl,hb⟩;have n_:=aa.mk (KI.out.step hb);clear KI hb;have KI:=n_;clear n_))
  go_ret
  exact ⟨rfl,KI.out.bel⟩
theorem rU (l0:List Int) (h0:∀ i:Nat,0≤rd l0 (i:Int)∧rd l0 (i:Int)≤255) (A0:Option Addr) (c0:Nat) (a1:Int) (a2:ByteArray) (w:World) (hr0:Kd.C (Kd.int .u8) w A0 l0.length l0) (hc0:l0.length≤c0) (hG:Gl w) (h1:0≤a1) (h2:a1≤255) :
    Calls Tryz.prog 8 #[.slice A0 l0.length c0,.int .u8 a1,.string a2] w fun e w'=>e=.returned (.bool true)∧Below w.heap.size w w':=by
  by_cases hc:a2.size≤60
  · have ht:=ic h1 (b:=12) (by decide)
    obtain ⟨k,d,l,hm,e1,e2,e3,e4⟩:=xn l0 h0 a2 hc (Int.tmod a1 12) ht.1 ht.2
    exact si k A0 c0 l0 a1 a2 w hr0 hc0 hG hc h1 h2 d l hm e1 _ rfl ht.1 ht.2 _ rfl e2 e3 e4
  · obtain ⟨k,hk⟩:=qB.rounds
    exact tq k A0 c0 l0 a1 a2 w hG hc hk
theorem wu {W:World} {a:Option Addr} {len cap:Nat} {zs:List Int}
    (h:(a=none∧len=0∧cap=0∧zs=[])∨∃ x,a=some x∧len≤cap∧cap≤maxLen∧zs.length=cap∧(∀ i,i < zs.length→W.cell? (x.add i)=some (.int .u8 (zs.getD i 0)))∧∀ n ∈ zs,(Lit.int .u8 n).wf=true) :
    ∃ l:List Int,l.length=len∧Kd.C (Kd.int .u8) W a l.length l∧l.length≤cap∧∀ i:Nat,0≤rd l (i:Int)∧rd l (i:Int)≤255:=by
  rcases h with ⟨rfl,rfl,rfl,rfl⟩|⟨x,rfl,h1,h2,h3,h4,h5⟩
  · exact ⟨[],rfl,Kd.iU _ _,Nat.le_refl _,fun i=>by
      show 0≤rd [] (i:Int)∧rd [] (i:Int)≤255
      unfold rd
      rw [List.getD_nil]
      decide⟩
  · have hl:(zs.take len).length=len:=by rw [List.length_take];omega
    have hg:∀ j:Nat,j < len→(zs.take len).getD j 0=zs.getD j 0:=fun j hj=>by
      rw [List.getD_eq_getElem?_getD,List.getD_eq_getElem?_getD,List.getElem?_take_of_lt hj]
    refine ⟨zs.take len,hl,⟨rfl,by rw [hl];simp only [maxLen] at h2;omega,fun _=>⟨x,rfl,fun j p hj=>?_⟩⟩,by omega,fun i=>?_⟩
    · have hjl:j < len:=by have:=(List.getElem?_eq_some_iff.1 hj).1;omega
      have hp:zs.getD j 0=p:=by
        rw [← hg j hjl,List.getD_eq_getElem?_getD,hj]
        rfl
      refine ⟨[.int .u8 p],rfl,rfl,fun i u hu=>?_⟩
      rcases i with _|i
      · simp only [List.getElem?_cons_zero,Option.some.injEq] at hu
        subst hu
        rw [show j * (Kd.int .u8).sz+0=j from by show j * 1+0=j;omega,h4 j (by omega),hp]
      · simp at hu
    · unfold rd
      rw [Int.toNat_natCast]
      by_cases hi:i < len
      · rw [hg i hi,List.getD_eq_getElem?_getD,List.getElem?_eq_getElem (by omega)]
        exact xK (h5 _ (List.getElem_mem _))
      · rw [List.getD_eq_getElem?_getD,List.getElem?_eq_none (by omega)]
        decide
end Go.Proofs.YthfpaoacjpjnfaaGreatDoor.P

namespace Go.Proofs.YthfpaoacjpjnfaaGreatDoor.evalTypes
open Go.ChangeShapes Go.WideShapes Go.ChangeAt Go.RowKit Go.Proofs.YthfpaoacjpjnfaaGreatDoor.P Go.Proofs.YthfpaoacjpjnfaaGreatDoorW.PrintWords
open Go.ChangeMaps (open_string shut_string)
def Bp (k:IntKind) (w:World) (a:Option Addr) (len cap:Nat) (zs:List Int):Prop :=
  (a=none∧len=0∧cap=0∧zs=[]) ∨
  ∃ x,a=some x∧len≤cap∧cap≤maxLen∧zs.length=cap∧(∀ i,i < zs.length→w.cell? (x.add i)=some (.int k (zs.getD i 0)))∧∀ n ∈ zs,(Lit.int k n).wf=true
set_option maxRecDepth 100000 in
theorem contract (H:Type) (enc:TypeId × Value→H) (W:World) (base:Nat) (args:Array Value) (ds gs:List (DataW H)) (before:List MemPlace)
    (hval0:∀ (j:Nat) t v,Tryz.f8.params[j]?=some t→args[j]?=some v→Value.okWide Tryz.prog W .any base t v)
    (hW:DataW.Whole enc Tryz.prog Tryz.f8.params.toList Rows.evalTypesSpec.vars false W args.toList ds gs before)
    (hsz0:(DataW.weightsEach Tryz.prog (Tryz.f8.params.toList++Rows.evalTypesSpec.plain.varTypes Tryz.prog) (ds++gs)).all (·≤reachBytes)=true) (hG:Gl W) :
    Calls Tryz.prog 8 args W fun e W'=>∃ v,e=.returned v∧Rows.evalTypesSpec.post enc Tryz.prog Tryz.f8 false true false false W args v W':=by
  have hsz:=hsz0
  have hval:=hval0
  have hW':=hW
  obtain ⟨p,q,hA0,hV,rfl,hfz,hnd⟩:=hW
  have hA:DataW.TrodAll enc Tryz.prog W 0 (fun _=>true) true Tryz.f8.params.toList args.toList ds p:=hA0
  rw [Tryz.params8] at hA hval hsz
  obtain ⟨v0,vs0,d0,ds0,p0,q0,hargs,rfl,rfl,h0,r0⟩:=trodAll_cons hA
  obtain ⟨v1,vs1,d1,ds1,p1,q1,rfl,rfl,rfl,h1,r1⟩:=trodAll_cons r0
  obtain ⟨v2,vs2,d2,ds2,p2,q2,rfl,rfl,rfl,h2,r2⟩:=trodAll_cons r1
  obtain ⟨rfl,rfl,rfl⟩:=trodAll_nil r2
  obtain rfl:args=#[v0,v1,v2]:=by cases args;simp_all
  obtain ⟨rfl,rfl⟩:=trodVars_none hV
  obtain ⟨a0,len0,cap0,rfl⟩:=okWide_slice Tryz.underlying34 (hval 0 34 v0 rfl rfl)
  have k0:=h0
  have lt0:∀ x ∈ p0,x.block < W.heap.size:=by obtain ⟨m,hm⟩:=k0;exact DataW.trod_lt m _ _ _ hm
  obtain ⟨z0,w0⟩:∃ zs,Bp .u8 W a0 len0 cap0 zs:=by
    obtain ⟨fuel,hf⟩:=h0
    rcases open_ints Tryz.underlying34 Tryz.underlying5 (by kernel_rfl) hf with ⟨hcs,_⟩|⟨x,l,c,zs,hcs,_,hl,hm,hz,_,hcell,hwz⟩
    · simp [Value.cells] at hcs
      obtain ⟨rfl,rfl,rfl⟩:=hcs
      exact ⟨[],.inl ⟨rfl,rfl,rfl,rfl⟩⟩
    · simp [Value.cells] at hcs
      obtain ⟨rfl,rfl,rfl⟩:=hcs
      exact ⟨zs,.inr ⟨_,rfl,hl,hm,by simpa using hz,hcell,hwz⟩⟩
  have y0:len0 * 1≤140737488351232:=uy hsz (j:=0) (t:=34) rfl rfl Tryz.underlying34 Tryz.underlying5 (by kernel_rfl) (by kernel_rfl) h0
  obtain ⟨a1,rfl,rfl,rfl,w1⟩:=open_int Tryz.underlying5 (hval 1 5 v1 rfl rfl) h1
  obtain ⟨a2,rfl,rfl,rfl,y2⟩:=open_string Tryz.underlying9 (hval 2 9 v2 rfl rfl) h2
  have w2:a2.size≤140737488351232:=by
    have z:=sized_string hsz (j:=2) (t:=9) rfl rfl
    rw [Array.length_toList] at z
    exact z
  clear hA0 hval0 hsz0 hsz
  have walk:Calls Tryz.prog 8 #[.slice a0 len0 cap0,.int .u8 a1,.string a2] W fun e w'=>e=.returned (.bool true)∧Below W.heap.size W w':=(by
    obtain ⟨l,hl,hC,hc,hb⟩:=wu w0
    subst hl
    exact rU l hb a0 cap0 a1 a2 W hC hc hG (xK w1).1 (xK w1).2)
  refine walk.mono fun e W' ⟨he,bel⟩=>?_
  subst he
  exact ⟨_,rfl,_,_,_,[],_,[],hW',trodAll_mk1 (shut_bool Tryz.underlying4 _),(trodAll_cons_mk (Below.trod laidOut (by kernel_rfl) (of_decide_eq_true (by kernel_rfl)) k0 bel lt0) (trodAll_cons_mk (shut_int Tryz.underlying5 w1) (trodAll_cons_mk (shut_string Tryz.underlying9 y2) trodAll_mk0))),rfl,bel.frame _,fun h=>by cases h⟩
theorem reads (os:Os) {H:Type} (enc:TypeId × Value→H):∃ places,DataW.whole enc Tryz.prog ((mY os).forCall (fun _ _=>0) ⟨#[],#[.slice none 0 0,.int .u8 0,.string ByteArray.empty],[]⟩).memory Tryz.f8.params.toList Rows.evalTypesSpec.vars false (#[.slice none 0 0,.int .u8 0,.string ByteArray.empty]:Array Value).toList 8=some ([.nil,.lit (.int .u8 0),.lit (.string [])],[],places) :=
  ⟨[],by kernel_rfl⟩
set_option maxRecDepth 100000 in
theorem lifted (os:Os) (started:os.Started) (H:Type) (enc:TypeId × Value→H) (F:Stop.Interp) :
    ReturnsInHanded {} Tryz.checked os 8 .any ((OpenSpec.ofChange Rows.evalTypesSpec).preRow enc Tryz.prog Tryz.f8 Rows.evalTypesRow.domain false Rows.evalTypesRow.laid) (((OpenSpec.ofChange Rows.evalTypesSpec).at F).post enc Tryz.prog Tryz.f8 false true false false):=by
  obtain ⟨places,hx⟩:=reads os enc
  refine returnsInHanded_of_row (C:=Tryz.checked) (s:=OpenSpec.ofChange Rows.evalTypesSpec) own started (by kernel_rfl) Tryz.func8
    (witness_row_at (enc:=enc) (C:=Tryz.checked) false (mY os) #[.slice none 0 0,.int .u8 0,.string ByteArray.empty] (World.laidAll_os _ _ _) (by kernel_rfl) (by kernel_rfl) (by kernel_rfl)
      (OpenSpec.preRow_of_cond 8 hx (by kernel_rfl) (fun k hk=>by cases hk) (by kernel_rfl) (yh os _))) ?_
  intro W base args ds gs before hval hW _ _ hsz hL hsh _
  exact contract H enc W base args ds gs before hval hW hsz (Bc hL hsh)
theorem said:Rows.EvalTypesSaid :=
  OpenClaim.holds_of_cond 8 Tryz.f8 rfl rfl rfl rfl rfl rfl rfl ⟨rfl,rfl,rfl,rfl,rfl⟩ rfl rfl rfl rfl rfl (by kernel_rfl) Tryz.func8 (by kernel_rfl)
    (of_decide_eq_true (by kernel_rfl)) (by unfold Func.isWrapper;first|(rw [if_pos (by decide +kernel)];kernel_rfl)|(rw [if_neg (by decide +kernel)];exact ⟨rfl,rfl⟩))
    (fun os started H enc _ F=>by rw [OpenClaim.pre_eq_preRow];exact lifted os started H enc F)
theorem plain (f:FuncId) (fn:Func) (hf:Tryz.pinned.checked.prog.funcNamed "brook/brooklaw7.EvalTypes" = some f) (hfn:Tryz.pinned.checked.prog.funcs[f]?=some fn) :
    true=Tryz.pinned.checked.prog.looks []∧∀ (j:Nat) t,fn.params[j]?=some t→Tryz.pinned.checked.prog.wantsStandIn t=false:=by
  obtain rfl:f=8:=Option.some.inj ((show Tryz.prog.funcNamed "brook/brooklaw7.EvalTypes" = some 8 by kernel_rfl).symm.trans hf) |>.symm
  obtain rfl:fn=Tryz.f8:=(Option.some.inj (Tryz.func8.symm.trans hfn)).symm
  refine ⟨by kernel_rfl,fun j t ht=>?_⟩
  rw [Tryz.params8] at ht
  have hm:t ∈ [34,5,9]:=by simpa using Array.mem_of_getElem? ht
  have hall:([34,5,9].all fun u=>!Tryz.prog.wantsStandIn u)=true:=by kernel_rfl
  exact (show Tryz.prog.wantsStandIn t=false by simpa using List.all_eq_true.1 hall t hm)
theorem card:Rows.EvalTypesCardSaid :=
  Claim7.holds_tied_plain_at .later [] _ _ _ _ said (fun _ h=>by cases h) (by kernel_rfl) (fun _ h=>by cases h) evalTypes_row_tie rfl ⟨rfl,rfl⟩ (by kernel_rfl) rfl plain (by kernel_rfl)
#print axioms card
end Go.Proofs.YthfpaoacjpjnfaaGreatDoor.evalTypes
namespace Go.Proofs.YthfpaoacjpjnfaaGreatDoor
theorem evalTypes_card:Rows.EvalTypesCardSaid:=evalTypes.card
end Go.Proofs.YthfpaoacjpjnfaaGreatDoor
