/- The card of EvalHas: what an entry made by numbers has a value like, it has at all; its conditions are those of the card's own row. -/
import Derived.Test.YthfpaoacjpjnfaaGreatDoorMEHas7
import Derived.Test.YthfpaoacjpjnfaaGreatDoorMEHas5
import Derived.Test.YthfpaoacjpjnfaaGreatDoorMEHas3
import Derived.Test.YthfpaoacjpjnfaaGreatDoorMEHas2
import Derived.Test.YthfpaoacjpjnfaaGreatDoorMEHas6
import Derived.Test.YthfpaoacjpjnfaaGreatDoorCards
import Derived.Test.YthfpaoacjpjnfaaGreatDoorTie
import Derived.WalkKit
import Derived.ProofKit
import Derived.OpenShut
import Derived.ShutString
import Derived.ChangeOld
import Derived.ChangeSame
import Derived.Below
import Derived.SizedLaws
import Derived.Deep.DeepHandedRow
import Derived.JoinedCond
import Derived.SevenTiedAt
import Derived.Lay
set_option linter.unusedVariables false
set_option linter.unusedSimpArgs false

namespace Go.Proofs.YthfpaoacjpjnfaaGreatDoor.P
open Go.RowKit Go.Proofs.YthfpaoacjpjnfaaGreatDoorW.PrintWords Go.Proofs.YthfpaoacjpjnfaaGreatDoorW.PrintLast Go.Proofs.YthfpaoacjpjnfaaGreatDoorW.PrintMore
def gL:List ByteArray:=[⟨#[99,110]⟩,⟨#[111,98,106,101,99,116,99,108,97,115,115]⟩,⟨#[115,110]⟩,⟨#[109,97,105,108]⟩,⟨#[68,101,115,99,114,105,112,116,105,111,110]⟩,⟨#[117,105,100]⟩,⟨#[117,105,100,78,117,109,98,101,114]⟩,⟨#[117,115,101,114,80,97,115,115,119,111,114,100]⟩]
structure gu (n:Nat) (l:List S45):Prop where
  head:∃ m b r,l=⟨⟨#[99,110]⟩,[m]⟩ :: b :: r
  len:l.length≤n
  each:∀ a ∈ l,a.f0 ∈ gL∧a.f1.length≤n
theorem gu.le {n m:Nat} {l:List S45} (h:gu n l) (hm:n≤m):gu m l:=⟨h.head,by have:=h.len;omega,fun a ha=>⟨(h.each a ha).1,by have:=(h.each a ha).2;omega⟩⟩
theorem gu.snoc {n:Nat} {l:List S45} (h:gu n l) (a:S45) (ha:a.f0 ∈ gL) (hl:a.f1.length≤n+1):gu (n+1) (l++[a]):=by
  obtain ⟨m,b,r,e⟩:=h.head
  refine ⟨⟨m,b,r++[a],by rw [e];rfl⟩,by rw [List.length_append];have:=h.len;simp;omega,fun x hx=>?_⟩
  rcases List.mem_append.1 hx with hx|hx
  · exact ⟨(h.each x hx).1,by have:=(h.each x hx).2;omega⟩
  · rw [List.mem_singleton] at hx
    rw [hx]
    exact ⟨ha,hl⟩
theorem gu.two {n:Nat} {l:List S45} (h:gu n l):2≤l.length:=by
  obtain ⟨m,b,r,e⟩:=h.head
  rw [e]
  simp
theorem gu.set1 {n:Nat} {l:List S45} (h:gu n l) (vs:List ByteArray) (hv:vs.length≤n+1):gu (n+1) (l.set (1:Int).toNat ⟨(bR l 1).f0,vs⟩):=by
  obtain ⟨m,b,r,e⟩:=h.head
  have hb:b ∈ l:=by rw [e];simp
  have hs:l.set (1:Int).toNat ⟨(bR l 1).f0,vs⟩=⟨⟨#[99,110]⟩,[m]⟩ :: ⟨b.f0,vs⟩ :: r:=by rw [e];rfl
  rw [hs]
  refine ⟨⟨m,⟨b.f0,vs⟩,r,rfl⟩,by have:=h.len;rw [e] at this;simp at this ⊢;omega,fun x hx=>?_⟩
  rcases List.mem_cons.1 hx with hx|hx
  · have:=h.each x (by rw [e,hx];exact List.mem_cons_self)
    exact ⟨this.1,by omega⟩
  · rcases List.mem_cons.1 hx with hx|hx
    · rw [hx]
      exact ⟨(h.each b hb).1,hv⟩
    · have:=h.each x (by rw [e];exact List.mem_cons_of_mem _ (List.mem_cons_of_mem _ hx))
      exact ⟨this.1,by omega⟩
theorem iM (n:Int) (h0:-1000≤n) (h1:n≤1000):∃ s,bB.f n=some s∧s.size≤16:=by
  refine ⟨mk (Lib.itoa n),?_,by rw [eT];exact (xg n (by omega) (by omega)).1⟩
  unfold bB.f
  rw [if_pos (by omega)]
def nz (l:List Int):Prop:=l.length=8∧∀ i:Nat,0≤rd l (i:Int)∧rd l (i:Int)≤255
theorem il {a b:Int} (h0:0≤a) (hb:0 < b):0≤Int.tmod a b∧Int.tmod a b < b:=⟨Int.tmod_nonneg b h0,Int.tmod_lt_of_pos a hb⟩
theorem u7 {x3:List Int} (h3:nz x3) (x5 dn:ByteArray) (hx:x5.size≤100) (l:List S45):∃ d,Ev (fun k=>aA.j5 k x3 x5 dn l) (d,l):=by
  have h8:=h3.1
  by_cases c0:Int.tmod (rd x3 5) 5=0
  · refine ⟨_,Ev.step (fun k=>by rw [aA.j5]) (Ev.ifp (by omega) (Ev.ifp c0 (Ev.ifp (by omega) (Ev.now _))))⟩
  · by_cases c1:Int.tmod (rd x3 5) 5=1
    · refine ⟨_,Ev.step (fun k=>by rw [aA.j5]) (Ev.ifp (by omega) (Ev.ifn c0 (Ev.ifp c1 (Ev.ifp (by omega) (Ev.ifp ?_ (Ev.now _))))))⟩
      rw [ByteArray.size_append]
      have:(⟨#[67,78,61]⟩:ByteArray).size=3:=rfl
      omega
    · exact ⟨_,Ev.step (fun k=>by rw [aA.j5]) (Ev.ifp (by omega) (Ev.ifn c0 (Ev.ifn c1 (Ev.now _))))⟩
theorem uU {x3:List Int} (h3:nz x3) (x5 dn:ByteArray) (hx:x5.size≤100) {n:Nat} {l:List S45} (hl:gu n l) (hn:n≤100):∃ d l',Ev (fun k=>aA.j4 k x3 x5 dn l) (d,l')∧gu (n+1) l':=by
  have h8:=h3.1
  have hle:=hl.len
  by_cases c1:Int.tmod (rd x3 3) 4=1
  · obtain ⟨d,hd⟩:=u7 h3 x5 dn hx (l++[(⟨(⟨#[117,115,101,114,80,97,115,115,119,111,114,100]⟩:ByteArray),(([(⟨#[115,101,99,114,101,116]⟩:ByteArray)]:List ByteArray))⟩:S45)])
    exact ⟨d,_,Ev.step (fun k=>by rw [aA.j4]) (Ev.ifp (by omega) (Ev.ifp c1 (Ev.ifp (by omega) hd))),hl.snoc _ (by simp [gL]) (show 1≤n+1 by omega)⟩
  · obtain ⟨d,hd⟩:=u7 h3 x5 dn hx l
    exact ⟨d,_,Ev.step (fun k=>by rw [aA.j4]) (Ev.ifp (by omega) (Ev.ifn c1 hd)),hl.le (by omega)⟩
theorem vC {x3:List Int} (h3:nz x3) (x5 dn:ByteArray) (hx:x5.size≤100) {n:Nat} {l:List S45} (hl:gu n l) (hn:n≤50) (hn1:1≤n):∃ d l',Ev (fun k=>aA.j3 k x3 x5 dn l) (d,l')∧gu (n+4) l':=by
  have h8:=h3.1
  have hle:=hl.len
  have h2:=hl.two
  by_cases c0:Int.tmod (rd x3 3) 4=0
  · have hb1:(bR l 1).f1.length≤n:=by
      obtain ⟨m,b,r,e⟩:=hl.head
      have:bR l 1=b:=by rw [e];rfl
      rw [this]
      exact (hl.each b (by rw [e];simp)).2
    have hk:0≤rd x3 4∧rd x3 4≤255:=h3.2 4
    obtain ⟨s1,e1,z1⟩:=iM (Int.tmod (rd x3 4) 9) (by have:=il hk.1 (b:=9) (by decide);omega) (by have:=il hk.1 (b:=9) (by decide);omega)
    have hk':0≤rd x3 4∧rd x3 4≤255:=hk
    have hw:wrap64 (rd x3 4 - 100)=rd x3 4 - 100:=by unfold wrap64;omega
    obtain ⟨s2,e2,z2⟩:=iM (rd x3 4 - 100) (by omega) (by omega)
    have hl1:=hl.set1 ((bR l 1).f1++[(⟨#[112,111,115,105,120]⟩:ByteArray)]) (by rw [List.length_append];simp;omega)
    have hl2:=(hl1.snoc (⟨(⟨#[117,105,100]⟩:ByteArray),(([(⟨#[117]⟩:ByteArray)++s1]:List ByteArray))⟩:S45) (by simp [gL]) (show 1≤_ by omega)).snoc (⟨(⟨#[117,105,100,78,117,109,98,101,114]⟩:ByteArray),(([s2]:List ByteArray))⟩:S45) (by simp [gL]) (show 1≤_ by omega)
    obtain ⟨d,l',hd,hm⟩:=uU h3 x5 dn hx hl2 (by omega)
    rw [List.append_assoc] at hd
    refine ⟨d,l',Ev.step (fun k=>by rw [aA.j3]) (Ev.ifp (by omega) (Ev.ifp c0 (Ev.ifp (by omega) (Ev.ifp (by omega) ?_)))),hm⟩
    refine Ev.bs (Ev.ifp (by omega) ?_)
    rw [e1,hw,e2]
    refine Ev.bs (Ev.ifp (by omega) (Ev.bs (Ev.bs (Ev.ifp ?_ hd))))
    have:=hl1.len
    show _+2 < 3518437208883
    omega
  · obtain ⟨d,l',hd,hm⟩:=uU h3 x5 dn hx hl (by omega)
    exact ⟨d,l',Ev.step (fun k=>by rw [aA.j3]) (Ev.ifp (by omega) (Ev.ifn c0 hd)),hm.le (by omega)⟩
theorem vD {x3:List Int} (h3:nz x3) (x5 dn:ByteArray) (hx:x5.size≤100) {n:Nat} {l:List S45} (hl:gu n l) (hn:n≤40) (hn1:1≤n):∃ d l',Ev (fun k=>aA.j2 k x3 x5 dn l) (d,l')∧gu (n+5) l':=by
  have h8:=h3.1
  have hle:=hl.len
  by_cases c1:Int.tmod (rd x3 1) 3=1
  · have hk:0≤rd x3 2∧rd x3 2≤255:=h3.2 2
    obtain ⟨s1,e1,z1⟩:=iM (Int.tmod (rd x3 2) 9) (by have:=il hk.1 (b:=9) (by decide);omega) (by have:=il hk.1 (b:=9) (by decide);omega)
    obtain ⟨d,l',hd,hm⟩:=vC h3 x5 dn hx (hl.snoc (⟨(⟨#[68,101,115,99,114,105,112,116,105,111,110]⟩:ByteArray),(([(⟨#[100,32]⟩:ByteArray)++s1,(⟨#[101]⟩:ByteArray)]:List ByteArray))⟩:S45) (by simp [gL]) (show 2≤_ by omega)) (by omega) (by omega)
    refine ⟨d,l',Ev.step (fun k=>by rw [aA.j2]) (Ev.ifp (by omega) (Ev.ifp c1 (Ev.ifp (by omega) ?_))),hm⟩
    rw [e1]
    exact Ev.bs (Ev.ifp (by omega) (Ev.ifp (by omega) hd))
  · obtain ⟨d,l',hd,hm⟩:=vC h3 x5 dn hx hl (by omega) (by omega)
    exact ⟨d,l',Ev.step (fun k=>by rw [aA.j2]) (Ev.ifp (by omega) (Ev.ifn c1 hd)),hm.le (by omega)⟩
theorem vz {x3:List Int} (h3:nz x3):∃ d l',Ev (fun k=>aA.j1 k x3) (d,l')∧gu 20 l':=by
  have h8:=h3.1
  have hk0:0≤rd x3 0∧rd x3 0≤255:=h3.2 0
  have hk2:0≤rd x3 2∧rd x3 2≤255:=h3.2 2
  obtain ⟨s0,e0,z0⟩:=iM (Int.tmod (rd x3 0) 6) (by have:=il hk0.1 (b:=6) (by decide);omega) (by have:=il hk0.1 (b:=6) (by decide);omega)
  obtain ⟨s2,e2,z2⟩:=iM (rd x3 2) (by omega) (by omega)
  have zn:((⟨#[110]⟩:ByteArray)++s0).size≤20:=by rw [ByteArray.size_append];have:(⟨#[110]⟩:ByteArray).size=1:=rfl;omega
  have hp:cK.f ((⟨#[110]⟩:ByteArray)++s0)=some ((((⟨#[99,110,61]⟩:ByteArray)++((⟨#[110]⟩:ByteArray)++s0))++(⟨#[44,111,61,120]⟩:ByteArray)),([(⟨(⟨#[99,110]⟩:ByteArray),(([((⟨#[110]⟩:ByteArray)++s0)]:List ByteArray))⟩:S45),(⟨(⟨#[111,98,106,101,99,116,99,108,97,115,115]⟩:ByteArray),(([(⟨#[112,101,114,115,111,110]⟩:ByteArray)]:List ByteArray))⟩:S45),(⟨(⟨#[115,110]⟩:ByteArray),(([(⟨#[115]⟩:ByteArray)]:List ByteArray))⟩:S45)])):=by
    unfold cK.f
    rw [if_pos (by omega),if_pos (by rw [ByteArray.size_append];have:(⟨#[99,110,61]⟩:ByteArray).size=3:=rfl;omega)]
  have hb:∀ vs:List ByteArray,vs.length≤5→gu 5 ([(⟨(⟨#[99,110]⟩:ByteArray),(([((⟨#[110]⟩:ByteArray)++s0)]:List ByteArray))⟩:S45),(⟨(⟨#[111,98,106,101,99,116,99,108,97,115,115]⟩:ByteArray),vs⟩:S45),(⟨(⟨#[115,110]⟩:ByteArray),(([(⟨#[115]⟩:ByteArray)]:List ByteArray))⟩:S45)]):=fun vs hv=>⟨⟨_,_,_,rfl⟩,show 3≤5 by decide,fun a ha=>by
    rcases List.mem_cons.1 ha with h|ha
    · rw [h];exact ⟨by simp [gL],by show 1≤5;decide⟩
    rcases List.mem_cons.1 ha with h|ha
    · rw [h];exact ⟨by simp [gL],hv⟩
    rcases List.mem_cons.1 ha with h|ha
    · rw [h];exact ⟨by simp [gL],by show 1≤5;decide⟩
    · cases ha⟩
  by_cases c0:Int.tmod (rd x3 1) 3=0
  · obtain ⟨d,l',hd,hm⟩:=vD h3 ((⟨#[110]⟩:ByteArray)++s0) (((⟨#[99,110,61]⟩:ByteArray)++((⟨#[110]⟩:ByteArray)++s0))++(⟨#[44,111,61,120]⟩:ByteArray)) (by omega) ((hb [(⟨#[105,110,101,116,79,114,103,80,101,114,115,111,110]⟩:ByteArray)] (by decide)).snoc (⟨(⟨#[109,97,105,108]⟩:ByteArray),(([(⟨#[97,64]⟩:ByteArray)++s2]:List ByteArray))⟩:S45) (by simp [gL]) (show 1≤6 by decide)) (by decide) (by decide)
    refine ⟨d,l',Ev.step (fun k=>by rw [aA.j1]) (Ev.ifp (by omega) ?_),hm.le (by decide)⟩
    rw [e0]
    refine Ev.bs (Ev.ifp (by omega) ?_)
    rw [hp]
    refine Ev.bs (Ev.ifp (by omega) (Ev.ifp c0 (Ev.ifp (show (1:Int) < 3 by decide) (Ev.bs (Ev.ifp (by omega) ?_)))))
    rw [e2]
    exact Ev.bs (Ev.ifp (by omega) (Ev.ifp (show (3:Nat) < 3518437208883 by decide) hd))
  · obtain ⟨d,l',hd,hm⟩:=vD h3 ((⟨#[110]⟩:ByteArray)++s0) (((⟨#[99,110,61]⟩:ByteArray)++((⟨#[110]⟩:ByteArray)++s0))++(⟨#[44,111,61,120]⟩:ByteArray)) (by omega) (hb [(⟨#[112,101,114,115,111,110]⟩:ByteArray)] (by decide)) (by decide) (by decide)
    refine ⟨d,l',Ev.step (fun k=>by rw [aA.j1]) (Ev.ifp (by omega) ?_),hm.le (by decide)⟩
    rw [e0]
    refine Ev.bs (Ev.ifp (by omega) ?_)
    rw [hp]
    exact Ev.bs (Ev.ifp (by omega) (Ev.ifn c0 hd))
theorem Aq (l:List Int) (j i:Nat) (v:Int):rd (l.set j v) (i:Int)=if i=j∧j < l.length then v else rd l (i:Int):=by
  unfold rd
  rw [Int.toNat_natCast,List.getD_eq_getElem?_getD,List.getD_eq_getElem?_getD,List.getElem?_set]
  by_cases h:j=i
  · subst h
    by_cases hl:j < l.length
    · rw [if_pos rfl,if_pos hl,if_pos ⟨rfl,hl⟩];rfl
    · rw [if_pos rfl,if_neg hl,if_neg (fun hh=>hl hh.2),List.getElem?_eq_none (by omega)]
  · rw [if_neg h,if_neg (fun hh=>h hh.1.symm)]
theorem wz (x0:List Int) (h0:∀ i:Nat,0≤rd x0 (i:Int)∧rd x0 (i:Int)≤255):∀ (n i:Nat),8 - i=n→i≤8→∀ x3:List Int,nz x3→∃ d l',Ev (fun k=>aA.l0 k x0 x3 (i:Int)) (d,l')∧gu 20 l':=by
  intro n
  induction n with
  | zero =>
    intro i hn hi x3 h3
    obtain ⟨d,l',hd,hm⟩:=vz h3
    exact ⟨d,l',Ev.step (fun k=>by rw [aA.l0]) (Ev.ifn (by omega) hd),hm⟩
  | succ n ih =>
    intro i hn hi x3 h3
    by_cases hx:(i:Int) < (x0.length:Int)
    · have hb:=h0 i
      have hw:wrap64 (rd x0 (i:Int))=rd x0 (i:Int):=by unfold wrap64;omega
      have hw2:wrap64 ((i:Int)+1)=((i+1:Nat):Int):=by unfold wrap64;omega
      have h8:=h3.1
      obtain ⟨d,l',hd,hm⟩:=ih (i+1) (by omega) (by omega) (x3.set i (rd x0 (i:Int))) ⟨by rw [List.length_set];exact h8,fun j=>by
        rw [Aq]
        split
        · exact hb
        · exact h3.2 j⟩
      rw [← hw2] at hd
      refine ⟨d,l',Ev.step (fun k=>by rw [aA.l0]) (Ev.ifp (by omega) (Ev.ifp hx (Ev.ifp (by omega) (Ev.ifp (by omega) ?_)))),hm⟩
      rw [hw,Int.toNat_natCast]
      exact hd
    · obtain ⟨d,l',hd,hm⟩:=vz h3
      exact ⟨d,l',Ev.step (fun k=>by rw [aA.l0]) (Ev.ifp (by omega) (Ev.ifn hx hd)),hm⟩
theorem yV (x0:List Int) (h0:∀ i:Nat,0≤rd x0 (i:Int)∧rd x0 (i:Int)≤255):∃ d l',Ev (fun k=>aA.f k x0) (d,l')∧gu 20 l':=by
  obtain ⟨d,l',hd,hm⟩:=wz x0 h0 8 0 rfl (by decide) (List.replicate 8 0) ⟨rfl,fun i=>by
    have:rd (List.replicate 8 0) (i:Int)=0:=by
      unfold rd
      rw [Int.toNat_natCast,List.getD_eq_getElem?_getD,List.getElem?_replicate]
      split <;> rfl
    rw [this]
    decide⟩
  refine ⟨d,l',?_,hm⟩
  unfold aA.f
  exact Ev.ifp (by decide) hd
theorem tZ {n:Nat} {l:List S45} (h:gu n l) (hn:n≤1000):lC l:=by
  refine ⟨by have:=h.len;omega,fun i hi=>?_⟩
  have hm:bR l (i:Int) ∈ l:=by
    unfold bR
    rw [Int.toNat_natCast,List.getD_eq_getElem?_getD,List.getElem?_eq_getElem hi]
    exact List.getElem_mem hi
  have h1:=h.each _ hm
  refine ⟨?_,by omega⟩
  have:∀ t ∈ gL,t.size≤1000:=by decide
  exact this _ h1.1
end Go.Proofs.YthfpaoacjpjnfaaGreatDoor.P

namespace Go.Proofs.YthfpaoacjpjnfaaGreatDoor.P
open Go.RowKit Go.Proofs.YthfpaoacjpjnfaaGreatDoorW.PrintWords Go.Proofs.YthfpaoacjpjnfaaGreatDoorW.PrintLast Go.Proofs.YthfpaoacjpjnfaaGreatDoorW.PrintMore
attribute [local go_sem] eB eu fB fC dR dQ ed eD
def aT.f (k:Nat)  : Option (Bool):=(bC.f k 1 (⟨#[]⟩:ByteArray) (⟨#[]⟩:ByteArray) ([]:List ByteArray) ([]:List (S25)) (⟨#[]⟩:ByteArray) ([]:List (S45))).bind fun t407=>(if t407=1 then ((cK.f (⟨#[97,110,110]⟩:ByteArray)).bind fun bt408=>((bC.f k 4 (⟨#[99,110]⟩:ByteArray) (⟨#[65,78,78]⟩:ByteArray) ([]:List ByteArray) ([]:List (S25)) bt408.1 bt408.2).bind fun t412=>(some (t412 == 1)))) else (some false))
set_option maxHeartbeats 8000000 in
set_option maxRecDepth 100000 in
theorem aT.calls (k:Nat)  (r:Bool) (w:World) (hG:Gl w) (h:aT.f k  = some r) :
  Calls Tryz.prog 15 #[] w fun e w'=>e=.returned (.bool r)∧Below w.heap.size w w':=by
 have hu25:=Tryz.underlying25
 have hu28:=Tryz.underlying28
 have HB:=ae.mk (Below.refl w.heap.size w)
 have HG:=ae.mk hG
 clear hG
 have H:((bC.f k 1 (⟨#[]⟩:ByteArray) (⟨#[]⟩:ByteArray) ([]:List ByteArray) ([]:List (S25)) (⟨#[]⟩:ByteArray) ([]:List (S45))).bind fun t407=>(if t407=1 then ((cK.f (⟨#[97,110,110]⟩:ByteArray)).bind fun bt408=>((bC.f k 4 (⟨#[99,110]⟩:ByteArray) (⟨#[65,78,78]⟩:ByteArray) ([]:List ByteArray) ([]:List (S25)) bt408.1 bt408.2).bind fun t412=>(some (t412 == 1)))) else (some false)))=some r:=h
 clear h
 replace H:=Option.bind_eq_some_iff.mp H
 obtain ⟨t407,A10,H⟩:=H
 replace H:(if t407=1 then ((cK.f (⟨#[97,110,110]⟩:ByteArray)).bind fun bt408=>((bC.f k 4 (⟨#[99,110]⟩:ByteArray) (⟨#[65,78,78]⟩:ByteArray) ([]:List ByteArray) ([]:List (S25)) bt408.1 bt408.2).bind fun t412=>(some (t412 == 1)))) else (some false))=some r:=H
 have A1:=ae.mk A10
 clear A10
 by_cases c2:t407=1
 ·rw [if_pos c2] at H
  have c2b0:(t407 == 1)=true:=beq_iff_eq.mpr c2
  have c2b1:(t407 != 1)=false:=bne_eq_false_iff_eq.mpr c2
  clear c2
  replace H:=Option.bind_eq_some_iff.mp H
  obtain ⟨⟨t408,t409⟩,A30,H⟩:=H
  replace H:((bC.f k 4 (⟨#[99,110]⟩:ByteArray) (⟨#[65,78,78]⟩:ByteArray) ([]:List ByteArray) ([]:List (S25)) t408 t409).bind fun t412=>(some (t412 == 1)))=some r:=H
  have A3:=ae.mk A30
  clear A30
  replace H:=Option.bind_eq_some_iff.mp H
  obtain ⟨t412,A40,H⟩:=H
  replace H:(some (t412 == 1))=some r:=H
  have A4:=ae.mk A40
  clear A40
  obtain rfl:=Option.some.inj H
  go_enter Tryz.func15,Tryz.ntmps15
  go_wp2_with (first|((with_reducible refine aI (f:=13) rfl ?_);refine bn (some 3) rfl rfl Tryz.func13 (by kernel_rfl) rfl #[.agg #[.int .i64 1,.string (⟨#[]⟩:ByteArray),.string (⟨#[]⟩:ByteArray),.slice none 0 0,.slice none 0 0],.agg #[.string (⟨#[]⟩:ByteArray),.slice none 0 0]] rfl (by (try simp only [List.map_toArray,List.map_cons,List.map_nil]);first|done|rfl|(simp only [List.length_drop,List.length_take];rfl)) ?_;(refine (bC.calls k 1 (⟨#[]⟩:ByteArray) (⟨#[]⟩:ByteArray) _ _ ([]:List ByteArray) _ _ ([]:List (S25)) (⟨#[]⟩:ByteArray) _ _ ([]:List (S45)) t407 _ ?side1 ?side2 ?side3 ?side4 ?side5 ?side6 ?side7 A1.out).mono ?_);(case side1=>exact Kd.gp _ _);(case side2=>exact Nat.le_refl _);(case side3=>exact Kd.gp _ _);(case side4=>exact Nat.le_refl _);(case side5=>exact Kd.gp _ _);(case side6=>exact Nat.le_refl _);(case side7=>first|exact HG.out|exact Gl.drewN HG.out _|exact Gl.below HG.out (by repeat (first|(with_reducible first|exact HB.out|apply af|apply aa|apply ag)|exact HB.out)));rintro e w5 ⟨rfl,hb⟩;refine ⟨_,rfl,?_⟩;have n0_:=ae.mk (az (by repeat (first|(with_reducible first|exact HB.out|apply af|apply aa|apply ag)|exact HB.out)) hb);clear HB;have HB:=n0_;clear n0_;(try clear hb);(try clear hb2);(try clear hk);(try clear hi))|(go_at_call 29;(with_reducible refine (cK.calls (⟨#[97,110,110]⟩:ByteArray) t408 t409 _ A3.out).mono ?_);rintro e w6 ⟨v410,rfl,ho0,hb⟩;have n0_:=ae.mk (Kd.jF (Kd.cZ (ok':=fun k_=>True) ho0 (fun k_ hk_=>trivial)) (aC (by repeat (first|(with_reducible first|exact HB.out|apply af|apply aa|apply ag)|exact HB.out))));have n1_:=ae.mk (az (by repeat (first|(with_reducible first|exact HB.out|apply af|apply aa|apply ag)|exact HB.out)) hb);clear HB;have HO411:=n0_;have HB:=n1_;clear n0_ n1_;(try clear hb);(try clear hb2);(try clear hk);(try clear hi);(try clear ho0);obtain ⟨Ao7,co7,eo7⟩:=Kd.gz HO411.out;subst eo7)|(go_at_call 13;(refine (bC.calls k 4 (⟨#[99,110]⟩:ByteArray) (⟨#[65,78,78]⟩:ByteArray) _ _ ([]:List ByteArray) _ _ ([]:List (S25)) t408 _ _ t409 t412 _ ?side1 ?side2 ?side3 ?side4 ?side5 ?side6 ?side7 A4.out).mono ?_);(case side1=>exact Kd.gp _ _);(case side2=>exact Nat.le_refl _);(case side3=>exact Kd.gp _ _);(case side4=>exact Nat.le_refl _);(case side5=>repeat (first|exact (Kd.dw HO411.out).2.2|(with_reducible refine Kd.bV ?_ _)|(with_reducible refine Kd.bX ?_ _)|(with_reducible refine Kd.dm ?_)));(case side6=>exact (Kd.dw HO411.out).2.1);(case side7=>first|exact HG.out|exact Gl.drewN HG.out _|exact Gl.below HG.out (by repeat (first|(with_reducible first|exact HB.out|apply af|apply aa|apply ag)|exact HB.out)));rintro e w8 ⟨rfl,hb⟩;have n0_:=ae.mk (Kd.dD (by (with_reducible repeat (first|apply Kd.bz|apply Kd.bq|apply Kd.bF));exact HO411.out) hb);have n1_:=ae.mk (az (by repeat (first|(with_reducible first|exact HB.out|apply af|apply aa|apply ag)|exact HB.out)) hb);clear HO411;clear HB;have HO411:=n0_;have HB:=n1_;clear n0_ n1_;(try clear hb);(try clear hb2);(try clear hk);(try clear hi)))
  go_ret
  exact ⟨by first|rfl|(simp [aJ,aK] <;> rfl)|(simp [*,aJ,aK] <;> rfl),by repeat (first|(with_reducible first|exact HB.out|apply af|apply aa|apply ag)|exact HB.out)⟩
 ·rw [if_neg c2] at H
  have c2b0:(t407 == 1)=false:=beq_eq_false_iff_ne.mpr c2
  have c2b1:(t407 != 1)=true:=bne_iff_ne.mpr c2
  obtain rfl:=Option.some.inj H
  go_enter Tryz.func15,Tryz.ntmps15
  go_wp2_with (first|((with_reducible refine aI (f:=13) rfl ?_);refine bn (some 3) rfl rfl Tryz.func13 (by kernel_rfl) rfl #[.agg #[.int .i64 1,.string (⟨#[]⟩:ByteArray),.string (⟨#[]⟩:ByteArray),.slice none 0 0,.slice none 0 0],.agg #[.string (⟨#[]⟩:ByteArray),.slice none 0 0]] rfl (by (try simp only [List.map_toArray,List.map_cons,List.map_nil]);first|done|rfl|(simp only [List.length_drop,List.length_take];rfl)) ?_;(refine (bC.calls k 1 (⟨#[]⟩:ByteArray) (⟨#[]⟩:ByteArray) _ _ ([]:List ByteArray) _ _ ([]:List (S25)) (⟨#[]⟩:ByteArray) _ _ ([]:List (S45)) t407 _ ?side1 ?side2 ?side3 ?side4 ?side5 ?side6 ?side7 A1.out).mono ?_);(case side1=>exact Kd.gp _ _);(case side2=>exact Nat.le_refl _);(case side3=>exact Kd.gp _ _);(case side4=>exact Nat.le_refl _);(case side5=>exact Kd.gp _ _);(case side6=>exact Nat.le_refl _);(case side7=>first|exact HG.out|exact Gl.drewN HG.out _|exact Gl.below HG.out (by repeat (first|(with_reducible first|exact HB.out|apply af|apply aa|apply ag)|exact HB.out)));rintro e w9 ⟨rfl,hb⟩;refine ⟨_,rfl,?_⟩;have n0_:=ae.mk (az (by repeat (first|(with_reducible first|exact HB.out|apply af|apply aa|apply ag)|exact HB.out)) hb);clear HB;have HB:=n0_;clear n0_;(try clear hb);(try clear hb2);(try clear hk);(try clear hi)))
  go_ret
  exact ⟨by first|rfl|(simp [aJ,aK] <;> rfl)|(simp [*,aJ,aK] <;> rfl),by repeat (first|(with_reducible first|exact HB.out|apply af|apply aa|apply ag)|exact HB.out)⟩
end Go.Proofs.YthfpaoacjpjnfaaGreatDoor.P


namespace Go.Proofs.YthfpaoacjpjnfaaGreatDoor.P
open Go.RowKit Go.Proofs.YthfpaoacjpjnfaaGreatDoorW.PrintWords Go.Proofs.YthfpaoacjpjnfaaGreatDoorW.PrintLast Go.Proofs.YthfpaoacjpjnfaaGreatDoorW.PrintMore
theorem mW (a:Int):Ev (fun k=>bi.f k [] a) false:=by
  unfold bi.f aV.f
  refine Ev.bind (a:=-1) (Ev.step (fun k=>by rw [aV.l0]) (Ev.ifn (c:=(0:Int) < (([]:List Int).length:Int)) (by decide) (Ev.now _))) (Ev.now _)
theorem si (a0:ByteArray) (l1:List S45):Ev (fun k=>bC.f k 1 (⟨#[]⟩:ByteArray) (⟨#[]⟩:ByteArray) [] [] a0 l1) 1:=by
  unfold bC.f
  have hm:fw.f 1 (⟨#[]⟩:ByteArray) (⟨#[]⟩:ByteArray) [] []=some true:=by
    unfold fw.f
    rw [if_pos (show szF 12 ⟨1,⟨#[]⟩,⟨#[]⟩,[],[]⟩ from ⟨fun i hi=>absurd hi (Nat.not_lt_zero _),fun x hx=>by cases hx⟩)]
    congr 1
    unfold kC dC mU
    dsimp only
    rw [if_pos (.inl rfl)]
    decide +kernel
  rw [hm]
  refine Ev.bs (Ev.congr (fun k=>if_pos rfl) ?_)
  suffices h:Ev (fun k=>bQ.f k 1 (⟨#[]⟩:ByteArray) (⟨#[]⟩:ByteArray) [] [] a0 l1) 1 from h.bind (Ev.now _)
  refine Ev.step (fun k=>by rw [bQ.f]) (Ev.step (fun k=>by rw [bQ.l0]) ?_)
  refine Ev.ifn (c:=(0:Int) < (([]:List S25).length:Int)) (by decide) (Ev.ifp (c:=(1:Int)=1) rfl ?_)
  unfold gP.f
  refine Ev.bind (a:=1) ((mW 0).bind (Ev.congr (fun k=>if_neg (by decide)) ((mW 2).bind (Ev.congr (fun k=>if_neg (by decide)) (Ev.now _))))) (Ev.now _)
theorem qA:Ev (fun k=>aT.f k) true:=by
  unfold aT.f
  refine (si (⟨#[]⟩:ByteArray) []).bind (Ev.congr (fun k=>if_pos rfl) ?_)
  have hp:cK.f (⟨#[97,110,110]⟩:ByteArray)=some ((((⟨#[99,110,61]⟩:ByteArray)++⟨#[97,110,110]⟩)++(⟨#[44,111,61,120]⟩:ByteArray)),([(⟨(⟨#[99,110]⟩:ByteArray),(([(⟨#[97,110,110]⟩:ByteArray)]:List ByteArray))⟩:S45),(⟨(⟨#[111,98,106,101,99,116,99,108,97,115,115]⟩:ByteArray),(([(⟨#[112,101,114,115,111,110]⟩:ByteArray)]:List ByteArray))⟩:S45),(⟨(⟨#[115,110]⟩:ByteArray),(([(⟨#[115]⟩:ByteArray)]:List ByteArray))⟩:S45)])):=by
    unfold cK.f
    rw [if_pos (by decide),if_pos (by decide)]
  rw [hp]
  refine Ev.bs ?_
  have h:=vR 4 (⟨#[99,110]⟩:ByteArray) (⟨#[65,78,78]⟩:ByteArray) (((⟨#[99,110,61]⟩:ByteArray)++⟨#[97,110,110]⟩)++(⟨#[44,111,61,120]⟩:ByteArray)) ([(⟨(⟨#[99,110]⟩:ByteArray),(([(⟨#[97,110,110]⟩:ByteArray)]:List ByteArray))⟩:S45),(⟨(⟨#[111,98,106,101,99,116,99,108,97,115,115]⟩:ByteArray),(([(⟨#[112,101,114,115,111,110]⟩:ByteArray)]:List ByteArray))⟩:S45),(⟨(⟨#[115,110]⟩:ByteArray),(([(⟨#[115]⟩:ByteArray)]:List ByteArray))⟩:S45)]) [(⟨#[97,110,110]⟩:ByteArray)] (.inl rfl) (by decide +kernel) (by decide) (by decide) (by decide +kernel) (by decide +kernel) (by decide)
  rw [show ol 4 (⟨#[99,110]⟩:ByteArray) (⟨#[65,78,78]⟩:ByteArray) [(⟨#[97,110,110]⟩:ByteArray)]=1 by decide +kernel] at h
  exact h.bind (Ev.now _)
end Go.Proofs.YthfpaoacjpjnfaaGreatDoor.P

namespace Go.Proofs.YthfpaoacjpjnfaaGreatDoor.P
open Go.RowKit Go.Proofs.YthfpaoacjpjnfaaGreatDoorW.PrintWords Go.Proofs.YthfpaoacjpjnfaaGreatDoorW.PrintLast Go.Proofs.YthfpaoacjpjnfaaGreatDoorW.PrintMore
attribute [local go_sem] eB eu fB fC dR dQ ed eD
def bK.f (k:Nat) (l0:List Int) (a1:Int) (a2:Int) (a3:ByteArray):Option (Bool):=if (a3.size:Int) > 60 then ((aT.f k).bind fun t790=>(some t790)) else ((aA.f k l0).bind fun bt791=>((some (([(⟨#[99,110]⟩:ByteArray),(⟨#[115,110]⟩:ByteArray),(⟨#[109,97,105,108]⟩:ByteArray),(⟨#[100,101,115,99,114,105,112,116,105,111,110]⟩:ByteArray),(⟨#[117,105,100]⟩:ByteArray),(⟨#[117,105,100,110,117,109,98,101,114]⟩:ByteArray),(⟨#[111,98,106,101,99,116,99,108,97,115,115]⟩:ByteArray),(⟨#[111]⟩:ByteArray)]:List ByteArray):List ByteArray)).bind fun y796=>(if 0≤(Int.tmod a1 8) then (if (Int.tmod a1 8) < (y796.length:Int) then ((bC.f k 8 (bH ByteArray.empty y796 (Int.tmod a1 8)) (⟨#[]⟩:ByteArray) ([]:List ByteArray) ([]:List (S25)) bt791.1 bt791.2).bind fun t800=>((some (([4,6,7]:List Int):List Int)).bind fun y801=>(if 0≤(Int.tmod a2 3) then (if (Int.tmod a2 3) < (y801.length:Int) then ((bC.f k (rd y801 (Int.tmod a2 3)) (bH ByteArray.empty y796 (Int.tmod a1 8)) a3 ([]:List ByteArray) ([]:List (S25)) bt791.1 bt791.2).bind fun t805=>((bC.f k 5 (bH ByteArray.empty y796 (Int.tmod a1 8)) (⟨#[]⟩:ByteArray) (([a3,(⟨#[120]⟩:ByteArray)]:List ByteArray)) ([]:List (S25)) bt791.1 bt791.2).bind fun t809=>((cz.f k bt791.1 bt791.2 (bH ByteArray.empty y796 (Int.tmod a1 8))).bind fun t810=>(if ((t800 == 1) == (decide ((t810.length:Int) > 0)))=true then (if t805=1 then (if t800=1 then (if t809=1 then (if t800=2 then (some false) else ((aT.f k).bind fun t813=>(some t813))) else (if t800=2 then (some false) else ((aT.f k).bind fun t814=>(some t814)))) else (some false)) else (if t809=1 then (if t800=1 then (if t800=2 then (some false) else ((aT.f k).bind fun t815=>(some t815))) else (some false)) else (if t800=2 then (some false) else ((aT.f k).bind fun t816=>(some t816))))) else (some false))))) else (none)) else (none)))) else (none)) else (none))))
def bK.T6:Bool × List (List Nat × List Nat):=(true,[([],[]),([],[]),([1],[1]),([0,2],[0,2]),([3],[3]),([],[]),([],[]),([4,5,6],[4,5,6]),([],[]),([7,8],[7,8]),([9,9,0,1,2,3,4,5,6,7,8,9],[9])])
def bK.B6:List Nat:=[0,0,2,7,15,0,0,127,0,511,1023]
theorem bK.tab6:iV .any (opsOf Tryz.f10 6)=bK.T6:=by kernel_rfl
theorem bK.bits6:iZ bK.T6.2 bK.B6=true:=by kernel_rfl
set_option maxHeartbeats 8000000 in
set_option maxRecDepth 100000 in
theorem bK.calls (k:Nat) (A0:Option Addr) (c0:Nat) (l0:List Int) (a1:Int) (a2:Int) (a3:ByteArray) (r:Bool) (w:World) (hr0:Kd.C (Kd.int .u8) w A0 l0.length l0) (hc0:l0.length≤c0) (hG:Gl w) (h:bK.f k l0 a1 a2 a3=some r) (hr:r=true:=by rfl) :
  Calls Tryz.prog 10 #[.slice A0 l0.length c0,.int .u8 a1,.int .u8 a2,.string a3] w fun e w'=>e=.returned (.bool r)∧Below w.heap.size w w':=by
 have HRT:=ae.mk hr
 clear hr
 have hu28:=Tryz.underlying28
 have hu25:=Tryz.underlying25
 have HR0:=ae.mk hr0
 have HC0:=ae.mk hc0
 clear hr0 hc0
 have HB:=ae.mk (Below.refl w.heap.size w)
 have HG:=ae.mk hG
 clear hG
 have H:(if (a3.size:Int) > 60 then ((aT.f k).bind fun t790=>(some t790)) else ((aA.f k l0).bind fun bt791=>((some (([(⟨#[99,110]⟩:ByteArray),(⟨#[115,110]⟩:ByteArray),(⟨#[109,97,105,108]⟩:ByteArray),(⟨#[100,101,115,99,114,105,112,116,105,111,110]⟩:ByteArray),(⟨#[117,105,100]⟩:ByteArray),(⟨#[117,105,100,110,117,109,98,101,114]⟩:ByteArray),(⟨#[111,98,106,101,99,116,99,108,97,115,115]⟩:ByteArray),(⟨#[111]⟩:ByteArray)]:List ByteArray):List ByteArray)).bind fun y796=>(if 0≤(Int.tmod a1 8) then (if (Int.tmod a1 8) < (y796.length:Int) then ((bC.f k 8 (bH ByteArray.empty y796 (Int.tmod a1 8)) (⟨#[]⟩:ByteArray) ([]:List ByteArray) ([]:List (S25)) bt791.1 bt791.2).bind fun t800=>((some (([4,6,7]:List Int):List Int)).bind fun y801=>(if 0≤(Int.tmod a2 3) then (if (Int.tmod a2 3) < (y801.length:Int) then ((bC.f k (rd y801 (Int.tmod a2 3)) (bH ByteArray.empty y796 (Int.tmod a1 8)) a3 ([]:List ByteArray) ([]:List (S25)) bt791.1 bt791.2).bind fun t805=>((bC.f k 5 (bH ByteArray.empty y796 (Int.tmod a1 8)) (⟨#[]⟩:ByteArray) (([a3,(⟨#[120]⟩:ByteArray)]:List ByteArray)) ([]:List (S25)) bt791.1 bt791.2).bind fun t809=>((cz.f k bt791.1 bt791.2 (bH ByteArray.empty y796 (Int.tmod a1 8))).bind fun t810=>(if ((t800 == 1) == (decide ((t810.length:Int) > 0)))=true then (if t805=1 then (if t800=1 then (if t809=1 then (if t800=2 then (some false) else ((aT.f k).bind fun t813=>(some t813))) else (if t800=2 then (some false) else ((aT.f k).bind fun t814=>(some t814)))) else (some false)) else (if t809=1 then (if t800=1 then (if t800=2 then (some false) else ((aT.f k).bind fun t815=>(some t815))) else (some false)) else (if t800=2 then (some false) else ((aT.f k).bind fun t816=>(some t816))))) else (some false))))) else (none)) else (none)))) else (none)) else (none)))))=some r:=h
 clear h
 by_cases c5:(a3.size:Int) > 60
 ·rw [if_pos c5] at H
  have c5b0:decide (60 < (a3.size:Int))=true:=decide_eq_true c5
  have c5b1:decide (60 < a3.size)=true:=decide_eq_true (by omega)
  clear c5
  replace H:=Option.bind_eq_some_iff.mp H
  obtain ⟨t790,A60,H⟩:=H
  replace H:(some t790)=some r:=H
  have A6:=ae.mk A60
  clear A60
  obtain rfl:=Option.some.inj H
  go_enter Tryz.func10,Tryz.ntmps10
  go_wp2_with (first|((with_reducible refine aI (f:=15) rfl ?_);refine bn (some 17) rfl rfl Tryz.func15 (by kernel_rfl) rfl #[] rfl (by (try simp only [List.map_toArray,List.map_cons,List.map_nil]);first|done|rfl|(simp only [List.length_drop,List.length_take];rfl)) ?_;(with_reducible refine (aT.calls k  t790 _ ?side1 A6.out).mono ?_);(case side1=>first|exact HG.out|exact Gl.drewN HG.out _|exact Gl.below HG.out (by repeat (first|(with_reducible first|exact HB.out|apply af|apply aa|apply ag)|exact HB.out)));rintro e w7 ⟨rfl,hb⟩;refine ⟨_,rfl,?_⟩;have n0_:=ae.mk (az (by repeat (first|(with_reducible first|exact HB.out|apply af|apply aa|apply ag)|exact HB.out)) hb);clear HB;have HB:=n0_;clear n0_;(try clear hb);(try clear hb2);(try clear hk);(try clear hi)))
  go_ret
  exact ⟨by first|rfl|(simp [aJ,aK] <;> rfl)|(simp [*,aJ,aK] <;> rfl),by repeat (first|(with_reducible first|exact HB.out|apply af|apply aa|apply ag)|exact HB.out)⟩
 ·rw [if_neg c5] at H
  have c5b0:decide (60 < (a3.size:Int))=false:=decide_eq_false c5
  have c5b1:decide (60 < a3.size)=false:=decide_eq_false (by omega)
  clear c5
  replace H:=Option.bind_eq_some_iff.mp H
  obtain ⟨⟨t791,t792⟩,A80,H⟩:=H
  replace H:((some (([(⟨#[99,110]⟩:ByteArray),(⟨#[115,110]⟩:ByteArray),(⟨#[109,97,105,108]⟩:ByteArray),(⟨#[100,101,115,99,114,105,112,116,105,111,110]⟩:ByteArray),(⟨#[117,105,100]⟩:ByteArray),(⟨#[117,105,100,110,117,109,98,101,114]⟩:ByteArray),(⟨#[111,98,106,101,99,116,99,108,97,115,115]⟩:ByteArray),(⟨#[111]⟩:ByteArray)]:List ByteArray):List ByteArray)).bind fun y796=>(if 0≤(Int.tmod a1 8) then (if (Int.tmod a1 8) < (y796.length:Int) then ((bC.f k 8 (bH ByteArray.empty y796 (Int.tmod a1 8)) (⟨#[]⟩:ByteArray) ([]:List ByteArray) ([]:List (S25)) t791 t792).bind fun t800=>((some (([4,6,7]:List Int):List Int)).bind fun y801=>(if 0≤(Int.tmod a2 3) then (if (Int.tmod a2 3) < (y801.length:Int) then ((bC.f k (rd y801 (Int.tmod a2 3)) (bH ByteArray.empty y796 (Int.tmod a1 8)) a3 ([]:List ByteArray) ([]:List (S25)) t791 t792).bind fun t805=>((bC.f k 5 (bH ByteArray.empty y796 (Int.tmod a1 8)) (⟨#[]⟩:ByteArray) (([a3,(⟨#[120]⟩:ByteArray)]:List ByteArray)) ([]:List (S25)) t791 t792).bind fun t809=>((cz.f k t791 t792 (bH ByteArray.empty y796 (Int.tmod a1 8))).bind fun t810=>(if ((t800 == 1) == (decide ((t810.length:Int) > 0)))=true then (if t805=1 then (if t800=1 then (if t809=1 then (if t800=2 then (some false) else ((aT.f k).bind fun t813=>(some t813))) else (if t800=2 then (some false) else ((aT.f k).bind fun t814=>(some t814)))) else (some false)) else (if t809=1 then (if t800=1 then (if t800=2 then (some false) else ((aT.f k).bind fun t815=>(some t815))) else (some false)) else (if t800=2 then (some false) else ((aT.f k).bind fun t816=>(some t816))))) else (some false))))) else (none)) else (none)))) else (none)) else (none)))=some r:=H
  have A8:=ae.mk A80
  clear A80
  obtain ⟨y796,hy796⟩:∃ y_:List ByteArray,y_=(([(⟨#[99,110]⟩:ByteArray),(⟨#[115,110]⟩:ByteArray),(⟨#[109,97,105,108]⟩:ByteArray),(⟨#[100,101,115,99,114,105,112,116,105,111,110]⟩:ByteArray),(⟨#[117,105,100]⟩:ByteArray),(⟨#[117,105,100,110,117,109,98,101,114]⟩:ByteArray),(⟨#[111,98,106,101,99,116,99,108,97,115,115]⟩:ByteArray),(⟨#[111]⟩:ByteArray)]:List ByteArray)):=⟨_,rfl⟩
  replace H:(if 0≤(Int.tmod a1 8) then (if (Int.tmod a1 8) < (y796.length:Int) then ((bC.f k 8 (bH ByteArray.empty y796 (Int.tmod a1 8)) (⟨#[]⟩:ByteArray) ([]:List ByteArray) ([]:List (S25)) t791 t792).bind fun t800=>((some (([4,6,7]:List Int):List Int)).bind fun y801=>(if 0≤(Int.tmod a2 3) then (if (Int.tmod a2 3) < (y801.length:Int) then ((bC.f k (rd y801 (Int.tmod a2 3)) (bH ByteArray.empty y796 (Int.tmod a1 8)) a3 ([]:List ByteArray) ([]:List (S25)) t791 t792).bind fun t805=>((bC.f k 5 (bH ByteArray.empty y796 (Int.tmod a1 8)) (⟨#[]⟩:ByteArray) (([a3,(⟨#[120]⟩:ByteArray)]:List ByteArray)) ([]:List (S25)) t791 t792).bind fun t809=>((cz.f k t791 t792 (bH ByteArray.empty y796 (Int.tmod a1 8))).bind fun t810=>(if ((t800 == 1) == (decide ((t810.length:Int) > 0)))=true then (if t805=1 then (if t800=1 then (if t809=1 then (if t800=2 then (some false) else ((aT.f k).bind fun t813=>(some t813))) else (if t800=2 then (some false) else ((aT.f k).bind fun t814=>(some t814)))) else (some false)) else (if t809=1 then (if t800=1 then (if t800=2 then (some false) else ((aT.f k).bind fun t815=>(some t815))) else (some false)) else (if t800=2 then (some false) else ((aT.f k).bind fun t816=>(some t816))))) else (some false))))) else (none)) else (none)))) else (none)) else (none))=some r:=by first|(rw [hy796];with_reducible exact H)|(have H2_:=(Option.bind_some _ _).symm.trans H;rw [hy796];with_reducible exact H2_)|(have H2_:=(Option.bind_some _ _).symm.trans H;with_reducible exact H2_)|with_reducible exact H|(rw [hy796];exact H)|exact H
  have Ny796:=ae.mk hy796
  clear hy796
  obtain ⟨ji9,hji9⟩:∃ j_:Int,(Int.tmod a1 8)=j_:=⟨_,rfl⟩
  replace H:(if 0≤(ji9) then (if (ji9) < (y796.length:Int) then ((bC.f k 8 (bH ByteArray.empty y796 (ji9)) (⟨#[]⟩:ByteArray) ([]:List ByteArray) ([]:List (S25)) t791 t792).bind fun t800=>((some (([4,6,7]:List Int):List Int)).bind fun y801=>(if 0≤(Int.tmod a2 3) then (if (Int.tmod a2 3) < (y801.length:Int) then ((bC.f k (rd y801 (Int.tmod a2 3)) (bH ByteArray.empty y796 (ji9)) a3 ([]:List ByteArray) ([]:List (S25)) t791 t792).bind fun t805=>((bC.f k 5 (bH ByteArray.empty y796 (ji9)) (⟨#[]⟩:ByteArray) (([a3,(⟨#[120]⟩:ByteArray)]:List ByteArray)) ([]:List (S25)) t791 t792).bind fun t809=>((cz.f k t791 t792 (bH ByteArray.empty y796 (ji9))).bind fun t810=>(if ((t800 == 1) == (decide ((t810.length:Int) > 0)))=true then (if t805=1 then (if t800=1 then (if t809=1 then (if t800=2 then (some false) else ((aT.f k).bind fun t813=>(some t813))) else (if t800=2 then (some false) else ((aT.f k).bind fun t814=>(some t814)))) else (some false)) else (if t809=1 then (if t800=1 then (if t800=2 then (some false) else ((aT.f k).bind fun t815=>(some t815))) else (some false)) else (if t800=2 then (some false) else ((aT.f k).bind fun t816=>(some t816))))) else (some false))))) else (none)) else (none)))) else (none)) else (none))=some r:=by first|(rw [hji9] at H;exact H)|(simp only [hji9] at H ⊢;exact H)
  (try rw [hji9] at A8)
  by_cases c10:0≤(ji9)
  ·rw [if_pos c10] at H
   have c10b0:decide (0≤(ji9))=true:=decide_eq_true c10
   clear c10
   by_cases c11:(ji9) < (y796.length:Int)
   ·rw [if_pos c11] at H
    have c11b0:decide ((ji9) < (y796.length:Int))=true:=decide_eq_true c11
    clear c11
    replace H:=Option.bind_eq_some_iff.mp H
    obtain ⟨t800,A120,H⟩:=H
    replace H:((some (([4,6,7]:List Int):List Int)).bind fun y801=>(if 0≤(Int.tmod a2 3) then (if (Int.tmod a2 3) < (y801.length:Int) then ((bC.f k (rd y801 (Int.tmod a2 3)) (bH ByteArray.empty y796 (ji9)) a3 ([]:List ByteArray) ([]:List (S25)) t791 t792).bind fun t805=>((bC.f k 5 (bH ByteArray.empty y796 (ji9)) (⟨#[]⟩:ByteArray) (([a3,(⟨#[120]⟩:ByteArray)]:List ByteArray)) ([]:List (S25)) t791 t792).bind fun t809=>((cz.f k t791 t792 (bH ByteArray.empty y796 (ji9))).bind fun t810=>(if ((t800 == 1) == (decide ((t810.length:Int) > 0)))=true then (if t805=1 then (if t800=1 then (if t809=1 then (if t800=2 then (some false) else ((aT.f k).bind fun t813=>(some t813))) else (if t800=2 then (some false) else ((aT.f k).bind fun t814=>(some t814)))) else (some false)) else (if t809=1 then (if t800=1 then (if t800=2 then (some false) else ((aT.f k).bind fun t815=>(some t815))) else (some false)) else (if t800=2 then (some false) else ((aT.f k).bind fun t816=>(some t816))))) else (some false))))) else (none)) else (none)))=some r:=H
    have A12:=ae.mk A120
    clear A120
    obtain ⟨y801,hy801⟩:∃ y_:List Int,y_=(([4,6,7]:List Int)):=⟨_,rfl⟩
    replace H:(if 0≤(Int.tmod a2 3) then (if (Int.tmod a2 3) < (y801.length:Int) then ((bC.f k (rd y801 (Int.tmod a2 3)) (bH ByteArray.empty y796 (ji9)) a3 ([]:List ByteArray) ([]:List (S25)) t791 t792).bind fun t805=>((bC.f k 5 (bH ByteArray.empty y796 (ji9)) (⟨#[]⟩:ByteArray) (([a3,(⟨#[120]⟩:ByteArray)]:List ByteArray)) ([]:List (S25)) t791 t792).bind fun t809=>((cz.f k t791 t792 (bH ByteArray.empty y796 (ji9))).bind fun t810=>(if ((t800 == 1) == (decide ((t810.length:Int) > 0)))=true then (if t805=1 then (if t800=1 then (if t809=1 then (if t800=2 then (some false) else ((aT.f k).bind fun t813=>(some t813))) else (if t800=2 then (some false) else ((aT.f k).bind fun t814=>(some t814)))) else (some false)) else (if t809=1 then (if t800=1 then (if t800=2 then (some false) else ((aT.f k).bind fun t815=>(some t815))) else (some false)) else (if t800=2 then (some false) else ((aT.f k).bind fun t816=>(some t816))))) else (some false))))) else (none)) else (none))=some r:=by first|(rw [hy801];with_reducible exact H)|(have H2_:=(Option.bind_some _ _).symm.trans H;rw [hy801];with_reducible exact H2_)|(have H2_:=(Option.bind_some _ _).symm.trans H;with_reducible exact H2_)|with_reducible exact H|(rw [hy801];exact H)|exact H
    have Ny801:=ae.mk hy801
    clear hy801
    obtain ⟨ji13,hji13⟩:∃ j_:Int,(Int.tmod a2 3)=j_:=⟨_,rfl⟩
    replace H:(if 0≤(ji13) then (if (ji13) < (y801.length:Int) then ((bC.f k (rd y801 (ji13)) (bH ByteArray.empty y796 (ji9)) a3 ([]:List ByteArray) ([]:List (S25)) t791 t792).bind fun t805=>((bC.f k 5 (bH ByteArray.empty y796 (ji9)) (⟨#[]⟩:ByteArray) (([a3,(⟨#[120]⟩:ByteArray)]:List ByteArray)) ([]:List (S25)) t791 t792).bind fun t809=>((cz.f k t791 t792 (bH ByteArray.empty y796 (ji9))).bind fun t810=>(if ((t800 == 1) == (decide ((t810.length:Int) > 0)))=true then (if t805=1 then (if t800=1 then (if t809=1 then (if t800=2 then (some false) else ((aT.f k).bind fun t813=>(some t813))) else (if t800=2 then (some false) else ((aT.f k).bind fun t814=>(some t814)))) else (some false)) else (if t809=1 then (if t800=1 then (if t800=2 then (some false) else ((aT.f k).bind fun t815=>(some t815))) else (some false)) else (if t800=2 then (some false) else ((aT.f k).bind fun t816=>(some t816))))) else (some false))))) else (none)) else (none))=some r:=by first|(rw [hji13] at H;exact H)|(simp only [hji13] at H ⊢;exact H)
    (try rw [hji13] at A8)
    (try rw [hji13] at A12)
    by_cases c14:0≤(ji13)
    ·rw [if_pos c14] at H
     have c14b0:decide (0≤(ji13))=true:=decide_eq_true c14
     clear c14
     by_cases c15:(ji13) < (y801.length:Int)
     ·rw [if_pos c15] at H
      have c15b0:decide ((ji13) < (y801.length:Int))=true:=decide_eq_true c15
      clear c15
      replace H:=Option.bind_eq_some_iff.mp H
      obtain ⟨t805,A160,H⟩:=H
      replace H:((bC.f k 5 (bH ByteArray.empty y796 (ji9)) (⟨#[]⟩:ByteArray) (([a3,(⟨#[120]⟩:ByteArray)]:List ByteArray)) ([]:List (S25)) t791 t792).bind fun t809=>((cz.f k t791 t792 (bH ByteArray.empty y796 (ji9))).bind fun t810=>(if ((t800 == 1) == (decide ((t810.length:Int) > 0)))=true then (if t805=1 then (if t800=1 then (if t809=1 then (if t800=2 then (some false) else ((aT.f k).bind fun t813=>(some t813))) else (if t800=2 then (some false) else ((aT.f k).bind fun t814=>(some t814)))) else (some false)) else (if t809=1 then (if t800=1 then (if t800=2 then (some false) else ((aT.f k).bind fun t815=>(some t815))) else (some false)) else (if t800=2 then (some false) else ((aT.f k).bind fun t816=>(some t816))))) else (some false))))=some r:=H
      have A16:=ae.mk A160
      clear A160
      obtain ⟨y806,hy806⟩:∃ y_:List ByteArray,y_=(([a3,(⟨#[120]⟩:ByteArray)]:List ByteArray)):=⟨_,rfl⟩
      replace H:((bC.f k 5 (bH ByteArray.empty y796 (ji9)) (⟨#[]⟩:ByteArray) y806 ([]:List (S25)) t791 t792).bind fun t809=>((cz.f k t791 t792 (bH ByteArray.empty y796 (ji9))).bind fun t810=>(if ((t800 == 1) == (decide ((t810.length:Int) > 0)))=true then (if t805=1 then (if t800=1 then (if t809=1 then (if t800=2 then (some false) else ((aT.f k).bind fun t813=>(some t813))) else (if t800=2 then (some false) else ((aT.f k).bind fun t814=>(some t814)))) else (some false)) else (if t809=1 then (if t800=1 then (if t800=2 then (some false) else ((aT.f k).bind fun t815=>(some t815))) else (some false)) else (if t800=2 then (some false) else ((aT.f k).bind fun t816=>(some t816))))) else (some false))))=some r:=by first|(rw [hy806];with_reducible exact H)|(have H2_:=(Option.bind_some _ _).symm.trans H;rw [hy806];with_reducible exact H2_)|(have H2_:=(Option.bind_some _ _).symm.trans H;with_reducible exact H2_)|with_reducible exact H|(rw [hy806];exact H)|exact H
      have Ny806:=ae.mk hy806
      clear hy806
      replace H:=Option.bind_eq_some_iff.mp H
      obtain ⟨t809,A170,H⟩:=H
      replace H:((cz.f k t791 t792 (bH ByteArray.empty y796 (ji9))).bind fun t810=>(if ((t800 == 1) == (decide ((t810.length:Int) > 0)))=true then (if t805=1 then (if t800=1 then (if t809=1 then (if t800=2 then (some false) else ((aT.f k).bind fun t813=>(some t813))) else (if t800=2 then (some false) else ((aT.f k).bind fun t814=>(some t814)))) else (some false)) else (if t809=1 then (if t800=1 then (if t800=2 then (some false) else ((aT.f k).bind fun t815=>(some t815))) else (some false)) else (if t800=2 then (some false) else ((aT.f k).bind fun t816=>(some t816))))) else (some false)))=some r:=H
      have A17:=ae.mk A170
      clear A170
      replace H:=Option.bind_eq_some_iff.mp H
      obtain ⟨t810,A180,H⟩:=H
      replace H:(if ((t800 == 1) == (decide ((t810.length:Int) > 0)))=true then (if t805=1 then (if t800=1 then (if t809=1 then (if t800=2 then (some false) else ((aT.f k).bind fun t813=>(some t813))) else (if t800=2 then (some false) else ((aT.f k).bind fun t814=>(some t814)))) else (some false)) else (if t809=1 then (if t800=1 then (if t800=2 then (some false) else ((aT.f k).bind fun t815=>(some t815))) else (some false)) else (if t800=2 then (some false) else ((aT.f k).bind fun t816=>(some t816))))) else (some false))=some r:=H
      have A18:=ae.mk A180
      clear A180
      by_cases c19:((t800 == 1) == (decide ((t810.length:Int) > 0)))=true
      ·rw [if_pos c19] at H
       have c19b0:((t800 == 1) == (decide ((t810.length:Int) > 0)))=true:=c19
       (try (have c19b1:decide ((t800 == 1)=(decide ((t810.length:Int) > 0)))=true:=by simpa using c19))
       (try (have c19b2:((t800 == 1) == (decide ((t810.length:Int) > 0)))=true:=by simpa using c19))
       clear c19
       by_cases c20:t805=1
       ·rw [if_pos c20] at H
        have c20b0:(t805 == 1)=true:=beq_iff_eq.mpr c20
        have c20b1:(t805 != 1)=false:=bne_eq_false_iff_eq.mpr c20
        clear c20
        by_cases c21:t800=1
        ·rw [if_pos c21] at H
         have c21b0:(t800 == 1)=true:=beq_iff_eq.mpr c21
         have c21b1:(t800 != 1)=false:=bne_eq_false_iff_eq.mpr c21
         clear c21
         by_cases c22:t809=1
         ·rw [if_pos c22] at H
          have c22b0:(t809 == 1)=true:=beq_iff_eq.mpr c22
          have c22b1:(t809 != 1)=false:=bne_eq_false_iff_eq.mpr c22
          clear c22
          by_cases c23:t800=2
          ·rw [if_pos c23] at H
           have c23b0:(t800 == 2)=true:=beq_iff_eq.mpr c23
           have c23b1:(t800 != 2)=false:=bne_eq_false_iff_eq.mpr c23
           clear c23
           exact absurd ((Option.some.inj H).trans HRT.out) Bool.false_ne_true
          ·rw [if_neg c23] at H
           have c23b0:(t800 == 2)=false:=beq_eq_false_iff_ne.mpr c23
           have c23b1:(t800 != 2)=true:=bne_iff_ne.mpr c23
           replace H:=Option.bind_eq_some_iff.mp H
           obtain ⟨t813,A240,H⟩:=H
           replace H:(some t813)=some r:=H
           have A24:=ae.mk A240
           clear A240
           obtain rfl:=Option.some.inj H
           go_enter Tryz.func10,Tryz.ntmps10
           try go_wp2_with (first|((with_reducible refine aI (f:=17) rfl ?_);refine bn (some 19) rfl rfl Tryz.func17 (by kernel_rfl) rfl #[.slice A0 l0.length c0] rfl (by (try simp only [List.map_toArray,List.map_cons,List.map_nil]);first|done|rfl|(simp only [List.length_drop,List.length_take];rfl)) ?_;(with_reducible refine (aA.calls k _ _ l0 t791 t792 _ ?side1 ?side2 A8.out).mono ?_);(case side1=>repeat (first|exact HR0.out|(with_reducible refine Kd.bV ?_ _)|(with_reducible refine Kd.bX ?_ _)|(with_reducible refine Kd.dm ?_)));(case side2=>exact HC0.out);rintro e w25 ⟨v793,rfl,ho0,hb⟩;refine ⟨_,rfl,?_⟩;have n0_:=ae.mk (Kd.jF (Kd.cZ (ok':=fun k_=>True) (ho0) (fun k_ hk_=>trivial)) (aC (by repeat (first|(with_reducible first|exact HB.out|apply af|apply aa|apply ag)|exact HB.out))));have n1_:=ae.mk (az (by repeat (first|(with_reducible first|exact HB.out|apply af|apply aa|apply ag)|exact HB.out)) hb);clear HB;have HO794:=n0_;have HB:=n1_;clear n0_ n1_;(try clear hb);(try clear hb2);(try clear hk);(try clear hi);(try clear ho0))|((with_reducible refine bP (N:=9) rfl ?_);refine dB ?hg (N:=9) ?hd (cs:=#[.string (⟨#[]⟩:ByteArray),.slice none 0 0]) (t:=28) ?hr ?_;(case hd=>rfl);(case hg=>rfl);(case hr=>first|(go_simp;done)|(go_simp;rfl));intro gb795 hg w26 hbox hb;have n0_:=ae.mk (Kd.dD (Kd.lq (by (with_reducible repeat (first|apply Kd.bz|apply Kd.bq|apply Kd.bF));exact HO794.out) gb795 (Nat.le_of_eq hg.symm)) hb);have n1_:=ae.mk (az (by repeat (first|(with_reducible first|exact HB.out|apply af|apply aa|apply ag)|exact HB.out)) hb);have n2_:=ae.mk (hbox);have n3_:=ae.mk ((by rw [hg];exact (aC (by repeat (first|(with_reducible first|exact HB.out|apply af|apply aa|apply ag)|exact HB.out))):w.heap.size≤gb795));have n4_:=ae.mk ((by rw [hg];exact (aC (by repeat (first|(with_reducible first|exact HB.out|apply af|apply aa|apply ag)|exact HB.out))):w.heap.size≤gb795));clear HO794;clear HB;have HO794:=n0_;have HB:=n1_;have BK795:=n2_;have GW795:=n3_;have GE795:=n4_;clear n0_ n1_ n2_ n3_ n4_;clear hb hbox hg;have hcz27_0:w26.cell? ⟨gb795,0,none⟩=some (.string (⟨#[]⟩:ByteArray)):=(au BK795.out 0).trans rfl;have hcz27_1:w26.cell? ⟨gb795,1,none⟩=some (.slice none 0 0):=(au BK795.out 1).trans rfl;have hfz27_0:=av BK795.out 0;have hfz27_1:=av BK795.out 1;obtain ⟨Ao28,co28,eo28⟩:=Kd.gz HO794.out;subst eo28)|((with_reducible refine bP (N:=20) rfl ?_);refine Kd.jO Kd.string _ 9 ?hg (N:=20) ?hd (xs:=([(⟨#[99,110]⟩:ByteArray),(⟨#[115,110]⟩:ByteArray),(⟨#[109,97,105,108]⟩:ByteArray),(⟨#[100,101,115,99,114,105,112,116,105,111,110]⟩:ByteArray),(⟨#[117,105,100]⟩:ByteArray),(⟨#[117,105,100,110,117,109,98,101,114]⟩:ByteArray),(⟨#[111,98,106,101,99,116,99,108,97,115,115]⟩:ByteArray),(⟨#[111]⟩:ByteArray)]:List ByteArray)) (inner:=[.string (⟨#[99,110]⟩:ByteArray),.string (⟨#[115,110]⟩:ByteArray),.string (⟨#[109,97,105,108]⟩:ByteArray),.string (⟨#[100,101,115,99,114,105,112,116,105,111,110]⟩:ByteArray),.string (⟨#[117,105,100]⟩:ByteArray),.string (⟨#[117,105,100,110,117,109,98,101,114]⟩:ByteArray),.string (⟨#[111,98,106,101,99,116,99,108,97,115,115]⟩:ByteArray),.string (⟨#[111]⟩:ByteArray)]) (ok:=fun _=>True) (okp:=fun _=>True) ?hr ?hp (fun _ hk=>hk) trivial (Below.refl _ _) (Nat.le_refl _) (by simp) ?_;(case hd=>rfl);(case hg=>rfl);(case hr=>first|(go_simp;done)|(go_simp;rfl));(case hp=>exact (bE.one (show Kd.M Kd.string _ _ _ (⟨#[99,110]⟩:ByteArray) [.string (⟨#[99,110]⟩:ByteArray)] from rfl) (bE.one (show Kd.M Kd.string _ _ _ (⟨#[115,110]⟩:ByteArray) [.string (⟨#[115,110]⟩:ByteArray)] from rfl) (bE.one (show Kd.M Kd.string _ _ _ (⟨#[109,97,105,108]⟩:ByteArray) [.string (⟨#[109,97,105,108]⟩:ByteArray)] from rfl) (bE.one (show Kd.M Kd.string _ _ _ (⟨#[100,101,115,99,114,105,112,116,105,111,110]⟩:ByteArray) [.string (⟨#[100,101,115,99,114,105,112,116,105,111,110]⟩:ByteArray)] from rfl) (bE.one (show Kd.M Kd.string _ _ _ (⟨#[117,105,100]⟩:ByteArray) [.string (⟨#[117,105,100]⟩:ByteArray)] from rfl) (bE.one (show Kd.M Kd.string _ _ _ (⟨#[117,105,100,110,117,109,98,101,114]⟩:ByteArray) [.string (⟨#[117,105,100,110,117,109,98,101,114]⟩:ByteArray)] from rfl) (bE.one (show Kd.M Kd.string _ _ _ (⟨#[111,98,106,101,99,116,99,108,97,115,115]⟩:ByteArray) [.string (⟨#[111,98,106,101,99,116,99,108,97,115,115]⟩:ByteArray)] from rfl) (bE.one (show Kd.M Kd.string _ _ _ (⟨#[111]⟩:ByteArray) [.string (⟨#[111]⟩:ByteArray)] from rfl) (bE.none _ _))))))))));intro v797 w29 ho30 hb hg_ hnew_;clear hg_ hnew_;(first|rw [← Ny796.out] at ho30|(simp only [Int.reduceToNat] at ho30;rw [← Ny796.out] at ho30));have n0_:=ae.mk (Kd.dU (by (with_reducible repeat (first|apply Kd.bz|apply Kd.bq|apply Kd.bF));exact (Kd.cZ (Kd.gH (p:=⟨gb795,1,none⟩) (Kd.gH (p:=⟨gb795,0,none⟩) (Kd.cZ HO794.out (fun k_ hk=>(⟨hk,hk.2⟩:_∧k_≠gb795))) (fun _ hk=>hk.2) (.string t791)) (fun _ hk=>hk.2) (.slice Ao28 t792.length co28)) (fun _ h_=>h_.1))) (Kd.dP ho30) hb);have n1_:=ae.mk (Kd.dx ho30 (aC (by repeat (first|(with_reducible first|exact HB.out|apply af|apply aa|apply ag|refine ah ?_ GE795.out)|exact HB.out))));have n2_:=ae.mk (aH (g:=gb795) (o:=.cells #[.string t791,.slice Ao28 t792.length co28] 28 (0,0)) (by (with_reducible repeat (first|refine aj ?_ _|refine ak ?_|refine ai ?_ _));refine bW (cs:=#[.string t791,.slice none 0 0]) ?_ 1 _ (by first|rfl|(simp only [ax,ay];rfl)|simp [ax,ay]);(with_reducible repeat (first|refine aj ?_ _|refine ak ?_|refine ai ?_ _));refine bW (cs:=#[.string (⟨#[]⟩:ByteArray),.slice none 0 0]) ?_ 0 _ (by first|rfl|(simp only [ax,ay];rfl)|simp [ax,ay]);(with_reducible repeat (first|refine aj ?_ _|refine ak ?_|refine ai ?_ _));exact BK795.out) hb);have n3_:=ae.mk (az (by repeat (first|(with_reducible first|exact HB.out|apply af|apply aa|apply ag|refine ah ?_ GE795.out)|exact HB.out)) hb);clear HO794;clear BK795;clear HB;have HO794:=n0_;have HO798:=n1_;have BK795:=n2_;have HB:=n3_;clear n0_ n1_ n2_ n3_;clear hb ho30;obtain ⟨Ao31,co31,eo31⟩:=Kd.bY HO798.out;subst eo31;have p799:0≤((ji9):Int):=of_decide_eq_true (by first|(with_reducible assumption)|assumption);have q799:(ji9) < (y796.length:Int):=of_decide_eq_true (by first|(with_reducible assumption)|assumption);obtain ⟨ad799,e799,hx799_0⟩:=Kd.eO (Kd.aY HO798.out).2.2 (ji9) p799 q799;cases e799;replace p799:=eq_true p799;replace q799:=eq_true q799;have hcz32_0:w29.cell? ⟨gb795,0,none⟩=some (.string t791):=(au BK795.out 0).trans rfl;have hcz32_1:w29.cell? ⟨gb795,1,none⟩=some (.slice Ao28 t792.length co28):=(au BK795.out 1).trans rfl;have hfz32_0:=av BK795.out 0;have hfz32_1:=av BK795.out 1)|((with_reducible refine aI (f:=13) rfl ?_);refine bn (some 28) rfl rfl Tryz.func13 (by kernel_rfl) rfl #[.agg #[.int .i64 8,.string (bH ByteArray.empty y796 (ji9)),.string (⟨#[]⟩:ByteArray),.slice none 0 0,.slice none 0 0],.agg #[.string t791,.slice Ao28 t792.length co28]] rfl (by (try simp only [List.map_toArray,List.map_cons,List.map_nil]);first|done|(simp only [hji9];rfl)|rfl|(simp only [List.length_drop,List.length_take];rfl)) ?_;(refine (bC.calls k 8 (bH ByteArray.empty y796 (ji9)) (⟨#[]⟩:ByteArray) _ _ ([]:List ByteArray) _ _ ([]:List (S25)) t791 _ _ t792 t800 _ ?side1 ?side2 ?side3 ?side4 ?side5 ?side6 ?side7 A12.out).mono ?_);(case side1=>exact Kd.gp _ _);(case side2=>exact Nat.le_refl _);(case side3=>exact Kd.gp _ _);(case side4=>exact Nat.le_refl _);(case side5=>repeat (first|exact (Kd.dw HO794.out).2.2|(with_reducible refine Kd.bV ?_ _)|(with_reducible refine Kd.bX ?_ _)|(with_reducible refine Kd.dm ?_)));(case side6=>exact (Kd.dw HO794.out).2.1);(case side7=>first|exact HG.out|exact Gl.drewN HG.out _|exact Gl.below HG.out (by repeat (first|(with_reducible first|exact HB.out|apply af|apply aa|apply ag|refine ah ?_ GE795.out)|exact HB.out)));rintro e w33 ⟨rfl,hb⟩;refine ⟨_,rfl,?_⟩;have n0_:=ae.mk (Kd.dD (by (with_reducible repeat (first|apply Kd.bz|apply Kd.bq|apply Kd.bF));exact HO794.out) hb);have n1_:=ae.mk (Kd.aW (by (with_reducible repeat (first|apply Kd.aG|apply Kd.aD|apply Kd.aM));exact HO798.out) hb);have n2_:=ae.mk (aH (g:=gb795) (o:=.cells #[.string t791,.slice Ao28 t792.length co28] 28 (0,0)) (by (with_reducible repeat (first|refine aj ?_ _|refine ak ?_|refine ai ?_ _));exact BK795.out) hb);have n3_:=ae.mk (az (by repeat (first|(with_reducible first|exact HB.out|apply af|apply aa|apply ag|refine ah ?_ GE795.out)|exact HB.out)) hb);clear HO794;clear HO798;clear BK795;clear HB;have HO794:=n0_;have HO798:=n1_;have BK795:=n2_;have HB:=n3_;clear n0_ n1_ n2_ n3_;(try clear hb);(try clear hb2);(try clear hk);(try clear hi)))
           have pi804:(0≤((ji13):Int))=True:=eq_true (of_decide_eq_true (by first|(with_reducible assumption)|assumption))
           have qi804:((ji13) < (y801.length:Int))=True:=eq_true (of_decide_eq_true (by first|(with_reducible assumption)|assumption))
           have n0_:=ae.mk (Kd.bF HO794.out)
           have n1_:=ae.mk (Kd.aM HO798.out)
           have n2_:=ae.mk (ak BK795.out)
           have n3_:=ae.mk (ag HB.out)
           clear HO794
           clear HO798
           clear BK795
           clear HB
           have HO794:=n0_
           have HO798:=n1_
           have BK795:=n2_
           have HB:=n3_
           clear n0_ n1_ n2_ n3_
           refine kr (n:=11) (S:=fun w'=>w'.cell? ⟨gb795,0,none⟩=some (.string t791)∧w'.cell? ⟨gb795,1,none⟩=some (.slice Ao28 t792.length co28)) (ds:=[]) #[false,false,false,false,false,false,false,false,false,false,false] (by kernel_rfl) rfl rfl ⟨(au BK795.out 0).trans rfl,(au BK795.out 1).trans rfl⟩ (fun hHeld=>?_);refine gX bK.tab6 bK.bits6 (fun HT_ HW_=>?_)
           generalize w33.drew=w34 at HO794 HO798 BK795 HB hHeld ⊢
           refine bO (i:=1) (N:=some 30) (v:=?_) (a':=?_) #[false,true,false,false,false,false,false,false,false,false,false] rfl rfl (bD HT_.out (by kernel_rfl)) (fun _ _ _ h=>h) (Or.inl ⟨by rfl,?_⟩) ?_ ?_
           rotate_left
           ·intro w'
            go_simp
            with_reducible rfl
           rotate_left
           ·simp only [Act.put,List.setIfInBounds_toArray,List.set_cons_zero,List.set_cons_succ,aN,aQ]
            rfl
           refine bO (i:=2) (N:=some 31) (v:=?_) (a':=?_) #[false,true,true,false,false,false,false,false,false,false,false] rfl rfl (bD HT_.out (by kernel_rfl)) (fun _ _ _ h=>h) (Or.inl ⟨by rfl,?_⟩) ?_ ?_
           rotate_left
           ·intro w'
            go_simp
            with_reducible rfl
           rotate_left
           ·simp only [Act.put,List.setIfInBounds_toArray,List.set_cons_zero,List.set_cons_succ,aN,aQ]
            rfl
           refine bO (i:=5) (N:=some 34) (v:=?_) (a':=?_) #[false,true,true,false,false,true,false,false,false,false,false] rfl rfl (bD HT_.out (by kernel_rfl)) (fun _ _ _ h=>h) (Or.inl ⟨by rfl,?_⟩) ?_ ?_
           rotate_left
           ·intro w'
            go_simp
            with_reducible rfl
           rotate_left
           ·simp only [Act.put,List.setIfInBounds_toArray,List.set_cons_zero,List.set_cons_succ,aN,aQ]
            rfl
           refine bO (i:=6) (N:=some 35) (v:=?_) (a':=?_) #[false,true,true,false,false,true,true,false,false,false,false] rfl rfl (bD HT_.out (by kernel_rfl)) (fun _ _ _ h=>h) (Or.inl ⟨by rfl,?_⟩) ?_ ?_
           rotate_left
           ·intro w'
            go_simp
            with_reducible rfl
           rotate_left
           ·simp only [Act.put,List.setIfInBounds_toArray,List.set_cons_zero,List.set_cons_succ,aN,aQ]
            rfl
           refine take_ (i:=8) (N:=some 37) (v:=?_) (a':=?_) #[false,true,true,false,false,true,true,false,true,false,false] rfl rfl (fu HT_.out HW_.out (by kernel_rfl)) (fun _ _ _ h=>h) (Or.inl ⟨by rfl,?_⟩) hHeld ?_ ?_
           rotate_left
           ·rintro w' ⟨s0,s1⟩
            go_simp
            with_reducible rfl
           rotate_left
           ·simp only [Act.put,List.setIfInBounds_toArray,List.set_cons_zero,List.set_cons_succ,aN,aQ]
            rfl
           refine iJ (i:=0) (N:=some 29) #[true,true,true,false,false,true,true,false,true,false,false] rfl rfl (dJ HT_.out (by kernel_rfl)) (by decide) (fun K hK=>?_)
           refine Kd.gm (Kd.int .i64) _ 3 ?hg (N:=29) ?hd (xs:=([4,6,7]:List Int)) (inner:=[.int .i64 4,.int .i64 6,.int .i64 7]) (ok:=fun _=>True) (okp:=fun _=>True) ?hr ?hp (fun _ hk=>hk) trivial (Below.refl _ _) (Nat.le_refl _) (by simp) ?_;(case hd=>rfl);(case hg=>rfl);(case hr=>first|(go_simp;done)|(go_simp;rfl));(case hp=>exact (bE.one (show Kd.M (Kd.int .i64) _ _ _ 4 [.int .i64 4] from rfl) (bE.one (show Kd.M (Kd.int .i64) _ _ _ 6 [.int .i64 6] from rfl) (bE.one (show Kd.M (Kd.int .i64) _ _ _ 7 [.int .i64 7] from rfl) (bE.none _ _)))))
           intro v802 w35 ho36 hb hg_ hnew_
           clear hg_ hnew_
           (first|rw [← Ny801.out] at ho36|(simp only [Int.reduceToNat] at ho36;rw [← Ny801.out] at ho36))
           have n0_:=ae.mk (Kd.dU (by (with_reducible repeat (first|apply Kd.bz|apply Kd.bq|apply Kd.bF));exact HO794.out) (Kd.dP ho36) hb)
           have n1_:=ae.mk (Kd.aW (by (with_reducible repeat (first|apply Kd.aG|apply Kd.aD|apply Kd.aM));exact HO798.out) hb)
           have n2_:=ae.mk (Kd.dx ho36 (aC (by repeat (first|(with_reducible first|exact HB.out|apply af|apply aa|apply ag|refine ah ?_ GE795.out)|exact HB.out))))
           have n3_:=ae.mk (aH (g:=gb795) (o:=.cells #[.string t791,.slice Ao28 t792.length co28] 28 (0,0)) (by (with_reducible repeat (first|refine aj ?_ _|refine ak ?_|refine ai ?_ _));exact BK795.out) hb)
           have n4_:=ae.mk (az (by repeat (first|(with_reducible first|exact HB.out|apply af|apply aa|apply ag|refine ah ?_ GE795.out)|exact HB.out)) hb)
           clear HO794
           clear HO798
           clear BK795
           clear HB
           have HO794:=n0_
           have HO798:=n1_
           have HO803:=n2_
           have BK795:=n3_
           have HB:=n4_
           clear n0_ n1_ n2_ n3_ n4_
           clear hb ho36
           obtain ⟨Ao37,co37,eo37⟩:=Kd.bY HO803.out
           subst eo37
           obtain ⟨ado37,fo37,_⟩:=Kd.fD (Kd.aY HO803.out).2.2 0 (by decide) (by rw [Ny801.out];simp)
           cases fo37
           refine hK.out _ _ ⟨(au BK795.out 0).trans rfl,(au BK795.out 1).trans rfl⟩ (fun hHeld=>?_)
           clear hK K
           refine eQ (a':=?_) ?_ ?_
           rotate_left
           ·show Act.put _ (some 29) _=_
            simp only [Act.put,List.setIfInBounds_toArray,List.set_cons_zero,List.set_cons_succ,aN,aQ]
            rfl
           refine bO (i:=3) (N:=some 32) (v:=?_) (a':=?_) #[true,true,true,true,false,true,true,false,true,false,false] rfl rfl (bD HT_.out (by kernel_rfl)) (fun _ _ _ h=>h) (Or.inl ⟨by rfl,?_⟩) ?_ ?_
           rotate_left
           ·intro w'
            go_simp
            with_reducible rfl
           rotate_left
           ·simp only [Act.put,List.setIfInBounds_toArray,List.set_cons_zero,List.set_cons_succ,aN,aQ]
            rfl
           refine iJ (i:=4) (N:=some 33) #[true,true,true,true,true,true,true,false,true,false,false] rfl rfl (dJ HT_.out (by kernel_rfl)) (by decide) (fun K hK=>?_)
           (have p804:0≤((ji13):Int):=of_decide_eq_true (by first|(with_reducible assumption)|assumption);have q804:(ji13) < (y801.length:Int):=of_decide_eq_true (by first|(with_reducible assumption)|assumption);obtain ⟨ad804,e804,hx804_0⟩:=Kd.fD (Kd.aY HO803.out).2.2 (ji13) p804 q804;obtain rfl:ado37=ad804:=(by injection e804))
           refine ma (w1:=?_) (v:=?_) (by rfl) rfl ?_ ?_
           rotate_left 2
           ·go_simp
            constructor
            ·rfl
            ·rfl
           clear hx804_0
           refine hK.out _ _ ⟨(au BK795.out 0).trans rfl,(au BK795.out 1).trans rfl⟩ (fun hHeld=>?_)
           clear hK K
           refine eQ (a':=?_) ?_ ?_
           rotate_left
           ·show Act.put _ (some 33) _=_
            simp only [Act.put,List.setIfInBounds_toArray,List.set_cons_zero,List.set_cons_succ,aN,aQ]
            rfl
           refine bO (i:=7) (N:=some 36) (v:=?_) (a':=?_) #[true,true,true,true,true,true,true,true,true,false,false] rfl rfl (bD HT_.out (by kernel_rfl)) (fun _ _ _ h=>h) (Or.inl ⟨by rfl,?_⟩) ?_ ?_
           rotate_left
           ·intro w'
            go_simp
            with_reducible rfl
           rotate_left
           ·simp only [Act.put,List.setIfInBounds_toArray,List.set_cons_zero,List.set_cons_succ,aN,aQ]
            rfl
           refine iJ (i:=9) (N:=some 38) #[true,true,true,true,true,true,true,true,true,true,false] rfl rfl (dJ HT_.out (by kernel_rfl)) (by decide) (fun K hK=>?_)
           refine kF Tryz.func13 (by kernel_rfl) rfl #[.agg #[.int .i64 (rd y801 (ji13)),.string (bH ByteArray.empty y796 (ji9)),.string a3,.slice none 0 0,.slice none 0 0],.agg #[.string t791,.slice Ao28 t792.length co28]] (by rfl) rfl rfl (by (try simp only [List.map_toArray,List.map_cons,List.map_nil]);first|done|(simp only [hji13,hji9];rfl)|rfl|(simp only [List.length_drop,List.length_take];rfl)) ?_
           refine (bC.calls k (rd y801 (ji13)) (bH ByteArray.empty y796 (ji9)) a3 _ _ ([]:List ByteArray) _ _ ([]:List (S25)) t791 _ _ t792 t805 _ ?side1 ?side2 ?side3 ?side4 ?side5 ?side6 ?side7 A16.out).mono ?_
           (case side1=>exact Kd.gp _ _)
           (case side2=>exact Nat.le_refl _)
           (case side3=>exact Kd.gp _ _)
           (case side4=>exact Nat.le_refl _)
           (case side5=>repeat (first|exact (Kd.dw HO794.out).2.2|(with_reducible refine Kd.bV ?_ _)|(with_reducible refine Kd.bX ?_ _)|(with_reducible refine Kd.dm ?_)))
           (case side6=>exact (Kd.dw HO794.out).2.1)
           (case side7=>first|exact HG.out|exact Gl.drewN HG.out _|exact Gl.below HG.out (by repeat (first|(with_reducible first|exact HB.out|apply af|apply aa|apply ag|refine ah ?_ GE795.out)|exact HB.out)))
           rintro e w38 ⟨rfl,hb⟩
           refine ⟨_,rfl,?_⟩
           have n0_:=ae.mk (Kd.dD (by (with_reducible repeat (first|apply Kd.bz|apply Kd.bq|apply Kd.bF));exact HO794.out) hb)
           have n1_:=ae.mk (Kd.aW (by (with_reducible repeat (first|apply Kd.aG|apply Kd.aD|apply Kd.aM));exact HO798.out) hb)
           have n2_:=ae.mk (Kd.aW (by (with_reducible repeat (first|apply Kd.aG|apply Kd.aD|apply Kd.aM));exact HO803.out) hb)
           have n3_:=ae.mk (aH (g:=gb795) (o:=.cells #[.string t791,.slice Ao28 t792.length co28] 28 (0,0)) (by (with_reducible repeat (first|refine aj ?_ _|refine ak ?_|refine ai ?_ _));exact BK795.out) hb)
           have n4_:=ae.mk (az (by repeat (first|(with_reducible first|exact HB.out|apply af|apply aa|apply ag|refine ah ?_ GE795.out)|exact HB.out)) hb)
           clear HO794
           clear HO798
           clear HO803
           clear BK795
           clear HB
           have HO794:=n0_
           have HO798:=n1_
           have HO803:=n2_
           have BK795:=n3_
           have HB:=n4_
           clear n0_ n1_ n2_ n3_ n4_
           (try clear hb)
           (try clear hb2)
           (try clear hk)
           (try clear hi)
           refine hK.out _ _ ⟨(au BK795.out 0).trans rfl,(au BK795.out 1).trans rfl⟩ (fun hHeld=>?_)
           clear hK K
           refine eQ (a':=?_) ?_ ?_
           rotate_left
           ·show Act.put _ (some 38) _=_
            simp only [Act.put,List.setIfInBounds_toArray,List.set_cons_zero,List.set_cons_succ,aN,aQ]
            rfl
           refine bO (i:=10) (N:=some 12) (v:=?_) (a':=?_) #[true,true,true,true,true,true,true,true,true,true,true] rfl rfl (bD HT_.out (by kernel_rfl)) (fun _ _ _ h=>h) (Or.inl ⟨by rfl,?_⟩) ?_ ?_
           rotate_left
           ·intro w'
            go_simp
            with_reducible rfl
           rotate_left
           ·simp only [Act.put,List.setIfInBounds_toArray,List.set_cons_zero,List.set_cons_succ,aN,aQ]
            rfl
           refine l9 (ja HT_.out (by kernel_rfl)) ?_
           try go_wp2_with (first|((with_reducible refine bP (N:=41) rfl ?_);refine Kd.jO Kd.string _ 9 ?hg (N:=41) ?hd (xs:=([a3,(⟨#[120]⟩:ByteArray)]:List ByteArray)) (inner:=[.string a3,.string (⟨#[120]⟩:ByteArray)]) (ok:=fun _=>True) (okp:=fun _=>True) ?hr ?hp (fun _ hk=>hk) trivial (Below.refl _ _) (Nat.le_refl _) (by simp) ?_;(case hd=>rfl);(case hg=>rfl);(case hr=>first|(go_simp;done)|(go_simp;rfl));(case hp=>exact (bE.one (show Kd.M Kd.string _ _ _ a3 [.string a3] from rfl) (bE.one (show Kd.M Kd.string _ _ _ (⟨#[120]⟩:ByteArray) [.string (⟨#[120]⟩:ByteArray)] from rfl) (bE.none _ _))));intro v807 w39 ho40 hb hg_ hnew_;clear hg_ hnew_;(first|rw [← Ny806.out] at ho40|(simp only [Int.reduceToNat] at ho40;rw [← Ny806.out] at ho40));have n0_:=ae.mk (Kd.dU (by (with_reducible repeat (first|apply Kd.bz|apply Kd.bq|apply Kd.bF));exact HO794.out) (Kd.dP ho40) hb);have n1_:=ae.mk (Kd.gF (by (with_reducible repeat (first|apply Kd.aG|apply Kd.aD|apply Kd.aM));exact HO798.out) (Kd.dP ho40) hb);have n2_:=ae.mk (Kd.aW (by (with_reducible repeat (first|apply Kd.aG|apply Kd.aD|apply Kd.aM));exact HO803.out) hb);have n3_:=ae.mk (Kd.dx (Kd.iK ho40 (Kd.iA (by (with_reducible repeat (first|apply Kd.aG|apply Kd.aD|apply Kd.aM));exact HO798.out))) (aC (by repeat (first|(with_reducible first|exact HB.out|apply af|apply aa|apply ag|refine ah ?_ GE795.out)|exact HB.out))));have n4_:=ae.mk (aH (g:=gb795) (o:=.cells #[.string t791,.slice Ao28 t792.length co28] 28 (0,0)) (by (with_reducible repeat (first|refine aj ?_ _|refine ak ?_|refine ai ?_ _));exact BK795.out) hb);have n5_:=ae.mk (az (by repeat (first|(with_reducible first|exact HB.out|apply af|apply aa|apply ag|refine ah ?_ GE795.out)|exact HB.out)) hb);clear HO794;clear HO798;clear HO803;clear BK795;clear HB;have HO794:=n0_;have HO798:=n1_;have HO803:=n2_;have HO808:=n3_;have BK795:=n4_;have HB:=n5_;clear n0_ n1_ n2_ n3_ n4_ n5_;clear hb ho40;obtain ⟨Ao41,co41,eo41⟩:=Kd.bY HO808.out;subst eo41;have hcz42_0:w39.cell? ⟨gb795,0,none⟩=some (.string t791):=(au BK795.out 0).trans rfl;have hcz42_1:w39.cell? ⟨gb795,1,none⟩=some (.slice Ao28 t792.length co28):=(au BK795.out 1).trans rfl;have hfz42_0:=av BK795.out 0;have hfz42_1:=av BK795.out 1)|((with_reducible refine aI (f:=13) rfl ?_);refine bn (some 44) rfl rfl Tryz.func13 (by kernel_rfl) rfl #[.agg #[.int .i64 5,.string (bH ByteArray.empty y796 (ji9)),.string (⟨#[]⟩:ByteArray),.slice Ao41 y806.length co41,.slice none 0 0],.agg #[.string t791,.slice Ao28 t792.length co28]] rfl (by (try simp only [List.map_toArray,List.map_cons,List.map_nil]);first|done|(simp only [hji9];rfl)|rfl|(simp only [List.length_drop,List.length_take];rfl)) ?_;(refine (bC.calls k 5 (bH ByteArray.empty y796 (ji9)) (⟨#[]⟩:ByteArray) _ _ y806 _ _ ([]:List (S25)) t791 _ _ t792 t809 _ ?side1 ?side2 ?side3 ?side4 ?side5 ?side6 ?side7 A17.out).mono ?_);(case side1=>repeat (first|exact (Kd.aY HO808.out).2.2|(with_reducible refine Kd.bV ?_ _)|(with_reducible refine Kd.bX ?_ _)|(with_reducible refine Kd.dm ?_)));(case side2=>exact (Kd.aY HO808.out).2.1);(case side3=>exact Kd.gp _ _);(case side4=>exact Nat.le_refl _);(case side5=>repeat (first|exact (Kd.dw HO794.out).2.2|(with_reducible refine Kd.bV ?_ _)|(with_reducible refine Kd.bX ?_ _)|(with_reducible refine Kd.dm ?_)));(case side6=>exact (Kd.dw HO794.out).2.1);(case side7=>first|exact HG.out|exact Gl.drewN HG.out _|exact Gl.below HG.out (by repeat (first|(with_reducible first|exact HB.out|apply af|apply aa|apply ag|refine ah ?_ GE795.out)|exact HB.out)));rintro e w43 ⟨rfl,hb⟩;refine ⟨_,rfl,?_⟩;have n0_:=ae.mk (Kd.dD (by (with_reducible repeat (first|apply Kd.bz|apply Kd.bq|apply Kd.bF));exact HO794.out) hb);have n1_:=ae.mk (Kd.aW (by (with_reducible repeat (first|apply Kd.aG|apply Kd.aD|apply Kd.aM));exact HO798.out) hb);have n2_:=ae.mk (Kd.aW (by (with_reducible repeat (first|apply Kd.aG|apply Kd.aD|apply Kd.aM));exact HO803.out) hb);have n3_:=ae.mk (Kd.aW (by (with_reducible repeat (first|apply Kd.aG|apply Kd.aD|apply Kd.aM));exact HO808.out) hb);have n4_:=ae.mk (aH (g:=gb795) (o:=.cells #[.string t791,.slice Ao28 t792.length co28] 28 (0,0)) (by (with_reducible repeat (first|refine aj ?_ _|refine ak ?_|refine ai ?_ _));exact BK795.out) hb);have n5_:=ae.mk (az (by repeat (first|(with_reducible first|exact HB.out|apply af|apply aa|apply ag|refine ah ?_ GE795.out)|exact HB.out)) hb);clear HO794;clear HO798;clear HO803;clear HO808;clear BK795;clear HB;have HO794:=n0_;have HO798:=n1_;have HO803:=n2_;have HO808:=n3_;have BK795:=n4_;have HB:=n5_;clear n0_ n1_ n2_ n3_ n4_ n5_;(try clear hb);(try clear hb2);(try clear hk);(try clear hi);have hcz44_0:w43.cell? ⟨gb795,0,none⟩=some (.string t791):=(au BK795.out 0).trans rfl;have hcz44_1:w43.cell? ⟨gb795,1,none⟩=some (.slice Ao28 t792.length co28):=(au BK795.out 1).trans rfl;have hfz44_0:=av BK795.out 0;have hfz44_1:=av BK795.out 1)|((with_reducible refine aI (f:=24) rfl ?_);refine bn (some 49) rfl rfl Tryz.func24 (by kernel_rfl) rfl #[.agg #[.string t791,.slice Ao28 t792.length co28],.string (bH ByteArray.empty y796 (ji9))] rfl (by (try simp only [List.map_toArray,List.map_cons,List.map_nil]);first|done|(simp only [hji9];rfl)|rfl|(simp only [List.length_drop,List.length_take];rfl)) ?_;(with_reducible refine (cz.calls k t791 (fun k_=>((((True∧k_≠gb795)∧some k_≠(.slice (some ad799) y796.length co31:Value).ownBlock)∧some k_≠(.slice (some ado37) y801.length co37:Value).ownBlock)∧some k_≠(.slice Ao41 y806.length co41:Value).ownBlock)) _ _ t792 (bH ByteArray.empty y796 (ji9)) t810 _ ?side1 A18.out).mono ?_);(case side1=>exact Kd.N_V (HO794.out));rintro e w45 ⟨v811,rfl,ho0,hb⟩;refine ⟨_,rfl,?_⟩;have n0_:=ae.mk (Kd.dD (by (with_reducible repeat (first|apply Kd.bz|apply Kd.bq|apply Kd.bF));exact HO794.out) hb);have n1_:=ae.mk (Kd.aW (by (with_reducible repeat (first|apply Kd.aG|apply Kd.aD|apply Kd.aM));exact HO798.out) hb);have n2_:=ae.mk (Kd.aW (by (with_reducible repeat (first|apply Kd.aG|apply Kd.aD|apply Kd.aM));exact HO803.out) hb);have n3_:=ae.mk (Kd.aW (by (with_reducible repeat (first|apply Kd.aG|apply Kd.aD|apply Kd.aM));exact HO808.out) hb);have n4_:=ae.mk (Kd.oF (Kd.nJ (ok':=fun k_=>some k_≠(.slice (some ad799) y796.length co31:Value).ownBlock∧some k_≠(.slice (some ado37) y801.length co37:Value).ownBlock∧some k_≠(.slice Ao41 y806.length co41:Value).ownBlock∧k_≠gb795) ho0 (fun k_ hk_=>⟨Or.elim hk_ (fun hs_=>hs_.1.1.2) (fun hn_=>(Kd.fresh' (Kd.iA (by (with_reducible repeat (first|apply Kd.aG|apply Kd.aD|apply Kd.aM));exact HO798.out)) k_ hn_)),Or.elim hk_ (fun hs_=>hs_.1.2) (fun hn_=>(Kd.fresh' (Kd.iA (by (with_reducible repeat (first|apply Kd.aG|apply Kd.aD|apply Kd.aM));exact HO803.out)) k_ hn_)),Or.elim hk_ (fun hs_=>hs_.2) (fun hn_=>(Kd.fresh' (Kd.iA (by (with_reducible repeat (first|apply Kd.aG|apply Kd.aD|apply Kd.aM));exact HO808.out)) k_ hn_)),Or.elim hk_ (fun hs_=>hs_.1.1.1.2) (fun hn_=>(Kd.gQ (g:=gb795) (o:=.cells #[.string t791,.slice Ao28 t792.length co28] 28 (0,0)) (by (with_reducible repeat (first|refine aj ?_ _|refine ak ?_|refine ai ?_ _));exact BK795.out) k_ hn_))⟩)) (aC (by repeat (first|(with_reducible first|exact HB.out|apply af|apply aa|apply ag|refine ah ?_ GE795.out)|exact HB.out))));have n5_:=ae.mk (aH (g:=gb795) (o:=.cells #[.string t791,.slice Ao28 t792.length co28] 28 (0,0)) (by (with_reducible repeat (first|refine aj ?_ _|refine ak ?_|refine ai ?_ _));exact BK795.out) hb);have n6_:=ae.mk (az (by repeat (first|(with_reducible first|exact HB.out|apply af|apply aa|apply ag|refine ah ?_ GE795.out)|exact HB.out)) hb);clear HO794;clear HO798;clear HO803;clear HO808;clear BK795;clear HB;have HO794:=n0_;have HO798:=n1_;have HO803:=n2_;have HO808:=n3_;have HO812:=n4_;have BK795:=n5_;have HB:=n6_;clear n0_ n1_ n2_ n3_ n4_ n5_ n6_;(try clear hb);(try clear hb2);(try clear hk);(try clear hi);(try clear ho0);obtain ⟨Ao46,co46,eo46⟩:=Kd.oM HO812.out;subst eo46)|(go_at_call 15;(with_reducible refine (aT.calls k  t813 _ ?side1 A24.out).mono ?_);(case side1=>first|exact HG.out|exact Gl.drewN HG.out _|exact Gl.below HG.out (by repeat (first|(with_reducible first|exact HB.out|apply af|apply aa|apply ag|refine ah ?_ GE795.out)|exact HB.out)));rintro e w47 ⟨rfl,hb⟩;have n0_:=ae.mk (Kd.dD (by (with_reducible repeat (first|apply Kd.bz|apply Kd.bq|apply Kd.bF));exact HO794.out) hb);have n1_:=ae.mk (Kd.aW (by (with_reducible repeat (first|apply Kd.aG|apply Kd.aD|apply Kd.aM));exact HO798.out) hb);have n2_:=ae.mk (Kd.aW (by (with_reducible repeat (first|apply Kd.aG|apply Kd.aD|apply Kd.aM));exact HO803.out) hb);have n3_:=ae.mk (Kd.aW (by (with_reducible repeat (first|apply Kd.aG|apply Kd.aD|apply Kd.aM));exact HO808.out) hb);have n4_:=ae.mk (Kd.jT (by (with_reducible repeat (first|apply Kd.jA|apply Kd.jv|apply Kd.kW));exact HO812.out) hb);have n5_:=ae.mk (aH (g:=gb795) (o:=.cells #[.string t791,.slice Ao28 t792.length co28] 28 (0,0)) (by (with_reducible repeat (first|refine aj ?_ _|refine ak ?_|refine ai ?_ _));exact BK795.out) hb);have n6_:=ae.mk (az (by repeat (first|(with_reducible first|exact HB.out|apply af|apply aa|apply ag|refine ah ?_ GE795.out)|exact HB.out)) hb);clear HO794;clear HO798;clear HO803;clear HO808;clear HO812;clear BK795;clear HB;have HO794:=n0_;have HO798:=n1_;have HO803:=n2_;have HO808:=n3_;have HO812:=n4_;have BK795:=n5_;have HB:=n6_;clear n0_ n1_ n2_ n3_ n4_ n5_ n6_;(try clear hb);(try clear hb2);(try clear hk);(try clear hi)))
           all_goals first
            | (exfalso;have h19:=beq_iff_eq.1 c19b0;rw [show decide ((t810.length:Int) > 0)=decide (0 < t810.length) from decide_eq_decide.2 (by omega)] at h19;first|contradiction|((first|rw [c21b0] at h19|rw [c74b0] at h19);have h20:=of_decide_eq_true h19.symm;contradiction)|((first|rw [c21b0] at h19|rw [c74b0] at h19);have h20:=of_decide_eq_false h19.symm;contradiction))
            | (go_ret;exact ⟨by first|rfl|(simp [aJ,aK] <;> rfl)|(simp only [← hji9,← hji13];first|rfl|(simp [aJ,aK] <;> rfl))|(simp [*,aJ,aK] <;> rfl),by repeat (first|(with_reducible first|exact HB.out|apply af|apply aa|apply ag|refine ah ?_ GE795.out)|exact HB.out)⟩)
         ·rw [if_neg c22] at H
          have c22b0:(t809 == 1)=false:=beq_eq_false_iff_ne.mpr c22
          have c22b1:(t809 != 1)=true:=bne_iff_ne.mpr c22
          by_cases c48:t800=2
          ·rw [if_pos c48] at H
           have c48b0:(t800 == 2)=true:=beq_iff_eq.mpr c48
           have c48b1:(t800 != 2)=false:=bne_eq_false_iff_eq.mpr c48
           clear c48
           exact absurd ((Option.some.inj H).trans HRT.out) Bool.false_ne_true
          ·rw [if_neg c48] at H
           have c48b0:(t800 == 2)=false:=beq_eq_false_iff_ne.mpr c48
           have c48b1:(t800 != 2)=true:=bne_iff_ne.mpr c48
           replace H:=Option.bind_eq_some_iff.mp H
           obtain ⟨t814,A490,H⟩:=H
           replace H:(some t814)=some r:=H
           have A49:=ae.mk A490
           clear A490
           obtain rfl:=Option.some.inj H
           go_enter Tryz.func10,Tryz.ntmps10
           try go_wp2_with (first|((with_reducible refine aI (f:=17) rfl ?_);refine bn (some 19) rfl rfl Tryz.func17 (by kernel_rfl) rfl #[.slice A0 l0.length c0] rfl (by (try simp only [List.map_toArray,List.map_cons,List.map_nil]);first|done|rfl|(simp only [List.length_drop,List.length_take];rfl)) ?_;(with_reducible refine (aA.calls k _ _ l0 t791 t792 _ ?side1 ?side2 A8.out).mono ?_);(case side1=>repeat (first|exact HR0.out|(with_reducible refine Kd.bV ?_ _)|(with_reducible refine Kd.bX ?_ _)|(with_reducible refine Kd.dm ?_)));(case side2=>exact HC0.out);rintro e w50 ⟨v793,rfl,ho0,hb⟩;refine ⟨_,rfl,?_⟩;have n0_:=ae.mk (Kd.jF (Kd.cZ (ok':=fun k_=>True) (ho0) (fun k_ hk_=>trivial)) (aC (by repeat (first|(with_reducible first|exact HB.out|apply af|apply aa|apply ag)|exact HB.out))));have n1_:=ae.mk (az (by repeat (first|(with_reducible first|exact HB.out|apply af|apply aa|apply ag)|exact HB.out)) hb);clear HB;have HO794:=n0_;have HB:=n1_;clear n0_ n1_;(try clear hb);(try clear hb2);(try clear hk);(try clear hi);(try clear ho0))|((with_reducible refine bP (N:=9) rfl ?_);refine dB ?hg (N:=9) ?hd (cs:=#[.string (⟨#[]⟩:ByteArray),.slice none 0 0]) (t:=28) ?hr ?_;(case hd=>rfl);(case hg=>rfl);(case hr=>first|(go_simp;done)|(go_simp;rfl));intro gb795 hg w51 hbox hb;have n0_:=ae.mk (Kd.dD (Kd.lq (by (with_reducible repeat (first|apply Kd.bz|apply Kd.bq|apply Kd.bF));exact HO794.out) gb795 (Nat.le_of_eq hg.symm)) hb);have n1_:=ae.mk (az (by repeat (first|(with_reducible first|exact HB.out|apply af|apply aa|apply ag)|exact HB.out)) hb);have n2_:=ae.mk (hbox);have n3_:=ae.mk ((by rw [hg];exact (aC (by repeat (first|(with_reducible first|exact HB.out|apply af|apply aa|apply ag)|exact HB.out))):w.heap.size≤gb795));have n4_:=ae.mk ((by rw [hg];exact (aC (by repeat (first|(with_reducible first|exact HB.out|apply af|apply aa|apply ag)|exact HB.out))):w.heap.size≤gb795));clear HO794;clear HB;have HO794:=n0_;have HB:=n1_;have BK795:=n2_;have GW795:=n3_;have GE795:=n4_;clear n0_ n1_ n2_ n3_ n4_;clear hb hbox hg;have hcz52_0:w51.cell? ⟨gb795,0,none⟩=some (.string (⟨#[]⟩:ByteArray)):=(au BK795.out 0).trans rfl;have hcz52_1:w51.cell? ⟨gb795,1,none⟩=some (.slice none 0 0):=(au BK795.out 1).trans rfl;have hfz52_0:=av BK795.out 0;have hfz52_1:=av BK795.out 1;obtain ⟨Ao53,co53,eo53⟩:=Kd.gz HO794.out;subst eo53)|((with_reducible refine bP (N:=20) rfl ?_);refine Kd.jO Kd.string _ 9 ?hg (N:=20) ?hd (xs:=([(⟨#[99,110]⟩:ByteArray),(⟨#[115,110]⟩:ByteArray),(⟨#[109,97,105,108]⟩:ByteArray),(⟨#[100,101,115,99,114,105,112,116,105,111,110]⟩:ByteArray),(⟨#[117,105,100]⟩:ByteArray),(⟨#[117,105,100,110,117,109,98,101,114]⟩:ByteArray),(⟨#[111,98,106,101,99,116,99,108,97,115,115]⟩:ByteArray),(⟨#[111]⟩:ByteArray)]:List ByteArray)) (inner:=[.string (⟨#[99,110]⟩:ByteArray),.string (⟨#[115,110]⟩:ByteArray),.string (⟨#[109,97,105,108]⟩:ByteArray),.string (⟨#[100,101,115,99,114,105,112,116,105,111,110]⟩:ByteArray),.string (⟨#[117,105,100]⟩:ByteArray),.string (⟨#[117,105,100,110,117,109,98,101,114]⟩:ByteArray),.string (⟨#[111,98,106,101,99,116,99,108,97,115,115]⟩:ByteArray),.string (⟨#[111]⟩:ByteArray)]) (ok:=fun _=>True) (okp:=fun _=>True) ?hr ?hp (fun _ hk=>hk) trivial (Below.refl _ _) (Nat.le_refl _) (by simp) ?_;(case hd=>rfl);(case hg=>rfl);(case hr=>first|(go_simp;done)|(go_simp;rfl));(case hp=>exact (bE.one (show Kd.M Kd.string _ _ _ (⟨#[99,110]⟩:ByteArray) [.string (⟨#[99,110]⟩:ByteArray)] from rfl) (bE.one (show Kd.M Kd.string _ _ _ (⟨#[115,110]⟩:ByteArray) [.string (⟨#[115,110]⟩:ByteArray)] from rfl) (bE.one (show Kd.M Kd.string _ _ _ (⟨#[109,97,105,108]⟩:ByteArray) [.string (⟨#[109,97,105,108]⟩:ByteArray)] from rfl) (bE.one (show Kd.M Kd.string _ _ _ (⟨#[100,101,115,99,114,105,112,116,105,111,110]⟩:ByteArray) [.string (⟨#[100,101,115,99,114,105,112,116,105,111,110]⟩:ByteArray)] from rfl) (bE.one (show Kd.M Kd.string _ _ _ (⟨#[117,105,100]⟩:ByteArray) [.string (⟨#[117,105,100]⟩:ByteArray)] from rfl) (bE.one (show Kd.M Kd.string _ _ _ (⟨#[117,105,100,110,117,109,98,101,114]⟩:ByteArray) [.string (⟨#[117,105,100,110,117,109,98,101,114]⟩:ByteArray)] from rfl) (bE.one (show Kd.M Kd.string _ _ _ (⟨#[111,98,106,101,99,116,99,108,97,115,115]⟩:ByteArray) [.string (⟨#[111,98,106,101,99,116,99,108,97,115,115]⟩:ByteArray)] from rfl) (bE.one (show Kd.M Kd.string _ _ _ (⟨#[111]⟩:ByteArray) [.string (⟨#[111]⟩:ByteArray)] from rfl) (bE.none _ _))))))))));intro v797 w54 ho55 hb hg_ hnew_;clear hg_ hnew_;(first|rw [← Ny796.out] at ho55|(simp only [Int.reduceToNat] at ho55;rw [← Ny796.out] at ho55));have n0_:=ae.mk (Kd.dU (by (with_reducible repeat (first|apply Kd.bz|apply Kd.bq|apply Kd.bF));exact (Kd.cZ (Kd.gH (p:=⟨gb795,1,none⟩) (Kd.gH (p:=⟨gb795,0,none⟩) (Kd.cZ HO794.out (fun k_ hk=>(⟨hk,hk.2⟩:_∧k_≠gb795))) (fun _ hk=>hk.2) (.string t791)) (fun _ hk=>hk.2) (.slice Ao53 t792.length co53)) (fun _ h_=>h_.1))) (Kd.dP ho55) hb);have n1_:=ae.mk (Kd.dx ho55 (aC (by repeat (first|(with_reducible first|exact HB.out|apply af|apply aa|apply ag|refine ah ?_ GE795.out)|exact HB.out))));have n2_:=ae.mk (aH (g:=gb795) (o:=.cells #[.string t791,.slice Ao53 t792.length co53] 28 (0,0)) (by (with_reducible repeat (first|refine aj ?_ _|refine ak ?_|refine ai ?_ _));refine bW (cs:=#[.string t791,.slice none 0 0]) ?_ 1 _ (by first|rfl|(simp only [ax,ay];rfl)|simp [ax,ay]);(with_reducible repeat (first|refine aj ?_ _|refine ak ?_|refine ai ?_ _));refine bW (cs:=#[.string (⟨#[]⟩:ByteArray),.slice none 0 0]) ?_ 0 _ (by first|rfl|(simp only [ax,ay];rfl)|simp [ax,ay]);(with_reducible repeat (first|refine aj ?_ _|refine ak ?_|refine ai ?_ _));exact BK795.out) hb);have n3_:=ae.mk (az (by repeat (first|(with_reducible first|exact HB.out|apply af|apply aa|apply ag|refine ah ?_ GE795.out)|exact HB.out)) hb);clear HO794;clear BK795;clear HB;have HO794:=n0_;have HO798:=n1_;have BK795:=n2_;have HB:=n3_;clear n0_ n1_ n2_ n3_;clear hb ho55;obtain ⟨Ao56,co56,eo56⟩:=Kd.bY HO798.out;subst eo56;have p799:0≤((ji9):Int):=of_decide_eq_true (by first|(with_reducible assumption)|assumption);have q799:(ji9) < (y796.length:Int):=of_decide_eq_true (by first|(with_reducible assumption)|assumption);obtain ⟨ad799,e799,hx799_0⟩:=Kd.eO (Kd.aY HO798.out).2.2 (ji9) p799 q799;cases e799;replace p799:=eq_true p799;replace q799:=eq_true q799;have hcz57_0:w54.cell? ⟨gb795,0,none⟩=some (.string t791):=(au BK795.out 0).trans rfl;have hcz57_1:w54.cell? ⟨gb795,1,none⟩=some (.slice Ao53 t792.length co53):=(au BK795.out 1).trans rfl;have hfz57_0:=av BK795.out 0;have hfz57_1:=av BK795.out 1)|((with_reducible refine aI (f:=13) rfl ?_);refine bn (some 28) rfl rfl Tryz.func13 (by kernel_rfl) rfl #[.agg #[.int .i64 8,.string (bH ByteArray.empty y796 (ji9)),.string (⟨#[]⟩:ByteArray),.slice none 0 0,.slice none 0 0],.agg #[.string t791,.slice Ao53 t792.length co53]] rfl (by (try simp only [List.map_toArray,List.map_cons,List.map_nil]);first|done|(simp only [hji9];rfl)|rfl|(simp only [List.length_drop,List.length_take];rfl)) ?_;(refine (bC.calls k 8 (bH ByteArray.empty y796 (ji9)) (⟨#[]⟩:ByteArray) _ _ ([]:List ByteArray) _ _ ([]:List (S25)) t791 _ _ t792 t800 _ ?side1 ?side2 ?side3 ?side4 ?side5 ?side6 ?side7 A12.out).mono ?_);(case side1=>exact Kd.gp _ _);(case side2=>exact Nat.le_refl _);(case side3=>exact Kd.gp _ _);(case side4=>exact Nat.le_refl _);(case side5=>repeat (first|exact (Kd.dw HO794.out).2.2|(with_reducible refine Kd.bV ?_ _)|(with_reducible refine Kd.bX ?_ _)|(with_reducible refine Kd.dm ?_)));(case side6=>exact (Kd.dw HO794.out).2.1);(case side7=>first|exact HG.out|exact Gl.drewN HG.out _|exact Gl.below HG.out (by repeat (first|(with_reducible first|exact HB.out|apply af|apply aa|apply ag|refine ah ?_ GE795.out)|exact HB.out)));rintro e w58 ⟨rfl,hb⟩;refine ⟨_,rfl,?_⟩;have n0_:=ae.mk (Kd.dD (by (with_reducible repeat (first|apply Kd.bz|apply Kd.bq|apply Kd.bF));exact HO794.out) hb);have n1_:=ae.mk (Kd.aW (by (with_reducible repeat (first|apply Kd.aG|apply Kd.aD|apply Kd.aM));exact HO798.out) hb);have n2_:=ae.mk (aH (g:=gb795) (o:=.cells #[.string t791,.slice Ao53 t792.length co53] 28 (0,0)) (by (with_reducible repeat (first|refine aj ?_ _|refine ak ?_|refine ai ?_ _));exact BK795.out) hb);have n3_:=ae.mk (az (by repeat (first|(with_reducible first|exact HB.out|apply af|apply aa|apply ag|refine ah ?_ GE795.out)|exact HB.out)) hb);clear HO794;clear HO798;clear BK795;clear HB;have HO794:=n0_;have HO798:=n1_;have BK795:=n2_;have HB:=n3_;clear n0_ n1_ n2_ n3_;(try clear hb);(try clear hb2);(try clear hk);(try clear hi)))
           have pi804:(0≤((ji13):Int))=True:=eq_true (of_decide_eq_true (by first|(with_reducible assumption)|assumption))
           have qi804:((ji13) < (y801.length:Int))=True:=eq_true (of_decide_eq_true (by first|(with_reducible assumption)|assumption))
           have n0_:=ae.mk (Kd.bF HO794.out)
           have n1_:=ae.mk (Kd.aM HO798.out)
           have n2_:=ae.mk (ak BK795.out)
           have n3_:=ae.mk (ag HB.out)
           clear HO794
           clear HO798
           clear BK795
           clear HB
           have HO794:=n0_
           have HO798:=n1_
           have BK795:=n2_
           have HB:=n3_
           clear n0_ n1_ n2_ n3_
           refine kr (n:=11) (S:=fun w'=>w'.cell? ⟨gb795,0,none⟩=some (.string t791)∧w'.cell? ⟨gb795,1,none⟩=some (.slice Ao53 t792.length co53)) (ds:=[]) #[false,false,false,false,false,false,false,false,false,false,false] (by kernel_rfl) rfl rfl ⟨(au BK795.out 0).trans rfl,(au BK795.out 1).trans rfl⟩ (fun hHeld=>?_);refine gX bK.tab6 bK.bits6 (fun HT_ HW_=>?_)
           generalize w58.drew=w59 at HO794 HO798 BK795 HB hHeld ⊢
           refine bO (i:=1) (N:=some 30) (v:=?_) (a':=?_) #[false,true,false,false,false,false,false,false,false,false,false] rfl rfl (bD HT_.out (by kernel_rfl)) (fun _ _ _ h=>h) (Or.inl ⟨by rfl,?_⟩) ?_ ?_
           rotate_left
           ·intro w'
            go_simp
            with_reducible rfl
           rotate_left
           ·simp only [Act.put,List.setIfInBounds_toArray,List.set_cons_zero,List.set_cons_succ,aN,aQ]
            rfl
           refine bO (i:=2) (N:=some 31) (v:=?_) (a':=?_) #[false,true,true,false,false,false,false,false,false,false,false] rfl rfl (bD HT_.out (by kernel_rfl)) (fun _ _ _ h=>h) (Or.inl ⟨by rfl,?_⟩) ?_ ?_
           rotate_left
           ·intro w'
            go_simp
            with_reducible rfl
           rotate_left
           ·simp only [Act.put,List.setIfInBounds_toArray,List.set_cons_zero,List.set_cons_succ,aN,aQ]
            rfl
           refine bO (i:=5) (N:=some 34) (v:=?_) (a':=?_) #[false,true,true,false,false,true,false,false,false,false,false] rfl rfl (bD HT_.out (by kernel_rfl)) (fun _ _ _ h=>h) (Or.inl ⟨by rfl,?_⟩) ?_ ?_
           rotate_left
           ·intro w'
            go_simp
            with_reducible rfl
           rotate_left
           ·simp only [Act.put,List.setIfInBounds_toArray,List.set_cons_zero,List.set_cons_succ,aN,aQ]
            rfl
           refine bO (i:=6) (N:=some 35) (v:=?_) (a':=?_) #[false,true,true,false,false,true,true,false,false,false,false] rfl rfl (bD HT_.out (by kernel_rfl)) (fun _ _ _ h=>h) (Or.inl ⟨by rfl,?_⟩) ?_ ?_
           rotate_left
           ·intro w'
            go_simp
            with_reducible rfl
           rotate_left
           ·simp only [Act.put,List.setIfInBounds_toArray,List.set_cons_zero,List.set_cons_succ,aN,aQ]
            rfl
           refine take_ (i:=8) (N:=some 37) (v:=?_) (a':=?_) #[false,true,true,false,false,true,true,false,true,false,false] rfl rfl (fu HT_.out HW_.out (by kernel_rfl)) (fun _ _ _ h=>h) (Or.inl ⟨by rfl,?_⟩) hHeld ?_ ?_
           rotate_left
           ·rintro w' ⟨s0,s1⟩
            go_simp
            with_reducible rfl
           rotate_left
           ·simp only [Act.put,List.setIfInBounds_toArray,List.set_cons_zero,List.set_cons_succ,aN,aQ]
            rfl
           refine iJ (i:=0) (N:=some 29) #[true,true,true,false,false,true,true,false,true,false,false] rfl rfl (dJ HT_.out (by kernel_rfl)) (by decide) (fun K hK=>?_)
           refine Kd.gm (Kd.int .i64) _ 3 ?hg (N:=29) ?hd (xs:=([4,6,7]:List Int)) (inner:=[.int .i64 4,.int .i64 6,.int .i64 7]) (ok:=fun _=>True) (okp:=fun _=>True) ?hr ?hp (fun _ hk=>hk) trivial (Below.refl _ _) (Nat.le_refl _) (by simp) ?_;(case hd=>rfl);(case hg=>rfl);(case hr=>first|(go_simp;done)|(go_simp;rfl));(case hp=>exact (bE.one (show Kd.M (Kd.int .i64) _ _ _ 4 [.int .i64 4] from rfl) (bE.one (show Kd.M (Kd.int .i64) _ _ _ 6 [.int .i64 6] from rfl) (bE.one (show Kd.M (Kd.int .i64) _ _ _ 7 [.int .i64 7] from rfl) (bE.none _ _)))))
           intro v802 w60 ho61 hb hg_ hnew_
           clear hg_ hnew_
           (first|rw [← Ny801.out] at ho61|(simp only [Int.reduceToNat] at ho61;rw [← Ny801.out] at ho61))
           have n0_:=ae.mk (Kd.dU (by (with_reducible repeat (first|apply Kd.bz|apply Kd.bq|apply Kd.bF));exact HO794.out) (Kd.dP ho61) hb)
           have n1_:=ae.mk (Kd.aW (by (with_reducible repeat (first|apply Kd.aG|apply Kd.aD|apply Kd.aM));exact HO798.out) hb)
           have n2_:=ae.mk (Kd.dx ho61 (aC (by repeat (first|(with_reducible first|exact HB.out|apply af|apply aa|apply ag|refine ah ?_ GE795.out)|exact HB.out))))
           have n3_:=ae.mk (aH (g:=gb795) (o:=.cells #[.string t791,.slice Ao53 t792.length co53] 28 (0,0)) (by (with_reducible repeat (first|refine aj ?_ _|refine ak ?_|refine ai ?_ _));exact BK795.out) hb)
           have n4_:=ae.mk (az (by repeat (first|(with_reducible first|exact HB.out|apply af|apply aa|apply ag|refine ah ?_ GE795.out)|exact HB.out)) hb)
           clear HO794
           clear HO798
           clear BK795
           clear HB
           have HO794:=n0_
           have HO798:=n1_
           have HO803:=n2_
           have BK795:=n3_
           have HB:=n4_
           clear n0_ n1_ n2_ n3_ n4_
           clear hb ho61
           obtain ⟨Ao62,co62,eo62⟩:=Kd.bY HO803.out
           subst eo62
           obtain ⟨ado62,fo62,_⟩:=Kd.fD (Kd.aY HO803.out).2.2 0 (by decide) (by rw [Ny801.out];simp)
           cases fo62
           refine hK.out _ _ ⟨(au BK795.out 0).trans rfl,(au BK795.out 1).trans rfl⟩ (fun hHeld=>?_)
           clear hK K
           refine eQ (a':=?_) ?_ ?_
           rotate_left
           ·show Act.put _ (some 29) _=_
            simp only [Act.put,List.setIfInBounds_toArray,List.set_cons_zero,List.set_cons_succ,aN,aQ]
            rfl
           refine bO (i:=3) (N:=some 32) (v:=?_) (a':=?_) #[true,true,true,true,false,true,true,false,true,false,false] rfl rfl (bD HT_.out (by kernel_rfl)) (fun _ _ _ h=>h) (Or.inl ⟨by rfl,?_⟩) ?_ ?_
           rotate_left
           ·intro w'
            go_simp
            with_reducible rfl
           rotate_left
           ·simp only [Act.put,List.setIfInBounds_toArray,List.set_cons_zero,List.set_cons_succ,aN,aQ]
            rfl
           refine iJ (i:=4) (N:=some 33) #[true,true,true,true,true,true,true,false,true,false,false] rfl rfl (dJ HT_.out (by kernel_rfl)) (by decide) (fun K hK=>?_)
           (have p804:0≤((ji13):Int):=of_decide_eq_true (by first|(with_reducible assumption)|assumption);have q804:(ji13) < (y801.length:Int):=of_decide_eq_true (by first|(with_reducible assumption)|assumption);obtain ⟨ad804,e804,hx804_0⟩:=Kd.fD (Kd.aY HO803.out).2.2 (ji13) p804 q804;obtain rfl:ado62=ad804:=(by injection e804))
           refine ma (w1:=?_) (v:=?_) (by rfl) rfl ?_ ?_
           rotate_left 2
           ·go_simp
            constructor
            ·rfl
            ·rfl
           clear hx804_0
           refine hK.out _ _ ⟨(au BK795.out 0).trans rfl,(au BK795.out 1).trans rfl⟩ (fun hHeld=>?_)
           clear hK K
           refine eQ (a':=?_) ?_ ?_
           rotate_left
           ·show Act.put _ (some 33) _=_
            simp only [Act.put,List.setIfInBounds_toArray,List.set_cons_zero,List.set_cons_succ,aN,aQ]
            rfl
           refine bO (i:=7) (N:=some 36) (v:=?_) (a':=?_) #[true,true,true,true,true,true,true,true,true,false,false] rfl rfl (bD HT_.out (by kernel_rfl)) (fun _ _ _ h=>h) (Or.inl ⟨by rfl,?_⟩) ?_ ?_
           rotate_left
           ·intro w'
            go_simp
            with_reducible rfl
           rotate_left
           ·simp only [Act.put,List.setIfInBounds_toArray,List.set_cons_zero,List.set_cons_succ,aN,aQ]
            rfl
           refine iJ (i:=9) (N:=some 38) #[true,true,true,true,true,true,true,true,true,true,false] rfl rfl (dJ HT_.out (by kernel_rfl)) (by decide) (fun K hK=>?_)
           refine kF Tryz.func13 (by kernel_rfl) rfl #[.agg #[.int .i64 (rd y801 (ji13)),.string (bH ByteArray.empty y796 (ji9)),.string a3,.slice none 0 0,.slice none 0 0],.agg #[.string t791,.slice Ao53 t792.length co53]] (by rfl) rfl rfl (by (try simp only [List.map_toArray,List.map_cons,List.map_nil]);first|done|(simp only [hji13,hji9];rfl)|rfl|(simp only [List.length_drop,List.length_take];rfl)) ?_
           refine (bC.calls k (rd y801 (ji13)) (bH ByteArray.empty y796 (ji9)) a3 _ _ ([]:List ByteArray) _ _ ([]:List (S25)) t791 _ _ t792 t805 _ ?side1 ?side2 ?side3 ?side4 ?side5 ?side6 ?side7 A16.out).mono ?_
           (case side1=>exact Kd.gp _ _)
           (case side2=>exact Nat.le_refl _)
           (case side3=>exact Kd.gp _ _)
           (case side4=>exact Nat.le_refl _)
           (case side5=>repeat (first|exact (Kd.dw HO794.out).2.2|(with_reducible refine Kd.bV ?_ _)|(with_reducible refine Kd.bX ?_ _)|(with_reducible refine Kd.dm ?_)))
           (case side6=>exact (Kd.dw HO794.out).2.1)
           (case side7=>first|exact HG.out|exact Gl.drewN HG.out _|exact Gl.below HG.out (by repeat (first|(with_reducible first|exact HB.out|apply af|apply aa|apply ag|refine ah ?_ GE795.out)|exact HB.out)))
           rintro e w63 ⟨rfl,hb⟩
           refine ⟨_,rfl,?_⟩
           have n0_:=ae.mk (Kd.dD (by (with_reducible repeat (first|apply Kd.bz|apply Kd.bq|apply Kd.bF));exact HO794.out) hb)
           have n1_:=ae.mk (Kd.aW (by (with_reducible repeat (first|apply Kd.aG|apply Kd.aD|apply Kd.aM));exact HO798.out) hb)
           have n2_:=ae.mk (Kd.aW (by (with_reducible repeat (first|apply Kd.aG|apply Kd.aD|apply Kd.aM));exact HO803.out) hb)
           have n3_:=ae.mk (aH (g:=gb795) (o:=.cells #[.string t791,.slice Ao53 t792.length co53] 28 (0,0)) (by (with_reducible repeat (first|refine aj ?_ _|refine ak ?_|refine ai ?_ _));exact BK795.out) hb)
           have n4_:=ae.mk (az (by repeat (first|(with_reducible first|exact HB.out|apply af|apply aa|apply ag|refine ah ?_ GE795.out)|exact HB.out)) hb)
           clear HO794
           clear HO798
           clear HO803
           clear BK795
           clear HB
           have HO794:=n0_
           have HO798:=n1_
           have HO803:=n2_
           have BK795:=n3_
           have HB:=n4_
           clear n0_ n1_ n2_ n3_ n4_
           (try clear hb)
           (try clear hb2)
           (try clear hk)
           (try clear hi)
           refine hK.out _ _ ⟨(au BK795.out 0).trans rfl,(au BK795.out 1).trans rfl⟩ (fun hHeld=>?_)
           clear hK K
           refine eQ (a':=?_) ?_ ?_
           rotate_left
           ·show Act.put _ (some 38) _=_
            simp only [Act.put,List.setIfInBounds_toArray,List.set_cons_zero,List.set_cons_succ,aN,aQ]
            rfl
           refine bO (i:=10) (N:=some 12) (v:=?_) (a':=?_) #[true,true,true,true,true,true,true,true,true,true,true] rfl rfl (bD HT_.out (by kernel_rfl)) (fun _ _ _ h=>h) (Or.inl ⟨by rfl,?_⟩) ?_ ?_
           rotate_left
           ·intro w'
            go_simp
            with_reducible rfl
           rotate_left
           ·simp only [Act.put,List.setIfInBounds_toArray,List.set_cons_zero,List.set_cons_succ,aN,aQ]
            rfl
           refine l9 (ja HT_.out (by kernel_rfl)) ?_
           try go_wp2_with (first|((with_reducible refine bP (N:=41) rfl ?_);refine Kd.jO Kd.string _ 9 ?hg (N:=41) ?hd (xs:=([a3,(⟨#[120]⟩:ByteArray)]:List ByteArray)) (inner:=[.string a3,.string (⟨#[120]⟩:ByteArray)]) (ok:=fun _=>True) (okp:=fun _=>True) ?hr ?hp (fun _ hk=>hk) trivial (Below.refl _ _) (Nat.le_refl _) (by simp) ?_;(case hd=>rfl);(case hg=>rfl);(case hr=>first|(go_simp;done)|(go_simp;rfl));(case hp=>exact (bE.one (show Kd.M Kd.string _ _ _ a3 [.string a3] from rfl) (bE.one (show Kd.M Kd.string _ _ _ (⟨#[120]⟩:ByteArray) [.string (⟨#[120]⟩:ByteArray)] from rfl) (bE.none _ _))));intro v807 w64 ho65 hb hg_ hnew_;clear hg_ hnew_;(first|rw [← Ny806.out] at ho65|(simp only [Int.reduceToNat] at ho65;rw [← Ny806.out] at ho65));have n0_:=ae.mk (Kd.dU (by (with_reducible repeat (first|apply Kd.bz|apply Kd.bq|apply Kd.bF));exact HO794.out) (Kd.dP ho65) hb);have n1_:=ae.mk (Kd.gF (by (with_reducible repeat (first|apply Kd.aG|apply Kd.aD|apply Kd.aM));exact HO798.out) (Kd.dP ho65) hb);have n2_:=ae.mk (Kd.aW (by (with_reducible repeat (first|apply Kd.aG|apply Kd.aD|apply Kd.aM));exact HO803.out) hb);have n3_:=ae.mk (Kd.dx (Kd.iK ho65 (Kd.iA (by (with_reducible repeat (first|apply Kd.aG|apply Kd.aD|apply Kd.aM));exact HO798.out))) (aC (by repeat (first|(with_reducible first|exact HB.out|apply af|apply aa|apply ag|refine ah ?_ GE795.out)|exact HB.out))));have n4_:=ae.mk (aH (g:=gb795) (o:=.cells #[.string t791,.slice Ao53 t792.length co53] 28 (0,0)) (by (with_reducible repeat (first|refine aj ?_ _|refine ak ?_|refine ai ?_ _));exact BK795.out) hb);have n5_:=ae.mk (az (by repeat (first|(with_reducible first|exact HB.out|apply af|apply aa|apply ag|refine ah ?_ GE795.out)|exact HB.out)) hb);clear HO794;clear HO798;clear HO803;clear BK795;clear HB;have HO794:=n0_;have HO798:=n1_;have HO803:=n2_;have HO808:=n3_;have BK795:=n4_;have HB:=n5_;clear n0_ n1_ n2_ n3_ n4_ n5_;clear hb ho65;obtain ⟨Ao66,co66,eo66⟩:=Kd.bY HO808.out;subst eo66;have hcz67_0:w64.cell? ⟨gb795,0,none⟩=some (.string t791):=(au BK795.out 0).trans rfl;have hcz67_1:w64.cell? ⟨gb795,1,none⟩=some (.slice Ao53 t792.length co53):=(au BK795.out 1).trans rfl;have hfz67_0:=av BK795.out 0;have hfz67_1:=av BK795.out 1)|((with_reducible refine aI (f:=13) rfl ?_);refine bn (some 44) rfl rfl Tryz.func13 (by kernel_rfl) rfl #[.agg #[.int .i64 5,.string (bH ByteArray.empty y796 (ji9)),.string (⟨#[]⟩:ByteArray),.slice Ao66 y806.length co66,.slice none 0 0],.agg #[.string t791,.slice Ao53 t792.length co53]] rfl (by (try simp only [List.map_toArray,List.map_cons,List.map_nil]);first|done|(simp only [hji9];rfl)|rfl|(simp only [List.length_drop,List.length_take];rfl)) ?_;(refine (bC.calls k 5 (bH ByteArray.empty y796 (ji9)) (⟨#[]⟩:ByteArray) _ _ y806 _ _ ([]:List (S25)) t791 _ _ t792 t809 _ ?side1 ?side2 ?side3 ?side4 ?side5 ?side6 ?side7 A17.out).mono ?_);(case side1=>repeat (first|exact (Kd.aY HO808.out).2.2|(with_reducible refine Kd.bV ?_ _)|(with_reducible refine Kd.bX ?_ _)|(with_reducible refine Kd.dm ?_)));(case side2=>exact (Kd.aY HO808.out).2.1);(case side3=>exact Kd.gp _ _);(case side4=>exact Nat.le_refl _);(case side5=>repeat (first|exact (Kd.dw HO794.out).2.2|(with_reducible refine Kd.bV ?_ _)|(with_reducible refine Kd.bX ?_ _)|(with_reducible refine Kd.dm ?_)));(case side6=>exact (Kd.dw HO794.out).2.1);(case side7=>first|exact HG.out|exact Gl.drewN HG.out _|exact Gl.below HG.out (by repeat (first|(with_reducible first|exact HB.out|apply af|apply aa|apply ag|refine ah ?_ GE795.out)|exact HB.out)));rintro e w68 ⟨rfl,hb⟩;refine ⟨_,rfl,?_⟩;have n0_:=ae.mk (Kd.dD (by (with_reducible repeat (first|apply Kd.bz|apply Kd.bq|apply Kd.bF));exact HO794.out) hb);have n1_:=ae.mk (Kd.aW (by (with_reducible repeat (first|apply Kd.aG|apply Kd.aD|apply Kd.aM));exact HO798.out) hb);have n2_:=ae.mk (Kd.aW (by (with_reducible repeat (first|apply Kd.aG|apply Kd.aD|apply Kd.aM));exact HO803.out) hb);have n3_:=ae.mk (Kd.aW (by (with_reducible repeat (first|apply Kd.aG|apply Kd.aD|apply Kd.aM));exact HO808.out) hb);have n4_:=ae.mk (aH (g:=gb795) (o:=.cells #[.string t791,.slice Ao53 t792.length co53] 28 (0,0)) (by (with_reducible repeat (first|refine aj ?_ _|refine ak ?_|refine ai ?_ _));exact BK795.out) hb);have n5_:=ae.mk (az (by repeat (first|(with_reducible first|exact HB.out|apply af|apply aa|apply ag|refine ah ?_ GE795.out)|exact HB.out)) hb);clear HO794;clear HO798;clear HO803;clear HO808;clear BK795;clear HB;have HO794:=n0_;have HO798:=n1_;have HO803:=n2_;have HO808:=n3_;have BK795:=n4_;have HB:=n5_;clear n0_ n1_ n2_ n3_ n4_ n5_;(try clear hb);(try clear hb2);(try clear hk);(try clear hi);have hcz69_0:w68.cell? ⟨gb795,0,none⟩=some (.string t791):=(au BK795.out 0).trans rfl;have hcz69_1:w68.cell? ⟨gb795,1,none⟩=some (.slice Ao53 t792.length co53):=(au BK795.out 1).trans rfl;have hfz69_0:=av BK795.out 0;have hfz69_1:=av BK795.out 1)|((with_reducible refine aI (f:=24) rfl ?_);refine bn (some 49) rfl rfl Tryz.func24 (by kernel_rfl) rfl #[.agg #[.string t791,.slice Ao53 t792.length co53],.string (bH ByteArray.empty y796 (ji9))] rfl (by (try simp only [List.map_toArray,List.map_cons,List.map_nil]);first|done|(simp only [hji9];rfl)|rfl|(simp only [List.length_drop,List.length_take];rfl)) ?_;(with_reducible refine (cz.calls k t791 (fun k_=>((((True∧k_≠gb795)∧some k_≠(.slice (some ad799) y796.length co56:Value).ownBlock)∧some k_≠(.slice (some ado62) y801.length co62:Value).ownBlock)∧some k_≠(.slice Ao66 y806.length co66:Value).ownBlock)) _ _ t792 (bH ByteArray.empty y796 (ji9)) t810 _ ?side1 A18.out).mono ?_);(case side1=>exact Kd.N_V (HO794.out));rintro e w70 ⟨v811,rfl,ho0,hb⟩;refine ⟨_,rfl,?_⟩;have n0_:=ae.mk (Kd.dD (by (with_reducible repeat (first|apply Kd.bz|apply Kd.bq|apply Kd.bF));exact HO794.out) hb);have n1_:=ae.mk (Kd.aW (by (with_reducible repeat (first|apply Kd.aG|apply Kd.aD|apply Kd.aM));exact HO798.out) hb);have n2_:=ae.mk (Kd.aW (by (with_reducible repeat (first|apply Kd.aG|apply Kd.aD|apply Kd.aM));exact HO803.out) hb);have n3_:=ae.mk (Kd.aW (by (with_reducible repeat (first|apply Kd.aG|apply Kd.aD|apply Kd.aM));exact HO808.out) hb);have n4_:=ae.mk (Kd.oF (Kd.nJ (ok':=fun k_=>some k_≠(.slice (some ad799) y796.length co56:Value).ownBlock∧some k_≠(.slice (some ado62) y801.length co62:Value).ownBlock∧some k_≠(.slice Ao66 y806.length co66:Value).ownBlock∧k_≠gb795) ho0 (fun k_ hk_=>⟨Or.elim hk_ (fun hs_=>hs_.1.1.2) (fun hn_=>(Kd.fresh' (Kd.iA (by (with_reducible repeat (first|apply Kd.aG|apply Kd.aD|apply Kd.aM));exact HO798.out)) k_ hn_)),Or.elim hk_ (fun hs_=>hs_.1.2) (fun hn_=>(Kd.fresh' (Kd.iA (by (with_reducible repeat (first|apply Kd.aG|apply Kd.aD|apply Kd.aM));exact HO803.out)) k_ hn_)),Or.elim hk_ (fun hs_=>hs_.2) (fun hn_=>(Kd.fresh' (Kd.iA (by (with_reducible repeat (first|apply Kd.aG|apply Kd.aD|apply Kd.aM));exact HO808.out)) k_ hn_)),Or.elim hk_ (fun hs_=>hs_.1.1.1.2) (fun hn_=>(Kd.gQ (g:=gb795) (o:=.cells #[.string t791,.slice Ao53 t792.length co53] 28 (0,0)) (by (with_reducible repeat (first|refine aj ?_ _|refine ak ?_|refine ai ?_ _));exact BK795.out) k_ hn_))⟩)) (aC (by repeat (first|(with_reducible first|exact HB.out|apply af|apply aa|apply ag|refine ah ?_ GE795.out)|exact HB.out))));have n5_:=ae.mk (aH (g:=gb795) (o:=.cells #[.string t791,.slice Ao53 t792.length co53] 28 (0,0)) (by (with_reducible repeat (first|refine aj ?_ _|refine ak ?_|refine ai ?_ _));exact BK795.out) hb);have n6_:=ae.mk (az (by repeat (first|(with_reducible first|exact HB.out|apply af|apply aa|apply ag|refine ah ?_ GE795.out)|exact HB.out)) hb);clear HO794;clear HO798;clear HO803;clear HO808;clear BK795;clear HB;have HO794:=n0_;have HO798:=n1_;have HO803:=n2_;have HO808:=n3_;have HO812:=n4_;have BK795:=n5_;have HB:=n6_;clear n0_ n1_ n2_ n3_ n4_ n5_ n6_;(try clear hb);(try clear hb2);(try clear hk);(try clear hi);(try clear ho0);obtain ⟨Ao71,co71,eo71⟩:=Kd.oM HO812.out;subst eo71)|(go_at_call 15;(with_reducible refine (aT.calls k  t814 _ ?side1 A49.out).mono ?_);(case side1=>first|exact HG.out|exact Gl.drewN HG.out _|exact Gl.below HG.out (by repeat (first|(with_reducible first|exact HB.out|apply af|apply aa|apply ag|refine ah ?_ GE795.out)|exact HB.out)));rintro e w72 ⟨rfl,hb⟩;have n0_:=ae.mk (Kd.dD (by (with_reducible repeat (first|apply Kd.bz|apply Kd.bq|apply Kd.bF));exact HO794.out) hb);have n1_:=ae.mk (Kd.aW (by (with_reducible repeat (first|apply Kd.aG|apply Kd.aD|apply Kd.aM));exact HO798.out) hb);have n2_:=ae.mk (Kd.aW (by (with_reducible repeat (first|apply Kd.aG|apply Kd.aD|apply Kd.aM));exact HO803.out) hb);have n3_:=ae.mk (Kd.aW (by (with_reducible repeat (first|apply Kd.aG|apply Kd.aD|apply Kd.aM));exact HO808.out) hb);have n4_:=ae.mk (Kd.jT (by (with_reducible repeat (first|apply Kd.jA|apply Kd.jv|apply Kd.kW));exact HO812.out) hb);have n5_:=ae.mk (aH (g:=gb795) (o:=.cells #[.string t791,.slice Ao53 t792.length co53] 28 (0,0)) (by (with_reducible repeat (first|refine aj ?_ _|refine ak ?_|refine ai ?_ _));exact BK795.out) hb);have n6_:=ae.mk (az (by repeat (first|(with_reducible first|exact HB.out|apply af|apply aa|apply ag|refine ah ?_ GE795.out)|exact HB.out)) hb);clear HO794;clear HO798;clear HO803;clear HO808;clear HO812;clear BK795;clear HB;have HO794:=n0_;have HO798:=n1_;have HO803:=n2_;have HO808:=n3_;have HO812:=n4_;have BK795:=n5_;have HB:=n6_;clear n0_ n1_ n2_ n3_ n4_ n5_ n6_;(try clear hb);(try clear hb2);(try clear hk);(try clear hi)))
           all_goals first
            | (exfalso;have h19:=beq_iff_eq.1 c19b0;rw [show decide ((t810.length:Int) > 0)=decide (0 < t810.length) from decide_eq_decide.2 (by omega)] at h19;first|contradiction|((first|rw [c21b0] at h19|rw [c74b0] at h19);have h20:=of_decide_eq_true h19.symm;contradiction)|((first|rw [c21b0] at h19|rw [c74b0] at h19);have h20:=of_decide_eq_false h19.symm;contradiction))
            | (go_ret;exact ⟨by first|rfl|(simp [aJ,aK] <;> rfl)|(simp only [← hji9,← hji13];first|rfl|(simp [aJ,aK] <;> rfl))|(simp [*,aJ,aK] <;> rfl),by repeat (first|(with_reducible first|exact HB.out|apply af|apply aa|apply ag|refine ah ?_ GE795.out)|exact HB.out)⟩)
        ·rw [if_neg c21] at H
         have c21b0:(t800 == 1)=false:=beq_eq_false_iff_ne.mpr c21
         have c21b1:(t800 != 1)=true:=bne_iff_ne.mpr c21
         exact absurd ((Option.some.inj H).trans HRT.out) Bool.false_ne_true
       ·rw [if_neg c20] at H
        have c20b0:(t805 == 1)=false:=beq_eq_false_iff_ne.mpr c20
        have c20b1:(t805 != 1)=true:=bne_iff_ne.mpr c20
        by_cases c73:t809=1
        ·rw [if_pos c73] at H
         have c73b0:(t809 == 1)=true:=beq_iff_eq.mpr c73
         have c73b1:(t809 != 1)=false:=bne_eq_false_iff_eq.mpr c73
         clear c73
         by_cases c74:t800=1
         ·rw [if_pos c74] at H
          have c74b0:(t800 == 1)=true:=beq_iff_eq.mpr c74
          have c74b1:(t800 != 1)=false:=bne_eq_false_iff_eq.mpr c74
          clear c74
          by_cases c75:t800=2
          ·rw [if_pos c75] at H
           have c75b0:(t800 == 2)=true:=beq_iff_eq.mpr c75
           have c75b1:(t800 != 2)=false:=bne_eq_false_iff_eq.mpr c75
           clear c75
           exact absurd ((Option.some.inj H).trans HRT.out) Bool.false_ne_true
          ·rw [if_neg c75] at H
           have c75b0:(t800 == 2)=false:=beq_eq_false_iff_ne.mpr c75
           have c75b1:(t800 != 2)=true:=bne_iff_ne.mpr c75
           replace H:=Option.bind_eq_some_iff.mp H
           obtain ⟨t815,A760,H⟩:=H
           replace H:(some t815)=some r:=H
           have A76:=ae.mk A760
           clear A760
           obtain rfl:=Option.some.inj H
           go_enter Tryz.func10,Tryz.ntmps10
           try go_wp2_with (first|((with_reducible refine aI (f:=17) rfl ?_);refine bn (some 19) rfl rfl Tryz.func17 (by kernel_rfl) rfl #[.slice A0 l0.length c0] rfl (by (try simp only [List.map_toArray,List.map_cons,List.map_nil]);first|done|rfl|(simp only [List.length_drop,List.length_take];rfl)) ?_;(with_reducible refine (aA.calls k _ _ l0 t791 t792 _ ?side1 ?side2 A8.out).mono ?_);(case side1=>repeat (first|exact HR0.out|(with_reducible refine Kd.bV ?_ _)|(with_reducible refine Kd.bX ?_ _)|(with_reducible refine Kd.dm ?_)));(case side2=>exact HC0.out);rintro e w77 ⟨v793,rfl,ho0,hb⟩;refine ⟨_,rfl,?_⟩;have n0_:=ae.mk (Kd.jF (Kd.cZ (ok':=fun k_=>True) (ho0) (fun k_ hk_=>trivial)) (aC (by repeat (first|(with_reducible first|exact HB.out|apply af|apply aa|apply ag)|exact HB.out))));have n1_:=ae.mk (az (by repeat (first|(with_reducible first|exact HB.out|apply af|apply aa|apply ag)|exact HB.out)) hb);clear HB;have HO794:=n0_;have HB:=n1_;clear n0_ n1_;(try clear hb);(try clear hb2);(try clear hk);(try clear hi);(try clear ho0))|((with_reducible refine bP (N:=9) rfl ?_);refine dB ?hg (N:=9) ?hd (cs:=#[.string (⟨#[]⟩:ByteArray),.slice none 0 0]) (t:=28) ?hr ?_;(case hd=>rfl);(case hg=>rfl);(case hr=>first|(go_simp;done)|(go_simp;rfl));intro gb795 hg w78 hbox hb;have n0_:=ae.mk (Kd.dD (Kd.lq (by (with_reducible repeat (first|apply Kd.bz|apply Kd.bq|apply Kd.bF));exact HO794.out) gb795 (Nat.le_of_eq hg.symm)) hb);have n1_:=ae.mk (az (by repeat (first|(with_reducible first|exact HB.out|apply af|apply aa|apply ag)|exact HB.out)) hb);have n2_:=ae.mk (hbox);have n3_:=ae.mk ((by rw [hg];exact (aC (by repeat (first|(with_reducible first|exact HB.out|apply af|apply aa|apply ag)|exact HB.out))):w.heap.size≤gb795));have n4_:=ae.mk ((by rw [hg];exact (aC (by repeat (first|(with_reducible first|exact HB.out|apply af|apply aa|apply ag)|exact HB.out))):w.heap.size≤gb795));clear HO794;clear HB;have HO794:=n0_;have HB:=n1_;have BK795:=n2_;have GW795:=n3_;have GE795:=n4_;clear n0_ n1_ n2_ n3_ n4_;clear hb hbox hg;have hcz79_0:w78.cell? ⟨gb795,0,none⟩=some (.string (⟨#[]⟩:ByteArray)):=(au BK795.out 0).trans rfl;have hcz79_1:w78.cell? ⟨gb795,1,none⟩=some (.slice none 0 0):=(au BK795.out 1).trans rfl;have hfz79_0:=av BK795.out 0;have hfz79_1:=av BK795.out 1;obtain ⟨Ao80,co80,eo80⟩:=Kd.gz HO794.out;subst eo80)|((with_reducible refine bP (N:=20) rfl ?_);refine Kd.jO Kd.string _ 9 ?hg (N:=20) ?hd (xs:=([(⟨#[99,110]⟩:ByteArray),(⟨#[115,110]⟩:ByteArray),(⟨#[109,97,105,108]⟩:ByteArray),(⟨#[100,101,115,99,114,105,112,116,105,111,110]⟩:ByteArray),(⟨#[117,105,100]⟩:ByteArray),(⟨#[117,105,100,110,117,109,98,101,114]⟩:ByteArray),(⟨#[111,98,106,101,99,116,99,108,97,115,115]⟩:ByteArray),(⟨#[111]⟩:ByteArray)]:List ByteArray)) (inner:=[.string (⟨#[99,110]⟩:ByteArray),.string (⟨#[115,110]⟩:ByteArray),.string (⟨#[109,97,105,108]⟩:ByteArray),.string (⟨#[100,101,115,99,114,105,112,116,105,111,110]⟩:ByteArray),.string (⟨#[117,105,100]⟩:ByteArray),.string (⟨#[117,105,100,110,117,109,98,101,114]⟩:ByteArray),.string (⟨#[111,98,106,101,99,116,99,108,97,115,115]⟩:ByteArray),.string (⟨#[111]⟩:ByteArray)]) (ok:=fun _=>True) (okp:=fun _=>True) ?hr ?hp (fun _ hk=>hk) trivial (Below.refl _ _) (Nat.le_refl _) (by simp) ?_;(case hd=>rfl);(case hg=>rfl);(case hr=>first|(go_simp;done)|(go_simp;rfl));(case hp=>exact (bE.one (show Kd.M Kd.string _ _ _ (⟨#[99,110]⟩:ByteArray) [.string (⟨#[99,110]⟩:ByteArray)] from rfl) (bE.one (show Kd.M Kd.string _ _ _ (⟨#[115,110]⟩:ByteArray) [.string (⟨#[115,110]⟩:ByteArray)] from rfl) (bE.one (show Kd.M Kd.string _ _ _ (⟨#[109,97,105,108]⟩:ByteArray) [.string (⟨#[109,97,105,108]⟩:ByteArray)] from rfl) (bE.one (show Kd.M Kd.string _ _ _ (⟨#[100,101,115,99,114,105,112,116,105,111,110]⟩:ByteArray) [.string (⟨#[100,101,115,99,114,105,112,116,105,111,110]⟩:ByteArray)] from rfl) (bE.one (show Kd.M Kd.string _ _ _ (⟨#[117,105,100]⟩:ByteArray) [.string (⟨#[117,105,100]⟩:ByteArray)] from rfl) (bE.one (show Kd.M Kd.string _ _ _ (⟨#[117,105,100,110,117,109,98,101,114]⟩:ByteArray) [.string (⟨#[117,105,100,110,117,109,98,101,114]⟩:ByteArray)] from rfl) (bE.one (show Kd.M Kd.string _ _ _ (⟨#[111,98,106,101,99,116,99,108,97,115,115]⟩:ByteArray) [.string (⟨#[111,98,106,101,99,116,99,108,97,115,115]⟩:ByteArray)] from rfl) (bE.one (show Kd.M Kd.string _ _ _ (⟨#[111]⟩:ByteArray) [.string (⟨#[111]⟩:ByteArray)] from rfl) (bE.none _ _))))))))));intro v797 w81 ho82 hb hg_ hnew_;clear hg_ hnew_;(first|rw [← Ny796.out] at ho82|(simp only [Int.reduceToNat] at ho82;rw [← Ny796.out] at ho82));have n0_:=ae.mk (Kd.dU (by (with_reducible repeat (first|apply Kd.bz|apply Kd.bq|apply Kd.bF));exact (Kd.cZ (Kd.gH (p:=⟨gb795,1,none⟩) (Kd.gH (p:=⟨gb795,0,none⟩) (Kd.cZ HO794.out (fun k_ hk=>(⟨hk,hk.2⟩:_∧k_≠gb795))) (fun _ hk=>hk.2) (.string t791)) (fun _ hk=>hk.2) (.slice Ao80 t792.length co80)) (fun _ h_=>h_.1))) (Kd.dP ho82) hb);have n1_:=ae.mk (Kd.dx ho82 (aC (by repeat (first|(with_reducible first|exact HB.out|apply af|apply aa|apply ag|refine ah ?_ GE795.out)|exact HB.out))));have n2_:=ae.mk (aH (g:=gb795) (o:=.cells #[.string t791,.slice Ao80 t792.length co80] 28 (0,0)) (by (with_reducible repeat (first|refine aj ?_ _|refine ak ?_|refine ai ?_ _));refine bW (cs:=#[.string t791,.slice none 0 0]) ?_ 1 _ (by first|rfl|(simp only [ax,ay];rfl)|simp [ax,ay]);(with_reducible repeat (first|refine aj ?_ _|refine ak ?_|refine ai ?_ _));refine bW (cs:=#[.string (⟨#[]⟩:ByteArray),.slice none 0 0]) ?_ 0 _ (by first|rfl|(simp only [ax,ay];rfl)|simp [ax,ay]);(with_reducible repeat (first|refine aj ?_ _|refine ak ?_|refine ai ?_ _));exact BK795.out) hb);have n3_:=ae.mk (az (by repeat (first|(with_reducible first|exact HB.out|apply af|apply aa|apply ag|refine ah ?_ GE795.out)|exact HB.out)) hb);clear HO794;clear BK795;clear HB;have HO794:=n0_;have HO798:=n1_;have BK795:=n2_;have HB:=n3_;clear n0_ n1_ n2_ n3_;clear hb ho82;obtain ⟨Ao83,co83,eo83⟩:=Kd.bY HO798.out;subst eo83;have p799:0≤((ji9):Int):=of_decide_eq_true (by first|(with_reducible assumption)|assumption);have q799:(ji9) < (y796.length:Int):=of_decide_eq_true (by first|(with_reducible assumption)|assumption);obtain ⟨ad799,e799,hx799_0⟩:=Kd.eO (Kd.aY HO798.out).2.2 (ji9) p799 q799;cases e799;replace p799:=eq_true p799;replace q799:=eq_true q799;have hcz84_0:w81.cell? ⟨gb795,0,none⟩=some (.string t791):=(au BK795.out 0).trans rfl;have hcz84_1:w81.cell? ⟨gb795,1,none⟩=some (.slice Ao80 t792.length co80):=(au BK795.out 1).trans rfl;have hfz84_0:=av BK795.out 0;have hfz84_1:=av BK795.out 1)|((with_reducible refine aI (f:=13) rfl ?_);refine bn (some 28) rfl rfl Tryz.func13 (by kernel_rfl) rfl #[.agg #[.int .i64 8,.string (bH ByteArray.empty y796 (ji9)),.string (⟨#[]⟩:ByteArray),.slice none 0 0,.slice none 0 0],.agg #[.string t791,.slice Ao80 t792.length co80]] rfl (by (try simp only [List.map_toArray,List.map_cons,List.map_nil]);first|done|(simp only [hji9];rfl)|rfl|(simp only [List.length_drop,List.length_take];rfl)) ?_;(refine (bC.calls k 8 (bH ByteArray.empty y796 (ji9)) (⟨#[]⟩:ByteArray) _ _ ([]:List ByteArray) _ _ ([]:List (S25)) t791 _ _ t792 t800 _ ?side1 ?side2 ?side3 ?side4 ?side5 ?side6 ?side7 A12.out).mono ?_);(case side1=>exact Kd.gp _ _);(case side2=>exact Nat.le_refl _);(case side3=>exact Kd.gp _ _);(case side4=>exact Nat.le_refl _);(case side5=>repeat (first|exact (Kd.dw HO794.out).2.2|(with_reducible refine Kd.bV ?_ _)|(with_reducible refine Kd.bX ?_ _)|(with_reducible refine Kd.dm ?_)));(case side6=>exact (Kd.dw HO794.out).2.1);(case side7=>first|exact HG.out|exact Gl.drewN HG.out _|exact Gl.below HG.out (by repeat (first|(with_reducible first|exact HB.out|apply af|apply aa|apply ag|refine ah ?_ GE795.out)|exact HB.out)));rintro e w85 ⟨rfl,hb⟩;refine ⟨_,rfl,?_⟩;have n0_:=ae.mk (Kd.dD (by (with_reducible repeat (first|apply Kd.bz|apply Kd.bq|apply Kd.bF));exact HO794.out) hb);have n1_:=ae.mk (Kd.aW (by (with_reducible repeat (first|apply Kd.aG|apply Kd.aD|apply Kd.aM));exact HO798.out) hb);have n2_:=ae.mk (aH (g:=gb795) (o:=.cells #[.string t791,.slice Ao80 t792.length co80] 28 (0,0)) (by (with_reducible repeat (first|refine aj ?_ _|refine ak ?_|refine ai ?_ _));exact BK795.out) hb);have n3_:=ae.mk (az (by repeat (first|(with_reducible first|exact HB.out|apply af|apply aa|apply ag|refine ah ?_ GE795.out)|exact HB.out)) hb);clear HO794;clear HO798;clear BK795;clear HB;have HO794:=n0_;have HO798:=n1_;have BK795:=n2_;have HB:=n3_;clear n0_ n1_ n2_ n3_;(try clear hb);(try clear hb2);(try clear hk);(try clear hi)))
           have pi804:(0≤((ji13):Int))=True:=eq_true (of_decide_eq_true (by first|(with_reducible assumption)|assumption))
           have qi804:((ji13) < (y801.length:Int))=True:=eq_true (of_decide_eq_true (by first|(with_reducible assumption)|assumption))
           have n0_:=ae.mk (Kd.bF HO794.out)
           have n1_:=ae.mk (Kd.aM HO798.out)
           have n2_:=ae.mk (ak BK795.out)
           have n3_:=ae.mk (ag HB.out)
           clear HO794
           clear HO798
           clear BK795
           clear HB
           have HO794:=n0_
           have HO798:=n1_
           have BK795:=n2_
           have HB:=n3_
           clear n0_ n1_ n2_ n3_
           refine kr (n:=11) (S:=fun w'=>w'.cell? ⟨gb795,0,none⟩=some (.string t791)∧w'.cell? ⟨gb795,1,none⟩=some (.slice Ao80 t792.length co80)) (ds:=[]) #[false,false,false,false,false,false,false,false,false,false,false] (by kernel_rfl) rfl rfl ⟨(au BK795.out 0).trans rfl,(au BK795.out 1).trans rfl⟩ (fun hHeld=>?_);refine gX bK.tab6 bK.bits6 (fun HT_ HW_=>?_)
           generalize w85.drew=w86 at HO794 HO798 BK795 HB hHeld ⊢
           refine bO (i:=1) (N:=some 30) (v:=?_) (a':=?_) #[false,true,false,false,false,false,false,false,false,false,false] rfl rfl (bD HT_.out (by kernel_rfl)) (fun _ _ _ h=>h) (Or.inl ⟨by rfl,?_⟩) ?_ ?_
           rotate_left
           ·intro w'
            go_simp
            with_reducible rfl
           rotate_left
           ·simp only [Act.put,List.setIfInBounds_toArray,List.set_cons_zero,List.set_cons_succ,aN,aQ]
            rfl
           refine bO (i:=2) (N:=some 31) (v:=?_) (a':=?_) #[false,true,true,false,false,false,false,false,false,false,false] rfl rfl (bD HT_.out (by kernel_rfl)) (fun _ _ _ h=>h) (Or.inl ⟨by rfl,?_⟩) ?_ ?_
           rotate_left
           ·intro w'
            go_simp
            with_reducible rfl
           rotate_left
           ·simp only [Act.put,List.setIfInBounds_toArray,List.set_cons_zero,List.set_cons_succ,aN,aQ]
            rfl
           refine bO (i:=5) (N:=some 34) (v:=?_) (a':=?_) #[false,true,true,false,false,true,false,false,false,false,false] rfl rfl (bD HT_.out (by kernel_rfl)) (fun _ _ _ h=>h) (Or.inl ⟨by rfl,?_⟩) ?_ ?_
           rotate_left
           ·intro w'
            go_simp
            with_reducible rfl
           rotate_left
           ·simp only [Act.put,List.setIfInBounds_toArray,List.set_cons_zero,List.set_cons_succ,aN,aQ]
            rfl
           refine bO (i:=6) (N:=some 35) (v:=?_) (a':=?_) #[false,true,true,false,false,true,true,false,false,false,false] rfl rfl (bD HT_.out (by kernel_rfl)) (fun _ _ _ h=>h) (Or.inl ⟨by rfl,?_⟩) ?_ ?_
           rotate_left
           ·intro w'
            go_simp
            with_reducible rfl
           rotate_left
           ·simp only [Act.put,List.setIfInBounds_toArray,List.set_cons_zero,List.set_cons_succ,aN,aQ]
            rfl
           refine take_ (i:=8) (N:=some 37) (v:=?_) (a':=?_) #[false,true,true,false,false,true,true,false,true,false,false] rfl rfl (fu HT_.out HW_.out (by kernel_rfl)) (fun _ _ _ h=>h) (Or.inl ⟨by rfl,?_⟩) hHeld ?_ ?_
           rotate_left
           ·rintro w' ⟨s0,s1⟩
            go_simp
            with_reducible rfl
           rotate_left
           ·simp only [Act.put,List.setIfInBounds_toArray,List.set_cons_zero,List.set_cons_succ,aN,aQ]
            rfl
           refine iJ (i:=0) (N:=some 29) #[true,true,true,false,false,true,true,false,true,false,false] rfl rfl (dJ HT_.out (by kernel_rfl)) (by decide) (fun K hK=>?_)
           refine Kd.gm (Kd.int .i64) _ 3 ?hg (N:=29) ?hd (xs:=([4,6,7]:List Int)) (inner:=[.int .i64 4,.int .i64 6,.int .i64 7]) (ok:=fun _=>True) (okp:=fun _=>True) ?hr ?hp (fun _ hk=>hk) trivial (Below.refl _ _) (Nat.le_refl _) (by simp) ?_;(case hd=>rfl);(case hg=>rfl);(case hr=>first|(go_simp;done)|(go_simp;rfl));(case hp=>exact (bE.one (show Kd.M (Kd.int .i64) _ _ _ 4 [.int .i64 4] from rfl) (bE.one (show Kd.M (Kd.int .i64) _ _ _ 6 [.int .i64 6] from rfl) (bE.one (show Kd.M (Kd.int .i64) _ _ _ 7 [.int .i64 7] from rfl) (bE.none _ _)))))
           intro v802 w87 ho88 hb hg_ hnew_
           clear hg_ hnew_
           (first|rw [← Ny801.out] at ho88|(simp only [Int.reduceToNat] at ho88;rw [← Ny801.out] at ho88))
           have n0_:=ae.mk (Kd.dU (by (with_reducible repeat (first|apply Kd.bz|apply Kd.bq|apply Kd.bF));exact HO794.out) (Kd.dP ho88) hb)
           have n1_:=ae.mk (Kd.aW (by (with_reducible repeat (first|apply Kd.aG|apply Kd.aD|apply Kd.aM));exact HO798.out) hb)
           have n2_:=ae.mk (Kd.dx ho88 (aC (by repeat (first|(with_reducible first|exact HB.out|apply af|apply aa|apply ag|refine ah ?_ GE795.out)|exact HB.out))))
           have n3_:=ae.mk (aH (g:=gb795) (o:=.cells #[.string t791,.slice Ao80 t792.length co80] 28 (0,0)) (by (with_reducible repeat (first|refine aj ?_ _|refine ak ?_|refine ai ?_ _));exact BK795.out) hb)
           have n4_:=ae.mk (az (by repeat (first|(with_reducible first|exact HB.out|apply af|apply aa|apply ag|refine ah ?_ GE795.out)|exact HB.out)) hb)
           clear HO794
           clear HO798
           clear BK795
           clear HB
           have HO794:=n0_
           have HO798:=n1_
           have HO803:=n2_
           have BK795:=n3_
           have HB:=n4_
           clear n0_ n1_ n2_ n3_ n4_
           clear hb ho88
           obtain ⟨Ao89,co89,eo89⟩:=Kd.bY HO803.out
           subst eo89
           obtain ⟨ado89,fo89,_⟩:=Kd.fD (Kd.aY HO803.out).2.2 0 (by decide) (by rw [Ny801.out];simp)
           cases fo89
           refine hK.out _ _ ⟨(au BK795.out 0).trans rfl,(au BK795.out 1).trans rfl⟩ (fun hHeld=>?_)
           clear hK K
           refine eQ (a':=?_) ?_ ?_
           rotate_left
           ·show Act.put _ (some 29) _=_
            simp only [Act.put,List.setIfInBounds_toArray,List.set_cons_zero,List.set_cons_succ,aN,aQ]
            rfl
           refine bO (i:=3) (N:=some 32) (v:=?_) (a':=?_) #[true,true,true,true,false,true,true,false,true,false,false] rfl rfl (bD HT_.out (by kernel_rfl)) (fun _ _ _ h=>h) (Or.inl ⟨by rfl,?_⟩) ?_ ?_
           rotate_left
           ·intro w'
            go_simp
            with_reducible rfl
           rotate_left
           ·simp only [Act.put,List.setIfInBounds_toArray,List.set_cons_zero,List.set_cons_succ,aN,aQ]
            rfl
           refine iJ (i:=4) (N:=some 33) #[true,true,true,true,true,true,true,false,true,false,false] rfl rfl (dJ HT_.out (by kernel_rfl)) (by decide) (fun K hK=>?_)
           (have p804:0≤((ji13):Int):=of_decide_eq_true (by first|(with_reducible assumption)|assumption);have q804:(ji13) < (y801.length:Int):=of_decide_eq_true (by first|(with_reducible assumption)|assumption);obtain ⟨ad804,e804,hx804_0⟩:=Kd.fD (Kd.aY HO803.out).2.2 (ji13) p804 q804;obtain rfl:ado89=ad804:=(by injection e804))
           refine ma (w1:=?_) (v:=?_) (by rfl) rfl ?_ ?_
           rotate_left 2
           ·go_simp
            constructor
            ·rfl
            ·rfl
           clear hx804_0
           refine hK.out _ _ ⟨(au BK795.out 0).trans rfl,(au BK795.out 1).trans rfl⟩ (fun hHeld=>?_)
           clear hK K
           refine eQ (a':=?_) ?_ ?_
           rotate_left
           ·show Act.put _ (some 33) _=_
            simp only [Act.put,List.setIfInBounds_toArray,List.set_cons_zero,List.set_cons_succ,aN,aQ]
            rfl
           refine bO (i:=7) (N:=some 36) (v:=?_) (a':=?_) #[true,true,true,true,true,true,true,true,true,false,false] rfl rfl (bD HT_.out (by kernel_rfl)) (fun _ _ _ h=>h) (Or.inl ⟨by rfl,?_⟩) ?_ ?_
           rotate_left
           ·intro w'
            go_simp
            with_reducible rfl
           rotate_left
           ·simp only [Act.put,List.setIfInBounds_toArray,List.set_cons_zero,List.set_cons_succ,aN,aQ]
            rfl
           refine iJ (i:=9) (N:=some 38) #[true,true,true,true,true,true,true,true,true,true,false] rfl rfl (dJ HT_.out (by kernel_rfl)) (by decide) (fun K hK=>?_)
           refine kF Tryz.func13 (by kernel_rfl) rfl #[.agg #[.int .i64 (rd y801 (ji13)),.string (bH ByteArray.empty y796 (ji9)),.string a3,.slice none 0 0,.slice none 0 0],.agg #[.string t791,.slice Ao80 t792.length co80]] (by rfl) rfl rfl (by (try simp only [List.map_toArray,List.map_cons,List.map_nil]);first|done|(simp only [hji13,hji9];rfl)|rfl|(simp only [List.length_drop,List.length_take];rfl)) ?_
           refine (bC.calls k (rd y801 (ji13)) (bH ByteArray.empty y796 (ji9)) a3 _ _ ([]:List ByteArray) _ _ ([]:List (S25)) t791 _ _ t792 t805 _ ?side1 ?side2 ?side3 ?side4 ?side5 ?side6 ?side7 A16.out).mono ?_
           (case side1=>exact Kd.gp _ _)
           (case side2=>exact Nat.le_refl _)
           (case side3=>exact Kd.gp _ _)
           (case side4=>exact Nat.le_refl _)
           (case side5=>repeat (first|exact (Kd.dw HO794.out).2.2|(with_reducible refine Kd.bV ?_ _)|(with_reducible refine Kd.bX ?_ _)|(with_reducible refine Kd.dm ?_)))
           (case side6=>exact (Kd.dw HO794.out).2.1)
           (case side7=>first|exact HG.out|exact Gl.drewN HG.out _|exact Gl.below HG.out (by repeat (first|(with_reducible first|exact HB.out|apply af|apply aa|apply ag|refine ah ?_ GE795.out)|exact HB.out)))
           rintro e w90 ⟨rfl,hb⟩
           refine ⟨_,rfl,?_⟩
           have n0_:=ae.mk (Kd.dD (by (with_reducible repeat (first|apply Kd.bz|apply Kd.bq|apply Kd.bF));exact HO794.out) hb)
           have n1_:=ae.mk (Kd.aW (by (with_reducible repeat (first|apply Kd.aG|apply Kd.aD|apply Kd.aM));exact HO798.out) hb)
           have n2_:=ae.mk (Kd.aW (by (with_reducible repeat (first|apply Kd.aG|apply Kd.aD|apply Kd.aM));exact HO803.out) hb)
           have n3_:=ae.mk (aH (g:=gb795) (o:=.cells #[.string t791,.slice Ao80 t792.length co80] 28 (0,0)) (by (with_reducible repeat (first|refine aj ?_ _|refine ak ?_|refine ai ?_ _));exact BK795.out) hb)
           have n4_:=ae.mk (az (by repeat (first|(with_reducible first|exact HB.out|apply af|apply aa|apply ag|refine ah ?_ GE795.out)|exact HB.out)) hb)
           clear HO794
           clear HO798
           clear HO803
           clear BK795
           clear HB
           have HO794:=n0_
           have HO798:=n1_
           have HO803:=n2_
           have BK795:=n3_
           have HB:=n4_
           clear n0_ n1_ n2_ n3_ n4_
           (try clear hb)
           (try clear hb2)
           (try clear hk)
           (try clear hi)
           refine hK.out _ _ ⟨(au BK795.out 0).trans rfl,(au BK795.out 1).trans rfl⟩ (fun hHeld=>?_)
           clear hK K
           refine eQ (a':=?_) ?_ ?_
           rotate_left
           ·show Act.put _ (some 38) _=_
            simp only [Act.put,List.setIfInBounds_toArray,List.set_cons_zero,List.set_cons_succ,aN,aQ]
            rfl
           refine bO (i:=10) (N:=some 12) (v:=?_) (a':=?_) #[true,true,true,true,true,true,true,true,true,true,true] rfl rfl (bD HT_.out (by kernel_rfl)) (fun _ _ _ h=>h) (Or.inl ⟨by rfl,?_⟩) ?_ ?_
           rotate_left
           ·intro w'
            go_simp
            with_reducible rfl
           rotate_left
           ·simp only [Act.put,List.setIfInBounds_toArray,List.set_cons_zero,List.set_cons_succ,aN,aQ]
            rfl
           refine l9 (ja HT_.out (by kernel_rfl)) ?_
           try go_wp2_with (first|((with_reducible refine bP (N:=41) rfl ?_);refine Kd.jO Kd.string _ 9 ?hg (N:=41) ?hd (xs:=([a3,(⟨#[120]⟩:ByteArray)]:List ByteArray)) (inner:=[.string a3,.string (⟨#[120]⟩:ByteArray)]) (ok:=fun _=>True) (okp:=fun _=>True) ?hr ?hp (fun _ hk=>hk) trivial (Below.refl _ _) (Nat.le_refl _) (by simp) ?_;(case hd=>rfl);(case hg=>rfl);(case hr=>first|(go_simp;done)|(go_simp;rfl));(case hp=>exact (bE.one (show Kd.M Kd.string _ _ _ a3 [.string a3] from rfl) (bE.one (show Kd.M Kd.string _ _ _ (⟨#[120]⟩:ByteArray) [.string (⟨#[120]⟩:ByteArray)] from rfl) (bE.none _ _))));intro v807 w91 ho92 hb hg_ hnew_;clear hg_ hnew_;(first|rw [← Ny806.out] at ho92|(simp only [Int.reduceToNat] at ho92;rw [← Ny806.out] at ho92));have n0_:=ae.mk (Kd.dU (by (with_reducible repeat (first|apply Kd.bz|apply Kd.bq|apply Kd.bF));exact HO794.out) (Kd.dP ho92) hb);have n1_:=ae.mk (Kd.gF (by (with_reducible repeat (first|apply Kd.aG|apply Kd.aD|apply Kd.aM));exact HO798.out) (Kd.dP ho92) hb);have n2_:=ae.mk (Kd.aW (by (with_reducible repeat (first|apply Kd.aG|apply Kd.aD|apply Kd.aM));exact HO803.out) hb);have n3_:=ae.mk (Kd.dx (Kd.iK ho92 (Kd.iA (by (with_reducible repeat (first|apply Kd.aG|apply Kd.aD|apply Kd.aM));exact HO798.out))) (aC (by repeat (first|(with_reducible first|exact HB.out|apply af|apply aa|apply ag|refine ah ?_ GE795.out)|exact HB.out))));have n4_:=ae.mk (aH (g:=gb795) (o:=.cells #[.string t791,.slice Ao80 t792.length co80] 28 (0,0)) (by (with_reducible repeat (first|refine aj ?_ _|refine ak ?_|refine ai ?_ _));exact BK795.out) hb);have n5_:=ae.mk (az (by repeat (first|(with_reducible first|exact HB.out|apply af|apply aa|apply ag|refine ah ?_ GE795.out)|exact HB.out)) hb);clear HO794;clear HO798;clear HO803;clear BK795;clear HB;have HO794:=n0_;have HO798:=n1_;have HO803:=n2_;have HO808:=n3_;have BK795:=n4_;have HB:=n5_;clear n0_ n1_ n2_ n3_ n4_ n5_;clear hb ho92;obtain ⟨Ao93,co93,eo93⟩:=Kd.bY HO808.out;subst eo93;have hcz94_0:w91.cell? ⟨gb795,0,none⟩=some (.string t791):=(au BK795.out 0).trans rfl;have hcz94_1:w91.cell? ⟨gb795,1,none⟩=some (.slice Ao80 t792.length co80):=(au BK795.out 1).trans rfl;have hfz94_0:=av BK795.out 0;have hfz94_1:=av BK795.out 1)|((with_reducible refine aI (f:=13) rfl ?_);refine bn (some 44) rfl rfl Tryz.func13 (by kernel_rfl) rfl #[.agg #[.int .i64 5,.string (bH ByteArray.empty y796 (ji9)),.string (⟨#[]⟩:ByteArray),.slice Ao93 y806.length co93,.slice none 0 0],.agg #[.string t791,.slice Ao80 t792.length co80]] rfl (by (try simp only [List.map_toArray,List.map_cons,List.map_nil]);first|done|(simp only [hji9];rfl)|rfl|(simp only [List.length_drop,List.length_take];rfl)) ?_;(refine (bC.calls k 5 (bH ByteArray.empty y796 (ji9)) (⟨#[]⟩:ByteArray) _ _ y806 _ _ ([]:List (S25)) t791 _ _ t792 t809 _ ?side1 ?side2 ?side3 ?side4 ?side5 ?side6 ?side7 A17.out).mono ?_);(case side1=>repeat (first|exact (Kd.aY HO808.out).2.2|(with_reducible refine Kd.bV ?_ _)|(with_reducible refine Kd.bX ?_ _)|(with_reducible refine Kd.dm ?_)));(case side2=>exact (Kd.aY HO808.out).2.1);(case side3=>exact Kd.gp _ _);(case side4=>exact Nat.le_refl _);(case side5=>repeat (first|exact (Kd.dw HO794.out).2.2|(with_reducible refine Kd.bV ?_ _)|(with_reducible refine Kd.bX ?_ _)|(with_reducible refine Kd.dm ?_)));(case side6=>exact (Kd.dw HO794.out).2.1);(case side7=>first|exact HG.out|exact Gl.drewN HG.out _|exact Gl.below HG.out (by repeat (first|(with_reducible first|exact HB.out|apply af|apply aa|apply ag|refine ah ?_ GE795.out)|exact HB.out)));rintro e w95 ⟨rfl,hb⟩;refine ⟨_,rfl,?_⟩;have n0_:=ae.mk (Kd.dD (by (with_reducible repeat (first|apply Kd.bz|apply Kd.bq|apply Kd.bF));exact HO794.out) hb);have n1_:=ae.mk (Kd.aW (by (with_reducible repeat (first|apply Kd.aG|apply Kd.aD|apply Kd.aM));exact HO798.out) hb);have n2_:=ae.mk (Kd.aW (by (with_reducible repeat (first|apply Kd.aG|apply Kd.aD|apply Kd.aM));exact HO803.out) hb);have n3_:=ae.mk (Kd.aW (by (with_reducible repeat (first|apply Kd.aG|apply Kd.aD|apply Kd.aM));exact HO808.out) hb);have n4_:=ae.mk (aH (g:=gb795) (o:=.cells #[.string t791,.slice Ao80 t792.length co80] 28 (0,0)) (by (with_reducible repeat (first|refine aj ?_ _|refine ak ?_|refine ai ?_ _));exact BK795.out) hb);have n5_:=ae.mk (az (by repeat (first|(with_reducible first|exact HB.out|apply af|apply aa|apply ag|refine ah ?_ GE795.out)|exact HB.out)) hb);clear HO794;clear HO798;clear HO803;clear HO808;clear BK795;clear HB;have HO794:=n0_;have HO798:=n1_;have HO803:=n2_;have HO808:=n3_;have BK795:=n4_;have HB:=n5_;clear n0_ n1_ n2_ n3_ n4_ n5_;(try clear hb);(try clear hb2);(try clear hk);(try clear hi);have hcz96_0:w95.cell? ⟨gb795,0,none⟩=some (.string t791):=(au BK795.out 0).trans rfl;have hcz96_1:w95.cell? ⟨gb795,1,none⟩=some (.slice Ao80 t792.length co80):=(au BK795.out 1).trans rfl;have hfz96_0:=av BK795.out 0;have hfz96_1:=av BK795.out 1)|((with_reducible refine aI (f:=24) rfl ?_);refine bn (some 49) rfl rfl Tryz.func24 (by kernel_rfl) rfl #[.agg #[.string t791,.slice Ao80 t792.length co80],.string (bH ByteArray.empty y796 (ji9))] rfl (by (try simp only [List.map_toArray,List.map_cons,List.map_nil]);first|done|(simp only [hji9];rfl)|rfl|(simp only [List.length_drop,List.length_take];rfl)) ?_;(with_reducible refine (cz.calls k t791 (fun k_=>((((True∧k_≠gb795)∧some k_≠(.slice (some ad799) y796.length co83:Value).ownBlock)∧some k_≠(.slice (some ado89) y801.length co89:Value).ownBlock)∧some k_≠(.slice Ao93 y806.length co93:Value).ownBlock)) _ _ t792 (bH ByteArray.empty y796 (ji9)) t810 _ ?side1 A18.out).mono ?_);(case side1=>exact Kd.N_V (HO794.out));rintro e w97 ⟨v811,rfl,ho0,hb⟩;refine ⟨_,rfl,?_⟩;have n0_:=ae.mk (Kd.dD (by (with_reducible repeat (first|apply Kd.bz|apply Kd.bq|apply Kd.bF));exact HO794.out) hb);have n1_:=ae.mk (Kd.aW (by (with_reducible repeat (first|apply Kd.aG|apply Kd.aD|apply Kd.aM));exact HO798.out) hb);have n2_:=ae.mk (Kd.aW (by (with_reducible repeat (first|apply Kd.aG|apply Kd.aD|apply Kd.aM));exact HO803.out) hb);have n3_:=ae.mk (Kd.aW (by (with_reducible repeat (first|apply Kd.aG|apply Kd.aD|apply Kd.aM));exact HO808.out) hb);have n4_:=ae.mk (Kd.oF (Kd.nJ (ok':=fun k_=>some k_≠(.slice (some ad799) y796.length co83:Value).ownBlock∧some k_≠(.slice (some ado89) y801.length co89:Value).ownBlock∧some k_≠(.slice Ao93 y806.length co93:Value).ownBlock∧k_≠gb795) ho0 (fun k_ hk_=>⟨Or.elim hk_ (fun hs_=>hs_.1.1.2) (fun hn_=>(Kd.fresh' (Kd.iA (by (with_reducible repeat (first|apply Kd.aG|apply Kd.aD|apply Kd.aM));exact HO798.out)) k_ hn_)),Or.elim hk_ (fun hs_=>hs_.1.2) (fun hn_=>(Kd.fresh' (Kd.iA (by (with_reducible repeat (first|apply Kd.aG|apply Kd.aD|apply Kd.aM));exact HO803.out)) k_ hn_)),Or.elim hk_ (fun hs_=>hs_.2) (fun hn_=>(Kd.fresh' (Kd.iA (by (with_reducible repeat (first|apply Kd.aG|apply Kd.aD|apply Kd.aM));exact HO808.out)) k_ hn_)),Or.elim hk_ (fun hs_=>hs_.1.1.1.2) (fun hn_=>(Kd.gQ (g:=gb795) (o:=.cells #[.string t791,.slice Ao80 t792.length co80] 28 (0,0)) (by (with_reducible repeat (first|refine aj ?_ _|refine ak ?_|refine ai ?_ _));exact BK795.out) k_ hn_))⟩)) (aC (by repeat (first|(with_reducible first|exact HB.out|apply af|apply aa|apply ag|refine ah ?_ GE795.out)|exact HB.out))));have n5_:=ae.mk (aH (g:=gb795) (o:=.cells #[.string t791,.slice Ao80 t792.length co80] 28 (0,0)) (by (with_reducible repeat (first|refine aj ?_ _|refine ak ?_|refine ai ?_ _));exact BK795.out) hb);have n6_:=ae.mk (az (by repeat (first|(with_reducible first|exact HB.out|apply af|apply aa|apply ag|refine ah ?_ GE795.out)|exact HB.out)) hb);clear HO794;clear HO798;clear HO803;clear HO808;clear BK795;clear HB;have HO794:=n0_;have HO798:=n1_;have HO803:=n2_;have HO808:=n3_;have HO812:=n4_;have BK795:=n5_;have HB:=n6_;clear n0_ n1_ n2_ n3_ n4_ n5_ n6_;(try clear hb);(try clear hb2);(try clear hk);(try clear hi);(try clear ho0);obtain ⟨Ao98,co98,eo98⟩:=Kd.oM HO812.out;subst eo98)|(go_at_call 15;(with_reducible refine (aT.calls k  t815 _ ?side1 A76.out).mono ?_);(case side1=>first|exact HG.out|exact Gl.drewN HG.out _|exact Gl.below HG.out (by repeat (first|(with_reducible first|exact HB.out|apply af|apply aa|apply ag|refine ah ?_ GE795.out)|exact HB.out)));rintro e w99 ⟨rfl,hb⟩;have n0_:=ae.mk (Kd.dD (by (with_reducible repeat (first|apply Kd.bz|apply Kd.bq|apply Kd.bF));exact HO794.out) hb);have n1_:=ae.mk (Kd.aW (by (with_reducible repeat (first|apply Kd.aG|apply Kd.aD|apply Kd.aM));exact HO798.out) hb);have n2_:=ae.mk (Kd.aW (by (with_reducible repeat (first|apply Kd.aG|apply Kd.aD|apply Kd.aM));exact HO803.out) hb);have n3_:=ae.mk (Kd.aW (by (with_reducible repeat (first|apply Kd.aG|apply Kd.aD|apply Kd.aM));exact HO808.out) hb);have n4_:=ae.mk (Kd.jT (by (with_reducible repeat (first|apply Kd.jA|apply Kd.jv|apply Kd.kW));exact HO812.out) hb);have n5_:=ae.mk (aH (g:=gb795) (o:=.cells #[.string t791,.slice Ao80 t792.length co80] 28 (0,0)) (by (with_reducible repeat (first|refine aj ?_ _|refine ak ?_|refine ai ?_ _));exact BK795.out) hb);have n6_:=ae.mk (az (by repeat (first|(with_reducible first|exact HB.out|apply af|apply aa|apply ag|refine ah ?_ GE795.out)|exact HB.out)) hb);clear HO794;clear HO798;clear HO803;clear HO808;clear HO812;clear BK795;clear HB;have HO794:=n0_;have HO798:=n1_;have HO803:=n2_;have HO808:=n3_;have HO812:=n4_;have BK795:=n5_;have HB:=n6_;clear n0_ n1_ n2_ n3_ n4_ n5_ n6_;(try clear hb);(try clear hb2);(try clear hk);(try clear hi)))
           all_goals first
            | (exfalso;have h19:=beq_iff_eq.1 c19b0;rw [show decide ((t810.length:Int) > 0)=decide (0 < t810.length) from decide_eq_decide.2 (by omega)] at h19;first|contradiction|((first|rw [c21b0] at h19|rw [c74b0] at h19);have h20:=of_decide_eq_true h19.symm;contradiction)|((first|rw [c21b0] at h19|rw [c74b0] at h19);have h20:=of_decide_eq_false h19.symm;contradiction))
            | (go_ret;exact ⟨by first|rfl|(simp [aJ,aK] <;> rfl)|(simp only [← hji9,← hji13];first|rfl|(simp [aJ,aK] <;> rfl))|(simp [*,aJ,aK] <;> rfl),by repeat (first|(with_reducible first|exact HB.out|apply af|apply aa|apply ag|refine ah ?_ GE795.out)|exact HB.out)⟩)
         ·rw [if_neg c74] at H
          have c74b0:(t800 == 1)=false:=beq_eq_false_iff_ne.mpr c74
          have c74b1:(t800 != 1)=true:=bne_iff_ne.mpr c74
          exact absurd ((Option.some.inj H).trans HRT.out) Bool.false_ne_true
        ·rw [if_neg c73] at H
         have c73b0:(t809 == 1)=false:=beq_eq_false_iff_ne.mpr c73
         have c73b1:(t809 != 1)=true:=bne_iff_ne.mpr c73
         by_cases c100:t800=2
         ·rw [if_pos c100] at H
          have c100b0:(t800 == 2)=true:=beq_iff_eq.mpr c100
          have c100b1:(t800 != 2)=false:=bne_eq_false_iff_eq.mpr c100
          clear c100
          exact absurd ((Option.some.inj H).trans HRT.out) Bool.false_ne_true
         ·rw [if_neg c100] at H
          have c100b0:(t800 == 2)=false:=beq_eq_false_iff_ne.mpr c100
          have c100b1:(t800 != 2)=true:=bne_iff_ne.mpr c100
          replace H:=Option.bind_eq_some_iff.mp H
          obtain ⟨t816,A1010,H⟩:=H
          replace H:(some t816)=some r:=H
          have A101:=ae.mk A1010
          clear A1010
          obtain rfl:=Option.some.inj H
          go_enter Tryz.func10,Tryz.ntmps10
          try go_wp2_with (first|((with_reducible refine aI (f:=17) rfl ?_);refine bn (some 19) rfl rfl Tryz.func17 (by kernel_rfl) rfl #[.slice A0 l0.length c0] rfl (by (try simp only [List.map_toArray,List.map_cons,List.map_nil]);first|done|rfl|(simp only [List.length_drop,List.length_take];rfl)) ?_;(with_reducible refine (aA.calls k _ _ l0 t791 t792 _ ?side1 ?side2 A8.out).mono ?_);(case side1=>repeat (first|exact HR0.out|(with_reducible refine Kd.bV ?_ _)|(with_reducible refine Kd.bX ?_ _)|(with_reducible refine Kd.dm ?_)));(case side2=>exact HC0.out);rintro e w102 ⟨v793,rfl,ho0,hb⟩;refine ⟨_,rfl,?_⟩;have n0_:=ae.mk (Kd.jF (Kd.cZ (ok':=fun k_=>True) (ho0) (fun k_ hk_=>trivial)) (aC (by repeat (first|(with_reducible first|exact HB.out|apply af|apply aa|apply ag)|exact HB.out))));have n1_:=ae.mk (az (by repeat (first|(with_reducible first|exact HB.out|apply af|apply aa|apply ag)|exact HB.out)) hb);clear HB;have HO794:=n0_;have HB:=n1_;clear n0_ n1_;(try clear hb);(try clear hb2);(try clear hk);(try clear hi);(try clear ho0))|((with_reducible refine bP (N:=9) rfl ?_);refine dB ?hg (N:=9) ?hd (cs:=#[.string (⟨#[]⟩:ByteArray),.slice none 0 0]) (t:=28) ?hr ?_;(case hd=>rfl);(case hg=>rfl);(case hr=>first|(go_simp;done)|(go_simp;rfl));intro gb795 hg w103 hbox hb;have n0_:=ae.mk (Kd.dD (Kd.lq (by (with_reducible repeat (first|apply Kd.bz|apply Kd.bq|apply Kd.bF));exact HO794.out) gb795 (Nat.le_of_eq hg.symm)) hb);have n1_:=ae.mk (az (by repeat (first|(with_reducible first|exact HB.out|apply af|apply aa|apply ag)|exact HB.out)) hb);have n2_:=ae.mk (hbox);have n3_:=ae.mk ((by rw [hg];exact (aC (by repeat (first|(with_reducible first|exact HB.out|apply af|apply aa|apply ag)|exact HB.out))):w.heap.size≤gb795));have n4_:=ae.mk ((by rw [hg];exact (aC (by repeat (first|(with_reducible first|exact HB.out|apply af|apply aa|apply ag)|exact HB.out))):w.heap.size≤gb795));clear HO794;clear HB;have HO794:=n0_;have HB:=n1_;have BK795:=n2_;have GW795:=n3_;have GE795:=n4_;clear n0_ n1_ n2_ n3_ n4_;clear hb hbox hg;have hcz104_0:w103.cell? ⟨gb795,0,none⟩=some (.string (⟨#[]⟩:ByteArray)):=(au BK795.out 0).trans rfl;have hcz104_1:w103.cell? ⟨gb795,1,none⟩=some (.slice none 0 0):=(au BK795.out 1).trans rfl;have hfz104_0:=av BK795.out 0;have hfz104_1:=av BK795.out 1;obtain ⟨Ao105,co105,eo105⟩:=Kd.gz HO794.out;subst eo105)|((with_reducible refine bP (N:=20) rfl ?_);refine Kd.jO Kd.string _ 9 ?hg (N:=20) ?hd (xs:=([(⟨#[99,110]⟩:ByteArray),(⟨#[115,110]⟩:ByteArray),(⟨#[109,97,105,108]⟩:ByteArray),(⟨#[100,101,115,99,114,105,112,116,105,111,110]⟩:ByteArray),(⟨#[117,105,100]⟩:ByteArray),(⟨#[117,105,100,110,117,109,98,101,114]⟩:ByteArray),(⟨#[111,98,106,101,99,116,99,108,97,115,115]⟩:ByteArray),(⟨#[111]⟩:ByteArray)]:List ByteArray)) (inner:=[.string (⟨#[99,110]⟩:ByteArray),.string (⟨#[115,110]⟩:ByteArray),.string (⟨#[109,97,105,108]⟩:ByteArray),.string (⟨#[100,101,115,99,114,105,112,116,105,111,110]⟩:ByteArray),.string (⟨#[117,105,100]⟩:ByteArray),.string (⟨#[117,105,100,110,117,109,98,101,114]⟩:ByteArray),.string (⟨#[111,98,106,101,99,116,99,108,97,115,115]⟩:ByteArray),.string (⟨#[111]⟩:ByteArray)]) (ok:=fun _=>True) (okp:=fun _=>True) ?hr ?hp (fun _ hk=>hk) trivial (Below.refl _ _) (Nat.le_refl _) (by simp) ?_;(case hd=>rfl);(case hg=>rfl);(case hr=>first|(go_simp;done)|(go_simp;rfl));(case hp=>exact (bE.one (show Kd.M Kd.string _ _ _ (⟨#[99,110]⟩:ByteArray) [.string (⟨#[99,110]⟩:ByteArray)] from rfl) (bE.one (show Kd.M Kd.string _ _ _ (⟨#[115,110]⟩:ByteArray) [.string (⟨#[115,110]⟩:ByteArray)] from rfl) (bE.one (show Kd.M Kd.string _ _ _ (⟨#[109,97,105,108]⟩:ByteArray) [.string (⟨#[109,97,105,108]⟩:ByteArray)] from rfl) (bE.one (show Kd.M Kd.string _ _ _ (⟨#[100,101,115,99,114,105,112,116,105,111,110]⟩:ByteArray) [.string (⟨#[100,101,115,99,114,105,112,116,105,111,110]⟩:ByteArray)] from rfl) (bE.one (show Kd.M Kd.string _ _ _ (⟨#[117,105,100]⟩:ByteArray) [.string (⟨#[117,105,100]⟩:ByteArray)] from rfl) (bE.one (show Kd.M Kd.string _ _ _ (⟨#[117,105,100,110,117,109,98,101,114]⟩:ByteArray) [.string (⟨#[117,105,100,110,117,109,98,101,114]⟩:ByteArray)] from rfl) (bE.one (show Kd.M Kd.string _ _ _ (⟨#[111,98,106,101,99,116,99,108,97,115,115]⟩:ByteArray) [.string (⟨#[111,98,106,101,99,116,99,108,97,115,115]⟩:ByteArray)] from rfl) (bE.one (show Kd.M Kd.string _ _ _ (⟨#[111]⟩:ByteArray) [.string (⟨#[111]⟩:ByteArray)] from rfl) (bE.none _ _))))))))));intro v797 w106 ho107 hb hg_ hnew_;clear hg_ hnew_;(first|rw [← Ny796.out] at ho107|(simp only [Int.reduceToNat] at ho107;rw [← Ny796.out] at ho107));have n0_:=ae.mk (Kd.dU (by (with_reducible repeat (first|apply Kd.bz|apply Kd.bq|apply Kd.bF));exact (Kd.cZ (Kd.gH (p:=⟨gb795,1,none⟩) (Kd.gH (p:=⟨gb795,0,none⟩) (Kd.cZ HO794.out (fun k_ hk=>(⟨hk,hk.2⟩:_∧k_≠gb795))) (fun _ hk=>hk.2) (.string t791)) (fun _ hk=>hk.2) (.slice Ao105 t792.length co105)) (fun _ h_=>h_.1))) (Kd.dP ho107) hb);have n1_:=ae.mk (Kd.dx ho107 (aC (by repeat (first|(with_reducible first|exact HB.out|apply af|apply aa|apply ag|refine ah ?_ GE795.out)|exact HB.out))));have n2_:=ae.mk (aH (g:=gb795) (o:=.cells #[.string t791,.slice Ao105 t792.length co105] 28 (0,0)) (by (with_reducible repeat (first|refine aj ?_ _|refine ak ?_|refine ai ?_ _));refine bW (cs:=#[.string t791,.slice none 0 0]) ?_ 1 _ (by first|rfl|(simp only [ax,ay];rfl)|simp [ax,ay]);(with_reducible repeat (first|refine aj ?_ _|refine ak ?_|refine ai ?_ _));refine bW (cs:=#[.string (⟨#[]⟩:ByteArray),.slice none 0 0]) ?_ 0 _ (by first|rfl|(simp only [ax,ay];rfl)|simp [ax,ay]);(with_reducible repeat (first|refine aj ?_ _|refine ak ?_|refine ai ?_ _));exact BK795.out) hb);have n3_:=ae.mk (az (by repeat (first|(with_reducible first|exact HB.out|apply af|apply aa|apply ag|refine ah ?_ GE795.out)|exact HB.out)) hb);clear HO794;clear BK795;clear HB;have HO794:=n0_;have HO798:=n1_;have BK795:=n2_;have HB:=n3_;clear n0_ n1_ n2_ n3_;clear hb ho107;obtain ⟨Ao108,co108,eo108⟩:=Kd.bY HO798.out;subst eo108;have p799:0≤((ji9):Int):=of_decide_eq_true (by first|(with_reducible assumption)|assumption);have q799:(ji9) < (y796.length:Int):=of_decide_eq_true (by first|(with_reducible assumption)|assumption);obtain ⟨ad799,e799,hx799_0⟩:=Kd.eO (Kd.aY HO798.out).2.2 (ji9) p799 q799;cases e799;replace p799:=eq_true p799;replace q799:=eq_true q799;have hcz109_0:w106.cell? ⟨gb795,0,none⟩=some (.string t791):=(au BK795.out 0).trans rfl;have hcz109_1:w106.cell? ⟨gb795,1,none⟩=some (.slice Ao105 t792.length co105):=(au BK795.out 1).trans rfl;have hfz109_0:=av BK795.out 0;have hfz109_1:=av BK795.out 1)|((with_reducible refine aI (f:=13) rfl ?_);refine bn (some 28) rfl rfl Tryz.func13 (by kernel_rfl) rfl #[.agg #[.int .i64 8,.string (bH ByteArray.empty y796 (ji9)),.string (⟨#[]⟩:ByteArray),.slice none 0 0,.slice none 0 0],.agg #[.string t791,.slice Ao105 t792.length co105]] rfl (by (try simp only [List.map_toArray,List.map_cons,List.map_nil]);first|done|(simp only [hji9];rfl)|rfl|(simp only [List.length_drop,List.length_take];rfl)) ?_;(refine (bC.calls k 8 (bH ByteArray.empty y796 (ji9)) (⟨#[]⟩:ByteArray) _ _ ([]:List ByteArray) _ _ ([]:List (S25)) t791 _ _ t792 t800 _ ?side1 ?side2 ?side3 ?side4 ?side5 ?side6 ?side7 A12.out).mono ?_);(case side1=>exact Kd.gp _ _);(case side2=>exact Nat.le_refl _);(case side3=>exact Kd.gp _ _);(case side4=>exact Nat.le_refl _);(case side5=>repeat (first|exact (Kd.dw HO794.out).2.2|(with_reducible refine Kd.bV ?_ _)|(with_reducible refine Kd.bX ?_ _)|(with_reducible refine Kd.dm ?_)));(case side6=>exact (Kd.dw HO794.out).2.1);(case side7=>first|exact HG.out|exact Gl.drewN HG.out _|exact Gl.below HG.out (by repeat (first|(with_reducible first|exact HB.out|apply af|apply aa|apply ag|refine ah ?_ GE795.out)|exact HB.out)));rintro e w110 ⟨rfl,hb⟩;refine ⟨_,rfl,?_⟩;have n0_:=ae.mk (Kd.dD (by (with_reducible repeat (first|apply Kd.bz|apply Kd.bq|apply Kd.bF));exact HO794.out) hb);have n1_:=ae.mk (Kd.aW (by (with_reducible repeat (first|apply Kd.aG|apply Kd.aD|apply Kd.aM));exact HO798.out) hb);have n2_:=ae.mk (aH (g:=gb795) (o:=.cells #[.string t791,.slice Ao105 t792.length co105] 28 (0,0)) (by (with_reducible repeat (first|refine aj ?_ _|refine ak ?_|refine ai ?_ _));exact BK795.out) hb);have n3_:=ae.mk (az (by repeat (first|(with_reducible first|exact HB.out|apply af|apply aa|apply ag|refine ah ?_ GE795.out)|exact HB.out)) hb);clear HO794;clear HO798;clear BK795;clear HB;have HO794:=n0_;have HO798:=n1_;have BK795:=n2_;have HB:=n3_;clear n0_ n1_ n2_ n3_;(try clear hb);(try clear hb2);(try clear hk);(try clear hi)))
          have pi804:(0≤((ji13):Int))=True:=eq_true (of_decide_eq_true (by first|(with_reducible assumption)|assumption))
          have qi804:((ji13) < (y801.length:Int))=True:=eq_true (of_decide_eq_true (by first|(with_reducible assumption)|assumption))
          have n0_:=ae.mk (Kd.bF HO794.out)
          have n1_:=ae.mk (Kd.aM HO798.out)
          have n2_:=ae.mk (ak BK795.out)
          have n3_:=ae.mk (ag HB.out)
          clear HO794
          clear HO798
          clear BK795
          clear HB
          have HO794:=n0_
          have HO798:=n1_
          have BK795:=n2_
          have HB:=n3_
          clear n0_ n1_ n2_ n3_
          refine kr (n:=11) (S:=fun w'=>w'.cell? ⟨gb795,0,none⟩=some (.string t791)∧w'.cell? ⟨gb795,1,none⟩=some (.slice Ao105 t792.length co105)) (ds:=[]) #[false,false,false,false,false,false,false,false,false,false,false] (by kernel_rfl) rfl rfl ⟨(au BK795.out 0).trans rfl,(au BK795.out 1).trans rfl⟩ (fun hHeld=>?_);refine gX bK.tab6 bK.bits6 (fun HT_ HW_=>?_)
          generalize w110.drew=w111 at HO794 HO798 BK795 HB hHeld ⊢
          refine bO (i:=1) (N:=some 30) (v:=?_) (a':=?_) #[false,true,false,false,false,false,false,false,false,false,false] rfl rfl (bD HT_.out (by kernel_rfl)) (fun _ _ _ h=>h) (Or.inl ⟨by rfl,?_⟩) ?_ ?_
          rotate_left
          ·intro w'
           go_simp
           with_reducible rfl
          rotate_left
          ·simp only [Act.put,List.setIfInBounds_toArray,List.set_cons_zero,List.set_cons_succ,aN,aQ]
           rfl
          refine bO (i:=2) (N:=some 31) (v:=?_) (a':=?_) #[false,true,true,false,false,false,false,false,false,false,false] rfl rfl (bD HT_.out (by kernel_rfl)) (fun _ _ _ h=>h) (Or.inl ⟨by rfl,?_⟩) ?_ ?_
          rotate_left
          ·intro w'
           go_simp
           with_reducible rfl
          rotate_left
          ·simp only [Act.put,List.setIfInBounds_toArray,List.set_cons_zero,List.set_cons_succ,aN,aQ]
           rfl
          refine bO (i:=5) (N:=some 34) (v:=?_) (a':=?_) #[false,true,true,false,false,true,false,false,false,false,false] rfl rfl (bD HT_.out (by kernel_rfl)) (fun _ _ _ h=>h) (Or.inl ⟨by rfl,?_⟩) ?_ ?_
          rotate_left
          ·intro w'
           go_simp
           with_reducible rfl
          rotate_left
          ·simp only [Act.put,List.setIfInBounds_toArray,List.set_cons_zero,List.set_cons_succ,aN,aQ]
           rfl
          refine bO (i:=6) (N:=some 35) (v:=?_) (a':=?_) #[false,true,true,false,false,true,true,false,false,false,false] rfl rfl (bD HT_.out (by kernel_rfl)) (fun _ _ _ h=>h) (Or.inl ⟨by rfl,?_⟩) ?_ ?_
          rotate_left
          ·intro w'
           go_simp
           with_reducible rfl
          rotate_left
          ·simp only [Act.put,List.setIfInBounds_toArray,List.set_cons_zero,List.set_cons_succ,aN,aQ]
           rfl
          refine take_ (i:=8) (N:=some 37) (v:=?_) (a':=?_) #[false,true,true,false,false,true,true,false,true,false,false] rfl rfl (fu HT_.out HW_.out (by kernel_rfl)) (fun _ _ _ h=>h) (Or.inl ⟨by rfl,?_⟩) hHeld ?_ ?_
          rotate_left
          ·rintro w' ⟨s0,s1⟩
           go_simp
           with_reducible rfl
          rotate_left
          ·simp only [Act.put,List.setIfInBounds_toArray,List.set_cons_zero,List.set_cons_succ,aN,aQ]
           rfl
          refine iJ (i:=0) (N:=some 29) #[true,true,true,false,false,true,true,false,true,false,false] rfl rfl (dJ HT_.out (by kernel_rfl)) (by decide) (fun K hK=>?_)
          refine Kd.gm (Kd.int .i64) _ 3 ?hg (N:=29) ?hd (xs:=([4,6,7]:List Int)) (inner:=[.int .i64 4,.int .i64 6,.int .i64 7]) (ok:=fun _=>True) (okp:=fun _=>True) ?hr ?hp (fun _ hk=>hk) trivial (Below.refl _ _) (Nat.le_refl _) (by simp) ?_;(case hd=>rfl);(case hg=>rfl);(case hr=>first|(go_simp;done)|(go_simp;rfl));(case hp=>exact (bE.one (show Kd.M (Kd.int .i64) _ _ _ 4 [.int .i64 4] from rfl) (bE.one (show Kd.M (Kd.int .i64) _ _ _ 6 [.int .i64 6] from rfl) (bE.one (show Kd.M (Kd.int .i64) _ _ _ 7 [.int .i64 7] from rfl) (bE.none _ _)))))
          intro v802 w112 ho113 hb hg_ hnew_
          clear hg_ hnew_
          (first|rw [← Ny801.out] at ho113|(simp only [Int.reduceToNat] at ho113;rw [← Ny801.out] at ho113))
          have n0_:=ae.mk (Kd.dU (by (with_reducible repeat (first|apply Kd.bz|apply Kd.bq|apply Kd.bF));exact HO794.out) (Kd.dP ho113) hb)
          have n1_:=ae.mk (Kd.aW (by (with_reducible repeat (first|apply Kd.aG|apply Kd.aD|apply Kd.aM));exact HO798.out) hb)
          have n2_:=ae.mk (Kd.dx ho113 (aC (by repeat (first|(with_reducible first|exact HB.out|apply af|apply aa|apply ag|refine ah ?_ GE795.out)|exact HB.out))))
          have n3_:=ae.mk (aH (g:=gb795) (o:=.cells #[.string t791,.slice Ao105 t792.length co105] 28 (0,0)) (by (with_reducible repeat (first|refine aj ?_ _|refine ak ?_|refine ai ?_ _));exact BK795.out) hb)
          have n4_:=ae.mk (az (by repeat (first|(with_reducible first|exact HB.out|apply af|apply aa|apply ag|refine ah ?_ GE795.out)|exact HB.out)) hb)
          clear HO794
          clear HO798
          clear BK795
          clear HB
          have HO794:=n0_
          have HO798:=n1_
          have HO803:=n2_
          have BK795:=n3_
          have HB:=n4_
          clear n0_ n1_ n2_ n3_ n4_
          clear hb ho113
          obtain ⟨Ao114,co114,eo114⟩:=Kd.bY HO803.out
          subst eo114
          obtain ⟨ado114,fo114,_⟩:=Kd.fD (Kd.aY HO803.out).2.2 0 (by decide) (by rw [Ny801.out];simp)
          cases fo114
          refine hK.out _ _ ⟨(au BK795.out 0).trans rfl,(au BK795.out 1).trans rfl⟩ (fun hHeld=>?_)
          clear hK K
          refine eQ (a':=?_) ?_ ?_
          rotate_left
          ·show Act.put _ (some 29) _=_
           simp only [Act.put,List.setIfInBounds_toArray,List.set_cons_zero,List.set_cons_succ,aN,aQ]
           rfl
          refine bO (i:=3) (N:=some 32) (v:=?_) (a':=?_) #[true,true,true,true,false,true,true,false,true,false,false] rfl rfl (bD HT_.out (by kernel_rfl)) (fun _ _ _ h=>h) (Or.inl ⟨by rfl,?_⟩) ?_ ?_
          rotate_left
          ·intro w'
           go_simp
           with_reducible rfl
          rotate_left
          ·simp only [Act.put,List.setIfInBounds_toArray,List.set_cons_zero,List.set_cons_succ,aN,aQ]
           rfl
          refine iJ (i:=4) (N:=some 33) #[true,true,true,true,true,true,true,false,true,false,false] rfl rfl (dJ HT_.out (by kernel_rfl)) (by decide) (fun K hK=>?_)
          (have p804:0≤((ji13):Int):=of_decide_eq_true (by first|(with_reducible assumption)|assumption);have q804:(ji13) < (y801.length:Int):=of_decide_eq_true (by first|(with_reducible assumption)|assumption);obtain ⟨ad804,e804,hx804_0⟩:=Kd.fD (Kd.aY HO803.out).2.2 (ji13) p804 q804;obtain rfl:ado114=ad804:=(by injection e804))
          refine ma (w1:=?_) (v:=?_) (by rfl) rfl ?_ ?_
          rotate_left 2
          ·go_simp
           constructor
           ·rfl
           ·rfl
          clear hx804_0
          refine hK.out _ _ ⟨(au BK795.out 0).trans rfl,(au BK795.out 1).trans rfl⟩ (fun hHeld=>?_)
          clear hK K
          refine eQ (a':=?_) ?_ ?_
          rotate_left
          ·show Act.put _ (some 33) _=_
           simp only [Act.put,List.setIfInBounds_toArray,List.set_cons_zero,List.set_cons_succ,aN,aQ]
           rfl
          refine bO (i:=7) (N:=some 36) (v:=?_) (a':=?_) #[true,true,true,true,true,true,true,true,true,false,false] rfl rfl (bD HT_.out (by kernel_rfl)) (fun _ _ _ h=>h) (Or.inl ⟨by rfl,?_⟩) ?_ ?_
          rotate_left
          ·intro w'
           go_simp
           with_reducible rfl
          rotate_left
          ·simp only [Act.put,List.setIfInBounds_toArray,List.set_cons_zero,List.set_cons_succ,aN,aQ]
           rfl
          refine iJ (i:=9) (N:=some 38) #[true,true,true,true,true,true,true,true,true,true,false] rfl rfl (dJ HT_.out (by kernel_rfl)) (by decide) (fun K hK=>?_)
          refine kF Tryz.func13 (by kernel_rfl) rfl #[.agg #[.int .i64 (rd y801 (ji13)),.string (bH ByteArray.empty y796 (ji9)),.string a3,.slice none 0 0,.slice none 0 0],.agg #[.string t791,.slice Ao105 t792.length co105]] (by rfl) rfl rfl (by (try simp only [List.map_toArray,List.map_cons,List.map_nil]);first|done|(simp only [hji13,hji9];rfl)|rfl|(simp only [List.length_drop,List.length_take];rfl)) ?_
          refine (bC.calls k (rd y801 (ji13)) (bH ByteArray.empty y796 (ji9)) a3 _ _ ([]:List ByteArray) _ _ ([]:List (S25)) t791 _ _ t792 t805 _ ?side1 ?side2 ?side3 ?side4 ?side5 ?side6 ?side7 A16.out).mono ?_
          (case side1=>exact Kd.gp _ _)
          (case side2=>exact Nat.le_refl _)
          (case side3=>exact Kd.gp _ _)
          (case side4=>exact Nat.le_refl _)
          (case side5=>repeat (first|exact (Kd.dw HO794.out).2.2|(with_reducible refine Kd.bV ?_ _)|(with_reducible refine Kd.bX ?_ _)|(with_reducible refine Kd.dm ?_)))
          (case side6=>exact (Kd.dw HO794.out).2.1)
          (case side7=>first|exact HG.out|exact Gl.drewN HG.out _|exact Gl.below HG.out (by repeat (first|(with_reducible first|exact HB.out|apply af|apply aa|apply ag|refine ah ?_ GE795.out)|exact HB.out)))
          rintro e w115 ⟨rfl,hb⟩
          refine ⟨_,rfl,?_⟩
          have n0_:=ae.mk (Kd.dD (by (with_reducible repeat (first|apply Kd.bz|apply Kd.bq|apply Kd.bF));exact HO794.out) hb)
          have n1_:=ae.mk (Kd.aW (by (with_reducible repeat (first|apply Kd.aG|apply Kd.aD|apply Kd.aM));exact HO798.out) hb)
          have n2_:=ae.mk (Kd.aW (by (with_reducible repeat (first|apply Kd.aG|apply Kd.aD|apply Kd.aM));exact HO803.out) hb)
          have n3_:=ae.mk (aH (g:=gb795) (o:=.cells #[.string t791,.slice Ao105 t792.length co105] 28 (0,0)) (by (with_reducible repeat (first|refine aj ?_ _|refine ak ?_|refine ai ?_ _));exact BK795.out) hb)
          have n4_:=ae.mk (az (by repeat (first|(with_reducible first|exact HB.out|apply af|apply aa|apply ag|refine ah ?_ GE795.out)|exact HB.out)) hb)
          clear HO794
          clear HO798
          clear HO803
          clear BK795
          clear HB
          have HO794:=n0_
          have HO798:=n1_
          have HO803:=n2_
          have BK795:=n3_
          have HB:=n4_
          clear n0_ n1_ n2_ n3_ n4_
          (try clear hb)
          (try clear hb2)
          (try clear hk)
          (try clear hi)
          refine hK.out _ _ ⟨(au BK795.out 0).trans rfl,(au BK795.out 1).trans rfl⟩ (fun hHeld=>?_)
          clear hK K
          refine eQ (a':=?_) ?_ ?_
          rotate_left
          ·show Act.put _ (some 38) _=_
           simp only [Act.put,List.setIfInBounds_toArray,List.set_cons_zero,List.set_cons_succ,aN,aQ]
           rfl
          refine bO (i:=10) (N:=some 12) (v:=?_) (a':=?_) #[true,true,true,true,true,true,true,true,true,true,true] rfl rfl (bD HT_.out (by kernel_rfl)) (fun _ _ _ h=>h) (Or.inl ⟨by rfl,?_⟩) ?_ ?_
          rotate_left
          ·intro w'
           go_simp
           with_reducible rfl
          rotate_left
          ·simp only [Act.put,List.setIfInBounds_toArray,List.set_cons_zero,List.set_cons_succ,aN,aQ]
           rfl
          refine l9 (ja HT_.out (by kernel_rfl)) ?_
          try go_wp2_with (first|((with_reducible refine bP (N:=41) rfl ?_);refine Kd.jO Kd.string _ 9 ?hg (N:=41) ?hd (xs:=([a3,(⟨#[120]⟩:ByteArray)]:List ByteArray)) (inner:=[.string a3,.string (⟨#[120]⟩:ByteArray)]) (ok:=fun _=>True) (okp:=fun _=>True) ?hr ?hp (fun _ hk=>hk) trivial (Below.refl _ _) (Nat.le_refl _) (by simp) ?_;(case hd=>rfl);(case hg=>rfl);(case hr=>first|(go_simp;done)|(go_simp;rfl));(case hp=>exact (bE.one (show Kd.M Kd.string _ _ _ a3 [.string a3] from rfl) (bE.one (show Kd.M Kd.string _ _ _ (⟨#[120]⟩:ByteArray) [.string (⟨#[120]⟩:ByteArray)] from rfl) (bE.none _ _))));intro v807 w116 ho117 hb hg_ hnew_;clear hg_ hnew_;(first|rw [← Ny806.out] at ho117|(simp only [Int.reduceToNat] at ho117;rw [← Ny806.out] at ho117));have n0_:=ae.mk (Kd.dU (by (with_reducible repeat (first|apply Kd.bz|apply Kd.bq|apply Kd.bF));exact HO794.out) (Kd.dP ho117) hb);have n1_:=ae.mk (Kd.gF (by (with_reducible repeat (first|apply Kd.aG|apply Kd.aD|apply Kd.aM));exact HO798.out) (Kd.dP ho117) hb);have n2_:=ae.mk (Kd.aW (by (with_reducible repeat (first|apply Kd.aG|apply Kd.aD|apply Kd.aM));exact HO803.out) hb);have n3_:=ae.mk (Kd.dx (Kd.iK ho117 (Kd.iA (by (with_reducible repeat (first|apply Kd.aG|apply Kd.aD|apply Kd.aM));exact HO798.out))) (aC (by repeat (first|(with_reducible first|exact HB.out|apply af|apply aa|apply ag|refine ah ?_ GE795.out)|exact HB.out))));have n4_:=ae.mk (aH (g:=gb795) (o:=.cells #[.string t791,.slice Ao105 t792.length co105] 28 (0,0)) (by (with_reducible repeat (first|refine aj ?_ _|refine ak ?_|refine ai ?_ _));exact BK795.out) hb);have n5_:=ae.mk (az (by repeat (first|(with_reducible first|exact HB.out|apply af|apply aa|apply ag|refine ah ?_ GE795.out)|exact HB.out)) hb);clear HO794;clear HO798;clear HO803;clear BK795;clear HB;have HO794:=n0_;have HO798:=n1_;have HO803:=n2_;have HO808:=n3_;have BK795:=n4_;have HB:=n5_;clear n0_ n1_ n2_ n3_ n4_ n5_;clear hb ho117;obtain ⟨Ao118,co118,eo118⟩:=Kd.bY HO808.out;subst eo118;have hcz119_0:w116.cell? ⟨gb795,0,none⟩=some (.string t791):=(au BK795.out 0).trans rfl;have hcz119_1:w116.cell? ⟨gb795,1,none⟩=some (.slice Ao105 t792.length co105):=(au BK795.out 1).trans rfl;have hfz119_0:=av BK795.out 0;have hfz119_1:=av BK795.out 1)|((with_reducible refine aI (f:=13) rfl ?_);refine bn (some 44) rfl rfl Tryz.func13 (by kernel_rfl) rfl #[.agg #[.int .i64 5,.string (bH ByteArray.empty y796 (ji9)),.string (⟨#[]⟩:ByteArray),.slice Ao118 y806.length co118,.slice none 0 0],.agg #[.string t791,.slice Ao105 t792.length co105]] rfl (by (try simp only [List.map_toArray,List.map_cons,List.map_nil]);first|done|(simp only [hji9];rfl)|rfl|(simp only [List.length_drop,List.length_take];rfl)) ?_;(refine (bC.calls k 5 (bH ByteArray.empty y796 (ji9)) (⟨#[]⟩:ByteArray) _ _ y806 _ _ ([]:List (S25)) t791 _ _ t792 t809 _ ?side1 ?side2 ?side3 ?side4 ?side5 ?side6 ?side7 A17.out).mono ?_);(case side1=>repeat (first|exact (Kd.aY HO808.out).2.2|(with_reducible refine Kd.bV ?_ _)|(with_reducible refine Kd.bX ?_ _)|(with_reducible refine Kd.dm ?_)));(case side2=>exact (Kd.aY HO808.out).2.1);(case side3=>exact Kd.gp _ _);(case side4=>exact Nat.le_refl _);(case side5=>repeat (first|exact (Kd.dw HO794.out).2.2|(with_reducible refine Kd.bV ?_ _)|(with_reducible refine Kd.bX ?_ _)|(with_reducible refine Kd.dm ?_)));(case side6=>exact (Kd.dw HO794.out).2.1);(case side7=>first|exact HG.out|exact Gl.drewN HG.out _|exact Gl.below HG.out (by repeat (first|(with_reducible first|exact HB.out|apply af|apply aa|apply ag|refine ah ?_ GE795.out)|exact HB.out)));rintro e w120 ⟨rfl,hb⟩;refine ⟨_,rfl,?_⟩;have n0_:=ae.mk (Kd.dD (by (with_reducible repeat (first|apply Kd.bz|apply Kd.bq|apply Kd.bF));exact HO794.out) hb);have n1_:=ae.mk (Kd.aW (by (with_reducible repeat (first|apply Kd.aG|apply Kd.aD|apply Kd.aM));exact HO798.out) hb);have n2_:=ae.mk (Kd.aW (by (with_reducible repeat (first|apply Kd.aG|apply Kd.aD|apply Kd.aM));exact HO803.out) hb);have n3_:=ae.mk (Kd.aW (by (with_reducible repeat (first|apply Kd.aG|apply Kd.aD|apply Kd.aM));exact HO808.out) hb);have n4_:=ae.mk (aH (g:=gb795) (o:=.cells #[.string t791,.slice Ao105 t792.length co105] 28 (0,0)) (by (with_reducible repeat (first|refine aj ?_ _|refine ak ?_|refine ai ?_ _));exact BK795.out) hb);have n5_:=ae.mk (az (by repeat (first|(with_reducible first|exact HB.out|apply af|apply aa|apply ag|refine ah ?_ GE795.out)|exact HB.out)) hb);clear HO794;clear HO798;clear HO803;clear HO808;clear BK795;clear HB;have HO794:=n0_;have HO798:=n1_;have HO803:=n2_;have HO808:=n3_;have BK795:=n4_;have HB:=n5_;clear n0_ n1_ n2_ n3_ n4_ n5_;(try clear hb);(try clear hb2);(try clear hk);(try clear hi);have hcz121_0:w120.cell? ⟨gb795,0,none⟩=some (.string t791):=(au BK795.out 0).trans rfl;have hcz121_1:w120.cell? ⟨gb795,1,none⟩=some (.slice Ao105 t792.length co105):=(au BK795.out 1).trans rfl;have hfz121_0:=av BK795.out 0;have hfz121_1:=av BK795.out 1)|((with_reducible refine aI (f:=24) rfl ?_);refine bn (some 49) rfl rfl Tryz.func24 (by kernel_rfl) rfl #[.agg #[.string t791,.slice Ao105 t792.length co105],.string (bH ByteArray.empty y796 (ji9))] rfl (by (try simp only [List.map_toArray,List.map_cons,List.map_nil]);first|done|(simp only [hji9];rfl)|rfl|(simp only [List.length_drop,List.length_take];rfl)) ?_;(with_reducible refine (cz.calls k t791 (fun k_=>((((True∧k_≠gb795)∧some k_≠(.slice (some ad799) y796.length co108:Value).ownBlock)∧some k_≠(.slice (some ado114) y801.length co114:Value).ownBlock)∧some k_≠(.slice Ao118 y806.length co118:Value).ownBlock)) _ _ t792 (bH ByteArray.empty y796 (ji9)) t810 _ ?side1 A18.out).mono ?_);(case side1=>exact Kd.N_V (HO794.out));rintro e w122 ⟨v811,rfl,ho0,hb⟩;refine ⟨_,rfl,?_⟩;have n0_:=ae.mk (Kd.dD (by (with_reducible repeat (first|apply Kd.bz|apply Kd.bq|apply Kd.bF));exact HO794.out) hb);have n1_:=ae.mk (Kd.aW (by (with_reducible repeat (first|apply Kd.aG|apply Kd.aD|apply Kd.aM));exact HO798.out) hb);have n2_:=ae.mk (Kd.aW (by (with_reducible repeat (first|apply Kd.aG|apply Kd.aD|apply Kd.aM));exact HO803.out) hb);have n3_:=ae.mk (Kd.aW (by (with_reducible repeat (first|apply Kd.aG|apply Kd.aD|apply Kd.aM));exact HO808.out) hb);have n4_:=ae.mk (Kd.oF (Kd.nJ (ok':=fun k_=>some k_≠(.slice (some ad799) y796.length co108:Value).ownBlock∧some k_≠(.slice (some ado114) y801.length co114:Value).ownBlock∧some k_≠(.slice Ao118 y806.length co118:Value).ownBlock∧k_≠gb795) ho0 (fun k_ hk_=>⟨Or.elim hk_ (fun hs_=>hs_.1.1.2) (fun hn_=>(Kd.fresh' (Kd.iA (by (with_reducible repeat (first|apply Kd.aG|apply Kd.aD|apply Kd.aM));exact HO798.out)) k_ hn_)),Or.elim hk_ (fun hs_=>hs_.1.2) (fun hn_=>(Kd.fresh' (Kd.iA (by (with_reducible repeat (first|apply Kd.aG|apply Kd.aD|apply Kd.aM));exact HO803.out)) k_ hn_)),Or.elim hk_ (fun hs_=>hs_.2) (fun hn_=>(Kd.fresh' (Kd.iA (by (with_reducible repeat (first|apply Kd.aG|apply Kd.aD|apply Kd.aM));exact HO808.out)) k_ hn_)),Or.elim hk_ (fun hs_=>hs_.1.1.1.2) (fun hn_=>(Kd.gQ (g:=gb795) (o:=.cells #[.string t791,.slice Ao105 t792.length co105] 28 (0,0)) (by (with_reducible repeat (first|refine aj ?_ _|refine ak ?_|refine ai ?_ _));exact BK795.out) k_ hn_))⟩)) (aC (by repeat (first|(with_reducible first|exact HB.out|apply af|apply aa|apply ag|refine ah ?_ GE795.out)|exact HB.out))));have n5_:=ae.mk (aH (g:=gb795) (o:=.cells #[.string t791,.slice Ao105 t792.length co105] 28 (0,0)) (by (with_reducible repeat (first|refine aj ?_ _|refine ak ?_|refine ai ?_ _));exact BK795.out) hb);have n6_:=ae.mk (az (by repeat (first|(with_reducible first|exact HB.out|apply af|apply aa|apply ag|refine ah ?_ GE795.out)|exact HB.out)) hb);clear HO794;clear HO798;clear HO803;clear HO808;clear BK795;clear HB;have HO794:=n0_;have HO798:=n1_;have HO803:=n2_;have HO808:=n3_;have HO812:=n4_;have BK795:=n5_;have HB:=n6_;clear n0_ n1_ n2_ n3_ n4_ n5_ n6_;(try clear hb);(try clear hb2);(try clear hk);(try clear hi);(try clear ho0);obtain ⟨Ao123,co123,eo123⟩:=Kd.oM HO812.out;subst eo123)|(go_at_call 15;(with_reducible refine (aT.calls k  t816 _ ?side1 A101.out).mono ?_);(case side1=>first|exact HG.out|exact Gl.drewN HG.out _|exact Gl.below HG.out (by repeat (first|(with_reducible first|exact HB.out|apply af|apply aa|apply ag|refine ah ?_ GE795.out)|exact HB.out)));rintro e w124 ⟨rfl,hb⟩;have n0_:=ae.mk (Kd.dD (by (with_reducible repeat (first|apply Kd.bz|apply Kd.bq|apply Kd.bF));exact HO794.out) hb);have n1_:=ae.mk (Kd.aW (by (with_reducible repeat (first|apply Kd.aG|apply Kd.aD|apply Kd.aM));exact HO798.out) hb);have n2_:=ae.mk (Kd.aW (by (with_reducible repeat (first|apply Kd.aG|apply Kd.aD|apply Kd.aM));exact HO803.out) hb);have n3_:=ae.mk (Kd.aW (by (with_reducible repeat (first|apply Kd.aG|apply Kd.aD|apply Kd.aM));exact HO808.out) hb);have n4_:=ae.mk (Kd.jT (by (with_reducible repeat (first|apply Kd.jA|apply Kd.jv|apply Kd.kW));exact HO812.out) hb);have n5_:=ae.mk (aH (g:=gb795) (o:=.cells #[.string t791,.slice Ao105 t792.length co105] 28 (0,0)) (by (with_reducible repeat (first|refine aj ?_ _|refine ak ?_|refine ai ?_ _));exact BK795.out) hb);have n6_:=ae.mk (az (by repeat (first|(with_reducible first|exact HB.out|apply af|apply aa|apply ag|refine ah ?_ GE795.out)|exact HB.out)) hb);clear HO794;clear HO798;clear HO803;clear HO808;clear HO812;clear BK795;clear HB;have HO794:=n0_;have HO798:=n1_;have HO803:=n2_;have HO808:=n3_;have HO812:=n4_;have BK795:=n5_;have HB:=n6_;clear n0_ n1_ n2_ n3_ n4_ n5_ n6_;(try clear hb);(try clear hb2);(try clear hk);(try clear hi)))
          all_goals first
           | (exfalso;have h19:=beq_iff_eq.1 c19b0;rw [show decide ((t810.length:Int) > 0)=decide (0 < t810.length) from decide_eq_decide.2 (by omega)] at h19;first|contradiction|((first|rw [c21b0] at h19|rw [c74b0] at h19);have h20:=of_decide_eq_true h19.symm;contradiction)|((first|rw [c21b0] at h19|rw [c74b0] at h19);have h20:=of_decide_eq_false h19.symm;contradiction))
           | (go_ret;exact ⟨by first|rfl|(simp [aJ,aK] <;> rfl)|(simp only [← hji9,← hji13];first|rfl|(simp [aJ,aK] <;> rfl))|(simp [*,aJ,aK] <;> rfl),by repeat (first|(with_reducible first|exact HB.out|apply af|apply aa|apply ag|refine ah ?_ GE795.out)|exact HB.out)⟩)
      ·rw [if_neg c19] at H
       have c19b0:((t800 == 1) == (decide ((t810.length:Int) > 0)))=false:=by simpa using c19
       (try (have c19b1:decide ((t800 == 1)=(decide ((t810.length:Int) > 0)))=false:=by simpa using c19))
       (try (have c19b2:((t800 == 1) == (decide ((t810.length:Int) > 0)))=false:=by simpa using c19))
       (try (have c19b3:¬ ((t800 == 1)=(decide ((t810.length:Int) > 0))):=by simpa using c19))
       clear c19
       exact absurd ((Option.some.inj H).trans HRT.out) Bool.false_ne_true
     ·rw [if_neg c15] at H
      exact absurd H (by simp)
    ·rw [if_neg c14] at H
     exact absurd H (by simp)
   ·rw [if_neg c11] at H
    exact absurd H (by simp)
  ·rw [if_neg c10] at H
   exact absurd H (by simp)
end Go.Proofs.YthfpaoacjpjnfaaGreatDoor.P


namespace Go.Proofs.YthfpaoacjpjnfaaGreatDoor.P
open Go.RowKit Go.Proofs.YthfpaoacjpjnfaaGreatDoorW.PrintWords Go.Proofs.YthfpaoacjpjnfaaGreatDoorW.PrintLast Go.Proofs.YthfpaoacjpjnfaaGreatDoorW.PrintMore
def o7:List ByteArray:=[(⟨#[99,110]⟩:ByteArray),(⟨#[115,110]⟩:ByteArray),(⟨#[109,97,105,108]⟩:ByteArray),(⟨#[100,101,115,99,114,105,112,116,105,111,110]⟩:ByteArray),(⟨#[117,105,100]⟩:ByteArray),(⟨#[117,105,100,110,117,109,98,101,114]⟩:ByteArray),(⟨#[111,98,106,101,99,116,99,108,97,115,115]⟩:ByteArray),(⟨#[111]⟩:ByteArray)]
theorem wZ:∀ n:Fin 8,dz (bH ByteArray.empty o7 (n.val:Int)).data.toList=true∧dY (bH ByteArray.empty o7 (n.val:Int)).data.toList≠0∧(bH ByteArray.empty o7 (n.val:Int)).size≤30:=by decide +kernel
theorem sK (v:ByteArray) (hv:v.size≤60):iH [v,(⟨#[120]⟩:ByteArray)]=true:=by
  have h1:(bH ByteArray.empty [v,(⟨#[120]⟩:ByteArray)] 1).toList=[120]:=by
    show (⟨#[120]⟩:ByteArray).toList=[120]
    rw [toList_data]
  have m0:nW [v,(⟨#[120]⟩:ByteArray)] 0=true:=by
    unfold nW
    rw [decide_eq_true (show (bH ByteArray.empty [v,(⟨#[120]⟩:ByteArray)] ((0:Nat):Int)).size≤100 from by show v.size≤100;omega),decide_eq_false (Nat.lt_irrefl 0),Bool.and_false,Bool.false_and]
    rfl
  have m1:nW [v,(⟨#[120]⟩:ByteArray)] 1=true:=by
    unfold nW
    rw [decide_eq_true (show (bH ByteArray.empty [v,(⟨#[120]⟩:ByteArray)] ((1:Nat):Int)).size≤100 from by show (⟨#[120]⟩:ByteArray).size≤100;decide),decide_eq_false (show ¬ (1+1 < ([v,(⟨#[120]⟩:ByteArray)]:List ByteArray).length) from Nat.lt_irrefl 2),Bool.and_false]
    rfl
  unfold iH
  rw [h1,show ([v,(⟨#[120]⟩:ByteArray)]:List ByteArray).length=2 from rfl]
  unfold ik ik ik
  rw [m0,m1,decide_eq_false (show ¬ ([120]:List UInt8)=[] by decide),Bool.and_false,Bool.and_false]
  rfl
theorem qI (kind:Int) (typ val:ByteArray) (parts vs:List ByteArray) (h:¬ 0 < vs.length):jW kind typ val parts vs≠1:=by
  have h0:vs.length=0:=by omega
  have s0:∀ p:Nat→Bool,gN p 0=false:=fun p=>rfl
  unfold jW ol
  rw [h0,s0,s0,s0]
  repeat' split
  all_goals first|decide|(rename_i hh;exact absurd hh (by decide))
theorem xU (l0:List Int) (a1 a2:Int) (a3:ByteArray) (h0:∀ i:Nat,0≤rd l0 (i:Int)∧rd l0 (i:Int)≤255) (h1:0≤a1) (h2:0≤a2):∃ k,bK.f k l0 a1 a2 a3=some true:=by
  apply Ev.rounds
  unfold bK.f
  by_cases c:(a3.size:Int) > 60
  · exact Ev.ifp c (qA.bind (Ev.now _))
  refine Ev.ifn c ?_
  obtain ⟨d,l,hm,hk⟩:=yV l0 h0
  have hE:=tZ hk (by decide)
  have r1:=il h1 (b:=8) (by decide)
  have r2:=il h2 (b:=3) (by decide)
  refine hm.bind (Ev.bs (Ev.ifp r1.1 (Ev.ifp (show Int.tmod a1 8 < (8:Int) from r1.2) ?_)))
  obtain ⟨n,hn⟩:∃ n:Fin 8,Int.tmod a1 8=(n.val:Int):=⟨⟨(Int.tmod a1 8).toNat,by omega⟩,by show _=(((Int.tmod a1 8).toNat:Nat):Int);omega⟩
  rw [hn]
  obtain ⟨ht,hR,hs⟩:=wZ n
  show Ev (fun k=>(bC.f k 8 (bH ByteArray.empty o7 (n.val:Int)) (⟨#[]⟩:ByteArray) [] [] d l).bind _) _
  generalize hT:bH ByteArray.empty o7 (n.val:Int)=t at ht hR hs ⊢
  have hT':bH ByteArray.empty [(⟨#[99,110]⟩:ByteArray),(⟨#[115,110]⟩:ByteArray),(⟨#[109,97,105,108]⟩:ByteArray),(⟨#[100,101,115,99,114,105,112,116,105,111,110]⟩:ByteArray),(⟨#[117,105,100]⟩:ByteArray),(⟨#[117,105,100,110,117,109,98,101,114]⟩:ByteArray),(⟨#[111,98,106,101,99,116,99,108,97,115,115]⟩:ByteArray),(⟨#[111]⟩:ByteArray)] (n.val:Int)=t:=hT
  rw [hT']
  have eH:=xw d hE t ht hR
  obtain ⟨kd,hkd,hkr⟩:∃ kd:Int,rd [4,6,7] (Int.tmod a2 3)=kd∧(kd=4∨kd=6∨kd=7):=by
    have:Int.tmod a2 3=0∨Int.tmod a2 3=1∨Int.tmod a2 3=2:=by omega
    rcases this with h|h|h <;> rw [h]
    · exact ⟨4,rfl,.inl rfl⟩
    · exact ⟨6,rfl,.inr (.inl rfl)⟩
    · exact ⟨7,rfl,.inr (.inr rfl)⟩
  have eX:=nH d hE kd t a3 [] (by omega) (Aw hkr ht (by omega)) tJ
  have eY:=nH d hE 5 t (⟨#[]⟩:ByteArray) [a3,(⟨#[120]⟩:ByteArray)] (by decide) (may5 ht (sK a3 (by omega))) (fun i hi=>by
    have:=(nY (sK a3 (by omega))).2.2 i hi
    omega)
  have eV:=uH d hE t (by omega)
  rw [if_neg hR] at eX eY
  refine eH.bind (Ev.bs (Ev.ifp r2.1 (Ev.ifp (show Int.tmod a2 3 < (3:Int) from r2.2) ?_)))
  rw [hkd]
  refine eX.bind (eY.bind (eV.bind ?_))
  have aw:Ev (fun k=>(aT.f k).bind fun t=>some t) true:=qA.bind (Ev.now _)
  by_cases c0:0 < (fE l t).length
  · rw [if_pos c0,decide_eq_true (show ((fE l t).length:Int) > 0 by omega)]
    refine Ev.ifp (by decide) ?_
    by_cases x1:jW kd t a3 [] (fE l t)=1
    · refine Ev.ifp x1 (Ev.ifp rfl ?_)
      by_cases y1:jW 5 t (⟨#[]⟩:ByteArray) [a3,(⟨#[120]⟩:ByteArray)] (fE l t)=1
      · exact Ev.ifp y1 (Ev.ifn (by decide) aw)
      · exact Ev.ifn y1 (Ev.ifn (by decide) aw)
    · refine Ev.ifn x1 ?_
      by_cases y1:jW 5 t (⟨#[]⟩:ByteArray) [a3,(⟨#[120]⟩:ByteArray)] (fE l t)=1
      · exact Ev.ifp y1 (Ev.ifp rfl (Ev.ifn (by decide) aw))
      · exact Ev.ifn y1 (Ev.ifn (by decide) aw)
  · rw [if_neg c0,decide_eq_false (show ¬ ((fE l t).length:Int) > 0 by omega)]
    exact Ev.ifp (by decide) (Ev.ifn (qI _ _ _ _ _ c0) (Ev.ifn (qI _ _ _ _ _ c0) (Ev.ifn (by decide) aw)))
theorem wm {W:World} {a:Option Addr} {len cap:Nat} {zs:List Int}
    (h:(a=none∧len=0∧cap=0∧zs=[])∨∃ x,a=some x∧len≤cap∧cap≤maxLen∧zs.length=cap∧(∀ i,i < zs.length→W.cell? (x.add i)=some (.int .u8 (zs.getD i 0)))∧∀ n ∈ zs,(Lit.int .u8 n).wf=true) :
    ∃ l:List Int,l.length=len∧Kd.C (Kd.int .u8) W a l.length l∧l.length≤cap∧∀ i:Nat,0≤rd l (i:Int)∧rd l (i:Int)≤255:=by
  rcases h with ⟨rfl,rfl,rfl,rfl⟩|⟨x,rfl,h1,h2,h3,h4,h5⟩
  · exact ⟨[],rfl,Kd.gp _ _,Nat.le_refl _,fun i=>by
      show 0≤rd [] (i:Int)∧rd [] (i:Int)≤255
      unfold rd
      rw [List.getD_nil]
      decide⟩
  · have hl:(zs.take len).length=len:=by rw [List.length_take];omega
    have hg:∀ j:Nat,j < len→(zs.take len).getD j 0=zs.getD j 0:=fun j hj=>by
      rw [List.getD_eq_getElem?_getD,List.getD_eq_getElem?_getD,List.getElem?_take_of_lt hj]
    refine ⟨zs.take len,hl,⟨rfl,by rw [hl];simp only [maxLen] at h2;omega,fun _=>⟨x,rfl,fun j p hj=>?_⟩⟩,by omega,fun i=>?_⟩
    · have hjl:j < len:=by have:=(List.getElem?_eq_some_iff.1 hj).1;omega
      have hp:zs.getD j 0=p:=by
        rw [← hg j hjl,List.getD_eq_getElem?_getD,hj]
        rfl
      refine ⟨[.int .u8 p],rfl,rfl,fun i u hu=>?_⟩
      rcases i with _|i
      · simp only [List.getElem?_cons_zero,Option.some.injEq] at hu
        subst hu
        rw [show j * (Kd.int .u8).sz+0=j from by show j * 1+0=j;omega,h4 j (by omega),hp]
      · simp at hu
    · unfold rd
      rw [Int.toNat_natCast]
      by_cases hi:i < len
      · rw [hg i hi,List.getD_eq_getElem?_getD,List.getElem?_eq_getElem (by omega)]
        exact xE (h5 _ (List.getElem_mem _))
      · rw [List.getD_eq_getElem?_getD,List.getElem?_eq_none (by omega)]
        decide
end Go.Proofs.YthfpaoacjpjnfaaGreatDoor.P

namespace Go.Proofs.YthfpaoacjpjnfaaGreatDoor.evalHas
open Go.ChangeShapes Go.WideShapes Go.ChangeAt Go.RowKit Go.Proofs.YthfpaoacjpjnfaaGreatDoor.P Go.Proofs.YthfpaoacjpjnfaaGreatDoorW.PrintWords
open Go.ChangeMaps (open_string shut_string)
def AY (k:IntKind) (w:World) (a:Option Addr) (len cap:Nat) (zs:List Int):Prop :=
  (a=none∧len=0∧cap=0∧zs=[]) ∨
  ∃ x,a=some x∧len≤cap∧cap≤maxLen∧zs.length=cap∧(∀ i,i < zs.length→w.cell? (x.add i)=some (.int k (zs.getD i 0)))∧∀ n ∈ zs,(Lit.int k n).wf=true
set_option maxRecDepth 100000 in
theorem contract (H:Type) (enc:TypeId × Value→H) (W:World) (base:Nat) (args:Array Value) (ds gs:List (DataW H)) (before:List MemPlace)
    (hval0:∀ (j:Nat) t v,Tryz.f10.params[j]?=some t→args[j]?=some v→Value.okWide Tryz.prog W .any base t v)
    (hW:DataW.Whole enc Tryz.prog Tryz.f10.params.toList Rows.evalHasSpec.vars false W args.toList ds gs before)
    (hsz0:(DataW.weightsEach Tryz.prog (Tryz.f10.params.toList++Rows.evalHasSpec.plain.varTypes Tryz.prog) (ds++gs)).all (·≤reachBytes)=true) (hG:Gl W) :
    Calls Tryz.prog 10 args W fun e W'=>∃ v,e=.returned v∧Rows.evalHasSpec.post enc Tryz.prog Tryz.f10 false true false false W args v W':=by
  have hsz:=hsz0
  have hval:=hval0
  have hW':=hW
  obtain ⟨p,q,hA0,hV,rfl,hfz,hnd⟩:=hW
  have hA:DataW.TrodAll enc Tryz.prog W 0 (fun _=>true) true Tryz.f10.params.toList args.toList ds p:=hA0
  rw [Tryz.params10] at hA hval hsz
  obtain ⟨v0,vs0,d0,ds0,p0,q0,hargs,rfl,rfl,h0,r0⟩:=trodAll_cons hA
  obtain ⟨v1,vs1,d1,ds1,p1,q1,rfl,rfl,rfl,h1,r1⟩:=trodAll_cons r0
  obtain ⟨v2,vs2,d2,ds2,p2,q2,rfl,rfl,rfl,h2,r2⟩:=trodAll_cons r1
  obtain ⟨v3,vs3,d3,ds3,p3,q3,rfl,rfl,rfl,h3,r3⟩:=trodAll_cons r2
  obtain ⟨rfl,rfl,rfl⟩:=trodAll_nil r3
  obtain rfl:args=#[v0,v1,v2,v3]:=by cases args;simp_all
  obtain ⟨rfl,rfl⟩:=trodVars_none hV
  obtain ⟨a0,len0,cap0,rfl⟩:=okWide_slice Tryz.underlying34 (hval 0 34 v0 rfl rfl)
  have k0:=h0
  have lt0:∀ x ∈ p0,x.block < W.heap.size:=by obtain ⟨m,hm⟩:=k0;exact DataW.trod_lt m _ _ _ hm
  obtain ⟨z0,w0⟩:∃ zs,AY .u8 W a0 len0 cap0 zs:=by
    obtain ⟨fuel,hf⟩:=h0
    rcases open_ints Tryz.underlying34 Tryz.underlying5 (by kernel_rfl) hf with ⟨hcs,_⟩|⟨x,l,c,zs,hcs,_,hl,hm,hz,_,hcell,hwz⟩
    · simp [Value.cells] at hcs
      obtain ⟨rfl,rfl,rfl⟩:=hcs
      exact ⟨[],.inl ⟨rfl,rfl,rfl,rfl⟩⟩
    · simp [Value.cells] at hcs
      obtain ⟨rfl,rfl,rfl⟩:=hcs
      exact ⟨zs,.inr ⟨_,rfl,hl,hm,by simpa using hz,hcell,hwz⟩⟩
  have y0:len0 * 1≤140737488351232:=uj hsz (j:=0) (t:=34) rfl rfl Tryz.underlying34 Tryz.underlying5 (by kernel_rfl) (by kernel_rfl) h0
  obtain ⟨a1,rfl,rfl,rfl,w1⟩:=open_int Tryz.underlying5 (hval 1 5 v1 rfl rfl) h1
  obtain ⟨a2,rfl,rfl,rfl,w2⟩:=open_int Tryz.underlying5 (hval 2 5 v2 rfl rfl) h2
  obtain ⟨a3,rfl,rfl,rfl,y3⟩:=open_string Tryz.underlying9 (hval 3 9 v3 rfl rfl) h3
  have w3:a3.size≤140737488351232:=by
    have z:=sized_string hsz (j:=3) (t:=9) rfl rfl
    rw [Array.length_toList] at z
    exact z
  clear hA0 hval0 hsz0 hsz
  have walk:Calls Tryz.prog 10 #[.slice a0 len0 cap0,.int .u8 a1,.int .u8 a2,.string a3] W fun e w'=>e=.returned (.bool true)∧Below W.heap.size W w':=(by
    obtain ⟨l,hl,hC,hc,hb⟩:=wm w0
    subst hl
    obtain ⟨k,hk⟩:=xU l a1 a2 a3 hb (xE w1).1 (xE w2).1
    exact bK.calls k a0 cap0 l a1 a2 a3 true W hC hc hG hk)
  refine walk.mono fun e W' ⟨he,bel⟩=>?_
  subst he
  exact ⟨_,rfl,_,_,_,[],_,[],hW',trodAll_mk1 (shut_bool Tryz.underlying4 _),(trodAll_cons_mk (Below.trod laidOut (by kernel_rfl) (of_decide_eq_true (by kernel_rfl)) k0 bel lt0) (trodAll_cons_mk (shut_int Tryz.underlying5 w1) (trodAll_cons_mk (shut_int Tryz.underlying5 w2) (trodAll_cons_mk (shut_string Tryz.underlying9 y3) trodAll_mk0)))),rfl,bel.frame _,fun h=>by cases h⟩
theorem reads (os:Os) {H:Type} (enc:TypeId × Value→H):∃ places,DataW.whole enc Tryz.prog ((nL os).forCall (fun _ _=>0) ⟨#[],#[.slice none 0 0,.int .u8 0,.int .u8 0,.string ByteArray.empty],[]⟩).memory Tryz.f10.params.toList Rows.evalHasSpec.vars false (#[.slice none 0 0,.int .u8 0,.int .u8 0,.string ByteArray.empty]:Array Value).toList 8=some ([.nil,.lit (.int .u8 0),.lit (.int .u8 0),.lit (.string [])],[],places) :=
  ⟨[],by kernel_rfl⟩
set_option maxRecDepth 100000 in
theorem lifted (os:Os) (started:os.Started) (H:Type) (enc:TypeId × Value→H) (F:Stop.Interp) :
    ReturnsInHanded {} Tryz.checked os 10 .any ((OpenSpec.ofChange Rows.evalHasSpec).preRow enc Tryz.prog Tryz.f10 Rows.evalHasRow.domain false Rows.evalHasRow.laid) (((OpenSpec.ofChange Rows.evalHasSpec).at F).post enc Tryz.prog Tryz.f10 false true false false):=by
  obtain ⟨places,hx⟩:=reads os enc
  refine returnsInHanded_of_row (C:=Tryz.checked) (s:=OpenSpec.ofChange Rows.evalHasSpec) own started (by kernel_rfl) Tryz.func10
    (witness_row_at (enc:=enc) (C:=Tryz.checked) false (nL os) #[.slice none 0 0,.int .u8 0,.int .u8 0,.string ByteArray.empty] (World.laidAll_os _ _ _) (by kernel_rfl) (by kernel_rfl) (by kernel_rfl)
      (OpenSpec.preRow_of_cond 8 hx (by kernel_rfl) (fun k hk=>by cases hk) (by kernel_rfl) (xJ os _))) ?_
  intro W base args ds gs before hval hW _ _ hsz hL hsh _
  exact contract H enc W base args ds gs before hval hW hsz (AQ hL hsh)
theorem said:Rows.EvalHasSaid :=
  OpenClaim.holds_of_cond 10 Tryz.f10 rfl rfl rfl rfl rfl rfl rfl ⟨rfl,rfl,rfl,rfl,rfl⟩ rfl rfl rfl rfl rfl (by kernel_rfl) Tryz.func10 (by kernel_rfl)
    (of_decide_eq_true (by kernel_rfl)) (by unfold Func.isWrapper;first|(rw [if_pos (by decide +kernel)];kernel_rfl)|(rw [if_neg (by decide +kernel)];exact ⟨rfl,rfl⟩))
    (fun os started H enc _ F=>by rw [OpenClaim.pre_eq_preRow];exact lifted os started H enc F)
theorem plain (f:FuncId) (fn:Func) (hf:Tryz.pinned.checked.prog.funcNamed "brook/brooklaw7.EvalHas" = some f) (hfn:Tryz.pinned.checked.prog.funcs[f]?=some fn) :
    true=Tryz.pinned.checked.prog.looks []∧∀ (j:Nat) t,fn.params[j]?=some t→Tryz.pinned.checked.prog.wantsStandIn t=false:=by
  obtain rfl:f=10:=Option.some.inj ((show Tryz.prog.funcNamed "brook/brooklaw7.EvalHas" = some 10 by kernel_rfl).symm.trans hf) |>.symm
  obtain rfl:fn=Tryz.f10:=(Option.some.inj (Tryz.func10.symm.trans hfn)).symm
  refine ⟨by kernel_rfl,fun j t ht=>?_⟩
  rw [Tryz.params10] at ht
  have hm:t ∈ [34,5,5,9]:=by simpa using Array.mem_of_getElem? ht
  have hall:([34,5,5,9].all fun u=>!Tryz.prog.wantsStandIn u)=true:=by kernel_rfl
  exact (show Tryz.prog.wantsStandIn t=false by simpa using List.all_eq_true.1 hall t hm)
theorem card:Rows.EvalHasCardSaid :=
  Claim7.holds_tied_plain_at .later [] _ _ _ _ said (fun _ h=>by cases h) (by kernel_rfl) (fun _ h=>by cases h) evalHas_row_tie rfl ⟨rfl,rfl⟩ (by kernel_rfl) rfl plain (by kernel_rfl)
#print axioms card
end Go.Proofs.YthfpaoacjpjnfaaGreatDoor.evalHas
namespace Go.Proofs.YthfpaoacjpjnfaaGreatDoor
theorem evalHas_card:Rows.EvalHasCardSaid:=evalHas.card
end Go.Proofs.YthfpaoacjpjnfaaGreatDoor
