/- Part 6 of 7 of the proof. See the last part. -/
import Derived.Test.YthfpaoacjpjnfaaGreatDoorMELogic5
import Derived.Test.YthfpaoacjpjnfaaGreatDoorMELogic4
import Derived.Test.YthfpaoacjpjnfaaGreatDoorMELogic2
set_option linter.unusedVariables false
set_option linter.unusedSimpArgs false

namespace Go.Proofs.YthfpaoacjpjnfaaGreatDoor.P
open Go.RowKit Go.Proofs.YthfpaoacjpjnfaaGreatDoorW.PrintWords Go.Proofs.YthfpaoacjpjnfaaGreatDoorW.PrintLast Go.Proofs.YthfpaoacjpjnfaaGreatDoorW.PrintMore
def fM:List ByteArray:=[⟨#[99,110]⟩,⟨#[111,98,106,101,99,116,99,108,97,115,115]⟩,⟨#[115,110]⟩,⟨#[109,97,105,108]⟩,⟨#[68,101,115,99,114,105,112,116,105,111,110]⟩,⟨#[117,105,100]⟩,⟨#[117,105,100,78,117,109,98,101,114]⟩,⟨#[117,115,101,114,80,97,115,115,119,111,114,100]⟩]
structure fG (n:Nat) (l:List S45):Prop where
  head:∃ m b r,l=⟨⟨#[99,110]⟩,[m]⟩ :: b :: r
  len:l.length≤n
  each:∀ a ∈ l,a.f0 ∈ fM∧a.f1.length≤n
theorem fG.le {n m:Nat} {l:List S45} (h:fG n l) (hm:n≤m):fG m l:=⟨h.head,by have:=h.len;omega,fun a ha=>⟨(h.each a ha).1,by have:=(h.each a ha).2;omega⟩⟩
theorem fG.snoc {n:Nat} {l:List S45} (h:fG n l) (a:S45) (ha:a.f0 ∈ fM) (hl:a.f1.length≤n+1):fG (n+1) (l++[a]):=by
  obtain ⟨m,b,r,e⟩:=h.head
  refine ⟨⟨m,b,r++[a],by rw [e];rfl⟩,by rw [List.length_append];have:=h.len;simp;omega,fun x hx=>?_⟩
  rcases List.mem_append.1 hx with hx|hx
  · exact ⟨(h.each x hx).1,by have:=(h.each x hx).2;omega⟩
  · rw [List.mem_singleton] at hx
    rw [hx]
    exact ⟨ha,hl⟩
theorem fG.two {n:Nat} {l:List S45} (h:fG n l):2≤l.length:=by
  obtain ⟨m,b,r,e⟩:=h.head
  rw [e]
  simp
theorem fG.set1 {n:Nat} {l:List S45} (h:fG n l) (vs:List ByteArray) (hv:vs.length≤n+1):fG (n+1) (l.set (1:Int).toNat ⟨(bZ l 1).f0,vs⟩):=by
  obtain ⟨m,b,r,e⟩:=h.head
  have hb:b ∈ l:=by rw [e];simp
  have hs:l.set (1:Int).toNat ⟨(bZ l 1).f0,vs⟩=⟨⟨#[99,110]⟩,[m]⟩ :: ⟨b.f0,vs⟩ :: r:=by rw [e];rfl
  rw [hs]
  refine ⟨⟨m,⟨b.f0,vs⟩,r,rfl⟩,by have:=h.len;rw [e] at this;simp at this ⊢;omega,fun x hx=>?_⟩
  rcases List.mem_cons.1 hx with hx|hx
  · have:=h.each x (by rw [e,hx];exact List.mem_cons_self)
    exact ⟨this.1,by omega⟩
  · rcases List.mem_cons.1 hx with hx|hx
    · rw [hx]
      exact ⟨(h.each b hb).1,hv⟩
    · have:=h.each x (by rw [e];exact List.mem_cons_of_mem _ (List.mem_cons_of_mem _ hx))
      exact ⟨this.1,by omega⟩
theorem gY (n:Int) (h0:-1000≤n) (h1:n≤1000):∃ s,bF.f n=some s∧s.size≤16:=by
  refine ⟨mk (Lib.itoa n),?_,by rw [iX];exact (uJ n (by omega) (by omega)).1⟩
  unfold bF.f
  rw [if_pos (by omega)]
def lW (l:List Int):Prop:=l.length=8∧∀ i:Nat,0≤rd l (i:Int)∧rd l (i:Int)≤255
theorem fF {a b:Int} (h0:0≤a) (hb:0 < b):0≤Int.tmod a b∧Int.tmod a b < b:=⟨Int.tmod_nonneg b h0,Int.tmod_lt_of_pos a hb⟩
theorem rM {x3:List Int} (h3:lW x3) (x5 dn:ByteArray) (hx:x5.size≤100) (l:List S45):∃ d,Ev (fun k=>aA.j5 k x3 x5 dn l) (d,l):=by
  have h8:=h3.1
  by_cases c0:Int.tmod (rd x3 5) 5=0
  · refine ⟨_,Ev.step (fun k=>by rw [aA.j5]) (Ev.ifp (by omega) (Ev.ifp c0 (Ev.ifp (by omega) (Ev.now _))))⟩
  · by_cases c1:Int.tmod (rd x3 5) 5=1
    · refine ⟨_,Ev.step (fun k=>by rw [aA.j5]) (Ev.ifp (by omega) (Ev.ifn c0 (Ev.ifp c1 (Ev.ifp (by omega) (Ev.ifp ?_ (Ev.now _))))))⟩
      rw [ByteArray.size_append]
      have:(⟨#[67,78,61]⟩:ByteArray).size=3:=rfl
      omega
    · exact ⟨_,Ev.step (fun k=>by rw [aA.j5]) (Ev.ifp (by omega) (Ev.ifn c0 (Ev.ifn c1 (Ev.now _))))⟩
theorem rO {x3:List Int} (h3:lW x3) (x5 dn:ByteArray) (hx:x5.size≤100) {n:Nat} {l:List S45} (hl:fG n l) (hn:n≤100):∃ d l',Ev (fun k=>aA.j4 k x3 x5 dn l) (d,l')∧fG (n+1) l':=by
  have h8:=h3.1
  have hle:=hl.len
  by_cases c1:Int.tmod (rd x3 3) 4=1
  · obtain ⟨d,hd⟩:=rM h3 x5 dn hx (l++[(⟨(⟨#[117,115,101,114,80,97,115,115,119,111,114,100]⟩:ByteArray),(([(⟨#[115,101,99,114,101,116]⟩:ByteArray)]:List ByteArray))⟩:S45)])
    exact ⟨d,_,Ev.step (fun k=>by rw [aA.j4]) (Ev.ifp (by omega) (Ev.ifp c1 (Ev.ifp (by omega) hd))),hl.snoc _ (by simp [fM]) (show 1≤n+1 by omega)⟩
  · obtain ⟨d,hd⟩:=rM h3 x5 dn hx l
    exact ⟨d,_,Ev.step (fun k=>by rw [aA.j4]) (Ev.ifp (by omega) (Ev.ifn c1 hd)),hl.le (by omega)⟩
theorem rG {x3:List Int} (h3:lW x3) (x5 dn:ByteArray) (hx:x5.size≤100) {n:Nat} {l:List S45} (hl:fG n l) (hn:n≤50) (hn1:1≤n):∃ d l',Ev (fun k=>aA.j3 k x3 x5 dn l) (d,l')∧fG (n+4) l':=by
  have h8:=h3.1
  have hle:=hl.len
  have h2:=hl.two
  by_cases c0:Int.tmod (rd x3 3) 4=0
  · have hb1:(bZ l 1).f1.length≤n:=by
      obtain ⟨m,b,r,e⟩:=hl.head
      have:bZ l 1=b:=by rw [e];rfl
      rw [this]
      exact (hl.each b (by rw [e];simp)).2
    have hk:0≤rd x3 4∧rd x3 4≤255:=h3.2 4
    obtain ⟨s1,e1,z1⟩:=gY (Int.tmod (rd x3 4) 9) (by have:=fF hk.1 (b:=9) (by decide);omega) (by have:=fF hk.1 (b:=9) (by decide);omega)
    have hk':0≤rd x3 4∧rd x3 4≤255:=hk
    have hw:wrap64 (rd x3 4 - 100)=rd x3 4 - 100:=by unfold wrap64;omega
    obtain ⟨s2,e2,z2⟩:=gY (rd x3 4 - 100) (by omega) (by omega)
    have hl1:=hl.set1 ((bZ l 1).f1++[(⟨#[112,111,115,105,120]⟩:ByteArray)]) (by rw [List.length_append];simp;omega)
    have hl2:=(hl1.snoc (⟨(⟨#[117,105,100]⟩:ByteArray),(([(⟨#[117]⟩:ByteArray)++s1]:List ByteArray))⟩:S45) (by simp [fM]) (show 1≤_ by omega)).snoc (⟨(⟨#[117,105,100,78,117,109,98,101,114]⟩:ByteArray),(([s2]:List ByteArray))⟩:S45) (by simp [fM]) (show 1≤_ by omega)
    obtain ⟨d,l',hd,hm⟩:=rO h3 x5 dn hx hl2 (by omega)
    rw [List.append_assoc] at hd
    refine ⟨d,l',Ev.step (fun k=>by rw [aA.j3]) (Ev.ifp (by omega) (Ev.ifp c0 (Ev.ifp (by omega) (Ev.ifp (by omega) ?_)))),hm⟩
    refine Ev.bs (Ev.ifp (by omega) ?_)
    rw [e1,hw,e2]
    refine Ev.bs (Ev.ifp (by omega) (Ev.bs (Ev.bs (Ev.ifp ?_ hd))))
    have:=hl1.len
    show _+2 < 3518437208883
    omega
  · obtain ⟨d,l',hd,hm⟩:=rO h3 x5 dn hx hl (by omega)
    exact ⟨d,l',Ev.step (fun k=>by rw [aA.j3]) (Ev.ifp (by omega) (Ev.ifn c0 hd)),hm.le (by omega)⟩
theorem r9 {x3:List Int} (h3:lW x3) (x5 dn:ByteArray) (hx:x5.size≤100) {n:Nat} {l:List S45} (hl:fG n l) (hn:n≤40) (hn1:1≤n):∃ d l',Ev (fun k=>aA.j2 k x3 x5 dn l) (d,l')∧fG (n+5) l':=by
  have h8:=h3.1
  have hle:=hl.len
  by_cases c1:Int.tmod (rd x3 1) 3=1
  · have hk:0≤rd x3 2∧rd x3 2≤255:=h3.2 2
    obtain ⟨s1,e1,z1⟩:=gY (Int.tmod (rd x3 2) 9) (by have:=fF hk.1 (b:=9) (by decide);omega) (by have:=fF hk.1 (b:=9) (by decide);omega)
    obtain ⟨d,l',hd,hm⟩:=rG h3 x5 dn hx (hl.snoc (⟨(⟨#[68,101,115,99,114,105,112,116,105,111,110]⟩:ByteArray),(([(⟨#[100,32]⟩:ByteArray)++s1,(⟨#[101]⟩:ByteArray)]:List ByteArray))⟩:S45) (by simp [fM]) (show 2≤_ by omega)) (by omega) (by omega)
    refine ⟨d,l',Ev.step (fun k=>by rw [aA.j2]) (Ev.ifp (by omega) (Ev.ifp c1 (Ev.ifp (by omega) ?_))),hm⟩
    rw [e1]
    exact Ev.bs (Ev.ifp (by omega) (Ev.ifp (by omega) hd))
  · obtain ⟨d,l',hd,hm⟩:=rG h3 x5 dn hx hl (by omega) (by omega)
    exact ⟨d,l',Ev.step (fun k=>by rw [aA.j2]) (Ev.ifp (by omega) (Ev.ifn c1 hd)),hm.le (by omega)⟩
theorem rT {x3:List Int} (h3:lW x3):∃ d l',Ev (fun k=>aA.j1 k x3) (d,l')∧fG 20 l':=by
  have h8:=h3.1
  have hk0:0≤rd x3 0∧rd x3 0≤255:=h3.2 0
  have hk2:0≤rd x3 2∧rd x3 2≤255:=h3.2 2
  obtain ⟨s0,e0,z0⟩:=gY (Int.tmod (rd x3 0) 6) (by have:=fF hk0.1 (b:=6) (by decide);omega) (by have:=fF hk0.1 (b:=6) (by decide);omega)
  obtain ⟨s2,e2,z2⟩:=gY (rd x3 2) (by omega) (by omega)
  have zn:((⟨#[110]⟩:ByteArray)++s0).size≤20:=by rw [ByteArray.size_append];have:(⟨#[110]⟩:ByteArray).size=1:=rfl;omega
  have hp:bY.f ((⟨#[110]⟩:ByteArray)++s0)=some ((((⟨#[99,110,61]⟩:ByteArray)++((⟨#[110]⟩:ByteArray)++s0))++(⟨#[44,111,61,120]⟩:ByteArray)),([(⟨(⟨#[99,110]⟩:ByteArray),(([((⟨#[110]⟩:ByteArray)++s0)]:List ByteArray))⟩:S45),(⟨(⟨#[111,98,106,101,99,116,99,108,97,115,115]⟩:ByteArray),(([(⟨#[112,101,114,115,111,110]⟩:ByteArray)]:List ByteArray))⟩:S45),(⟨(⟨#[115,110]⟩:ByteArray),(([(⟨#[115]⟩:ByteArray)]:List ByteArray))⟩:S45)])):=by
    unfold bY.f
    rw [if_pos (by omega),if_pos (by rw [ByteArray.size_append];have:(⟨#[99,110,61]⟩:ByteArray).size=3:=rfl;omega)]
  have hb:∀ vs:List ByteArray,vs.length≤5→fG 5 ([(⟨(⟨#[99,110]⟩:ByteArray),(([((⟨#[110]⟩:ByteArray)++s0)]:List ByteArray))⟩:S45),(⟨(⟨#[111,98,106,101,99,116,99,108,97,115,115]⟩:ByteArray),vs⟩:S45),(⟨(⟨#[115,110]⟩:ByteArray),(([(⟨#[115]⟩:ByteArray)]:List ByteArray))⟩:S45)]):=fun vs hv=>⟨⟨_,_,_,rfl⟩,show 3≤5 by decide,fun a ha=>by
    rcases List.mem_cons.1 ha with h|ha
    · rw [h];exact ⟨by simp [fM],by show 1≤5;decide⟩
    rcases List.mem_cons.1 ha with h|ha
    · rw [h];exact ⟨by simp [fM],hv⟩
    rcases List.mem_cons.1 ha with h|ha
    · rw [h];exact ⟨by simp [fM],by show 1≤5;decide⟩
    · cases ha⟩
  by_cases c0:Int.tmod (rd x3 1) 3=0
  · obtain ⟨d,l',hd,hm⟩:=r9 h3 ((⟨#[110]⟩:ByteArray)++s0) (((⟨#[99,110,61]⟩:ByteArray)++((⟨#[110]⟩:ByteArray)++s0))++(⟨#[44,111,61,120]⟩:ByteArray)) (by omega) ((hb [(⟨#[105,110,101,116,79,114,103,80,101,114,115,111,110]⟩:ByteArray)] (by decide)).snoc (⟨(⟨#[109,97,105,108]⟩:ByteArray),(([(⟨#[97,64]⟩:ByteArray)++s2]:List ByteArray))⟩:S45) (by simp [fM]) (show 1≤6 by decide)) (by decide) (by decide)
    refine ⟨d,l',Ev.step (fun k=>by rw [aA.j1]) (Ev.ifp (by omega) ?_),hm.le (by decide)⟩
    rw [e0]
    refine Ev.bs (Ev.ifp (by omega) ?_)
    rw [hp]
    refine Ev.bs (Ev.ifp (by omega) (Ev.ifp c0 (Ev.ifp (show (1:Int) < 3 by decide) (Ev.bs (Ev.ifp (by omega) ?_)))))
    rw [e2]
    exact Ev.bs (Ev.ifp (by omega) (Ev.ifp (show (3:Nat) < 3518437208883 by decide) hd))
  · obtain ⟨d,l',hd,hm⟩:=r9 h3 ((⟨#[110]⟩:ByteArray)++s0) (((⟨#[99,110,61]⟩:ByteArray)++((⟨#[110]⟩:ByteArray)++s0))++(⟨#[44,111,61,120]⟩:ByteArray)) (by omega) (hb [(⟨#[112,101,114,115,111,110]⟩:ByteArray)] (by decide)) (by decide) (by decide)
    refine ⟨d,l',Ev.step (fun k=>by rw [aA.j1]) (Ev.ifp (by omega) ?_),hm.le (by decide)⟩
    rw [e0]
    refine Ev.bs (Ev.ifp (by omega) ?_)
    rw [hp]
    exact Ev.bs (Ev.ifp (by omega) (Ev.ifn c0 hd))
theorem xG (l:List Int) (j i:Nat) (v:Int):rd (l.set j v) (i:Int)=if i=j∧j < l.length then v else rd l (i:Int):=by
  unfold rd
  rw [Int.toNat_natCast,List.getD_eq_getElem?_getD,List.getD_eq_getElem?_getD,List.getElem?_set]
  by_cases h:j=i
  · subst h
    by_cases hl:j < l.length
    · rw [if_pos rfl,if_pos hl,if_pos ⟨rfl,hl⟩];rfl
    · rw [if_pos rfl,if_neg hl,if_neg (fun hh=>hl hh.2),List.getElem?_eq_none (by omega)]
  · rw [if_neg h,if_neg (fun hh=>h hh.1.symm)]
theorem sN (x0:List Int) (h0:∀ i:Nat,0≤rd x0 (i:Int)∧rd x0 (i:Int)≤255):∀ (n i:Nat),8 - i=n→i≤8→∀ x3:List Int,lW x3→∃ d l',Ev (fun k=>aA.l0 k x0 x3 (i:Int)) (d,l')∧fG 20 l':=by
  intro n
  induction n with
  | zero =>
    intro i hn hi x3 h3
    obtain ⟨d,l',hd,hm⟩:=rT h3
    exact ⟨d,l',Ev.step (fun k=>by rw [aA.l0]) (Ev.ifn (by omega) hd),hm⟩
  | succ n ih =>
    intro i hn hi x3 h3
    by_cases hx:(i:Int) < (x0.length:Int)
    · have hb:=h0 i
      have hw:wrap64 (rd x0 (i:Int))=rd x0 (i:Int):=by unfold wrap64;omega
      have hw2:wrap64 ((i:Int)+1)=((i+1:Nat):Int):=by unfold wrap64;omega
      have h8:=h3.1
      obtain ⟨d,l',hd,hm⟩:=ih (i+1) (by omega) (by omega) (x3.set i (rd x0 (i:Int))) ⟨by rw [List.length_set];exact h8,fun j=>by
        rw [xG]
        split
        · exact hb
        · exact h3.2 j⟩
      rw [← hw2] at hd
      refine ⟨d,l',Ev.step (fun k=>by rw [aA.l0]) (Ev.ifp (by omega) (Ev.ifp hx (Ev.ifp (by omega) (Ev.ifp (by omega) ?_)))),hm⟩
      rw [hw,Int.toNat_natCast]
      exact hd
    · obtain ⟨d,l',hd,hm⟩:=rT h3
      exact ⟨d,l',Ev.step (fun k=>by rw [aA.l0]) (Ev.ifp (by omega) (Ev.ifn hx hd)),hm⟩
theorem vR (x0:List Int) (h0:∀ i:Nat,0≤rd x0 (i:Int)∧rd x0 (i:Int)≤255):∃ d l',Ev (fun k=>aA.f k x0) (d,l')∧fG 20 l':=by
  obtain ⟨d,l',hd,hm⟩:=sN x0 h0 8 0 rfl (by decide) (List.replicate 8 0) ⟨rfl,fun i=>by
    have:rd (List.replicate 8 0) (i:Int)=0:=by
      unfold rd
      rw [Int.toNat_natCast,List.getD_eq_getElem?_getD,List.getElem?_replicate]
      split <;> rfl
    rw [this]
    decide⟩
  refine ⟨d,l',?_,hm⟩
  unfold aA.f
  exact Ev.ifp (by decide) hd
theorem qI {n:Nat} {l:List S45} (h:fG n l) (hn:n≤1000):kW l:=by
  refine ⟨by have:=h.len;omega,fun i hi=>?_⟩
  have hm:bZ l (i:Int) ∈ l:=by
    unfold bZ
    rw [Int.toNat_natCast,List.getD_eq_getElem?_getD,List.getElem?_eq_getElem hi]
    exact List.getElem_mem hi
  have h1:=h.each _ hm
  refine ⟨?_,by omega⟩
  have:∀ t ∈ fM,t.size≤1000:=by decide
  exact this _ h1.1
end Go.Proofs.YthfpaoacjpjnfaaGreatDoor.P

namespace Go.Proofs.YthfpaoacjpjnfaaGreatDoor.P
open Go.RowKit Go.Proofs.YthfpaoacjpjnfaaGreatDoorW.PrintWords Go.Proofs.YthfpaoacjpjnfaaGreatDoorW.PrintLast Go.Proofs.YthfpaoacjpjnfaaGreatDoorW.PrintMore
attribute [local go_sem] dW dZ eP eQ dL dM dY dX
mutual
def aH.j0:Nat→List Int→ByteArray→Int→ByteArray→ByteArray→Int→Bool→Int→ByteArray→ByteArray→Option (Int × ByteArray × ByteArray × List ByteArray × (List (S25)))
 | 0,_,_,_,_,_,_,_,_,_,_=>none
 | k+1,x0,x1,x5,x7,x8,x36,x41,x423000,x423001,x423002=>if x41=true then (aH.l0 k x0 x1 x5 1 x423000 x423001 x423002 ([]:List (S25))) else (if x36=8 then (some (x423000,x7,x423002,([]:List ByteArray),([]:List (S25)))) else (if x36=5 then (if x1.size+1≤9223372036854775807 then ((some (([(([(⟨#[110]⟩:ByteArray),(⟨#[]⟩:ByteArray)]:List ByteArray)),(([(⟨#[]⟩:ByteArray),(⟨#[49]⟩:ByteArray)]:List ByteArray)),(([(⟨#[]⟩:ByteArray),x1++(⟨#[101]⟩:ByteArray),(⟨#[]⟩:ByteArray)]:List ByteArray)),(([(⟨#[68]⟩:ByteArray),(⟨#[32]⟩:ByteArray),(⟨#[53]⟩:ByteArray)]:List ByteArray))]:List (List ByteArray)):List (List ByteArray))).bind fun y482=>(if 0≤(Int.tmod (wrap64 (Int.tdiv x5 48)) 4) then (if (Int.tmod (wrap64 (Int.tdiv x5 48)) 4) < (y482.length:Int) then (some (x423000,x7,x423002,gZ y482 (Int.tmod (wrap64 (Int.tdiv x5 48)) 4),([]:List (S25)))) else (none)) else (none))) else (none)) else (some (x423000,x7,x8,([]:List ByteArray),([]:List (S25))))))
def aH.l0:Nat→List Int→ByteArray→Int→Int→Int→ByteArray→ByteArray→List (S25)→Option (Int × ByteArray × ByteArray × List ByteArray × (List (S25)))
 | 0,_,_,_,_,_,_,_,_=>none
 | k+1,x0,x1,x5,x9,x423000,x423001,x423002,x423004=>if x9 < (x0.length:Int) then (if x9≤(Int.tmod (wrap64 (Int.tdiv x5 24)) 4) then (if 0≤x9 then (if x9≤(mn (x0.length:Int) (wrap64 ((wrap64 (x9+(wrap64 (Int.tdiv x5 60))))+1))) then (if (mn (x0.length:Int) (wrap64 ((wrap64 (x9+(wrap64 (Int.tdiv x5 60))))+1)))≤(x0.length:Int) then ((aH.f k ((x0.take ((mn (x0.length:Int) (wrap64 ((wrap64 (x9+(wrap64 (Int.tdiv x5 60))))+1))):Int).toNat).drop (x9:Int).toNat) x1).bind fun bt432=>(if x423004.length < 1599289640401 then (aH.l0 k x0 x1 x5 (wrap64 (x9+1)) x423000 x423001 x423002 (x423004++[(⟨bt432.1,bt432.2.1,bt432.2.2.1,bt432.2.2.2.1,bt432.2.2.2.2⟩:S25)])) else (none))) else (none)) else (none)) else (none)) else (if x423000=3 then (if 1≤(x0.length:Int) then ((aH.f k (x0.drop 1) x1).bind fun bt445=>(some (x423000,x423001,x423002,([]:List ByteArray),(([(⟨bt445.1,bt445.2.1,bt445.2.2.1,bt445.2.2.2.1,bt445.2.2.2.2⟩:S25)]:List (S25)))))) else (none)) else (some (x423000,x423001,x423002,([]:List ByteArray),x423004)))) else (if x423000=3 then (if 1≤(x0.length:Int) then ((aH.f k (x0.drop 1) x1).bind fun bt458=>(some (x423000,x423001,x423002,([]:List ByteArray),(([(⟨bt458.1,bt458.2.1,bt458.2.2.1,bt458.2.2.2.1,bt458.2.2.2.2⟩:S25)]:List (S25)))))) else (none)) else (some (x423000,x423001,x423002,([]:List ByteArray),x423004)))
def aH.f:Nat→List Int→ByteArray→Option (Int × ByteArray × ByteArray × List ByteArray × (List (S25)))
 | 0,_,_=>none
 | k+1,l0,a1=>if (l0.length:Int)=0 then (some (8,(⟨#[99,110]⟩:ByteArray),(⟨#[]⟩:ByteArray),([]:List ByteArray),([]:List (S25)))) else (if 0 < (l0.length:Int) then ((some (([(⟨#[99,110]⟩:ByteArray),(⟨#[115,110]⟩:ByteArray),(⟨#[100,101,115,99,114,105,112,116,105,111,110]⟩:ByteArray),(⟨#[117,105,100,78,117,109,98,101,114]⟩:ByteArray),(⟨#[109,97,105,108]⟩:ByteArray),(⟨#[111,98,106,101,99,116,67,108,97,115,115]⟩:ByteArray)]:List ByteArray):List ByteArray)).bind fun y423=>(if 0≤(Int.tmod (wrap64 (Int.tdiv (wrap64 (rd l0 0)) 8)) 6) then (if (Int.tmod (wrap64 (Int.tdiv (wrap64 (rd l0 0)) 8)) 6) < (y423.length:Int) then ((some (([(⟨#[110,49]⟩:ByteArray),(⟨#[78,50]⟩:ByteArray),a1,(⟨#[53]⟩:ByteArray),(⟨#[100]⟩:ByteArray),(⟨#[112,101,114,115,111,110]⟩:ByteArray)]:List ByteArray):List ByteArray)).bind fun y427=>(if 0≤(Int.tmod (wrap64 (Int.tdiv (wrap64 (rd l0 0)) 16)) 6) then (if (Int.tmod (wrap64 (Int.tdiv (wrap64 (rd l0 0)) 16)) 6) < (y427.length:Int) then (if (wrap64 (1+(Int.tmod (wrap64 (rd l0 0)) 8)))=1 then (aH.j0 k l0 a1 (wrap64 (rd l0 0)) (bE ByteArray.empty y423 (Int.tmod (wrap64 (Int.tdiv (wrap64 (rd l0 0)) 8)) 6)) (bE ByteArray.empty y427 (Int.tmod (wrap64 (Int.tdiv (wrap64 (rd l0 0)) 16)) 6)) (wrap64 (1+(Int.tmod (wrap64 (rd l0 0)) 8))) ((wrap64 (1+(Int.tmod (wrap64 (rd l0 0)) 8))) == 1) (wrap64 (1+(Int.tmod (wrap64 (rd l0 0)) 8))) (⟨#[]⟩:ByteArray) (⟨#[]⟩:ByteArray)) else (if (wrap64 (1+(Int.tmod (wrap64 (rd l0 0)) 8)))=2 then (aH.j0 k l0 a1 (wrap64 (rd l0 0)) (bE ByteArray.empty y423 (Int.tmod (wrap64 (Int.tdiv (wrap64 (rd l0 0)) 8)) 6)) (bE ByteArray.empty y427 (Int.tmod (wrap64 (Int.tdiv (wrap64 (rd l0 0)) 16)) 6)) (wrap64 (1+(Int.tmod (wrap64 (rd l0 0)) 8))) ((wrap64 (1+(Int.tmod (wrap64 (rd l0 0)) 8))) == 2) (wrap64 (1+(Int.tmod (wrap64 (rd l0 0)) 8))) (⟨#[]⟩:ByteArray) (⟨#[]⟩:ByteArray)) else (aH.j0 k l0 a1 (wrap64 (rd l0 0)) (bE ByteArray.empty y423 (Int.tmod (wrap64 (Int.tdiv (wrap64 (rd l0 0)) 8)) 6)) (bE ByteArray.empty y427 (Int.tmod (wrap64 (Int.tdiv (wrap64 (rd l0 0)) 16)) 6)) (wrap64 (1+(Int.tmod (wrap64 (rd l0 0)) 8))) ((wrap64 (1+(Int.tmod (wrap64 (rd l0 0)) 8))) == 3) (wrap64 (1+(Int.tmod (wrap64 (rd l0 0)) 8))) (⟨#[]⟩:ByteArray) (⟨#[]⟩:ByteArray)))) else (none)) else (none))) else (none)) else (none))) else (none))
end
def aH.T16:Bool × List (List Nat × List Nat):=(true,[([],[]),([0],[0]),([],[]),([],[]),([],[]),([4],[4]),([],[]),([],[]),([7],[7]),([6,8],[6,8]),([9],[9]),([5,10],[5,10]),([2,3,11],[2,3,11]),([],[]),([12,13],[12,13]),([14],[14]),([1,15,14],[1,15]),([0,1,2,3,4,5,6,7,8,9,10,11,12,13,14,15,16],[]),([17,16,16,0,1,2,3,4,5,6,7,8,9,10,11,12,13,14,15,16],[16,17])])
def aH.B16:List Nat:=[0,1,0,0,0,16,0,0,128,448,960,2032,4092,0,16380,32764,65535,131071,262143]
theorem aH.tab16:ik .any (opsOf Tryz.f16 16)=aH.T16:=by kernel_rfl
theorem aH.bits16:gW aH.T16.2 aH.B16=true:=by kernel_rfl
set_option maxHeartbeats 8000000 in
set_option maxRecDepth 100000 in
theorem aH.calls (k:Nat):∀ (A0:Option Addr) (c0:Nat) (l0:List Int) (a1:ByteArray) (r1:Int) (r2:ByteArray) (r3:ByteArray) (r4:List ByteArray) (r5:List (S25)) (w:World) (hr0:Kd.C (Kd.int .u8) w A0 l0.length l0) (hc0:l0.length≤c0) (h:aH.f k l0 a1=some (r1,r2,r3,r4,r5)),
  Calls Tryz.prog 16 #[.slice A0 l0.length c0,.string a1] w fun e w'=>∃ v3_ v4_:Value,e=.returned (.agg #[.int .i64 r1,.string r2,.string r3,v3_,v4_])∧Kd.V Kd.string 9 w' w.heap.size (fun k_=>(w.heap.size≤k_)∧some k_≠(v4_:Value).ownBlock) v3_ r4∧Kd.N k25 25 w' w.heap.size (fun k_=>(w.heap.size≤k_)) v4_ r5∧Below w.heap.size w w':=by
 induction k using Nat.strongRecOn with
 | _ k ih =>
 intro A0 c0 l0 a1 r1 r2 r3 r4 r5 w hr0 hc0 h
 cases k with
 | zero=>exact absurd h (by simp [aH.f])
 | succ k =>
 simp only [aH.f] at h
 have hu25:=Tryz.underlying25
 have HR0:=aa.mk hr0
 have HC0:=aa.mk hc0
 clear hr0 hc0
 have HB:=aa.mk (Below.refl w.heap.size w)
 have H:(if (l0.length:Int)=0 then (some (8,(⟨#[99,110]⟩:ByteArray),(⟨#[]⟩:ByteArray),([]:List ByteArray),([]:List (S25)))) else (if 0 < (l0.length:Int) then ((some (([(⟨#[99,110]⟩:ByteArray),(⟨#[115,110]⟩:ByteArray),(⟨#[100,101,115,99,114,105,112,116,105,111,110]⟩:ByteArray),(⟨#[117,105,100,78,117,109,98,101,114]⟩:ByteArray),(⟨#[109,97,105,108]⟩:ByteArray),(⟨#[111,98,106,101,99,116,67,108,97,115,115]⟩:ByteArray)]:List ByteArray):List ByteArray)).bind fun y423=>(if 0≤(Int.tmod (wrap64 (Int.tdiv (wrap64 (rd l0 0)) 8)) 6) then (if (Int.tmod (wrap64 (Int.tdiv (wrap64 (rd l0 0)) 8)) 6) < (y423.length:Int) then ((some (([(⟨#[110,49]⟩:ByteArray),(⟨#[78,50]⟩:ByteArray),a1,(⟨#[53]⟩:ByteArray),(⟨#[100]⟩:ByteArray),(⟨#[112,101,114,115,111,110]⟩:ByteArray)]:List ByteArray):List ByteArray)).bind fun y427=>(if 0≤(Int.tmod (wrap64 (Int.tdiv (wrap64 (rd l0 0)) 16)) 6) then (if (Int.tmod (wrap64 (Int.tdiv (wrap64 (rd l0 0)) 16)) 6) < (y427.length:Int) then (if (wrap64 (1+(Int.tmod (wrap64 (rd l0 0)) 8)))=1 then (aH.j0 k l0 a1 (wrap64 (rd l0 0)) (bE ByteArray.empty y423 (Int.tmod (wrap64 (Int.tdiv (wrap64 (rd l0 0)) 8)) 6)) (bE ByteArray.empty y427 (Int.tmod (wrap64 (Int.tdiv (wrap64 (rd l0 0)) 16)) 6)) (wrap64 (1+(Int.tmod (wrap64 (rd l0 0)) 8))) ((wrap64 (1+(Int.tmod (wrap64 (rd l0 0)) 8))) == 1) (wrap64 (1+(Int.tmod (wrap64 (rd l0 0)) 8))) (⟨#[]⟩:ByteArray) (⟨#[]⟩:ByteArray)) else (if (wrap64 (1+(Int.tmod (wrap64 (rd l0 0)) 8)))=2 then (aH.j0 k l0 a1 (wrap64 (rd l0 0)) (bE ByteArray.empty y423 (Int.tmod (wrap64 (Int.tdiv (wrap64 (rd l0 0)) 8)) 6)) (bE ByteArray.empty y427 (Int.tmod (wrap64 (Int.tdiv (wrap64 (rd l0 0)) 16)) 6)) (wrap64 (1+(Int.tmod (wrap64 (rd l0 0)) 8))) ((wrap64 (1+(Int.tmod (wrap64 (rd l0 0)) 8))) == 2) (wrap64 (1+(Int.tmod (wrap64 (rd l0 0)) 8))) (⟨#[]⟩:ByteArray) (⟨#[]⟩:ByteArray)) else (aH.j0 k l0 a1 (wrap64 (rd l0 0)) (bE ByteArray.empty y423 (Int.tmod (wrap64 (Int.tdiv (wrap64 (rd l0 0)) 8)) 6)) (bE ByteArray.empty y427 (Int.tmod (wrap64 (Int.tdiv (wrap64 (rd l0 0)) 16)) 6)) (wrap64 (1+(Int.tmod (wrap64 (rd l0 0)) 8))) ((wrap64 (1+(Int.tmod (wrap64 (rd l0 0)) 8))) == 3) (wrap64 (1+(Int.tmod (wrap64 (rd l0 0)) 8))) (⟨#[]⟩:ByteArray) (⟨#[]⟩:ByteArray)))) else (none)) else (none))) else (none)) else (none))) else (none)))=some (r1,r2,r3,r4,r5):=h
 clear h
 by_cases c3:(l0.length:Int)=0
 ·rw [if_pos c3] at H
  have c3b0:((l0.length:Int) == 0)=true:=beq_iff_eq.mpr c3
  have c3b1:((l0.length:Int) != 0)=false:=bne_eq_false_iff_eq.mpr c3
  clear c3
  simp only [Option.some.injEq,Prod.mk.injEq] at H
  obtain ⟨rfl,rfl,rfl,rfl,rfl⟩:=H
  go_enter Tryz.func16,Tryz.ntmps16
  go_wp2_with (first|((with_reducible refine bS (N:=4) rfl ?_);refine eu ?hg (N:=4) ?hd (cs:=#[.int .i64 0,.string (⟨#[]⟩:ByteArray),.string (⟨#[]⟩:ByteArray),.slice none 0 0,.slice none 0 0]) (t:=25) ?hr ?_;(case hd=>rfl);(case hg=>rfl);(case hr=>first|(go_simp;done)|(go_simp;rfl));intro gb420 hg w4 hbox hb;have n0_:=aa.mk (aD (by repeat (first|(with_reducible first|exact HB.out|apply af|apply ae|apply ag)|exact HB.out)) hb);have n1_:=aa.mk (hbox);have n2_:=aa.mk ((by rw [hg];exact (aG (by repeat (first|(with_reducible first|exact HB.out|apply af|apply ae|apply ag)|exact HB.out))):w.heap.size≤gb420));have n3_:=aa.mk ((by rw [hg];exact (aG (by repeat (first|(with_reducible first|exact HB.out|apply af|apply ae|apply ag)|exact HB.out))):w.heap.size≤gb420));clear HB;have HB:=n0_;have BK420:=n1_;have GW420:=n2_;have GE420:=n3_;clear n0_ n1_ n2_ n3_;clear hb hbox hg;have hcz5_0:w4.cell? ⟨gb420,0,none⟩=some (.int .i64 0):=(aj BK420.out 0).trans rfl;have hcz5_1:w4.cell? ⟨gb420,1,none⟩=some (.string (⟨#[]⟩:ByteArray)):=(aj BK420.out 1).trans rfl;have hcz5_2:w4.cell? ⟨gb420,2,none⟩=some (.string (⟨#[]⟩:ByteArray)):=(aj BK420.out 2).trans rfl;have hcz5_3:w4.cell? ⟨gb420,3,none⟩=some (.slice none 0 0):=(aj BK420.out 3).trans rfl;have hcz5_4:w4.cell? ⟨gb420,4,none⟩=some (.slice none 0 0):=(aj BK420.out 4).trans rfl;have hfz5_0:=ai BK420.out 0;have hfz5_1:=ai BK420.out 1;have hfz5_2:=ai BK420.out 2;have hfz5_3:=ai BK420.out 3;have hfz5_4:=ai BK420.out 4))
  refine bodyPost_ret (results_cell_row rfl _ _ gb420 25 #[.int .i64 8,.string (⟨#[99,110]⟩:ByteArray),.string (⟨#[]⟩:ByteArray),.slice none 0 0,.slice none 0 0] (0,0) _ rfl (by (with_reducible repeat (first|refine au ?_ _|refine av ?_|refine ak ?_ _));refine bG (cs:=#[.int .i64 8,.string (⟨#[99,110]⟩:ByteArray),.string (⟨#[]⟩:ByteArray),.slice none 0 0,.slice none 0 0]) ?_ 4 _ (by first|rfl|(simp only [ay,ax];rfl)|simp [ay,ax]);(with_reducible repeat (first|refine au ?_ _|refine av ?_|refine ak ?_ _));refine bG (cs:=#[.int .i64 8,.string (⟨#[99,110]⟩:ByteArray),.string (⟨#[]⟩:ByteArray),.slice none 0 0,.slice none 0 0]) ?_ 3 _ (by first|rfl|(simp only [ay,ax];rfl)|simp [ay,ax]);(with_reducible repeat (first|refine au ?_ _|refine av ?_|refine ak ?_ _));refine bG (cs:=#[.int .i64 8,.string (⟨#[99,110]⟩:ByteArray),.string (⟨#[]⟩:ByteArray),.slice none 0 0,.slice none 0 0]) ?_ 2 _ (by first|rfl|(simp only [ay,ax];rfl)|simp [ay,ax]);(with_reducible repeat (first|refine au ?_ _|refine av ?_|refine ak ?_ _));refine bG (cs:=#[.int .i64 8,.string (⟨#[]⟩:ByteArray),.string (⟨#[]⟩:ByteArray),.slice none 0 0,.slice none 0 0]) ?_ 1 _ (by first|rfl|(simp only [ay,ax];rfl)|simp [ay,ax]);(with_reducible repeat (first|refine au ?_ _|refine av ?_|refine ak ?_ _));refine bG (cs:=#[.int .i64 0,.string (⟨#[]⟩:ByteArray),.string (⟨#[]⟩:ByteArray),.slice none 0 0,.slice none 0 0]) ?_ 0 _ (by first|rfl|(simp only [ay,ax];rfl)|simp [ay,ax]);(with_reducible repeat (first|refine au ?_ _|refine av ?_|refine ak ?_ _));exact BK420.out) Tryz.underlying25 rfl (by kernel_rfl)) rfl ?_
  exact ⟨_,_,by first|rfl|(simp [aM,aK] <;> rfl)|(simp [*,aM,aK] <;> rfl),Kd.jw _ _ _ _ _,by first|exact Kd.ko _ _ _ _ _|exact Kd.oL _ _ _ _ _|exact Kd.jw _ _ _ _ _|exact Kd.oO _ _ _ _ _|exact Kd.oP _ _ _ _ _,by repeat (first|(with_reducible first|exact HB.out|apply af|apply ae|apply ag|refine ah ?_ GE420.out)|exact HB.out)⟩
 ·rw [if_neg c3] at H
  have c3b0:((l0.length:Int) == 0)=false:=beq_eq_false_iff_ne.mpr c3
  have c3b1:((l0.length:Int) != 0)=true:=bne_iff_ne.mpr c3
  have c3b2:¬ (l0=[]):=fun h_=>c3 (by rw [h_];rfl)
  by_cases c6:0 < (l0.length:Int)
  ·rw [if_pos c6] at H
   have c6b0:decide (0 < (l0.length:Int))=true:=decide_eq_true c6
   have c6b1:decide (0 < l0.length)=true:=decide_eq_true (by omega)
   clear c6
   obtain ⟨y423,hy423⟩:∃ y_:List ByteArray,y_=(([(⟨#[99,110]⟩:ByteArray),(⟨#[115,110]⟩:ByteArray),(⟨#[100,101,115,99,114,105,112,116,105,111,110]⟩:ByteArray),(⟨#[117,105,100,78,117,109,98,101,114]⟩:ByteArray),(⟨#[109,97,105,108]⟩:ByteArray),(⟨#[111,98,106,101,99,116,67,108,97,115,115]⟩:ByteArray)]:List ByteArray)):=⟨_,rfl⟩
   replace H:(if 0≤(Int.tmod (wrap64 (Int.tdiv (wrap64 (rd l0 0)) 8)) 6) then (if (Int.tmod (wrap64 (Int.tdiv (wrap64 (rd l0 0)) 8)) 6) < (y423.length:Int) then ((some (([(⟨#[110,49]⟩:ByteArray),(⟨#[78,50]⟩:ByteArray),a1,(⟨#[53]⟩:ByteArray),(⟨#[100]⟩:ByteArray),(⟨#[112,101,114,115,111,110]⟩:ByteArray)]:List ByteArray):List ByteArray)).bind fun y427=>(if 0≤(Int.tmod (wrap64 (Int.tdiv (wrap64 (rd l0 0)) 16)) 6) then (if (Int.tmod (wrap64 (Int.tdiv (wrap64 (rd l0 0)) 16)) 6) < (y427.length:Int) then (if (wrap64 (1+(Int.tmod (wrap64 (rd l0 0)) 8)))=1 then (aH.j0 k l0 a1 (wrap64 (rd l0 0)) (bE ByteArray.empty y423 (Int.tmod (wrap64 (Int.tdiv (wrap64 (rd l0 0)) 8)) 6)) (bE ByteArray.empty y427 (Int.tmod (wrap64 (Int.tdiv (wrap64 (rd l0 0)) 16)) 6)) (wrap64 (1+(Int.tmod (wrap64 (rd l0 0)) 8))) ((wrap64 (1+(Int.tmod (wrap64 (rd l0 0)) 8))) == 1) (wrap64 (1+(Int.tmod (wrap64 (rd l0 0)) 8))) (⟨#[]⟩:ByteArray) (⟨#[]⟩:ByteArray)) else (if (wrap64 (1+(Int.tmod (wrap64 (rd l0 0)) 8)))=2 then (aH.j0 k l0 a1 (wrap64 (rd l0 0)) (bE ByteArray.empty y423 (Int.tmod (wrap64 (Int.tdiv (wrap64 (rd l0 0)) 8)) 6)) (bE ByteArray.empty y427 (Int.tmod (wrap64 (Int.tdiv (wrap64 (rd l0 0)) 16)) 6)) (wrap64 (1+(Int.tmod (wrap64 (rd l0 0)) 8))) ((wrap64 (1+(Int.tmod (wrap64 (rd l0 0)) 8))) == 2) (wrap64 (1+(Int.tmod (wrap64 (rd l0 0)) 8))) (⟨#[]⟩:ByteArray) (⟨#[]⟩:ByteArray)) else (aH.j0 k l0 a1 (wrap64 (rd l0 0)) (bE ByteArray.empty y423 (Int.tmod (wrap64 (Int.tdiv (wrap64 (rd l0 0)) 8)) 6)) (bE ByteArray.empty y427 (Int.tmod (wrap64 (Int.tdiv (wrap64 (rd l0 0)) 16)) 6)) (wrap64 (1+(Int.tmod (wrap64 (rd l0 0)) 8))) ((wrap64 (1+(Int.tmod (wrap64 (rd l0 0)) 8))) == 3) (wrap64 (1+(Int.tmod (wrap64 (rd l0 0)) 8))) (⟨#[]⟩:ByteArray) (⟨#[]⟩:ByteArray)))) else (none)) else (none))) else (none)) else (none))=some (r1,r2,r3,r4,r5):=by first|(rw [hy423];with_reducible exact H)|(have H2_:=(Option.bind_some _ _).symm.trans H;rw [hy423];with_reducible exact H2_)|(have H2_:=(Option.bind_some _ _).symm.trans H;with_reducible exact H2_)|with_reducible exact H|(rw [hy423];exact H)|exact H
   have Ny423:=aa.mk hy423
   clear hy423
   obtain ⟨ji7,hji7⟩:∃ j_:Int,(Int.tmod (wrap64 (Int.tdiv (wrap64 (rd l0 0)) 8)) 6)=j_:=⟨_,rfl⟩
   replace H:(if 0≤(ji7) then (if (ji7) < (y423.length:Int) then ((some (([(⟨#[110,49]⟩:ByteArray),(⟨#[78,50]⟩:ByteArray),a1,(⟨#[53]⟩:ByteArray),(⟨#[100]⟩:ByteArray),(⟨#[112,101,114,115,111,110]⟩:ByteArray)]:List ByteArray):List ByteArray)).bind fun y427=>(if 0≤(Int.tmod (wrap64 (Int.tdiv (wrap64 (rd l0 0)) 16)) 6) then (if (Int.tmod (wrap64 (Int.tdiv (wrap64 (rd l0 0)) 16)) 6) < (y427.length:Int) then (if (wrap64 (1+(Int.tmod (wrap64 (rd l0 0)) 8)))=1 then (aH.j0 k l0 a1 (wrap64 (rd l0 0)) (bE ByteArray.empty y423 (ji7)) (bE ByteArray.empty y427 (Int.tmod (wrap64 (Int.tdiv (wrap64 (rd l0 0)) 16)) 6)) (wrap64 (1+(Int.tmod (wrap64 (rd l0 0)) 8))) ((wrap64 (1+(Int.tmod (wrap64 (rd l0 0)) 8))) == 1) (wrap64 (1+(Int.tmod (wrap64 (rd l0 0)) 8))) (⟨#[]⟩:ByteArray) (⟨#[]⟩:ByteArray)) else (if (wrap64 (1+(Int.tmod (wrap64 (rd l0 0)) 8)))=2 then (aH.j0 k l0 a1 (wrap64 (rd l0 0)) (bE ByteArray.empty y423 (ji7)) (bE ByteArray.empty y427 (Int.tmod (wrap64 (Int.tdiv (wrap64 (rd l0 0)) 16)) 6)) (wrap64 (1+(Int.tmod (wrap64 (rd l0 0)) 8))) ((wrap64 (1+(Int.tmod (wrap64 (rd l0 0)) 8))) == 2) (wrap64 (1+(Int.tmod (wrap64 (rd l0 0)) 8))) (⟨#[]⟩:ByteArray) (⟨#[]⟩:ByteArray)) else (aH.j0 k l0 a1 (wrap64 (rd l0 0)) (bE ByteArray.empty y423 (ji7)) (bE ByteArray.empty y427 (Int.tmod (wrap64 (Int.tdiv (wrap64 (rd l0 0)) 16)) 6)) (wrap64 (1+(Int.tmod (wrap64 (rd l0 0)) 8))) ((wrap64 (1+(Int.tmod (wrap64 (rd l0 0)) 8))) == 3) (wrap64 (1+(Int.tmod (wrap64 (rd l0 0)) 8))) (⟨#[]⟩:ByteArray) (⟨#[]⟩:ByteArray)))) else (none)) else (none))) else (none)) else (none))=some (r1,r2,r3,r4,r5):=by first|(rw [hji7] at H;exact H)|(simp only [hji7] at H ⊢;exact H)
   by_cases c8:0≤(ji7)
   ·rw [if_pos c8] at H
    have c8b0:decide (0≤(ji7))=true:=decide_eq_true c8
    clear c8
    by_cases c9:(ji7) < (y423.length:Int)
    ·rw [if_pos c9] at H
     have c9b0:decide ((ji7) < (y423.length:Int))=true:=decide_eq_true c9
     clear c9
     obtain ⟨y427,hy427⟩:∃ y_:List ByteArray,y_=(([(⟨#[110,49]⟩:ByteArray),(⟨#[78,50]⟩:ByteArray),a1,(⟨#[53]⟩:ByteArray),(⟨#[100]⟩:ByteArray),(⟨#[112,101,114,115,111,110]⟩:ByteArray)]:List ByteArray)):=⟨_,rfl⟩
     replace H:(if 0≤(Int.tmod (wrap64 (Int.tdiv (wrap64 (rd l0 0)) 16)) 6) then (if (Int.tmod (wrap64 (Int.tdiv (wrap64 (rd l0 0)) 16)) 6) < (y427.length:Int) then (if (wrap64 (1+(Int.tmod (wrap64 (rd l0 0)) 8)))=1 then (aH.j0 k l0 a1 (wrap64 (rd l0 0)) (bE ByteArray.empty y423 (ji7)) (bE ByteArray.empty y427 (Int.tmod (wrap64 (Int.tdiv (wrap64 (rd l0 0)) 16)) 6)) (wrap64 (1+(Int.tmod (wrap64 (rd l0 0)) 8))) ((wrap64 (1+(Int.tmod (wrap64 (rd l0 0)) 8))) == 1) (wrap64 (1+(Int.tmod (wrap64 (rd l0 0)) 8))) (⟨#[]⟩:ByteArray) (⟨#[]⟩:ByteArray)) else (if (wrap64 (1+(Int.tmod (wrap64 (rd l0 0)) 8)))=2 then (aH.j0 k l0 a1 (wrap64 (rd l0 0)) (bE ByteArray.empty y423 (ji7)) (bE ByteArray.empty y427 (Int.tmod (wrap64 (Int.tdiv (wrap64 (rd l0 0)) 16)) 6)) (wrap64 (1+(Int.tmod (wrap64 (rd l0 0)) 8))) ((wrap64 (1+(Int.tmod (wrap64 (rd l0 0)) 8))) == 2) (wrap64 (1+(Int.tmod (wrap64 (rd l0 0)) 8))) (⟨#[]⟩:ByteArray) (⟨#[]⟩:ByteArray)) else (aH.j0 k l0 a1 (wrap64 (rd l0 0)) (bE ByteArray.empty y423 (ji7)) (bE ByteArray.empty y427 (Int.tmod (wrap64 (Int.tdiv (wrap64 (rd l0 0)) 16)) 6)) (wrap64 (1+(Int.tmod (wrap64 (rd l0 0)) 8))) ((wrap64 (1+(Int.tmod (wrap64 (rd l0 0)) 8))) == 3) (wrap64 (1+(Int.tmod (wrap64 (rd l0 0)) 8))) (⟨#[]⟩:ByteArray) (⟨#[]⟩:ByteArray)))) else (none)) else (none))=some (r1,r2,r3,r4,r5):=by first|(rw [hy427];with_reducible exact H)|(have H2_:=(Option.bind_some _ _).symm.trans H;rw [hy427];with_reducible exact H2_)|(have H2_:=(Option.bind_some _ _).symm.trans H;with_reducible exact H2_)|with_reducible exact H|(rw [hy427];exact H)|exact H
     have Ny427:=aa.mk hy427
     clear hy427
     obtain ⟨ji10,hji10⟩:∃ j_:Int,(Int.tmod (wrap64 (Int.tdiv (wrap64 (rd l0 0)) 16)) 6)=j_:=⟨_,rfl⟩
     replace H:(if 0≤(ji10) then (if (ji10) < (y427.length:Int) then (if (wrap64 (1+(Int.tmod (wrap64 (rd l0 0)) 8)))=1 then (aH.j0 k l0 a1 (wrap64 (rd l0 0)) (bE ByteArray.empty y423 (ji7)) (bE ByteArray.empty y427 (ji10)) (wrap64 (1+(Int.tmod (wrap64 (rd l0 0)) 8))) ((wrap64 (1+(Int.tmod (wrap64 (rd l0 0)) 8))) == 1) (wrap64 (1+(Int.tmod (wrap64 (rd l0 0)) 8))) (⟨#[]⟩:ByteArray) (⟨#[]⟩:ByteArray)) else (if (wrap64 (1+(Int.tmod (wrap64 (rd l0 0)) 8)))=2 then (aH.j0 k l0 a1 (wrap64 (rd l0 0)) (bE ByteArray.empty y423 (ji7)) (bE ByteArray.empty y427 (ji10)) (wrap64 (1+(Int.tmod (wrap64 (rd l0 0)) 8))) ((wrap64 (1+(Int.tmod (wrap64 (rd l0 0)) 8))) == 2) (wrap64 (1+(Int.tmod (wrap64 (rd l0 0)) 8))) (⟨#[]⟩:ByteArray) (⟨#[]⟩:ByteArray)) else (aH.j0 k l0 a1 (wrap64 (rd l0 0)) (bE ByteArray.empty y423 (ji7)) (bE ByteArray.empty y427 (ji10)) (wrap64 (1+(Int.tmod (wrap64 (rd l0 0)) 8))) ((wrap64 (1+(Int.tmod (wrap64 (rd l0 0)) 8))) == 3) (wrap64 (1+(Int.tmod (wrap64 (rd l0 0)) 8))) (⟨#[]⟩:ByteArray) (⟨#[]⟩:ByteArray)))) else (none)) else (none))=some (r1,r2,r3,r4,r5):=by first|(rw [hji10] at H;exact H)|(simp only [hji10] at H ⊢;exact H)
     by_cases c11:0≤(ji10)
     ·rw [if_pos c11] at H
      have c11b0:decide (0≤(ji10))=true:=decide_eq_true c11
      clear c11
      by_cases c12:(ji10) < (y427.length:Int)
      ·rw [if_pos c12] at H
       have c12b0:decide ((ji10) < (y427.length:Int))=true:=decide_eq_true c12
       clear c12
       have HC13:=aa.mk H
       clear H
       go_enter Tryz.func16,Tryz.ntmps16
       go_upto_if 41 with (first|((with_reducible refine bS (N:=4) rfl ?_);refine eu ?hg (N:=4) ?hd (cs:=#[.int .i64 0,.string (⟨#[]⟩:ByteArray),.string (⟨#[]⟩:ByteArray),.slice none 0 0,.slice none 0 0]) (t:=25) ?hr ?_;(case hd=>rfl);(case hg=>rfl);(case hr=>first|(go_simp;done)|(go_simp;rfl));intro gb420 hg w14 hbox hb;have n0_:=aa.mk (aD (by repeat (first|(with_reducible first|exact HB.out|apply af|apply ae|apply ag)|exact HB.out)) hb);have n1_:=aa.mk (hbox);have n2_:=aa.mk ((by rw [hg];exact (aG (by repeat (first|(with_reducible first|exact HB.out|apply af|apply ae|apply ag)|exact HB.out))):w.heap.size≤gb420));have n3_:=aa.mk ((by rw [hg];exact (aG (by repeat (first|(with_reducible first|exact HB.out|apply af|apply ae|apply ag)|exact HB.out))):w.heap.size≤gb420));clear HB;have HB:=n0_;have BK420:=n1_;have GW420:=n2_;have GE420:=n3_;clear n0_ n1_ n2_ n3_;clear hb hbox hg;have p421:0≤(0:Int):=(by omega);have q421:0 < (l0.length:Int):=of_decide_eq_true (by first|(with_reducible assumption)|assumption);obtain ⟨ad421,e421,hx421_0⟩:=Kd.fD HR0.out 0 p421 q421;cases e421;have qi421:(0 < l0.length)=True:=eq_true (by omega);(try rw [show ((0:Int)).toNat=0 from rfl] at hx421_0);(try rw [Addr.add_zero'] at hx421_0);replace hx421_0:=(HB.out.cell (World.block_lt_of_cell? w _ hx421_0)).trans hx421_0;replace p421:=eq_true p421;replace q421:=eq_true q421)|((with_reducible refine bS (N:=6) rfl ?_);refine eu ?hg (N:=6) ?hd (cs:=#[.int .i64 0,.string (⟨#[]⟩:ByteArray),.string (⟨#[]⟩:ByteArray),.slice none 0 0,.slice none 0 0]) (t:=25) ?hr ?_;(case hd=>rfl);(case hg=>rfl);(case hr=>first|(go_simp;done)|(go_simp;rfl));intro gb422 hg w15 hbox hb;have n0_:=aa.mk (aI (g:=gb420) (o:=.cells #[.int .i64 0,.string (⟨#[]⟩:ByteArray),.string (⟨#[]⟩:ByteArray),.slice none 0 0,.slice none 0 0] 25 (0,0)) (by (with_reducible repeat (first|refine au ?_ _|refine av ?_|refine ak ?_ _));exact BK420.out) hb);have n1_:=aa.mk (aD (by repeat (first|(with_reducible first|exact HB.out|apply af|apply ae|apply ag|refine ah ?_ GE420.out)|exact HB.out)) hb);have n2_:=aa.mk (hbox);have n3_:=aa.mk ((by rw [hg];exact (aG (by repeat (first|(with_reducible first|exact HB.out|apply af|apply ae|apply ag|refine ah ?_ GE420.out)|exact HB.out))):w.heap.size≤gb422));have n4_:=aa.mk ((by rw [hg];exact (aG (by repeat (first|(with_reducible first|exact HB.out|apply af|apply ae|apply ag|refine ah ?_ GE420.out)|exact HB.out))):w.heap.size≤gb422));have n5_:=aa.mk ((by rw [hg];exact Nat.ne_of_lt (fO (g:=gb420) (o:=.cells #[.int .i64 0,.string (⟨#[]⟩:ByteArray),.string (⟨#[]⟩:ByteArray),.slice none 0 0,.slice none 0 0] 25 (0,0)) (by (with_reducible repeat (first|refine au ?_ _|refine av ?_|refine ak ?_ _));exact BK420.out)):gb420≠gb422));have n6_:=aa.mk ((by rw [hg];exact Nat.ne_of_gt (fO (g:=gb420) (o:=.cells #[.int .i64 0,.string (⟨#[]⟩:ByteArray),.string (⟨#[]⟩:ByteArray),.slice none 0 0,.slice none 0 0] 25 (0,0)) (by (with_reducible repeat (first|refine au ?_ _|refine av ?_|refine ak ?_ _));exact BK420.out)):gb422≠gb420));clear BK420;clear HB;have BK420:=n0_;have HB:=n1_;have BK422:=n2_;have GW422:=n3_;have GE422:=n4_;have NB420_422:=n5_;have NB422_420:=n6_;clear n0_ n1_ n2_ n3_ n4_ n5_ n6_;clear hb hbox hg;have hnb16:=NB422_420.out;have hnc16:=NB420_422.out;have hcz17_0:w15.cell? ⟨gb422,0,none⟩=some (.int .i64 0):=(aj BK422.out 0).trans rfl;have hcz17_1:w15.cell? ⟨gb422,1,none⟩=some (.string (⟨#[]⟩:ByteArray)):=(aj BK422.out 1).trans rfl;have hcz17_2:w15.cell? ⟨gb422,2,none⟩=some (.string (⟨#[]⟩:ByteArray)):=(aj BK422.out 2).trans rfl;have hcz17_3:w15.cell? ⟨gb422,3,none⟩=some (.slice none 0 0):=(aj BK422.out 3).trans rfl;have hcz17_4:w15.cell? ⟨gb422,4,none⟩=some (.slice none 0 0):=(aj BK422.out 4).trans rfl;have hfz17_0:=ai BK422.out 0;have hfz17_1:=ai BK422.out 1;have hfz17_2:=ai BK422.out 2;have hfz17_3:=ai BK422.out 3;have hfz17_4:=ai BK422.out 4)|((with_reducible refine bS (N:=22) rfl ?_);refine Kd.jb Kd.string _ 9 ?hg (N:=22) ?hd (xs:=([(⟨#[99,110]⟩:ByteArray),(⟨#[115,110]⟩:ByteArray),(⟨#[100,101,115,99,114,105,112,116,105,111,110]⟩:ByteArray),(⟨#[117,105,100,78,117,109,98,101,114]⟩:ByteArray),(⟨#[109,97,105,108]⟩:ByteArray),(⟨#[111,98,106,101,99,116,67,108,97,115,115]⟩:ByteArray)]:List ByteArray)) (inner:=[.string (⟨#[99,110]⟩:ByteArray),.string (⟨#[115,110]⟩:ByteArray),.string (⟨#[100,101,115,99,114,105,112,116,105,111,110]⟩:ByteArray),.string (⟨#[117,105,100,78,117,109,98,101,114]⟩:ByteArray),.string (⟨#[109,97,105,108]⟩:ByteArray),.string (⟨#[111,98,106,101,99,116,67,108,97,115,115]⟩:ByteArray)]) (ok:=fun _=>True) (okp:=fun _=>True) ?hr ?hp (fun _ hk=>hk) trivial (Below.refl _ _) (Nat.le_refl _) (by simp) ?_;(case hd=>rfl);(case hg=>rfl);(case hr=>first|(go_simp;done)|(go_simp;rfl));(case hp=>exact (bI.one (show Kd.M Kd.string _ _ _ (⟨#[99,110]⟩:ByteArray) [.string (⟨#[99,110]⟩:ByteArray)] from rfl) (bI.one (show Kd.M Kd.string _ _ _ (⟨#[115,110]⟩:ByteArray) [.string (⟨#[115,110]⟩:ByteArray)] from rfl) (bI.one (show Kd.M Kd.string _ _ _ (⟨#[100,101,115,99,114,105,112,116,105,111,110]⟩:ByteArray) [.string (⟨#[100,101,115,99,114,105,112,116,105,111,110]⟩:ByteArray)] from rfl) (bI.one (show Kd.M Kd.string _ _ _ (⟨#[117,105,100,78,117,109,98,101,114]⟩:ByteArray) [.string (⟨#[117,105,100,78,117,109,98,101,114]⟩:ByteArray)] from rfl) (bI.one (show Kd.M Kd.string _ _ _ (⟨#[109,97,105,108]⟩:ByteArray) [.string (⟨#[109,97,105,108]⟩:ByteArray)] from rfl) (bI.one (show Kd.M Kd.string _ _ _ (⟨#[111,98,106,101,99,116,67,108,97,115,115]⟩:ByteArray) [.string (⟨#[111,98,106,101,99,116,67,108,97,115,115]⟩:ByteArray)] from rfl) (bI.none _ _))))))));intro v424 w18 ho19 hb hg_ hnew_;clear hg_ hnew_;(first|rw [← Ny423.out] at ho19|(simp only [Int.reduceToNat] at ho19;rw [← Ny423.out] at ho19));have n0_:=aa.mk (Kd.dN (Kd.fu (M:=fun k_=>(w.heap.size≤k_)) ho19 (aG (by repeat (first|(with_reducible first|exact HB.out|apply af|apply ae|apply ag|refine ah ?_ GE420.out|refine ah ?_ GE422.out)|exact HB.out))) (fun k_ h_=>h_)) (aG (by repeat (first|(with_reducible first|exact HB.out|apply af|apply ae|apply ag|refine ah ?_ GE420.out|refine ah ?_ GE422.out)|exact HB.out))));have n1_:=aa.mk (aI (g:=gb420) (o:=.cells #[.int .i64 0,.string (⟨#[]⟩:ByteArray),.string (⟨#[]⟩:ByteArray),.slice none 0 0,.slice none 0 0] 25 (0,0)) (by (with_reducible repeat (first|refine au ?_ _|refine av ?_|refine ak ?_ _));refine dB ?_ NB420_422.out _;(with_reducible repeat (first|refine au ?_ _|refine av ?_|refine ak ?_ _));refine dB ?_ NB420_422.out _;(with_reducible repeat (first|refine au ?_ _|refine av ?_|refine ak ?_ _));refine dB ?_ NB420_422.out _;(with_reducible repeat (first|refine au ?_ _|refine av ?_|refine ak ?_ _));refine dB ?_ NB420_422.out _;(with_reducible repeat (first|refine au ?_ _|refine av ?_|refine ak ?_ _));refine dB ?_ NB420_422.out _;(with_reducible repeat (first|refine au ?_ _|refine av ?_|refine ak ?_ _));exact BK420.out) hb);have n2_:=aa.mk (aI (g:=gb422) (o:=.cells #[.int .i64 (wrap64 (1+(Int.tmod (wrap64 (rd l0 0)) 8))),.string (⟨#[]⟩:ByteArray),.string (⟨#[]⟩:ByteArray),.slice none 0 0,.slice none 0 0] 25 (0,0)) (by (with_reducible repeat (first|refine au ?_ _|refine av ?_|refine ak ?_ _));refine bG (cs:=#[.int .i64 (wrap64 (1+(Int.tmod (wrap64 (rd l0 0)) 8))),.string (⟨#[]⟩:ByteArray),.string (⟨#[]⟩:ByteArray),.slice none 0 0,.slice none 0 0]) ?_ 4 _ (by first|rfl|(simp only [ay,ax];rfl)|simp [ay,ax]);(with_reducible repeat (first|refine au ?_ _|refine av ?_|refine ak ?_ _));refine bG (cs:=#[.int .i64 (wrap64 (1+(Int.tmod (wrap64 (rd l0 0)) 8))),.string (⟨#[]⟩:ByteArray),.string (⟨#[]⟩:ByteArray),.slice none 0 0,.slice none 0 0]) ?_ 3 _ (by first|rfl|(simp only [ay,ax];rfl)|simp [ay,ax]);(with_reducible repeat (first|refine au ?_ _|refine av ?_|refine ak ?_ _));refine bG (cs:=#[.int .i64 (wrap64 (1+(Int.tmod (wrap64 (rd l0 0)) 8))),.string (⟨#[]⟩:ByteArray),.string (⟨#[]⟩:ByteArray),.slice none 0 0,.slice none 0 0]) ?_ 2 _ (by first|rfl|(simp only [ay,ax];rfl)|simp [ay,ax]);(with_reducible repeat (first|refine au ?_ _|refine av ?_|refine ak ?_ _));refine bG (cs:=#[.int .i64 (wrap64 (1+(Int.tmod (wrap64 (rd l0 0)) 8))),.string (⟨#[]⟩:ByteArray),.string (⟨#[]⟩:ByteArray),.slice none 0 0,.slice none 0 0]) ?_ 1 _ (by first|rfl|(simp only [ay,ax];rfl)|simp [ay,ax]);(with_reducible repeat (first|refine au ?_ _|refine av ?_|refine ak ?_ _));refine bG (cs:=#[.int .i64 0,.string (⟨#[]⟩:ByteArray),.string (⟨#[]⟩:ByteArray),.slice none 0 0,.slice none 0 0]) ?_ 0 _ (by first|rfl|(simp only [ay,ax];rfl)|simp [ay,ax]);(with_reducible repeat (first|refine au ?_ _|refine av ?_|refine ak ?_ _));exact BK422.out) hb);have n3_:=aa.mk (aD (by repeat (first|(with_reducible first|exact HB.out|apply af|apply ae|apply ag|refine ah ?_ GE420.out|refine ah ?_ GE422.out)|exact HB.out)) hb);clear BK420;clear BK422;clear HB;have HO425:=n0_;have BK420:=n1_;have BK422:=n2_;have HB:=n3_;clear n0_ n1_ n2_ n3_;clear hb ho19;obtain ⟨Ao20,co20,eo20⟩:=Kd.cO HO425.out;subst eo20;have p426:0≤((ji7):Int):=of_decide_eq_true (by first|(with_reducible assumption)|assumption);have q426:(ji7) < (y423.length:Int):=of_decide_eq_true (by first|(with_reducible assumption)|assumption);obtain ⟨ad426,e426,hx426_0⟩:=Kd.dz (Kd.bL HO425.out).2.2 (ji7) p426 q426;cases e426;replace p426:=eq_true p426;replace q426:=eq_true q426)|((with_reducible refine bS (N:=29) rfl ?_);refine Kd.jb Kd.string _ 9 ?hg (N:=29) ?hd (xs:=([(⟨#[110,49]⟩:ByteArray),(⟨#[78,50]⟩:ByteArray),a1,(⟨#[53]⟩:ByteArray),(⟨#[100]⟩:ByteArray),(⟨#[112,101,114,115,111,110]⟩:ByteArray)]:List ByteArray)) (inner:=[.string (⟨#[110,49]⟩:ByteArray),.string (⟨#[78,50]⟩:ByteArray),.string a1,.string (⟨#[53]⟩:ByteArray),.string (⟨#[100]⟩:ByteArray),.string (⟨#[112,101,114,115,111,110]⟩:ByteArray)]) (ok:=fun _=>True) (okp:=fun _=>True) ?hr ?hp (fun _ hk=>hk) trivial (Below.refl _ _) (Nat.le_refl _) (by simp) ?_;(case hd=>rfl);(case hg=>rfl);(case hr=>first|(go_simp;done)|(go_simp;rfl));(case hp=>exact (bI.one (show Kd.M Kd.string _ _ _ (⟨#[110,49]⟩:ByteArray) [.string (⟨#[110,49]⟩:ByteArray)] from rfl) (bI.one (show Kd.M Kd.string _ _ _ (⟨#[78,50]⟩:ByteArray) [.string (⟨#[78,50]⟩:ByteArray)] from rfl) (bI.one (show Kd.M Kd.string _ _ _ a1 [.string a1] from rfl) (bI.one (show Kd.M Kd.string _ _ _ (⟨#[53]⟩:ByteArray) [.string (⟨#[53]⟩:ByteArray)] from rfl) (bI.one (show Kd.M Kd.string _ _ _ (⟨#[100]⟩:ByteArray) [.string (⟨#[100]⟩:ByteArray)] from rfl) (bI.one (show Kd.M Kd.string _ _ _ (⟨#[112,101,114,115,111,110]⟩:ByteArray) [.string (⟨#[112,101,114,115,111,110]⟩:ByteArray)] from rfl) (bI.none _ _))))))));intro v428 w21 ho22 hb hg_ hnew_;clear hg_ hnew_;(first|rw [← Ny427.out] at ho22|(simp only [Int.reduceToNat] at ho22;rw [← Ny427.out] at ho22));have n0_:=aa.mk (Kd.eY (by (with_reducible repeat (first|apply Kd.bz|apply Kd.bq|apply Kd.bB));exact HO425.out) (Kd.dI ho22) hb);have n1_:=aa.mk (Kd.dN (Kd.gB (Kd.fu (M:=fun k_=>(w.heap.size≤k_)) ho22 (aG (by repeat (first|(with_reducible first|exact HB.out|apply af|apply ae|apply ag|refine ah ?_ GE420.out|refine ah ?_ GE422.out)|exact HB.out))) (fun k_ h_=>h_)) (Kd.iD (by (with_reducible repeat (first|apply Kd.bz|apply Kd.bq|apply Kd.bB));exact HO425.out))) (aG (by repeat (first|(with_reducible first|exact HB.out|apply af|apply ae|apply ag|refine ah ?_ GE420.out|refine ah ?_ GE422.out)|exact HB.out))));have n2_:=aa.mk (aI (g:=gb420) (o:=.cells #[.int .i64 0,.string (⟨#[]⟩:ByteArray),.string (⟨#[]⟩:ByteArray),.slice none 0 0,.slice none 0 0] 25 (0,0)) (by (with_reducible repeat (first|refine au ?_ _|refine av ?_|refine ak ?_ _));exact BK420.out) hb);have n3_:=aa.mk (aI (g:=gb422) (o:=.cells #[.int .i64 (wrap64 (1+(Int.tmod (wrap64 (rd l0 0)) 8))),.string (⟨#[]⟩:ByteArray),.string (⟨#[]⟩:ByteArray),.slice none 0 0,.slice none 0 0] 25 (0,0)) (by (with_reducible repeat (first|refine au ?_ _|refine av ?_|refine ak ?_ _));exact BK422.out) hb);have n4_:=aa.mk (aD (by repeat (first|(with_reducible first|exact HB.out|apply af|apply ae|apply ag|refine ah ?_ GE420.out|refine ah ?_ GE422.out)|exact HB.out)) hb);clear HO425;clear BK420;clear BK422;clear HB;have HO425:=n0_;have HO429:=n1_;have BK420:=n2_;have BK422:=n3_;have HB:=n4_;clear n0_ n1_ n2_ n3_ n4_;clear hb ho22;obtain ⟨Ao23,co23,eo23⟩:=Kd.cO HO429.out;subst eo23;have p430:0≤((ji10):Int):=of_decide_eq_true (by first|(with_reducible assumption)|assumption);have q430:(ji10) < (y427.length:Int):=of_decide_eq_true (by first|(with_reducible assumption)|assumption);obtain ⟨ad430,e430,hx430_0⟩:=Kd.dz (Kd.bL HO429.out).2.2 (ji10) p430 q430;cases e430;replace p430:=eq_true p430;replace q430:=eq_true q430;have hcz24_0:w21.cell? ⟨gb422,0,none⟩=some (.int .i64 (wrap64 (1+(Int.tmod (wrap64 (rd l0 0)) 8)))):=(aj BK422.out 0).trans rfl;have hcz24_1:w21.cell? ⟨gb422,1,none⟩=some (.string (⟨#[]⟩:ByteArray)):=(aj BK422.out 1).trans rfl;have hcz24_2:w21.cell? ⟨gb422,2,none⟩=some (.string (⟨#[]⟩:ByteArray)):=(aj BK422.out 2).trans rfl;have hcz24_3:w21.cell? ⟨gb422,3,none⟩=some (.slice none 0 0):=(aj BK422.out 3).trans rfl;have hcz24_4:w21.cell? ⟨gb422,4,none⟩=some (.slice none 0 0):=(aj BK422.out 4).trans rfl;have hfz24_0:=ai BK422.out 0;have hfz24_1:=ai BK422.out 1;have hfz24_2:=ai BK422.out 2;have hfz24_3:=ai BK422.out 3;have hfz24_4:=ai BK422.out 4))
       (try simp only [Act.put,List.setIfInBounds_toArray,List.set_cons_zero,List.set_cons_succ])
       go_cut [41] (fun v41 wc=>∃ (kq:Nat) (x41_12:Bool),v41=.bool x41_12∧aa (aH.j0 kq l0 a1 (wrap64 (rd l0 0)) (bE ByteArray.empty y423 (ji7)) (bE ByteArray.empty y427 (ji10)) (wrap64 (1+(Int.tmod (wrap64 (rd l0 0)) 8))) x41_12 (wrap64 (1+(Int.tmod (wrap64 (rd l0 0)) 8))) (⟨#[]⟩:ByteArray) (⟨#[]⟩:ByteArray)=some (r1,r2,r3,r4,r5))∧aa (kq≤k)∧aa (wc.heap[gb420]?=some (.cells #[.int .i64 0,.string (⟨#[]⟩:ByteArray),.string (⟨#[]⟩:ByteArray),(.slice none 0 0),(.slice none 0 0)] 25 (0,0)))∧aa (wc.heap[gb422]?=some (.cells #[.int .i64 (wrap64 (1+(Int.tmod (wrap64 (rd l0 0)) 8))),.string (⟨#[]⟩:ByteArray),.string (⟨#[]⟩:ByteArray),(.slice none 0 0),(.slice none 0 0)] 25 (0,0)))∧aa (Below w.heap.size w wc))
       case first =>
        have H:=HC13.out
        clear HC13
        by_cases c25:(wrap64 (1+(Int.tmod (wrap64 (rd l0 0)) 8)))=1
        ·rw [if_pos c25] at H
         have c25b0:((wrap64 (1+(Int.tmod (wrap64 (rd l0 0)) 8))) == 1)=true:=beq_iff_eq.mpr c25
         have c25b1:((wrap64 (1+(Int.tmod (wrap64 (rd l0 0)) 8))) != 1)=false:=bne_eq_false_iff_eq.mpr c25
         clear c25
         (first|rw [c25b0]|(simp only [aT,aU];rw [c25b0])|skip)
         have H':=aa.mk H
         clear H
         go_wp2
         go_meet
         case rel=>exact ⟨_,(((wrap64 (1+(Int.tmod (wrap64 (rd l0 0)) 8))) == 1)),(by first|rfl|(simp;done)|(simp [*];done)|(simp [*,aT,aU,bU];done)|(simp only [ay,ax];done)|(simp only [ay,ax];simp;done)|(simp only [ay,ax];simp [*];done)),H',⟨by first|omega|exact Nat.le_refl _⟩,⟨by (with_reducible repeat (first|refine au ?_ _|refine av ?_|refine ak ?_ _));exact BK420.out⟩,⟨by (with_reducible repeat (first|refine au ?_ _|refine av ?_|refine ak ?_ _));exact BK422.out⟩,⟨by repeat (first|(with_reducible first|exact HB.out|apply af|apply ae|apply ag|refine ah ?_ GE420.out|refine ah ?_ GE422.out)|exact HB.out)⟩⟩
        ·rw [if_neg c25] at H
         have c25b0:((wrap64 (1+(Int.tmod (wrap64 (rd l0 0)) 8))) == 1)=false:=beq_eq_false_iff_ne.mpr c25
         have c25b1:((wrap64 (1+(Int.tmod (wrap64 (rd l0 0)) 8))) != 1)=true:=bne_iff_ne.mpr c25
         (first|rw [c25b0]|(simp only [aT,aU];rw [c25b0])|skip)
         by_cases c26:(wrap64 (1+(Int.tmod (wrap64 (rd l0 0)) 8)))=2
         ·rw [if_pos c26] at H
          have c26b0:((wrap64 (1+(Int.tmod (wrap64 (rd l0 0)) 8))) == 2)=true:=beq_iff_eq.mpr c26
          have c26b1:((wrap64 (1+(Int.tmod (wrap64 (rd l0 0)) 8))) != 2)=false:=bne_eq_false_iff_eq.mpr c26
          clear c26
          have H':=aa.mk H
          clear H
          go_wp2
          go_meet
          case rel=>exact ⟨_,(((wrap64 (1+(Int.tmod (wrap64 (rd l0 0)) 8))) == 2)),(by first|rfl|(simp;done)|(simp [*];done)|(simp [*,aT,aU,bU];done)|(simp only [ay,ax];done)|(simp only [ay,ax];simp;done)|(simp only [ay,ax];simp [*];done)),H',⟨by first|omega|exact Nat.le_refl _⟩,⟨by (with_reducible repeat (first|refine au ?_ _|refine av ?_|refine ak ?_ _));exact BK420.out⟩,⟨by (with_reducible repeat (first|refine au ?_ _|refine av ?_|refine ak ?_ _));exact BK422.out⟩,⟨by repeat (first|(with_reducible first|exact HB.out|apply af|apply ae|apply ag|refine ah ?_ GE420.out|refine ah ?_ GE422.out)|exact HB.out)⟩⟩
         ·rw [if_neg c26] at H
          have c26b0:((wrap64 (1+(Int.tmod (wrap64 (rd l0 0)) 8))) == 2)=false:=beq_eq_false_iff_ne.mpr c26
          have c26b1:((wrap64 (1+(Int.tmod (wrap64 (rd l0 0)) 8))) != 2)=true:=bne_iff_ne.mpr c26
          have H':=aa.mk H
          clear H
          go_wp2
          go_meet
          case rel=>exact ⟨_,(((wrap64 (1+(Int.tmod (wrap64 (rd l0 0)) 8))) == 3)),(by first|rfl|(simp;done)|(simp [*];done)|(simp [*,aT,aU,bU];done)|(simp only [ay,ax];done)|(simp only [ay,ax];simp;done)|(simp only [ay,ax];simp [*];done)),H',⟨by first|omega|exact Nat.le_refl _⟩,⟨by (with_reducible repeat (first|refine au ?_ _|refine av ?_|refine ak ?_ _));exact BK420.out⟩,⟨by (with_reducible repeat (first|refine au ?_ _|refine av ?_|refine ak ?_ _));exact BK422.out⟩,⟨by repeat (first|(with_reducible first|exact HB.out|apply af|apply ae|apply ag|refine ah ?_ GE420.out|refine ah ?_ GE422.out)|exact HB.out)⟩⟩
       case rest =>
        clear HC13
        try clear c1
        try clear c2
        try clear p2
        try clear c3
        try clear c3b0
        try clear c3b1
        try clear c3b2
        try clear p4
        try clear q4
        try clear hx4
        try clear qi4
        try clear c6
        try clear c6b0
        try clear c6b1
        try clear p6
        try clear c8
        try clear c8b0
        try clear c9
        try clear c9b0
        try clear c11
        try clear c11b0
        try clear c12
        try clear c12b0
        try clear c16
        try clear c25
        try clear c25b0
        try clear c25b1
        try clear c26
        try clear c26b0
        try clear c26b1
        try clear hcz17_0
        try clear hcz17_1
        try clear hcz17_2
        try clear hcz17_3
        try clear hcz17_4
        try clear hcz24_0
        try clear hcz24_1
        try clear hcz24_2
        try clear hcz24_3
        try clear hcz24_4
        try clear hcz5_0
        try clear hcz5_1
        try clear hcz5_2
        try clear hcz5_3
        try clear hcz5_4
        try clear hfz17_0
        try clear hfz17_1
        try clear hfz17_2
        try clear hfz17_3
        try clear hfz17_4
        try clear hfz24_0
        try clear hfz24_1
        try clear hfz24_2
        try clear hfz24_3
        try clear hfz24_4
        try clear hfz5_0
        try clear hfz5_1
        try clear hfz5_2
        try clear hfz5_3
        try clear hfz5_4
        try clear hx421_0
        try clear hx426_0
        try clear hx430_0
        try clear p421
        try clear p426
        try clear p430
        try clear q421
        try clear q426
        try clear q430
        obtain ⟨kq,x41_12,rfl,HA,HJ12,BK420,BK422,HB⟩:=hcut
        cases kq with
        | zero=>exact absurd HA.out (by simp [aH.j0])
        | succ kj12 =>
         have H:=HA.out
         clear HA
         simp only [aH.j0] at H
         by_cases c27:x41_12=true
         ·subst c27
          have H1:(aH.l0 kj12 l0 a1 (wrap64 (rd l0 0)) 1 (wrap64 (1+(Int.tmod (wrap64 (rd l0 0)) 8))) (⟨#[]⟩:ByteArray) (⟨#[]⟩:ByteArray) ([]:List (S25)))=some (r1,r2,r3,r4,r5):=by rw [if_pos rfl] at H;exact H
          clear H
          have H:=H1
          clear H1
          have H':=aa.mk H
          clear H
          go_wp2
          go_loopg [9] kj12 (fun kq v9 w'=>∃ (x9_2:Int) (x423004_2:List (S25)) (u423004:Value),v9=.int .i64 x9_2∧aa (aH.l0 kq l0 a1 (wrap64 (rd l0 0)) x9_2 (wrap64 (1+(Int.tmod (wrap64 (rd l0 0)) 8))) (⟨#[]⟩:ByteArray) (⟨#[]⟩:ByteArray) x423004_2=some (r1,r2,r3,r4,r5))∧aa (kq≤kj12)∧aa (Kd.N k25 25 w' w.heap.size (fun k_=>(w.heap.size≤k_)∧k_≠gb420∧k_≠gb422) u423004 x423004_2)∧aa (w'.heap[gb420]?=some (.cells #[.int .i64 0,.string (⟨#[]⟩:ByteArray),.string (⟨#[]⟩:ByteArray),(.slice none 0 0),(.slice none 0 0)] 25 (0,0)))∧aa (w'.heap[gb422]?=some (.cells #[.int .i64 (wrap64 (1+(Int.tmod (wrap64 (rd l0 0)) 8))),.string (⟨#[]⟩:ByteArray),.string (⟨#[]⟩:ByteArray),(.slice none 0 0),u423004] 25 (0,0)))∧aa (Below w.heap.size w w'))
          case atStart=>exact ⟨(1),(([]:List (S25))),(.slice none 0 0),(by first|rfl|(simp;done)|(simp [*];done)|(simp [*,aT,aU,bU];done)|(simp only [ay,ax];done)|(simp only [ay,ax];simp;done)|(simp only [ay,ax];simp [*];done)),H',⟨Nat.le_refl _⟩,⟨by first|exact Kd.ko _ _ _ _ _|exact Kd.oL _ _ _ _ _|exact Kd.jw _ _ _ _ _|exact Kd.oO _ _ _ _ _|exact Kd.oP _ _ _ _ _⟩,⟨by (with_reducible repeat (first|refine au ?_ _|refine av ?_|refine ak ?_ _));exact BK420.out⟩,⟨by (with_reducible repeat (first|refine au ?_ _|refine av ?_|refine ak ?_ _));exact BK422.out⟩,⟨by repeat (first|(with_reducible first|exact HB.out|apply af|apply ae|apply ag|refine ah ?_ GE420.out|refine ah ?_ GE422.out)|exact HB.out)⟩⟩
          case round =>
           clear H'
           try clear c1
           try clear c2
           try clear p2
           try clear c3
           try clear c3b0
           try clear c3b1
           try clear c3b2
           try clear p4
           try clear q4
           try clear hx4
           try clear qi4
           try clear c6
           try clear c6b0
           try clear c6b1
           try clear p6
           try clear c8
           try clear c8b0
           try clear c9
           try clear c9b0
           try clear c11
           try clear c11b0
           try clear c12
           try clear c12b0
           try clear c16
           try clear c25
           try clear c25b0
           try clear c25b1
           try clear c26
           try clear c26b0
           try clear c26b1
           try clear c27
           try clear hcz17_0
           try clear hcz17_1
           try clear hcz17_2
           try clear hcz17_3
           try clear hcz17_4
           try clear hcz24_0
           try clear hcz24_1
           try clear hcz24_2
           try clear hcz24_3
           try clear hcz24_4
           try clear hcz5_0
           try clear hcz5_1
           try clear hcz5_2
           try clear hcz5_3
           try clear hcz5_4
           try clear hfz17_0
           try clear hfz17_1
           try clear hfz17_2
           try clear hfz17_3
           try clear hfz17_4
           try clear hfz24_0
           try clear hfz24_1
           try clear hfz24_2
           try clear hfz24_3
           try clear hfz24_4
           try clear hfz5_0
           try clear hfz5_1
           try clear hfz5_2
           try clear hfz5_3
           try clear hfz5_4
           try clear hx421_0
           try clear hx426_0
           try clear hx430_0
           try clear p2
           try clear p4
           try clear p421
           try clear p426
           try clear p430
           try clear p6
           try clear q4
           try clear q421
           try clear q426
           try clear q430
           obtain ⟨x9_2,x423004_2,u423004,rfl,HA,HK2,HO_423004,BK420,BK422,HB⟩:=hrel
           cases gk with
           | zero=>exact absurd HA.out (by simp [aH.l0])
           | succ k2 =>
            have H:=HA.out
            clear HA
            simp only [aH.l0] at H
            by_cases c28:x9_2 < (l0.length:Int)
            ·rw [if_pos c28] at H
             have c28b0:decide (x9_2 < (l0.length:Int))=true:=decide_eq_true c28
             clear c28
             by_cases c29:x9_2≤(Int.tmod (wrap64 (Int.tdiv (wrap64 (rd l0 0)) 24)) 4)
             ·rw [if_pos c29] at H
              have c29b0:decide (x9_2≤(Int.tmod (wrap64 (Int.tdiv (wrap64 (rd l0 0)) 24)) 4))=true:=decide_eq_true c29
              clear c29
              obtain ⟨ji30,hji30⟩:∃ j_:Int,(mn (l0.length:Int) (wrap64 ((wrap64 (x9_2+(wrap64 (Int.tdiv (wrap64 (rd l0 0)) 60))))+1)))=j_:=⟨_,rfl⟩
              replace H:(if 0≤x9_2 then (if x9_2≤(ji30) then (if (ji30)≤(l0.length:Int) then ((aH.f k2 ((l0.take ((ji30):Int).toNat).drop (x9_2:Int).toNat) a1).bind fun bt432=>(if x423004_2.length < 1599289640401 then (aH.l0 k2 l0 a1 (wrap64 (rd l0 0)) (wrap64 (x9_2+1)) (wrap64 (1+(Int.tmod (wrap64 (rd l0 0)) 8))) (⟨#[]⟩:ByteArray) (⟨#[]⟩:ByteArray) (x423004_2++[(⟨bt432.1,bt432.2.1,bt432.2.2.1,bt432.2.2.2.1,bt432.2.2.2.2⟩:S25)])) else (none))) else (none)) else (none)) else (none))=some (r1,r2,r3,r4,r5):=by first|(rw [hji30] at H;exact H)|(simp only [hji30] at H ⊢;exact H)
              have hji30_:(if (wrap64 ((wrap64 (x9_2+(wrap64 (Int.tdiv (wrap64 (rd l0 0)) 60))))+1)) < (l0.length:Int) then (wrap64 ((wrap64 (x9_2+(wrap64 (Int.tdiv (wrap64 (rd l0 0)) 60))))+1)) else (l0.length:Int))=ji30:=hji30
              by_cases c31:0≤x9_2
              ·rw [if_pos c31] at H
               have c31b0:=eq_true c31
               have c31b1:decide (0≤x9_2)=true:=decide_eq_true c31
               clear c31
               by_cases c32:x9_2≤(ji30)
               ·rw [if_pos c32] at H
                have c32b0:=eq_true c32
                have c32b1:decide (x9_2≤(ji30))=true:=decide_eq_true c32
                clear c32
                by_cases c33:(ji30)≤(l0.length:Int)
                ·rw [if_pos c33] at H
                 have c33b0:=eq_true c33
                 have c33b1:decide ((ji30)≤(l0.length:Int))=true:=decide_eq_true c33
                 clear c33
                 replace H:=Option.bind_eq_some_iff.mp H
                 obtain ⟨⟨t432,t433,t434,t435,t438⟩,A340,H⟩:=H
                 replace H:(if x423004_2.length < 1599289640401 then (aH.l0 k2 l0 a1 (wrap64 (rd l0 0)) (wrap64 (x9_2+1)) (wrap64 (1+(Int.tmod (wrap64 (rd l0 0)) 8))) (⟨#[]⟩:ByteArray) (⟨#[]⟩:ByteArray) (x423004_2++[(⟨t432,t433,t434,t435,t438⟩:S25)])) else (none))=some (r1,r2,r3,r4,r5):=H
                 have A34:=aa.mk A340
                 clear A340
                 by_cases c35:x423004_2.length < 1599289640401
                 ·rw [if_pos c35] at H
                  have LMc35:=aa.mk c35
                  clear c35
                  obtain ⟨y441,hy441⟩:∃ y_:List (S25),y_=(x423004_2++[(⟨t432,t433,t434,t435,t438⟩:S25)]):=⟨_,rfl⟩
                  replace H:(aH.l0 k2 l0 a1 (wrap64 (rd l0 0)) (wrap64 (x9_2+1)) (wrap64 (1+(Int.tmod (wrap64 (rd l0 0)) 8))) (⟨#[]⟩:ByteArray) (⟨#[]⟩:ByteArray) y441)=some (r1,r2,r3,r4,r5):=by first|(rw [hy441];with_reducible exact H)|(have H2_:=(Option.bind_some _ _).symm.trans H;rw [hy441];with_reducible exact H2_)|(have H2_:=(Option.bind_some _ _).symm.trans H;with_reducible exact H2_)|with_reducible exact H|(rw [hy441];exact H)|exact H
                  have Ny441:=aa.mk hy441
                  clear hy441
                  have H':=aa.mk H
                  clear H
                  try go_wp2
                  have n0_:=aa.mk (Kd.bn HO_423004.out)
                  have n1_:=aa.mk (av BK420.out)
                  have n2_:=aa.mk (av BK422.out)
                  have n3_:=aa.mk (ag HB.out)
                  clear HO_423004
                  clear BK420
                  clear BK422
                  clear HB
                  have HO_423004:=n0_
                  have BK420:=n1_
                  have BK422:=n2_
                  have HB:=n3_
                  clear n0_ n1_ n2_ n3_
                  obtain ⟨i037,hi037,_,hsz37,_⟩:=info_parts info5
                  obtain ⟨A37,hcut37,hA37,hC37⟩:=lw (P:=Tryz.prog) (Value.int .u8) 0 34 5 .i64 .i64 Tryz.underlying34 hi037 hsz37 (some ad421) c0 l0 x9_2 (ji30) (of_decide_eq_true (by first|(with_reducible assumption)|assumption)) (by first|omega|exact of_decide_eq_true (by first|(with_reducible assumption)|assumption)) (of_decide_eq_true (by first|(with_reducible assumption)|assumption)) HC0.out
                  have HR431:=aa.mk (Kd.jB (h1:=fun _=>rfl) (hA37 _ (Kd.gN HR0.out)))
                  have HC431:=aa.mk hC37
                  clear hA37 hC37 hi037 hsz37
                  refine jS (n:=19) (S:=fun w'=>w'.cell? ⟨gb422,0,none⟩=some (.int .i64 (wrap64 (1+(Int.tmod (wrap64 (rd l0 0)) 8))))∧w'.cell? ⟨gb422,1,none⟩=some (.string (⟨#[]⟩:ByteArray))∧w'.cell? ⟨gb422,2,none⟩=some (.string (⟨#[]⟩:ByteArray))∧w'.cell? ⟨gb422,3,none⟩=some (.slice none 0 0)∧w'.cell? ⟨gb422,4,none⟩=some (u423004)) (ds:=[18]) #[false,false,false,false,false,false,false,false,false,false,false,false,false,false,false,false,false,false,false] (by kernel_rfl) rfl rfl ⟨(aj BK422.out 0).trans rfl,(aj BK422.out 1).trans rfl,(aj BK422.out 2).trans rfl,(aj BK422.out 3).trans rfl,(aj BK422.out 4).trans rfl⟩ (fun hHeld=>?_);refine iy aH.tab16 aH.bits16 (fun HT_ HW_=>?_)
                  generalize wr.drew=w36 at HO_423004 BK420 BK422 HB HR431 hHeld ⊢
                  refine di (i:=0) (N:=some 58) (v:=?_) (a':=?_) #[true,false,false,false,false,false,false,false,false,false,false,false,false,false,false,false,false,false,false] rfl rfl (bV HT_.out (by kernel_rfl)) (fun _ _ _ h=>h) (Or.inl ⟨by rfl,?_⟩) ?_ ?_
                  rotate_left
                  ·intro w'
                   go_simp
                   with_reducible rfl
                  rotate_left
                  ·simp only [Act.put,List.setIfInBounds_toArray,List.set_cons_zero,List.set_cons_succ,aT,aU]
                   rfl
                  refine di (i:=2) (N:=some 60) (v:=?_) (a':=?_) #[true,false,true,false,false,false,false,false,false,false,false,false,false,false,false,false,false,false,false] rfl rfl (bV HT_.out (by kernel_rfl)) (fun _ _ _ h=>h) (Or.inl ⟨by rfl,?_⟩) ?_ ?_
                  rotate_left
                  ·intro w'
                   go_simp
                   with_reducible rfl
                  rotate_left
                  ·simp only [Act.put,List.setIfInBounds_toArray,List.set_cons_zero,List.set_cons_succ,aT,aU]
                   rfl
                  refine di (i:=3) (N:=some 61) (v:=?_) (a':=?_) #[true,false,true,true,false,false,false,false,false,false,false,false,false,false,false,false,false,false,false] rfl rfl (bV HT_.out (by kernel_rfl)) (fun _ _ _ h=>h) (Or.inl ⟨by rfl,?_⟩) ?_ ?_
                  rotate_left
                  ·intro w'
                   go_simp
                   with_reducible rfl
                  rotate_left
                  ·simp only [Act.put,List.setIfInBounds_toArray,List.set_cons_zero,List.set_cons_succ,aT,aU]
                   rfl
                  refine di (i:=4) (N:=some 62) (v:=?_) (a':=?_) #[true,false,true,true,true,false,false,false,false,false,false,false,false,false,false,false,false,false,false] rfl rfl (bV HT_.out (by kernel_rfl)) (fun _ _ _ h=>h) (Or.inl ⟨by rfl,?_⟩) ?_ ?_
                  rotate_left
                  ·intro w'
                   go_simp
                   with_reducible rfl
                  rotate_left
                  ·simp only [Act.put,List.setIfInBounds_toArray,List.set_cons_zero,List.set_cons_succ,aT,aU]
                   rfl
                  refine di (i:=5) (N:=some 63) (v:=?_) (a':=?_) #[true,false,true,true,true,true,false,false,false,false,false,false,false,false,false,false,false,false,false] rfl rfl (bV HT_.out (by kernel_rfl)) (fun _ _ _ h=>h) (Or.inl ⟨by rfl,?_⟩) ?_ ?_
                  rotate_left
                  ·intro w'
                   go_simp
                   with_reducible rfl
                  rotate_left
                  ·simp only [Act.put,List.setIfInBounds_toArray,List.set_cons_zero,List.set_cons_succ,aT,aU]
                   rfl
                  refine di (i:=6) (N:=some 64) (v:=?_) (a':=?_) #[true,false,true,true,true,true,true,false,false,false,false,false,false,false,false,false,false,false,false] rfl rfl (bV HT_.out (by kernel_rfl)) (fun _ _ _ h=>h) (Or.inl ⟨by rfl,?_⟩) ?_ ?_
                  rotate_left
                  ·intro w'
                   go_simp
                   with_reducible rfl
                  rotate_left
                  ·simp only [Act.put,List.setIfInBounds_toArray,List.set_cons_zero,List.set_cons_succ,aT,aU]
                   rfl
                  refine di (i:=7) (N:=some 65) (v:=?_) (a':=?_) #[true,false,true,true,true,true,true,true,false,false,false,false,false,false,false,false,false,false,false] rfl rfl (bV HT_.out (by kernel_rfl)) (fun _ _ _ h=>h) (Or.inl ⟨by rfl,?_⟩) ?_ ?_
                  rotate_left
                  ·intro w'
                   go_simp
                   with_reducible rfl
                  rotate_left
                  ·simp only [Act.put,List.setIfInBounds_toArray,List.set_cons_zero,List.set_cons_succ,aT,aU]
                   rfl
                  refine di (i:=8) (N:=some 66) (v:=?_) (a':=?_) #[true,false,true,true,true,true,true,true,true,false,false,false,false,false,false,false,false,false,false] rfl rfl (bV HT_.out (by kernel_rfl)) (fun _ _ _ h=>h) (Or.inl ⟨by rfl,?_⟩) ?_ ?_
                  rotate_left
                  ·intro w'
                   go_simp
                   with_reducible rfl
                  rotate_left
                  ·simp only [Act.put,List.setIfInBounds_toArray,List.set_cons_zero,List.set_cons_succ,aT,aU]
                   rfl
                  refine di (i:=9) (N:=some 67) (v:=?_) (a':=?_) #[true,false,true,true,true,true,true,true,true,true,false,false,false,false,false,false,false,false,false] rfl rfl (bV HT_.out (by kernel_rfl)) (fun _ _ _ h=>h) (Or.inl ⟨by rfl,?_⟩) ?_ ?_
                  rotate_left
                  ·intro w'
                   go_simp
                   with_reducible rfl
                  rotate_left
                  ·simp only [Act.put,List.setIfInBounds_toArray,List.set_cons_zero,List.set_cons_succ,aT,aU]
                   rfl
                  refine di (i:=10) (N:=some 68) (v:=?_) (a':=?_) #[true,false,true,true,true,true,true,true,true,true,true,false,false,false,false,false,false,false,false] rfl rfl (bV HT_.out (by kernel_rfl)) (fun _ _ _ h=>h) (Or.inl ⟨by rfl,?_⟩) ?_ ?_
                  rotate_left
                  ·intro w'
                   go_simp
                   with_reducible rfl
                  rotate_left
                  ·simp only [Act.put,List.setIfInBounds_toArray,List.set_cons_zero,List.set_cons_succ,aT,aU]
                   rfl
                  refine di (i:=11) (N:=some 69) (v:=?_) (a':=?_) #[true,false,true,true,true,true,true,true,true,true,true,true,false,false,false,false,false,false,false] rfl rfl (bV HT_.out (by kernel_rfl)) (fun _ _ _ h=>h) (Or.inl ⟨by rfl,?_⟩) ?_ ?_
                  rotate_left
                  ·intro w'
                   go_simp
                   with_reducible rfl
                  rotate_left
                  ·simp only [Act.put,List.setIfInBounds_toArray,List.set_cons_zero,List.set_cons_succ,aT,aU]
                   rfl
                  refine di (i:=12) (N:=some 70) (v:=?_) (a':=?_) #[true,false,true,true,true,true,true,true,true,true,true,true,true,false,false,false,false,false,false] rfl rfl (bV HT_.out (by kernel_rfl)) (fun _ _ _ h=>h) (Or.inl ⟨by rfl,?_⟩) ?_ ?_
                  rotate_left
                  ·intro w'
                   go_simp
                   with_reducible rfl
                  rotate_left
                  ·simp only [Act.put,List.setIfInBounds_toArray,List.set_cons_zero,List.set_cons_succ,aT,aU]
                   rfl
                  refine di (i:=13) (N:=some 71) (v:=?_) (a':=?_) #[true,false,true,true,true,true,true,true,true,true,true,true,true,true,false,false,false,false,false] rfl rfl (bV HT_.out (by kernel_rfl)) (fun _ _ _ h=>h) (Or.inl ⟨by rfl,?_⟩) ?_ ?_
                  rotate_left
                  ·intro w'
                   go_simp
                   with_reducible rfl
                  rotate_left
                  ·simp only [Act.put,List.setIfInBounds_toArray,List.set_cons_zero,List.set_cons_succ,aT,aU]
                   rfl
                  refine take_ (i:=1) (N:=some 59) (v:=?_) (a':=?_) #[true,true,true,true,true,true,true,true,true,true,true,true,true,true,false,false,false,false,false] rfl rfl (fq HT_.out HW_.out (by kernel_rfl)) (fun _ _ _ h=>h) (Or.inl ⟨by rfl,?_⟩) hHeld ?_ ?_
                  rotate_left
                  ·rintro w' ⟨s0,s1,s2,s3,s4⟩
                   go_simp
                   with_reducible rfl
                  rotate_left
                  ·simp only [Act.put,List.setIfInBounds_toArray,List.set_cons_zero,List.set_cons_succ,aT,aU]
                   rfl
                  refine ji (i:=14) (N:=some 72) #[true,true,true,true,true,true,true,true,true,true,true,true,true,true,true,false,false,false,false] rfl rfl (eO HT_.out (by kernel_rfl)) (by decide) (fun K hK=>?_)
                  refine lN Tryz.func16 (by kernel_rfl) rfl #[.slice A37 ((l0.take ((ji30):Int).toNat).drop (x9_2:Int).toNat).length (c0 - x9_2.toNat),.string a1] (by rfl) rfl rfl (by (try simp only [List.map_toArray,List.map_cons,List.map_nil]);first|done|(rw [show ((l0.take ((ji30):Int).toNat).drop (x9_2:Int).toNat).length=((ji30).toNat - x9_2.toNat) from (by rw [List.length_drop,List.length_take];have h_:((ji30):Int)≤(l0.length:Int):=of_decide_eq_true (by first|(with_reducible assumption)|assumption);omega)] <;> rfl)|(simp only [hji30];rfl)|rfl|(simp only [List.length_drop,List.length_take];rfl)) ?_
                  with_reducible refine (ih k2 (by have:=HJ12.out;have:=HK2.out;omega) _ _ ((l0.take ((ji30):Int).toNat).drop (x9_2:Int).toNat) a1 t432 t433 t434 t435 t438 _ ?side1 ?side2 A34.out).mono ?_
                  (case side1=>repeat (first|exact (Kd.bf HR431.out HB.out)|(with_reducible refine Kd.aN ?_ _)|(with_reducible refine Kd.aQ ?_ _)|(with_reducible refine Kd.aW ?_)))
                  (case side2=>exact HC431.out)
                  rintro e w38 ⟨v436,v439,rfl,ho0,ho1,hb⟩
                  refine ⟨_,rfl,?_⟩
                  have n0_:=aa.mk (Kd.cu (by (with_reducible repeat (first|apply Kd.aZ|apply Kd.aY|apply Kd.bn));exact HO_423004.out) (Kd.dE ho1) hb)
                  have n1_:=aa.mk (Kd.kR (Kd.dF (ok':=fun k_=>(w.heap.size≤k_)∧some k_≠(v439:Value).ownBlock∧some k_≠(u423004:Value).ownBlock∧k_≠gb420∧k_≠gb422) ho0 (fun k_ hk_=>⟨(Nat.le_trans (aG (by repeat (first|(with_reducible first|exact HB.out|apply af|apply ae|apply ag|refine ah ?_ GE420.out|refine ah ?_ GE422.out)|exact HB.out))) hk_.1),hk_.2,(Kd.fresh' (Kd.gM (by (with_reducible repeat (first|apply Kd.aZ|apply Kd.aY|apply Kd.bn));exact HO_423004.out)) k_ hk_.1),(Kd.dC (g:=gb420) (o:=.cells #[.int .i64 0,.string (⟨#[]⟩:ByteArray),.string (⟨#[]⟩:ByteArray),.slice none 0 0,.slice none 0 0] 25 (0,0)) (by (with_reducible repeat (first|refine au ?_ _|refine av ?_|refine ak ?_ _));exact BK420.out) k_ hk_.1),(Kd.dC (g:=gb422) (o:=.cells #[.int .i64 (wrap64 (1+(Int.tmod (wrap64 (rd l0 0)) 8))),.string (⟨#[]⟩:ByteArray),.string (⟨#[]⟩:ByteArray),.slice none 0 0,u423004] 25 (0,0)) (by (with_reducible repeat (first|refine au ?_ _|refine av ?_|refine ak ?_ _));exact BK422.out) k_ hk_.1)⟩)) (aG (by repeat (first|(with_reducible first|exact HB.out|apply af|apply ae|apply ag|refine ah ?_ GE420.out|refine ah ?_ GE422.out)|exact HB.out))))
                  have n2_:=aa.mk (Kd.fw (Kd.bH (ok':=fun k_=>(w.heap.size≤k_)∧some k_≠(u423004:Value).ownBlock∧k_≠gb420∧k_≠gb422) ho1 (fun k_ hk_=>⟨(Nat.le_trans (aG (by repeat (first|(with_reducible first|exact HB.out|apply af|apply ae|apply ag|refine ah ?_ GE420.out|refine ah ?_ GE422.out)|exact HB.out))) hk_),(Kd.fresh' (Kd.gM (by (with_reducible repeat (first|apply Kd.aZ|apply Kd.aY|apply Kd.bn));exact HO_423004.out)) k_ hk_),(Kd.dC (g:=gb420) (o:=.cells #[.int .i64 0,.string (⟨#[]⟩:ByteArray),.string (⟨#[]⟩:ByteArray),.slice none 0 0,.slice none 0 0] 25 (0,0)) (by (with_reducible repeat (first|refine au ?_ _|refine av ?_|refine ak ?_ _));exact BK420.out) k_ hk_),(Kd.dC (g:=gb422) (o:=.cells #[.int .i64 (wrap64 (1+(Int.tmod (wrap64 (rd l0 0)) 8))),.string (⟨#[]⟩:ByteArray),.string (⟨#[]⟩:ByteArray),.slice none 0 0,u423004] 25 (0,0)) (by (with_reducible repeat (first|refine au ?_ _|refine av ?_|refine ak ?_ _));exact BK422.out) k_ hk_)⟩)) (aG (by repeat (first|(with_reducible first|exact HB.out|apply af|apply ae|apply ag|refine ah ?_ GE420.out|refine ah ?_ GE422.out)|exact HB.out))))
                  have n3_:=aa.mk (aI (g:=gb420) (o:=.cells #[.int .i64 0,.string (⟨#[]⟩:ByteArray),.string (⟨#[]⟩:ByteArray),.slice none 0 0,.slice none 0 0] 25 (0,0)) (by (with_reducible repeat (first|refine au ?_ _|refine av ?_|refine ak ?_ _));exact BK420.out) hb)
                  have n4_:=aa.mk (aI (g:=gb422) (o:=.cells #[.int .i64 (wrap64 (1+(Int.tmod (wrap64 (rd l0 0)) 8))),.string (⟨#[]⟩:ByteArray),.string (⟨#[]⟩:ByteArray),.slice none 0 0,u423004] 25 (0,0)) (by (with_reducible repeat (first|refine au ?_ _|refine av ?_|refine ak ?_ _));exact BK422.out) hb)
                  have n5_:=aa.mk (aD (by repeat (first|(with_reducible first|exact HB.out|apply af|apply ae|apply ag|refine ah ?_ GE420.out|refine ah ?_ GE422.out)|exact HB.out)) hb)
                  clear HO_423004
                  clear BK420
                  clear BK422
                  clear HB
                  have HO_423004:=n0_
                  have HO437:=n1_
                  have HO440:=n2_
                  have BK420:=n3_
                  have BK422:=n4_
                  have HB:=n5_
                  clear n0_ n1_ n2_ n3_ n4_ n5_
                  (try clear hb)
                  (try clear hb2)
                  (try clear hk)
                  (try clear hi)
                  (try clear ho0)
                  (try clear ho1)
                  obtain ⟨Ao40,co40,eo40⟩:=Kd.kJ HO437.out
                  (first|subst eo40|(injection eo40 with f1_ f2_ f3_;have f4_:=f1_.symm;have f5_:=f3_.symm;clear f1_ f2_ f3_;subst f4_;subst f5_))
                  obtain ⟨Ao41,co41,eo41⟩:=Kd.dR HO440.out
                  (first|subst eo41|(injection eo41 with f1_ f2_ f3_;have f4_:=f1_.symm;have f5_:=f3_.symm;clear f1_ f2_ f3_;subst f4_;subst f5_))
                  refine hK.out _ _ ⟨(aj BK422.out 0).trans rfl,(aj BK422.out 1).trans rfl,(aj BK422.out 2).trans rfl,(aj BK422.out 3).trans rfl,(aj BK422.out 4).trans rfl⟩ (fun hHeld=>?_)
                  clear hK K
                  refine fB (a':=?_) ?_ ?_
                  rotate_left
                  ·show Act.put _ (some 72) _=_
                   simp only [Act.put,List.setIfInBounds_toArray,List.set_cons_zero,List.set_cons_succ,aT,aU]
                   rfl
                  refine ji (i:=15) (N:=some 73) #[true,true,true,true,true,true,true,true,true,true,true,true,true,true,true,true,false,false,false] rfl rfl (eO HT_.out (by kernel_rfl)) (by decide) (fun K hK=>?_)
                  refine pu (w1:=?_) (v:=?_) (by rfl) rfl ?_ ?_
                  rotate_left 2
                  ·go_simp
                   constructor
                   ·rfl
                   ·rfl
                  refine hK.out _ _ ⟨(aj (ak BK422.out _) 0).trans rfl,(aj (ak BK422.out _) 1).trans rfl,(aj (ak BK422.out _) 2).trans rfl,(aj (ak BK422.out _) 3).trans rfl,(aj (ak BK422.out _) 4).trans rfl⟩ (fun hHeld=>?_)
                  clear hK K
                  refine fB (a':=?_) ?_ ?_
                  rotate_left
                  ·show Act.put _ (some 73) _=_
                   simp only [Act.put,List.setIfInBounds_toArray,List.set_cons_zero,List.set_cons_succ,aT,aU]
                   rfl
                  refine ji (i:=16) (N:=some 74) #[true,true,true,true,true,true,true,true,true,true,true,true,true,true,true,true,true,false,false] rfl rfl (eO HT_.out (by kernel_rfl)) (by decide) (fun K hK=>?_)
                  refine Kd.jq k25 (w0:=w) w.heap.size (by rfl) (.tmp 59) (.tmp 73) 23 25 (.agg #[(.int .i64 0),(.string ⟨#[]⟩),(.string ⟨#[]⟩),(.slice none 0 0),(.slice none 0 0)]) 88 rfl Tryz.underlying23 wY rfl (by decide) (by omega) u423004 x423004_2 (⟨t432,t433,t434,t435,t438⟩:S25) [.int .i64 t432,.string t433,.string t434,.slice Ao40 t435.length co40,.slice Ao41 t438.length co41] (fun k_=>(w.heap.size≤k_)∧k_≠gb420∧k_≠gb422) (fun k_=>((fun k_=>(w.heap.size≤k_)∧k_≠gb420∧k_≠gb422)) k_∧some k_≠(u423004:Value).ownBlock) rfl rfl ?aP (fun _ hk=>hk) ?aF ?aO ?aB ?aS ?aL ?_
                  (case aP=>exact (gX _ _ (⟨t432,t433,t434,t435,t438⟩:S25) (Kd.fo (Kd.dF (ok':=(fun k_=>((fun k_=>(w.heap.size≤k_)∧k_≠gb420∧k_≠gb422)) k_∧some k_≠(u423004:Value).ownBlock)) (HO437.out) (fun k_ hk=>⟨⟨hk.1,⟨hk.2.2.2.1,hk.2.2.2.2⟩⟩,hk.2.2.1⟩))).2.1 (Kd.V_F (Kd.dF (ok':=(fun k_=>((fun k_=>(w.heap.size≤k_)∧k_≠gb420∧k_≠gb422)) k_∧some k_≠(u423004:Value).ownBlock)) (HO437.out) (fun k_ hk=>⟨⟨hk.1,⟨hk.2.2.2.1,hk.2.2.2.2⟩⟩,hk.2.2.1⟩))) (Kd.bO (Kd.bH (ok':=(fun k_=>((fun k_=>(w.heap.size≤k_)∧k_≠gb420∧k_≠gb422)) k_∧some k_≠(u423004:Value).ownBlock)) (HO440.out) (fun k_ hk=>⟨⟨hk.1,⟨hk.2.2.1,hk.2.2.2⟩⟩,hk.2.1⟩))).2.1 (Kd.N_F (Kd.bH (ok':=(fun k_=>((fun k_=>(w.heap.size≤k_)∧k_≠gb420∧k_≠gb422)) k_∧some k_≠(u423004:Value).ownBlock)) (HO440.out) (fun k_ hk=>⟨⟨hk.1,⟨hk.2.2.1,hk.2.2.2⟩⟩,hk.2.1⟩)))))
                  (case aB=>exact (by repeat (first|(with_reducible first|exact HB.out|apply af|apply ae|apply ag|refine ah ?_ GE420.out|refine ah ?_ GE422.out)|exact HB.out)))
                  (case aF=>exact (fun k_ hk=>⟨(Nat.le_trans (aG (by repeat (first|(with_reducible first|exact HB.out|apply af|apply ae|apply ag|refine ah ?_ GE420.out|refine ah ?_ GE422.out)|exact HB.out))) hk),Kd.dC (g:=gb420) (o:=.cells #[.int .i64 0,.string (⟨#[]⟩:ByteArray),.string (⟨#[]⟩:ByteArray),.slice none 0 0,.slice none 0 0] 25 (0,0)) (by (with_reducible repeat (first|refine au ?_ _|refine av ?_|refine ak ?_ _));exact BK420.out) k_ hk,Kd.dC (g:=gb422) (o:=.cells #[.int .i64 (wrap64 (1+(Int.tmod (wrap64 (rd l0 0)) 8))),.string (⟨#[]⟩:ByteArray),.string (⟨#[]⟩:ByteArray),.slice none 0 0,u423004] 25 (0,0)) (by (with_reducible repeat (first|refine au ?_ _|refine av ?_|refine ak ?_ _));exact BK422.out) k_ hk⟩))
                  (case aO=>exact (by (with_reducible repeat (first|apply Kd.aZ|apply Kd.aY|apply Kd.bn));exact Kd.bH HO_423004.out (fun _ hk=>⟨hk.1.1,⟨hk.1.2.1,hk.1.2.2⟩⟩)))
                  (case aS=>exact (aG (by repeat (first|(with_reducible first|exact HB.out|apply af|apply ae|apply ag|refine ah ?_ GE420.out|refine ah ?_ GE422.out)|exact HB.out))))
                  (case aL=>have:=LMc35.out;omega)
                  intro v442 w39 ho hb hg hat
                  rw [← Ny441.out] at ho
                  have n0_:=aa.mk (dH (g:=gb420) (o:=.cells #[.int .i64 0,.string (⟨#[]⟩:ByteArray),.string (⟨#[]⟩:ByteArray),.slice none 0 0,.slice none 0 0] 25 (0,0)) (by (with_reducible repeat (first|refine au ?_ _|refine av ?_|refine ak ?_ _));exact BK420.out) hg (Kd.uz HO_423004.out (fun _ hk=>hk.1.2.1)))
                  have n1_:=aa.mk (dH (g:=gb422) (o:=.cells #[.int .i64 (wrap64 (1+(Int.tmod (wrap64 (rd l0 0)) 8))),.string (⟨#[]⟩:ByteArray),.string (⟨#[]⟩:ByteArray),.slice none 0 0,u423004] 25 (0,0)) (by (with_reducible repeat (first|refine au ?_ _|refine av ?_|refine ak ?_ _));exact BK422.out) hg (Kd.uz HO_423004.out (fun _ hk=>hk.1.2.2)))
                  have n2_:=aa.mk (Kd.vv (ok:=(fun k_=>(w.heap.size≤k_)∧some k_≠(.slice Ao41 t438.length co41:Value).ownBlock∧k_≠gb420∧k_≠gb422)) (by (with_reducible repeat (first|apply Kd.cB|apply Kd.cz|apply Kd.dm));exact Kd.dF HO437.out (fun _ hk=>⟨⟨hk.1,⟨hk.2.1,⟨hk.2.2.2.1,hk.2.2.2.2⟩⟩⟩,hk.2.2.1⟩)) hg hat)
                  have n3_:=aa.mk (hb)
                  have n4_:=aa.mk (ho)
                  clear BK420
                  clear BK422
                  clear HO437
                  clear HB
                  clear HO_423004
                  clear HO440
                  have BK420:=n0_
                  have BK422:=n1_
                  have HO437:=n2_
                  have HB:=n3_
                  have HO443:=n4_
                  clear n0_ n1_ n2_ n3_ n4_
                  clear ho hb hg hat
                  obtain ⟨Ao42,co42,eo42⟩:=Kd.dR HO443.out
                  (first|subst eo42|(injection eo42 with f1_ f2_ f3_;have f4_:=f1_.symm;have f5_:=f3_.symm;clear f1_ f2_ f3_;subst f4_;subst f5_))
                  refine hK.out _ _ ⟨(aj BK422.out 0).trans rfl,(aj BK422.out 1).trans rfl,(aj BK422.out 2).trans rfl,(aj BK422.out 3).trans rfl,(aj BK422.out 4).trans rfl⟩ (fun hHeld=>?_)
                  clear hK K
                  refine fB (a':=?_) ?_ ?_
                  rotate_left
                  ·show Act.put _ (some 74) _=_
                   simp only [Act.put,List.setIfInBounds_toArray,List.set_cons_zero,List.set_cons_succ,aT,aU]
                   rfl
                  refine di (i:=17) (N:=some 75) (v:=?_) (a':=?_) #[true,true,true,true,true,true,true,true,true,true,true,true,true,true,true,true,true,true,false] rfl rfl (bV HT_.out (by kernel_rfl)) (fun _ _ _ h=>h) (Or.inl ⟨by rfl,?_⟩) ?_ ?_
                  rotate_left
                  ·intro w'
                   go_simp
                   with_reducible rfl
                  rotate_left
                  ·simp only [Act.put,List.setIfInBounds_toArray,List.set_cons_zero,List.set_cons_succ,aT,aU]
                   rfl
                  refine mJ (i:=18) (N:=none) #[true,true,true,true,true,true,true,true,true,true,true,true,true,true,true,true,true,true,true] rfl rfl (eO HT_.out (by kernel_rfl)) (by decide) (fun K hK=>?_)
                  have hs43:w39.cell? ⟨gb422,4,none⟩=some (u423004):=(aj BK422.out 4).trans rfl
                  have hfs43:=ai BK422.out 4
                  have hns43_0:=NB420_422.out
                  have hms43_0:=NB422_420.out
                  refine qh (w1:=?_) (by rfl) rfl ?_ ?_
                  rotate_left
                  ·go_simp
                   rfl
                  refine hK.out _ _ ?_
                  clear hK K
                  refine mH (jH HT_.out (by kernel_rfl)) ?_
                  try go_wp2
                  go_roundg k2
                  case measure=>have:=HJ12.out;have:=HK2.out;omega
                  case rel=>exact ⟨(wrap64 (x9_2+1)),(y441),(.slice Ao42 y441.length co42),(by first|rfl|(simp;done)|(simp [*];done)|(simp [*,aT,aU,bU];done)|(simp only [ay,ax];done)|(simp only [ay,ax];simp;done)|(simp only [ay,ax];simp [*];done)),H',⟨by have:=HJ12.out;have:=HK2.out;omega⟩,⟨by (with_reducible repeat (first|apply Kd.aZ|apply Kd.aY|apply Kd.bn));exact Kd.bH (Kd.dQ (p:=⟨gb422,4,none⟩) (Kd.bH HO443.out (fun k_ hk=>(⟨hk,hk.2.2⟩:_∧k_≠gb422))) (fun _ hk=>hk.2) (.slice Ao42 y441.length co42)) (fun _ hk=>⟨hk.1.1,⟨hk.1.2.1,hk.1.2.2⟩⟩)⟩,⟨by (with_reducible repeat (first|refine au ?_ _|refine av ?_|refine ak ?_ _));refine dB ?_ NB420_422.out _;(with_reducible repeat (first|refine au ?_ _|refine av ?_|refine ak ?_ _));exact BK420.out⟩,⟨by (with_reducible repeat (first|refine au ?_ _|refine av ?_|refine ak ?_ _));refine bG (cs:=#[.int .i64 (wrap64 (1+(Int.tmod (wrap64 (rd l0 0)) 8))),.string (⟨#[]⟩:ByteArray),.string (⟨#[]⟩:ByteArray),.slice none 0 0,u423004]) ?_ 4 _ (by first|rfl|(simp only [ay,ax];rfl)|simp [ay,ax]);(with_reducible repeat (first|refine au ?_ _|refine av ?_|refine ak ?_ _));exact BK422.out⟩,⟨by repeat (first|(with_reducible first|exact HB.out|apply af|apply ae|apply ag|refine ah ?_ GE420.out|refine ah ?_ GE422.out)|exact HB.out)⟩⟩
                 ·rw [if_neg c35] at H
                  exact absurd H (by simp)
                ·rw [if_neg c33] at H
                 exact absurd H (by simp)
               ·rw [if_neg c32] at H
                exact absurd H (by simp)
              ·rw [if_neg c31] at H
               exact absurd H (by simp)
             ·rw [if_neg c29] at H
              have c29b0:decide (x9_2≤(Int.tmod (wrap64 (Int.tdiv (wrap64 (rd l0 0)) 24)) 4))=false:=decide_eq_false c29
              clear c29
              by_cases c44:(wrap64 (1+(Int.tmod (wrap64 (rd l0 0)) 8)))=3
              ·rw [if_pos c44] at H
               have c44b0:((wrap64 (1+(Int.tmod (wrap64 (rd l0 0)) 8))) == 3)=true:=beq_iff_eq.mpr c44
               have c44b1:((wrap64 (1+(Int.tmod (wrap64 (rd l0 0)) 8))) != 3)=false:=bne_eq_false_iff_eq.mpr c44
               clear c44
               by_cases c45:1≤(l0.length:Int)
               ·rw [if_pos c45] at H
                have c45b0:=eq_true c45
                have c45b1:decide (1≤(l0.length:Int))=true:=decide_eq_true c45
                clear c45
                replace H:=Option.bind_eq_some_iff.mp H
                obtain ⟨⟨t445,t446,t447,t448,t451⟩,A460,H⟩:=H
                replace H:(some ((wrap64 (1+(Int.tmod (wrap64 (rd l0 0)) 8))),(⟨#[]⟩:ByteArray),(⟨#[]⟩:ByteArray),([]:List ByteArray),(([(⟨t445,t446,t447,t448,t451⟩:S25)]:List (S25)))))=some (r1,r2,r3,r4,r5):=H
                have A46:=aa.mk A460
                clear A460
                obtain ⟨y454,hy454⟩:∃ y_:List (S25),y_=(([(⟨t445,t446,t447,t448,t451⟩:S25)]:List (S25))):=⟨_,rfl⟩
                replace H:(some ((wrap64 (1+(Int.tmod (wrap64 (rd l0 0)) 8))),(⟨#[]⟩:ByteArray),(⟨#[]⟩:ByteArray),([]:List ByteArray),y454))=some (r1,r2,r3,r4,r5):=by first|(rw [hy454];with_reducible exact H)|(have H2_:=(Option.bind_some _ _).symm.trans H;rw [hy454];with_reducible exact H2_)|(have H2_:=(Option.bind_some _ _).symm.trans H;with_reducible exact H2_)|with_reducible exact H|(rw [hy454];exact H)|exact H
                have Ny454:=aa.mk hy454
                clear hy454
                simp only [Option.some.injEq,Prod.mk.injEq] at H
                obtain ⟨rfl,rfl,rfl,rfl,rfl⟩:=H
                have hnb47:=NB422_420.out
                have hnc47:=NB420_422.out
                have hcz48_0:wr.cell? ⟨gb422,0,none⟩=some (.int .i64 (wrap64 (1+(Int.tmod (wrap64 (rd l0 0)) 8)))):=(aj BK422.out 0).trans rfl
                have hcz48_1:wr.cell? ⟨gb422,1,none⟩=some (.string (⟨#[]⟩:ByteArray)):=(aj BK422.out 1).trans rfl
                have hcz48_2:wr.cell? ⟨gb422,2,none⟩=some (.string (⟨#[]⟩:ByteArray)):=(aj BK422.out 2).trans rfl
                have hcz48_3:wr.cell? ⟨gb422,3,none⟩=some (.slice none 0 0):=(aj BK422.out 3).trans rfl
                have hcz48_4:wr.cell? ⟨gb422,4,none⟩=some (u423004):=(aj BK422.out 4).trans rfl
                have hfz48_0:=ai BK422.out 0
                have hfz48_1:=ai BK422.out 1
                have hfz48_2:=ai BK422.out 2
                have hfz48_3:=ai BK422.out 3
                have hfz48_4:=ai BK422.out 4
                obtain ⟨i049,hi049,_,hsz49,_⟩:=info_parts info5
                obtain ⟨A49,hcut49,hA49,hC49⟩:=kU (P:=Tryz.prog) (Value.int .u8) 0 34 5 .i64 Tryz.underlying34 hi049 hsz49 (some ad421) c0 l0 1 (by omega) (of_decide_eq_true (by first|(with_reducible assumption)|assumption)) HC0.out
                have HR444:=aa.mk (Kd.jB (h1:=fun _=>rfl) (hA49 _ (Kd.gN HR0.out)))
                have HC444:=aa.mk hC49
                clear hA49 hC49 hi049 hsz49
                go_wp2_with (first|((with_reducible refine aV (f:=16) rfl ?_);refine bJ (some 82) rfl rfl Tryz.func16 (by kernel_rfl) rfl #[.slice A49 (l0.drop 1).length (c0 - 1),.string a1] rfl (by (try simp only [List.map_toArray,List.map_cons,List.map_nil]);first|done|(rw [show (l0.drop 1).length=(l0.length - 1) from List.length_drop] <;> rfl)|rfl|(simp only [List.length_drop,List.length_take];rfl)) ?_;(with_reducible refine (ih k2 (by have:=HJ12.out;have:=HK2.out;omega) _ _ (l0.drop 1) a1 t445 t446 t447 t448 t451 _ ?side1 ?side2 A46.out).mono ?_);(case side1=>repeat (first|exact (Kd.bf HR444.out HB.out)|(with_reducible refine Kd.aN ?_ _)|(with_reducible refine Kd.aQ ?_ _)|(with_reducible refine Kd.aW ?_)));(case side2=>exact HC444.out);rintro e w50 ⟨v449,v452,rfl,ho0,ho1,hb⟩;refine ⟨_,rfl,?_⟩;have n0_:=aa.mk (Kd.cu (by (with_reducible repeat (first|apply Kd.aZ|apply Kd.aY|apply Kd.bn));exact HO_423004.out) (Kd.dE ho1) hb);have n1_:=aa.mk (Kd.kR (Kd.dF (ok':=fun k_=>(w.heap.size≤k_)∧some k_≠(v452:Value).ownBlock∧some k_≠(u423004:Value).ownBlock∧k_≠gb420∧k_≠gb422) ho0 (fun k_ hk_=>⟨(Nat.le_trans (aG (by repeat (first|(with_reducible first|exact HB.out|apply af|apply ae|apply ag|refine ah ?_ GE420.out|refine ah ?_ GE422.out)|exact HB.out))) hk_.1),hk_.2,(Kd.fresh' (Kd.gM (by (with_reducible repeat (first|apply Kd.aZ|apply Kd.aY|apply Kd.bn));exact HO_423004.out)) k_ hk_.1),(Kd.dC (g:=gb420) (o:=.cells #[.int .i64 0,.string (⟨#[]⟩:ByteArray),.string (⟨#[]⟩:ByteArray),.slice none 0 0,.slice none 0 0] 25 (0,0)) (by (with_reducible repeat (first|refine au ?_ _|refine av ?_|refine ak ?_ _));exact BK420.out) k_ hk_.1),(Kd.dC (g:=gb422) (o:=.cells #[.int .i64 (wrap64 (1+(Int.tmod (wrap64 (rd l0 0)) 8))),.string (⟨#[]⟩:ByteArray),.string (⟨#[]⟩:ByteArray),.slice none 0 0,u423004] 25 (0,0)) (by (with_reducible repeat (first|refine au ?_ _|refine av ?_|refine ak ?_ _));exact BK422.out) k_ hk_.1)⟩)) (aG (by repeat (first|(with_reducible first|exact HB.out|apply af|apply ae|apply ag|refine ah ?_ GE420.out|refine ah ?_ GE422.out)|exact HB.out))));have n2_:=aa.mk (Kd.fw (Kd.bH (ok':=fun k_=>(w.heap.size≤k_)∧some k_≠(u423004:Value).ownBlock∧k_≠gb420∧k_≠gb422) ho1 (fun k_ hk_=>⟨(Nat.le_trans (aG (by repeat (first|(with_reducible first|exact HB.out|apply af|apply ae|apply ag|refine ah ?_ GE420.out|refine ah ?_ GE422.out)|exact HB.out))) hk_),(Kd.fresh' (Kd.gM (by (with_reducible repeat (first|apply Kd.aZ|apply Kd.aY|apply Kd.bn));exact HO_423004.out)) k_ hk_),(Kd.dC (g:=gb420) (o:=.cells #[.int .i64 0,.string (⟨#[]⟩:ByteArray),.string (⟨#[]⟩:ByteArray),.slice none 0 0,.slice none 0 0] 25 (0,0)) (by (with_reducible repeat (first|refine au ?_ _|refine av ?_|refine ak ?_ _));exact BK420.out) k_ hk_),(Kd.dC (g:=gb422) (o:=.cells #[.int .i64 (wrap64 (1+(Int.tmod (wrap64 (rd l0 0)) 8))),.string (⟨#[]⟩:ByteArray),.string (⟨#[]⟩:ByteArray),.slice none 0 0,u423004] 25 (0,0)) (by (with_reducible repeat (first|refine au ?_ _|refine av ?_|refine ak ?_ _));exact BK422.out) k_ hk_)⟩)) (aG (by repeat (first|(with_reducible first|exact HB.out|apply af|apply ae|apply ag|refine ah ?_ GE420.out|refine ah ?_ GE422.out)|exact HB.out))));have n3_:=aa.mk (aI (g:=gb420) (o:=.cells #[.int .i64 0,.string (⟨#[]⟩:ByteArray),.string (⟨#[]⟩:ByteArray),.slice none 0 0,.slice none 0 0] 25 (0,0)) (by (with_reducible repeat (first|refine au ?_ _|refine av ?_|refine ak ?_ _));exact BK420.out) hb);have n4_:=aa.mk (aI (g:=gb422) (o:=.cells #[.int .i64 (wrap64 (1+(Int.tmod (wrap64 (rd l0 0)) 8))),.string (⟨#[]⟩:ByteArray),.string (⟨#[]⟩:ByteArray),.slice none 0 0,u423004] 25 (0,0)) (by (with_reducible repeat (first|refine au ?_ _|refine av ?_|refine ak ?_ _));exact BK422.out) hb);have n5_:=aa.mk (aD (by repeat (first|(with_reducible first|exact HB.out|apply af|apply ae|apply ag|refine ah ?_ GE420.out|refine ah ?_ GE422.out)|exact HB.out)) hb);clear HO_423004;clear BK420;clear BK422;clear HB;have HO_423004:=n0_;have HO450:=n1_;have HO453:=n2_;have BK420:=n3_;have BK422:=n4_;have HB:=n5_;clear n0_ n1_ n2_ n3_ n4_ n5_;(try clear hb);(try clear hb2);(try clear hk);(try clear hi);(try clear ho0);(try clear ho1);obtain ⟨Ao51,co51,eo51⟩:=Kd.kJ HO450.out;subst eo51;obtain ⟨Ao52,co52,eo52⟩:=Kd.dR HO453.out;subst eo52)|((with_reducible refine bS (N:=83) rfl ?_);refine Kd.mD k25 _ 25 ?hg (N':=83) ?hd (xs:=([(⟨t445,t446,t447,t448,t451⟩:S25)]:List (S25))) (inner:=[.int .i64 t445,.string t446,.string t447,.slice Ao51 t448.length co51,.slice Ao52 t451.length co52]) (ok:=(fun k_=>(w.heap.size≤k_)∧some k_≠(u423004:Value).ownBlock∧k_≠gb420∧k_≠gb422)) (okp:=(fun k_=>(w.heap.size≤k_)∧some k_≠(u423004:Value).ownBlock∧k_≠gb420∧k_≠gb422)) ?hr ?hp (fun _ hk=>hk) ((show ∀ k_,w50.heap.size≤k_→(fun k_=>(w.heap.size≤k_)∧some k_≠(u423004:Value).ownBlock∧k_≠gb420∧k_≠gb422) k_ from fun k_ hk=>⟨(Nat.le_trans (aG (by repeat (first|(with_reducible first|exact HB.out|apply af|apply ae|apply ag|refine ah ?_ GE420.out|refine ah ?_ GE422.out)|exact HB.out))) hk),Kd.fresh' (Kd.gM (by (with_reducible repeat (first|apply Kd.aZ|apply Kd.aY|apply Kd.bn));exact HO_423004.out)) k_ hk,Kd.dC (g:=gb420) (o:=.cells #[.int .i64 0,.string (⟨#[]⟩:ByteArray),.string (⟨#[]⟩:ByteArray),.slice none 0 0,.slice none 0 0] 25 (0,0)) (by (with_reducible repeat (first|refine au ?_ _|refine av ?_|refine ak ?_ _));exact BK420.out) k_ hk,Kd.dC (g:=gb422) (o:=.cells #[.int .i64 (wrap64 (1+(Int.tmod (wrap64 (rd l0 0)) 8))),.string (⟨#[]⟩:ByteArray),.string (⟨#[]⟩:ByteArray),.slice none 0 0,u423004] 25 (0,0)) (by (with_reducible repeat (first|refine au ?_ _|refine av ?_|refine ak ?_ _));exact BK422.out) k_ hk⟩) _ (Nat.le_refl _)) (Below.refl _ _) (Nat.le_refl _) (by simp) ?_;(case hd=>rfl);(case hg=>rfl);(case hr=>first|(go_simp;done)|(go_simp;rfl));(case hp=>exact (bI.c5 (show Kd.FK k25 _ _ (⟨t445,t446,t447,t448,t451⟩:S25) [.int .i64 t445,.string t446,.string t447,.slice Ao51 t448.length co51,.slice Ao52 t451.length co52] from (gX _ _ (⟨t445,t446,t447,t448,t451⟩:S25) (Kd.fo (Kd.dF (ok':=(fun k_=>(w.heap.size≤k_)∧some k_≠(u423004:Value).ownBlock∧k_≠gb420∧k_≠gb422)) (HO450.out) (fun k_ hk=>⟨hk.1,⟨hk.2.2.1,⟨hk.2.2.2.1,hk.2.2.2.2⟩⟩⟩))).2.1 (Kd.V_F (Kd.dF (ok':=(fun k_=>(w.heap.size≤k_)∧some k_≠(u423004:Value).ownBlock∧k_≠gb420∧k_≠gb422)) (HO450.out) (fun k_ hk=>⟨hk.1,⟨hk.2.2.1,⟨hk.2.2.2.1,hk.2.2.2.2⟩⟩⟩))) (Kd.bO (Kd.bH (ok':=(fun k_=>(w.heap.size≤k_)∧some k_≠(u423004:Value).ownBlock∧k_≠gb420∧k_≠gb422)) (HO453.out) (fun k_ hk=>⟨hk.1,⟨hk.2.1,⟨hk.2.2.1,hk.2.2.2⟩⟩⟩))).2.1 (Kd.N_F (Kd.bH (ok':=(fun k_=>(w.heap.size≤k_)∧some k_≠(u423004:Value).ownBlock∧k_≠gb420∧k_≠gb422)) (HO453.out) (fun k_ hk=>⟨hk.1,⟨hk.2.1,⟨hk.2.2.1,hk.2.2.2⟩⟩⟩))))) (bI.none _ _)));intro v455 w53 ho54 hb hg_ hnew_;clear hg_ hnew_;(first|rw [← Ny454.out] at ho54|(simp only [Int.reduceToNat] at ho54;rw [← Ny454.out] at ho54));have n0_:=aa.mk (Kd.cu (by (with_reducible repeat (first|apply Kd.aZ|apply Kd.aY|apply Kd.bn));exact HO_423004.out) (Kd.dE ho54) hb);have n1_:=aa.mk (Kd.dw (by (with_reducible repeat (first|apply Kd.cB|apply Kd.cz|apply Kd.dm));exact HO450.out) (Kd.dE ho54) hb);have n2_:=aa.mk (Kd.fw ho54 (aG (by repeat (first|(with_reducible first|exact HB.out|apply af|apply ae|apply ag|refine ah ?_ GE420.out|refine ah ?_ GE422.out)|exact HB.out))));have n3_:=aa.mk (aI (g:=gb420) (o:=.cells #[.int .i64 0,.string (⟨#[]⟩:ByteArray),.string (⟨#[]⟩:ByteArray),.slice none 0 0,.slice none 0 0] 25 (0,0)) (by (with_reducible repeat (first|refine au ?_ _|refine av ?_|refine ak ?_ _));exact BK420.out) hb);have n4_:=aa.mk (aI (g:=gb422) (o:=.cells #[.int .i64 (wrap64 (1+(Int.tmod (wrap64 (rd l0 0)) 8))),.string (⟨#[]⟩:ByteArray),.string (⟨#[]⟩:ByteArray),.slice none 0 0,u423004] 25 (0,0)) (by (with_reducible repeat (first|refine au ?_ _|refine av ?_|refine ak ?_ _));exact BK422.out) hb);have n5_:=aa.mk (aD (by repeat (first|(with_reducible first|exact HB.out|apply af|apply ae|apply ag|refine ah ?_ GE420.out|refine ah ?_ GE422.out)|exact HB.out)) hb);clear HO_423004;clear HO450;clear BK420;clear BK422;clear HB;clear HO453;have HO_423004:=n0_;have HO450:=n1_;have HO456:=n2_;have BK420:=n3_;have BK422:=n4_;have HB:=n5_;clear n0_ n1_ n2_ n3_ n4_ n5_;clear hb ho54;obtain ⟨Ao55,co55,eo55⟩:=Kd.dR HO456.out;subst eo55;have hcz56_0:w53.cell? ⟨gb422,0,none⟩=some (.int .i64 (wrap64 (1+(Int.tmod (wrap64 (rd l0 0)) 8)))):=(aj BK422.out 0).trans rfl;have hcz56_1:w53.cell? ⟨gb422,1,none⟩=some (.string (⟨#[]⟩:ByteArray)):=(aj BK422.out 1).trans rfl;have hcz56_2:w53.cell? ⟨gb422,2,none⟩=some (.string (⟨#[]⟩:ByteArray)):=(aj BK422.out 2).trans rfl;have hcz56_3:w53.cell? ⟨gb422,3,none⟩=some (.slice none 0 0):=(aj BK422.out 3).trans rfl;have hcz56_4:w53.cell? ⟨gb422,4,none⟩=some (u423004):=(aj BK422.out 4).trans rfl;have hfz56_0:=ai BK422.out 0;have hfz56_1:=ai BK422.out 1;have hfz56_2:=ai BK422.out 2;have hfz56_3:=ai BK422.out 3;have hfz56_4:=ai BK422.out 4;have hcz57_0:w53.cell? ⟨gb420,0,none⟩=some (.int .i64 0):=(aj BK420.out 0).trans rfl;have hcz57_1:w53.cell? ⟨gb420,1,none⟩=some (.string (⟨#[]⟩:ByteArray)):=(aj BK420.out 1).trans rfl;have hcz57_2:w53.cell? ⟨gb420,2,none⟩=some (.string (⟨#[]⟩:ByteArray)):=(aj BK420.out 2).trans rfl;have hcz57_3:w53.cell? ⟨gb420,3,none⟩=some (.slice none 0 0):=(aj BK420.out 3).trans rfl;have hcz57_4:w53.cell? ⟨gb420,4,none⟩=some (.slice none 0 0):=(aj BK420.out 4).trans rfl;have hfz57_0:=ai BK420.out 0;have hfz57_1:=ai BK420.out 1;have hfz57_2:=ai BK420.out 2;have hfz57_3:=ai BK420.out 3;have hfz57_4:=ai BK420.out 4))
                refine bodyPost_ret (results_cell_row rfl _ _ gb420 25 #[.int .i64 (wrap64 (1+(Int.tmod (wrap64 (rd l0 0)) 8))),.string (⟨#[]⟩:ByteArray),.string (⟨#[]⟩:ByteArray),.slice none 0 0,.slice Ao55 y454.length co55] (0,0) _ rfl (by (with_reducible repeat (first|refine au ?_ _|refine av ?_|refine ak ?_ _));refine bG (cs:=#[.int .i64 (wrap64 (1+(Int.tmod (wrap64 (rd l0 0)) 8))),.string (⟨#[]⟩:ByteArray),.string (⟨#[]⟩:ByteArray),.slice none 0 0,.slice none 0 0]) ?_ 4 _ (by first|rfl|(simp only [ay,ax];rfl)|simp [ay,ax]);(with_reducible repeat (first|refine au ?_ _|refine av ?_|refine ak ?_ _));refine bG (cs:=#[.int .i64 (wrap64 (1+(Int.tmod (wrap64 (rd l0 0)) 8))),.string (⟨#[]⟩:ByteArray),.string (⟨#[]⟩:ByteArray),.slice none 0 0,.slice none 0 0]) ?_ 3 _ (by first|rfl|(simp only [ay,ax];rfl)|simp [ay,ax]);(with_reducible repeat (first|refine au ?_ _|refine av ?_|refine ak ?_ _));refine bG (cs:=#[.int .i64 (wrap64 (1+(Int.tmod (wrap64 (rd l0 0)) 8))),.string (⟨#[]⟩:ByteArray),.string (⟨#[]⟩:ByteArray),.slice none 0 0,.slice none 0 0]) ?_ 2 _ (by first|rfl|(simp only [ay,ax];rfl)|simp [ay,ax]);(with_reducible repeat (first|refine au ?_ _|refine av ?_|refine ak ?_ _));refine bG (cs:=#[.int .i64 (wrap64 (1+(Int.tmod (wrap64 (rd l0 0)) 8))),.string (⟨#[]⟩:ByteArray),.string (⟨#[]⟩:ByteArray),.slice none 0 0,.slice none 0 0]) ?_ 1 _ (by first|rfl|(simp only [ay,ax];rfl)|simp [ay,ax]);(with_reducible repeat (first|refine au ?_ _|refine av ?_|refine ak ?_ _));refine bG (cs:=#[.int .i64 0,.string (⟨#[]⟩:ByteArray),.string (⟨#[]⟩:ByteArray),.slice none 0 0,.slice none 0 0]) ?_ 0 _ (by first|rfl|(simp only [ay,ax];rfl)|simp [ay,ax]);(with_reducible repeat (first|refine au ?_ _|refine av ?_|refine ak ?_ _));refine dB ?_ NB420_422.out _;(with_reducible repeat (first|refine au ?_ _|refine av ?_|refine ak ?_ _));exact BK420.out) Tryz.underlying25 rfl (by kernel_rfl)) rfl ?_
                exact ⟨_,_,by first|rfl|(simp [aM,aK] <;> rfl)|(simp only [← hji7,← hji10];first|rfl|(simp [aM,aK] <;> rfl))|(simp [*,aM,aK] <;> rfl),Kd.jw _ _ _ _ _,by (with_reducible repeat (first|apply Kd.aZ|apply Kd.aY|apply Kd.bn));exact Kd.bH (Kd.dQ (p:=⟨gb420,4,none⟩) (Kd.dQ (p:=⟨gb420,3,none⟩) (Kd.dQ (p:=⟨gb420,2,none⟩) (Kd.dQ (p:=⟨gb420,1,none⟩) (Kd.dQ (p:=⟨gb420,0,none⟩) (Kd.dQ (p:=⟨gb422,4,none⟩) (Kd.bH (Kd.bH HO456.out (fun k_ hk=>(⟨hk,hk.2.2.2⟩:_∧k_≠gb422))) (fun k_ hk=>(⟨hk,hk.1.2.2.1⟩:_∧k_≠gb420))) (fun _ hk=>hk.1.2) (.slice Ao55 y454.length co55)) (fun _ hk=>hk.2) (.int .i64 (wrap64 (1+(Int.tmod (wrap64 (rd l0 0)) 8))))) (fun _ hk=>hk.2) (.string (⟨#[]⟩:ByteArray))) (fun _ hk=>hk.2) (.string (⟨#[]⟩:ByteArray))) (fun _ hk=>hk.2) (.slice none 0 0)) (fun _ hk=>hk.2) (.slice Ao55 y454.length co55)) (fun _ hk=>hk.1.1.1),by repeat (first|(with_reducible first|exact HB.out|apply af|apply ae|apply ag|refine ah ?_ GE420.out|refine ah ?_ GE422.out)|exact HB.out)⟩
               ·rw [if_neg c45] at H
                exact absurd H (by simp)
              ·rw [if_neg c44] at H
               have c44b0:((wrap64 (1+(Int.tmod (wrap64 (rd l0 0)) 8))) == 3)=false:=beq_eq_false_iff_ne.mpr c44
               have c44b1:((wrap64 (1+(Int.tmod (wrap64 (rd l0 0)) 8))) != 3)=true:=bne_iff_ne.mpr c44
               simp only [Option.some.injEq,Prod.mk.injEq] at H
               obtain ⟨rfl,rfl,rfl,rfl,rfl⟩:=H
               have hnb58:=NB422_420.out
               have hnc58:=NB420_422.out
               have hcz59_0:wr.cell? ⟨gb422,0,none⟩=some (.int .i64 (wrap64 (1+(Int.tmod (wrap64 (rd l0 0)) 8)))):=(aj BK422.out 0).trans rfl
               have hcz59_1:wr.cell? ⟨gb422,1,none⟩=some (.string (⟨#[]⟩:ByteArray)):=(aj BK422.out 1).trans rfl
               have hcz59_2:wr.cell? ⟨gb422,2,none⟩=some (.string (⟨#[]⟩:ByteArray)):=(aj BK422.out 2).trans rfl
               have hcz59_3:wr.cell? ⟨gb422,3,none⟩=some (.slice none 0 0):=(aj BK422.out 3).trans rfl
               have hcz59_4:wr.cell? ⟨gb422,4,none⟩=some (u423004):=(aj BK422.out 4).trans rfl
               have hfz59_0:=ai BK422.out 0
               have hfz59_1:=ai BK422.out 1
               have hfz59_2:=ai BK422.out 2
               have hfz59_3:=ai BK422.out 3
               have hfz59_4:=ai BK422.out 4
               have hcz60_0:wr.cell? ⟨gb420,0,none⟩=some (.int .i64 0):=(aj BK420.out 0).trans rfl
               have hcz60_1:wr.cell? ⟨gb420,1,none⟩=some (.string (⟨#[]⟩:ByteArray)):=(aj BK420.out 1).trans rfl
               have hcz60_2:wr.cell? ⟨gb420,2,none⟩=some (.string (⟨#[]⟩:ByteArray)):=(aj BK420.out 2).trans rfl
               have hcz60_3:wr.cell? ⟨gb420,3,none⟩=some (.slice none 0 0):=(aj BK420.out 3).trans rfl
               have hcz60_4:wr.cell? ⟨gb420,4,none⟩=some (.slice none 0 0):=(aj BK420.out 4).trans rfl
               have hfz60_0:=ai BK420.out 0
               have hfz60_1:=ai BK420.out 1
               have hfz60_2:=ai BK420.out 2
               have hfz60_3:=ai BK420.out 3
               have hfz60_4:=ai BK420.out 4
               obtain ⟨Ao61,co61,eo61⟩:=Kd.dR HO_423004.out
               subst eo61
               go_wp2
               refine bodyPost_ret (results_cell_row rfl _ _ gb420 25 #[.int .i64 (wrap64 (1+(Int.tmod (wrap64 (rd l0 0)) 8))),.string (⟨#[]⟩:ByteArray),.string (⟨#[]⟩:ByteArray),.slice none 0 0,.slice Ao61 x423004_2.length co61] (0,0) _ rfl (by (with_reducible repeat (first|refine au ?_ _|refine av ?_|refine ak ?_ _));refine bG (cs:=#[.int .i64 (wrap64 (1+(Int.tmod (wrap64 (rd l0 0)) 8))),.string (⟨#[]⟩:ByteArray),.string (⟨#[]⟩:ByteArray),.slice none 0 0,.slice none 0 0]) ?_ 4 _ (by first|rfl|(simp only [ay,ax];rfl)|simp [ay,ax]);(with_reducible repeat (first|refine au ?_ _|refine av ?_|refine ak ?_ _));refine bG (cs:=#[.int .i64 (wrap64 (1+(Int.tmod (wrap64 (rd l0 0)) 8))),.string (⟨#[]⟩:ByteArray),.string (⟨#[]⟩:ByteArray),.slice none 0 0,.slice none 0 0]) ?_ 3 _ (by first|rfl|(simp only [ay,ax];rfl)|simp [ay,ax]);(with_reducible repeat (first|refine au ?_ _|refine av ?_|refine ak ?_ _));refine bG (cs:=#[.int .i64 (wrap64 (1+(Int.tmod (wrap64 (rd l0 0)) 8))),.string (⟨#[]⟩:ByteArray),.string (⟨#[]⟩:ByteArray),.slice none 0 0,.slice none 0 0]) ?_ 2 _ (by first|rfl|(simp only [ay,ax];rfl)|simp [ay,ax]);(with_reducible repeat (first|refine au ?_ _|refine av ?_|refine ak ?_ _));refine bG (cs:=#[.int .i64 (wrap64 (1+(Int.tmod (wrap64 (rd l0 0)) 8))),.string (⟨#[]⟩:ByteArray),.string (⟨#[]⟩:ByteArray),.slice none 0 0,.slice none 0 0]) ?_ 1 _ (by first|rfl|(simp only [ay,ax];rfl)|simp [ay,ax]);(with_reducible repeat (first|refine au ?_ _|refine av ?_|refine ak ?_ _));refine bG (cs:=#[.int .i64 0,.string (⟨#[]⟩:ByteArray),.string (⟨#[]⟩:ByteArray),.slice none 0 0,.slice none 0 0]) ?_ 0 _ (by first|rfl|(simp only [ay,ax];rfl)|simp [ay,ax]);(with_reducible repeat (first|refine au ?_ _|refine av ?_|refine ak ?_ _));exact BK420.out) Tryz.underlying25 rfl (by kernel_rfl)) rfl ?_
               exact ⟨_,_,by first|rfl|(simp [aM,aK] <;> rfl)|(simp only [← hji7,← hji10];first|rfl|(simp [aM,aK] <;> rfl))|(simp [*,aM,aK] <;> rfl),Kd.jw _ _ _ _ _,by (with_reducible repeat (first|apply Kd.aZ|apply Kd.aY|apply Kd.bn));exact Kd.bH (Kd.dQ (p:=⟨gb420,4,none⟩) (Kd.dQ (p:=⟨gb420,3,none⟩) (Kd.dQ (p:=⟨gb420,2,none⟩) (Kd.dQ (p:=⟨gb420,1,none⟩) (Kd.dQ (p:=⟨gb420,0,none⟩) (Kd.bH HO_423004.out (fun k_ hk=>(⟨hk,hk.2.1⟩:_∧k_≠gb420))) (fun _ hk=>hk.2) (.int .i64 (wrap64 (1+(Int.tmod (wrap64 (rd l0 0)) 8))))) (fun _ hk=>hk.2) (.string (⟨#[]⟩:ByteArray))) (fun _ hk=>hk.2) (.string (⟨#[]⟩:ByteArray))) (fun _ hk=>hk.2) (.slice none 0 0)) (fun _ hk=>hk.2) (.slice Ao61 x423004_2.length co61)) (fun _ hk=>hk.1.1),by repeat (first|(with_reducible first|exact HB.out|apply af|apply ae|apply ag|refine ah ?_ GE420.out|refine ah ?_ GE422.out)|exact HB.out)⟩
            ·rw [if_neg c28] at H
             have c28b0:decide (x9_2 < (l0.length:Int))=false:=decide_eq_false c28
             clear c28
             by_cases c62:(wrap64 (1+(Int.tmod (wrap64 (rd l0 0)) 8)))=3
             ·rw [if_pos c62] at H
              have c62b0:((wrap64 (1+(Int.tmod (wrap64 (rd l0 0)) 8))) == 3)=true:=beq_iff_eq.mpr c62
              have c62b1:((wrap64 (1+(Int.tmod (wrap64 (rd l0 0)) 8))) != 3)=false:=bne_eq_false_iff_eq.mpr c62
              clear c62
              by_cases c63:1≤(l0.length:Int)
              ·rw [if_pos c63] at H
               have c63b0:=eq_true c63
               have c63b1:decide (1≤(l0.length:Int))=true:=decide_eq_true c63
               clear c63
               replace H:=Option.bind_eq_some_iff.mp H
               obtain ⟨⟨t458,t459,t460,t461,t464⟩,A640,H⟩:=H
               replace H:(some ((wrap64 (1+(Int.tmod (wrap64 (rd l0 0)) 8))),(⟨#[]⟩:ByteArray),(⟨#[]⟩:ByteArray),([]:List ByteArray),(([(⟨t458,t459,t460,t461,t464⟩:S25)]:List (S25)))))=some (r1,r2,r3,r4,r5):=H
               have A64:=aa.mk A640
               clear A640
               obtain ⟨y467,hy467⟩:∃ y_:List (S25),y_=(([(⟨t458,t459,t460,t461,t464⟩:S25)]:List (S25))):=⟨_,rfl⟩
               replace H:(some ((wrap64 (1+(Int.tmod (wrap64 (rd l0 0)) 8))),(⟨#[]⟩:ByteArray),(⟨#[]⟩:ByteArray),([]:List ByteArray),y467))=some (r1,r2,r3,r4,r5):=by first|(rw [hy467];with_reducible exact H)|(have H2_:=(Option.bind_some _ _).symm.trans H;rw [hy467];with_reducible exact H2_)|(have H2_:=(Option.bind_some _ _).symm.trans H;with_reducible exact H2_)|with_reducible exact H|(rw [hy467];exact H)|exact H
               have Ny467:=aa.mk hy467
               clear hy467
               simp only [Option.some.injEq,Prod.mk.injEq] at H
               obtain ⟨rfl,rfl,rfl,rfl,rfl⟩:=H
               have hnb65:=NB422_420.out
               have hnc65:=NB420_422.out
               have hcz66_0:wr.cell? ⟨gb422,0,none⟩=some (.int .i64 (wrap64 (1+(Int.tmod (wrap64 (rd l0 0)) 8)))):=(aj BK422.out 0).trans rfl
               have hcz66_1:wr.cell? ⟨gb422,1,none⟩=some (.string (⟨#[]⟩:ByteArray)):=(aj BK422.out 1).trans rfl
               have hcz66_2:wr.cell? ⟨gb422,2,none⟩=some (.string (⟨#[]⟩:ByteArray)):=(aj BK422.out 2).trans rfl
               have hcz66_3:wr.cell? ⟨gb422,3,none⟩=some (.slice none 0 0):=(aj BK422.out 3).trans rfl
               have hcz66_4:wr.cell? ⟨gb422,4,none⟩=some (u423004):=(aj BK422.out 4).trans rfl
               have hfz66_0:=ai BK422.out 0
               have hfz66_1:=ai BK422.out 1
               have hfz66_2:=ai BK422.out 2
               have hfz66_3:=ai BK422.out 3
               have hfz66_4:=ai BK422.out 4
               obtain ⟨i067,hi067,_,hsz67,_⟩:=info_parts info5
               obtain ⟨A67,hcut67,hA67,hC67⟩:=kU (P:=Tryz.prog) (Value.int .u8) 0 34 5 .i64 Tryz.underlying34 hi067 hsz67 (some ad421) c0 l0 1 (by omega) (of_decide_eq_true (by first|(with_reducible assumption)|assumption)) HC0.out
               have HR457:=aa.mk (Kd.jB (h1:=fun _=>rfl) (hA67 _ (Kd.gN HR0.out)))
               have HC457:=aa.mk hC67
               clear hA67 hC67 hi067 hsz67
               go_wp2_with (first|((with_reducible refine aV (f:=16) rfl ?_);refine bJ (some 82) rfl rfl Tryz.func16 (by kernel_rfl) rfl #[.slice A67 (l0.drop 1).length (c0 - 1),.string a1] rfl (by (try simp only [List.map_toArray,List.map_cons,List.map_nil]);first|done|(rw [show (l0.drop 1).length=(l0.length - 1) from List.length_drop] <;> rfl)|rfl|(simp only [List.length_drop,List.length_take];rfl)) ?_;(with_reducible refine (ih k2 (by have:=HJ12.out;have:=HK2.out;omega) _ _ (l0.drop 1) a1 t458 t459 t460 t461 t464 _ ?side1 ?side2 A64.out).mono ?_);(case side1=>repeat (first|exact (Kd.bf HR457.out HB.out)|(with_reducible refine Kd.aN ?_ _)|(with_reducible refine Kd.aQ ?_ _)|(with_reducible refine Kd.aW ?_)));(case side2=>exact HC457.out);rintro e w68 ⟨v462,v465,rfl,ho0,ho1,hb⟩;refine ⟨_,rfl,?_⟩;have n0_:=aa.mk (Kd.cu (by (with_reducible repeat (first|apply Kd.aZ|apply Kd.aY|apply Kd.bn));exact HO_423004.out) (Kd.dE ho1) hb);have n1_:=aa.mk (Kd.kR (Kd.dF (ok':=fun k_=>(w.heap.size≤k_)∧some k_≠(v465:Value).ownBlock∧some k_≠(u423004:Value).ownBlock∧k_≠gb420∧k_≠gb422) ho0 (fun k_ hk_=>⟨(Nat.le_trans (aG (by repeat (first|(with_reducible first|exact HB.out|apply af|apply ae|apply ag|refine ah ?_ GE420.out|refine ah ?_ GE422.out)|exact HB.out))) hk_.1),hk_.2,(Kd.fresh' (Kd.gM (by (with_reducible repeat (first|apply Kd.aZ|apply Kd.aY|apply Kd.bn));exact HO_423004.out)) k_ hk_.1),(Kd.dC (g:=gb420) (o:=.cells #[.int .i64 0,.string (⟨#[]⟩:ByteArray),.string (⟨#[]⟩:ByteArray),.slice none 0 0,.slice none 0 0] 25 (0,0)) (by (with_reducible repeat (first|refine au ?_ _|refine av ?_|refine ak ?_ _));exact BK420.out) k_ hk_.1),(Kd.dC (g:=gb422) (o:=.cells #[.int .i64 (wrap64 (1+(Int.tmod (wrap64 (rd l0 0)) 8))),.string (⟨#[]⟩:ByteArray),.string (⟨#[]⟩:ByteArray),.slice none 0 0,u423004] 25 (0,0)) (by (with_reducible repeat (first|refine au ?_ _|refine av ?_|refine ak ?_ _));exact BK422.out) k_ hk_.1)⟩)) (aG (by repeat (first|(with_reducible first|exact HB.out|apply af|apply ae|apply ag|refine ah ?_ GE420.out|refine ah ?_ GE422.out)|exact HB.out))));have n2_:=aa.mk (Kd.fw (Kd.bH (ok':=fun k_=>(w.heap.size≤k_)∧some k_≠(u423004:Value).ownBlock∧k_≠gb420∧k_≠gb422) ho1 (fun k_ hk_=>⟨(Nat.le_trans (aG (by repeat (first|(with_reducible first|exact HB.out|apply af|apply ae|apply ag|refine ah ?_ GE420.out|refine ah ?_ GE422.out)|exact HB.out))) hk_),(Kd.fresh' (Kd.gM (by (with_reducible repeat (first|apply Kd.aZ|apply Kd.aY|apply Kd.bn));exact HO_423004.out)) k_ hk_),(Kd.dC (g:=gb420) (o:=.cells #[.int .i64 0,.string (⟨#[]⟩:ByteArray),.string (⟨#[]⟩:ByteArray),.slice none 0 0,.slice none 0 0] 25 (0,0)) (by (with_reducible repeat (first|refine au ?_ _|refine av ?_|refine ak ?_ _));exact BK420.out) k_ hk_),(Kd.dC (g:=gb422) (o:=.cells #[.int .i64 (wrap64 (1+(Int.tmod (wrap64 (rd l0 0)) 8))),.string (⟨#[]⟩:ByteArray),.string (⟨#[]⟩:ByteArray),.slice none 0 0,u423004] 25 (0,0)) (by (with_reducible repeat (first|refine au ?_ _|refine av ?_|refine ak ?_ _));exact BK422.out) k_ hk_)⟩)) (aG (by repeat (first|(with_reducible first|exact HB.out|apply af|apply ae|apply ag|refine ah ?_ GE420.out|refine ah ?_ GE422.out)|exact HB.out))));have n3_:=aa.mk (aI (g:=gb420) (o:=.cells #[.int .i64 0,.string (⟨#[]⟩:ByteArray),.string (⟨#[]⟩:ByteArray),.slice none 0 0,.slice none 0 0] 25 (0,0)) (by (with_reducible repeat (first|refine au ?_ _|refine av ?_|refine ak ?_ _));exact BK420.out) hb);have n4_:=aa.mk (aI (g:=gb422) (o:=.cells #[.int .i64 (wrap64 (1+(Int.tmod (wrap64 (rd l0 0)) 8))),.string (⟨#[]⟩:ByteArray),.string (⟨#[]⟩:ByteArray),.slice none 0 0,u423004] 25 (0,0)) (by (with_reducible repeat (first|refine au ?_ _|refine av ?_|refine ak ?_ _));exact BK422.out) hb);have n5_:=aa.mk (aD (by repeat (first|(with_reducible first|exact HB.out|apply af|apply ae|apply ag|refine ah ?_ GE420.out|refine ah ?_ GE422.out)|exact HB.out)) hb);clear HO_423004;clear BK420;clear BK422;clear HB;have HO_423004:=n0_;have HO463:=n1_;have HO466:=n2_;have BK420:=n3_;have BK422:=n4_;have HB:=n5_;clear n0_ n1_ n2_ n3_ n4_ n5_;(try clear hb);(try clear hb2);(try clear hk);(try clear hi);(try clear ho0);(try clear ho1);obtain ⟨Ao69,co69,eo69⟩:=Kd.kJ HO463.out;subst eo69;obtain ⟨Ao70,co70,eo70⟩:=Kd.dR HO466.out;subst eo70)|((with_reducible refine bS (N:=83) rfl ?_);refine Kd.mD k25 _ 25 ?hg (N':=83) ?hd (xs:=([(⟨t458,t459,t460,t461,t464⟩:S25)]:List (S25))) (inner:=[.int .i64 t458,.string t459,.string t460,.slice Ao69 t461.length co69,.slice Ao70 t464.length co70]) (ok:=(fun k_=>(w.heap.size≤k_)∧some k_≠(u423004:Value).ownBlock∧k_≠gb420∧k_≠gb422)) (okp:=(fun k_=>(w.heap.size≤k_)∧some k_≠(u423004:Value).ownBlock∧k_≠gb420∧k_≠gb422)) ?hr ?hp (fun _ hk=>hk) ((show ∀ k_,w68.heap.size≤k_→(fun k_=>(w.heap.size≤k_)∧some k_≠(u423004:Value).ownBlock∧k_≠gb420∧k_≠gb422) k_ from fun k_ hk=>⟨(Nat.le_trans (aG (by repeat (first|(with_reducible first|exact HB.out|apply af|apply ae|apply ag|refine ah ?_ GE420.out|refine ah ?_ GE422.out)|exact HB.out))) hk),Kd.fresh' (Kd.gM (by (with_reducible repeat (first|apply Kd.aZ|apply Kd.aY|apply Kd.bn));exact HO_423004.out)) k_ hk,Kd.dC (g:=gb420) (o:=.cells #[.int .i64 0,.string (⟨#[]⟩:ByteArray),.string (⟨#[]⟩:ByteArray),.slice none 0 0,.slice none 0 0] 25 (0,0)) (by (with_reducible repeat (first|refine au ?_ _|refine av ?_|refine ak ?_ _));exact BK420.out) k_ hk,Kd.dC (g:=gb422) (o:=.cells #[.int .i64 (wrap64 (1+(Int.tmod (wrap64 (rd l0 0)) 8))),.string (⟨#[]⟩:ByteArray),.string (⟨#[]⟩:ByteArray),.slice none 0 0,u423004] 25 (0,0)) (by (with_reducible repeat (first|refine au ?_ _|refine av ?_|refine ak ?_ _));exact BK422.out) k_ hk⟩) _ (Nat.le_refl _)) (Below.refl _ _) (Nat.le_refl _) (by simp) ?_;(case hd=>rfl);(case hg=>rfl);(case hr=>first|(go_simp;done)|(go_simp;rfl));(case hp=>exact (bI.c5 (show Kd.FK k25 _ _ (⟨t458,t459,t460,t461,t464⟩:S25) [.int .i64 t458,.string t459,.string t460,.slice Ao69 t461.length co69,.slice Ao70 t464.length co70] from (gX _ _ (⟨t458,t459,t460,t461,t464⟩:S25) (Kd.fo (Kd.dF (ok':=(fun k_=>(w.heap.size≤k_)∧some k_≠(u423004:Value).ownBlock∧k_≠gb420∧k_≠gb422)) (HO463.out) (fun k_ hk=>⟨hk.1,⟨hk.2.2.1,⟨hk.2.2.2.1,hk.2.2.2.2⟩⟩⟩))).2.1 (Kd.V_F (Kd.dF (ok':=(fun k_=>(w.heap.size≤k_)∧some k_≠(u423004:Value).ownBlock∧k_≠gb420∧k_≠gb422)) (HO463.out) (fun k_ hk=>⟨hk.1,⟨hk.2.2.1,⟨hk.2.2.2.1,hk.2.2.2.2⟩⟩⟩))) (Kd.bO (Kd.bH (ok':=(fun k_=>(w.heap.size≤k_)∧some k_≠(u423004:Value).ownBlock∧k_≠gb420∧k_≠gb422)) (HO466.out) (fun k_ hk=>⟨hk.1,⟨hk.2.1,⟨hk.2.2.1,hk.2.2.2⟩⟩⟩))).2.1 (Kd.N_F (Kd.bH (ok':=(fun k_=>(w.heap.size≤k_)∧some k_≠(u423004:Value).ownBlock∧k_≠gb420∧k_≠gb422)) (HO466.out) (fun k_ hk=>⟨hk.1,⟨hk.2.1,⟨hk.2.2.1,hk.2.2.2⟩⟩⟩))))) (bI.none _ _)));intro v468 w71 ho72 hb hg_ hnew_;clear hg_ hnew_;(first|rw [← Ny467.out] at ho72|(simp only [Int.reduceToNat] at ho72;rw [← Ny467.out] at ho72));have n0_:=aa.mk (Kd.cu (by (with_reducible repeat (first|apply Kd.aZ|apply Kd.aY|apply Kd.bn));exact HO_423004.out) (Kd.dE ho72) hb);have n1_:=aa.mk (Kd.dw (by (with_reducible repeat (first|apply Kd.cB|apply Kd.cz|apply Kd.dm));exact HO463.out) (Kd.dE ho72) hb);have n2_:=aa.mk (Kd.fw ho72 (aG (by repeat (first|(with_reducible first|exact HB.out|apply af|apply ae|apply ag|refine ah ?_ GE420.out|refine ah ?_ GE422.out)|exact HB.out))));have n3_:=aa.mk (aI (g:=gb420) (o:=.cells #[.int .i64 0,.string (⟨#[]⟩:ByteArray),.string (⟨#[]⟩:ByteArray),.slice none 0 0,.slice none 0 0] 25 (0,0)) (by (with_reducible repeat (first|refine au ?_ _|refine av ?_|refine ak ?_ _));exact BK420.out) hb);have n4_:=aa.mk (aI (g:=gb422) (o:=.cells #[.int .i64 (wrap64 (1+(Int.tmod (wrap64 (rd l0 0)) 8))),.string (⟨#[]⟩:ByteArray),.string (⟨#[]⟩:ByteArray),.slice none 0 0,u423004] 25 (0,0)) (by (with_reducible repeat (first|refine au ?_ _|refine av ?_|refine ak ?_ _));exact BK422.out) hb);have n5_:=aa.mk (aD (by repeat (first|(with_reducible first|exact HB.out|apply af|apply ae|apply ag|refine ah ?_ GE420.out|refine ah ?_ GE422.out)|exact HB.out)) hb);clear HO_423004;clear HO463;clear BK420;clear BK422;clear HB;clear HO466;have HO_423004:=n0_;have HO463:=n1_;have HO469:=n2_;have BK420:=n3_;have BK422:=n4_;have HB:=n5_;clear n0_ n1_ n2_ n3_ n4_ n5_;clear hb ho72;obtain ⟨Ao73,co73,eo73⟩:=Kd.dR HO469.out;subst eo73;have hcz74_0:w71.cell? ⟨gb422,0,none⟩=some (.int .i64 (wrap64 (1+(Int.tmod (wrap64 (rd l0 0)) 8)))):=(aj BK422.out 0).trans rfl;have hcz74_1:w71.cell? ⟨gb422,1,none⟩=some (.string (⟨#[]⟩:ByteArray)):=(aj BK422.out 1).trans rfl;have hcz74_2:w71.cell? ⟨gb422,2,none⟩=some (.string (⟨#[]⟩:ByteArray)):=(aj BK422.out 2).trans rfl;have hcz74_3:w71.cell? ⟨gb422,3,none⟩=some (.slice none 0 0):=(aj BK422.out 3).trans rfl;have hcz74_4:w71.cell? ⟨gb422,4,none⟩=some (u423004):=(aj BK422.out 4).trans rfl;have hfz74_0:=ai BK422.out 0;have hfz74_1:=ai BK422.out 1;have hfz74_2:=ai BK422.out 2;have hfz74_3:=ai BK422.out 3;have hfz74_4:=ai BK422.out 4;have hcz75_0:w71.cell? ⟨gb420,0,none⟩=some (.int .i64 0):=(aj BK420.out 0).trans rfl;have hcz75_1:w71.cell? ⟨gb420,1,none⟩=some (.string (⟨#[]⟩:ByteArray)):=(aj BK420.out 1).trans rfl;have hcz75_2:w71.cell? ⟨gb420,2,none⟩=some (.string (⟨#[]⟩:ByteArray)):=(aj BK420.out 2).trans rfl;have hcz75_3:w71.cell? ⟨gb420,3,none⟩=some (.slice none 0 0):=(aj BK420.out 3).trans rfl;have hcz75_4:w71.cell? ⟨gb420,4,none⟩=some (.slice none 0 0):=(aj BK420.out 4).trans rfl;have hfz75_0:=ai BK420.out 0;have hfz75_1:=ai BK420.out 1;have hfz75_2:=ai BK420.out 2;have hfz75_3:=ai BK420.out 3;have hfz75_4:=ai BK420.out 4))
               refine bodyPost_ret (results_cell_row rfl _ _ gb420 25 #[.int .i64 (wrap64 (1+(Int.tmod (wrap64 (rd l0 0)) 8))),.string (⟨#[]⟩:ByteArray),.string (⟨#[]⟩:ByteArray),.slice none 0 0,.slice Ao73 y467.length co73] (0,0) _ rfl (by (with_reducible repeat (first|refine au ?_ _|refine av ?_|refine ak ?_ _));refine bG (cs:=#[.int .i64 (wrap64 (1+(Int.tmod (wrap64 (rd l0 0)) 8))),.string (⟨#[]⟩:ByteArray),.string (⟨#[]⟩:ByteArray),.slice none 0 0,.slice none 0 0]) ?_ 4 _ (by first|rfl|(simp only [ay,ax];rfl)|simp [ay,ax]);(with_reducible repeat (first|refine au ?_ _|refine av ?_|refine ak ?_ _));refine bG (cs:=#[.int .i64 (wrap64 (1+(Int.tmod (wrap64 (rd l0 0)) 8))),.string (⟨#[]⟩:ByteArray),.string (⟨#[]⟩:ByteArray),.slice none 0 0,.slice none 0 0]) ?_ 3 _ (by first|rfl|(simp only [ay,ax];rfl)|simp [ay,ax]);(with_reducible repeat (first|refine au ?_ _|refine av ?_|refine ak ?_ _));refine bG (cs:=#[.int .i64 (wrap64 (1+(Int.tmod (wrap64 (rd l0 0)) 8))),.string (⟨#[]⟩:ByteArray),.string (⟨#[]⟩:ByteArray),.slice none 0 0,.slice none 0 0]) ?_ 2 _ (by first|rfl|(simp only [ay,ax];rfl)|simp [ay,ax]);(with_reducible repeat (first|refine au ?_ _|refine av ?_|refine ak ?_ _));refine bG (cs:=#[.int .i64 (wrap64 (1+(Int.tmod (wrap64 (rd l0 0)) 8))),.string (⟨#[]⟩:ByteArray),.string (⟨#[]⟩:ByteArray),.slice none 0 0,.slice none 0 0]) ?_ 1 _ (by first|rfl|(simp only [ay,ax];rfl)|simp [ay,ax]);(with_reducible repeat (first|refine au ?_ _|refine av ?_|refine ak ?_ _));refine bG (cs:=#[.int .i64 0,.string (⟨#[]⟩:ByteArray),.string (⟨#[]⟩:ByteArray),.slice none 0 0,.slice none 0 0]) ?_ 0 _ (by first|rfl|(simp only [ay,ax];rfl)|simp [ay,ax]);(with_reducible repeat (first|refine au ?_ _|refine av ?_|refine ak ?_ _));refine dB ?_ NB420_422.out _;(with_reducible repeat (first|refine au ?_ _|refine av ?_|refine ak ?_ _));exact BK420.out) Tryz.underlying25 rfl (by kernel_rfl)) rfl ?_
               exact ⟨_,_,by first|rfl|(simp [aM,aK] <;> rfl)|(simp only [← hji7,← hji10];first|rfl|(simp [aM,aK] <;> rfl))|(simp [*,aM,aK] <;> rfl),Kd.jw _ _ _ _ _,by (with_reducible repeat (first|apply Kd.aZ|apply Kd.aY|apply Kd.bn));exact Kd.bH (Kd.dQ (p:=⟨gb420,4,none⟩) (Kd.dQ (p:=⟨gb420,3,none⟩) (Kd.dQ (p:=⟨gb420,2,none⟩) (Kd.dQ (p:=⟨gb420,1,none⟩) (Kd.dQ (p:=⟨gb420,0,none⟩) (Kd.dQ (p:=⟨gb422,4,none⟩) (Kd.bH (Kd.bH HO469.out (fun k_ hk=>(⟨hk,hk.2.2.2⟩:_∧k_≠gb422))) (fun k_ hk=>(⟨hk,hk.1.2.2.1⟩:_∧k_≠gb420))) (fun _ hk=>hk.1.2) (.slice Ao73 y467.length co73)) (fun _ hk=>hk.2) (.int .i64 (wrap64 (1+(Int.tmod (wrap64 (rd l0 0)) 8))))) (fun _ hk=>hk.2) (.string (⟨#[]⟩:ByteArray))) (fun _ hk=>hk.2) (.string (⟨#[]⟩:ByteArray))) (fun _ hk=>hk.2) (.slice none 0 0)) (fun _ hk=>hk.2) (.slice Ao73 y467.length co73)) (fun _ hk=>hk.1.1.1),by repeat (first|(with_reducible first|exact HB.out|apply af|apply ae|apply ag|refine ah ?_ GE420.out|refine ah ?_ GE422.out)|exact HB.out)⟩
              ·rw [if_neg c63] at H
               exact absurd H (by simp)
             ·rw [if_neg c62] at H
              have c62b0:((wrap64 (1+(Int.tmod (wrap64 (rd l0 0)) 8))) == 3)=false:=beq_eq_false_iff_ne.mpr c62
              have c62b1:((wrap64 (1+(Int.tmod (wrap64 (rd l0 0)) 8))) != 3)=true:=bne_iff_ne.mpr c62
              simp only [Option.some.injEq,Prod.mk.injEq] at H
              obtain ⟨rfl,rfl,rfl,rfl,rfl⟩:=H
              have hnb76:=NB422_420.out
              have hnc76:=NB420_422.out
              have hcz77_0:wr.cell? ⟨gb422,0,none⟩=some (.int .i64 (wrap64 (1+(Int.tmod (wrap64 (rd l0 0)) 8)))):=(aj BK422.out 0).trans rfl
              have hcz77_1:wr.cell? ⟨gb422,1,none⟩=some (.string (⟨#[]⟩:ByteArray)):=(aj BK422.out 1).trans rfl
              have hcz77_2:wr.cell? ⟨gb422,2,none⟩=some (.string (⟨#[]⟩:ByteArray)):=(aj BK422.out 2).trans rfl
              have hcz77_3:wr.cell? ⟨gb422,3,none⟩=some (.slice none 0 0):=(aj BK422.out 3).trans rfl
              have hcz77_4:wr.cell? ⟨gb422,4,none⟩=some (u423004):=(aj BK422.out 4).trans rfl
              have hfz77_0:=ai BK422.out 0
              have hfz77_1:=ai BK422.out 1
              have hfz77_2:=ai BK422.out 2
              have hfz77_3:=ai BK422.out 3
              have hfz77_4:=ai BK422.out 4
              have hcz78_0:wr.cell? ⟨gb420,0,none⟩=some (.int .i64 0):=(aj BK420.out 0).trans rfl
              have hcz78_1:wr.cell? ⟨gb420,1,none⟩=some (.string (⟨#[]⟩:ByteArray)):=(aj BK420.out 1).trans rfl
              have hcz78_2:wr.cell? ⟨gb420,2,none⟩=some (.string (⟨#[]⟩:ByteArray)):=(aj BK420.out 2).trans rfl
              have hcz78_3:wr.cell? ⟨gb420,3,none⟩=some (.slice none 0 0):=(aj BK420.out 3).trans rfl
              have hcz78_4:wr.cell? ⟨gb420,4,none⟩=some (.slice none 0 0):=(aj BK420.out 4).trans rfl
              have hfz78_0:=ai BK420.out 0
              have hfz78_1:=ai BK420.out 1
              have hfz78_2:=ai BK420.out 2
              have hfz78_3:=ai BK420.out 3
              have hfz78_4:=ai BK420.out 4
              obtain ⟨Ao79,co79,eo79⟩:=Kd.dR HO_423004.out
              subst eo79
              go_wp2
              refine bodyPost_ret (results_cell_row rfl _ _ gb420 25 #[.int .i64 (wrap64 (1+(Int.tmod (wrap64 (rd l0 0)) 8))),.string (⟨#[]⟩:ByteArray),.string (⟨#[]⟩:ByteArray),.slice none 0 0,.slice Ao79 x423004_2.length co79] (0,0) _ rfl (by (with_reducible repeat (first|refine au ?_ _|refine av ?_|refine ak ?_ _));refine bG (cs:=#[.int .i64 (wrap64 (1+(Int.tmod (wrap64 (rd l0 0)) 8))),.string (⟨#[]⟩:ByteArray),.string (⟨#[]⟩:ByteArray),.slice none 0 0,.slice none 0 0]) ?_ 4 _ (by first|rfl|(simp only [ay,ax];rfl)|simp [ay,ax]);(with_reducible repeat (first|refine au ?_ _|refine av ?_|refine ak ?_ _));refine bG (cs:=#[.int .i64 (wrap64 (1+(Int.tmod (wrap64 (rd l0 0)) 8))),.string (⟨#[]⟩:ByteArray),.string (⟨#[]⟩:ByteArray),.slice none 0 0,.slice none 0 0]) ?_ 3 _ (by first|rfl|(simp only [ay,ax];rfl)|simp [ay,ax]);(with_reducible repeat (first|refine au ?_ _|refine av ?_|refine ak ?_ _));refine bG (cs:=#[.int .i64 (wrap64 (1+(Int.tmod (wrap64 (rd l0 0)) 8))),.string (⟨#[]⟩:ByteArray),.string (⟨#[]⟩:ByteArray),.slice none 0 0,.slice none 0 0]) ?_ 2 _ (by first|rfl|(simp only [ay,ax];rfl)|simp [ay,ax]);(with_reducible repeat (first|refine au ?_ _|refine av ?_|refine ak ?_ _));refine bG (cs:=#[.int .i64 (wrap64 (1+(Int.tmod (wrap64 (rd l0 0)) 8))),.string (⟨#[]⟩:ByteArray),.string (⟨#[]⟩:ByteArray),.slice none 0 0,.slice none 0 0]) ?_ 1 _ (by first|rfl|(simp only [ay,ax];rfl)|simp [ay,ax]);(with_reducible repeat (first|refine au ?_ _|refine av ?_|refine ak ?_ _));refine bG (cs:=#[.int .i64 0,.string (⟨#[]⟩:ByteArray),.string (⟨#[]⟩:ByteArray),.slice none 0 0,.slice none 0 0]) ?_ 0 _ (by first|rfl|(simp only [ay,ax];rfl)|simp [ay,ax]);(with_reducible repeat (first|refine au ?_ _|refine av ?_|refine ak ?_ _));exact BK420.out) Tryz.underlying25 rfl (by kernel_rfl)) rfl ?_
              exact ⟨_,_,by first|rfl|(simp [aM,aK] <;> rfl)|(simp only [← hji7,← hji10];first|rfl|(simp [aM,aK] <;> rfl))|(simp [*,aM,aK] <;> rfl),Kd.jw _ _ _ _ _,by (with_reducible repeat (first|apply Kd.aZ|apply Kd.aY|apply Kd.bn));exact Kd.bH (Kd.dQ (p:=⟨gb420,4,none⟩) (Kd.dQ (p:=⟨gb420,3,none⟩) (Kd.dQ (p:=⟨gb420,2,none⟩) (Kd.dQ (p:=⟨gb420,1,none⟩) (Kd.dQ (p:=⟨gb420,0,none⟩) (Kd.bH HO_423004.out (fun k_ hk=>(⟨hk,hk.2.1⟩:_∧k_≠gb420))) (fun _ hk=>hk.2) (.int .i64 (wrap64 (1+(Int.tmod (wrap64 (rd l0 0)) 8))))) (fun _ hk=>hk.2) (.string (⟨#[]⟩:ByteArray))) (fun _ hk=>hk.2) (.string (⟨#[]⟩:ByteArray))) (fun _ hk=>hk.2) (.slice none 0 0)) (fun _ hk=>hk.2) (.slice Ao79 x423004_2.length co79)) (fun _ hk=>hk.1.1),by repeat (first|(with_reducible first|exact HB.out|apply af|apply ae|apply ag|refine ah ?_ GE420.out|refine ah ?_ GE422.out)|exact HB.out)⟩
         ·replace c27:=Bool.eq_false_iff.mpr c27
          subst c27
          have H1:(if (wrap64 (1+(Int.tmod (wrap64 (rd l0 0)) 8)))=8 then (some ((wrap64 (1+(Int.tmod (wrap64 (rd l0 0)) 8))),(bE ByteArray.empty y423 (ji7)),(⟨#[]⟩:ByteArray),([]:List ByteArray),([]:List (S25)))) else (if (wrap64 (1+(Int.tmod (wrap64 (rd l0 0)) 8)))=5 then (if a1.size+1≤9223372036854775807 then ((some (([(([(⟨#[110]⟩:ByteArray),(⟨#[]⟩:ByteArray)]:List ByteArray)),(([(⟨#[]⟩:ByteArray),(⟨#[49]⟩:ByteArray)]:List ByteArray)),(([(⟨#[]⟩:ByteArray),a1++(⟨#[101]⟩:ByteArray),(⟨#[]⟩:ByteArray)]:List ByteArray)),(([(⟨#[68]⟩:ByteArray),(⟨#[32]⟩:ByteArray),(⟨#[53]⟩:ByteArray)]:List ByteArray))]:List (List ByteArray)):List (List ByteArray))).bind fun y482=>(if 0≤(Int.tmod (wrap64 (Int.tdiv (wrap64 (rd l0 0)) 48)) 4) then (if (Int.tmod (wrap64 (Int.tdiv (wrap64 (rd l0 0)) 48)) 4) < (y482.length:Int) then (some ((wrap64 (1+(Int.tmod (wrap64 (rd l0 0)) 8))),(bE ByteArray.empty y423 (ji7)),(⟨#[]⟩:ByteArray),gZ y482 (Int.tmod (wrap64 (Int.tdiv (wrap64 (rd l0 0)) 48)) 4),([]:List (S25)))) else (none)) else (none))) else (none)) else (some ((wrap64 (1+(Int.tmod (wrap64 (rd l0 0)) 8))),(bE ByteArray.empty y423 (ji7)),(bE ByteArray.empty y427 (ji10)),([]:List ByteArray),([]:List (S25))))))=some (r1,r2,r3,r4,r5):=by rw [if_neg (show ¬ (false=true) by decide)] at H;exact H
          clear H
          have H:=H1
          clear H1
          by_cases c80:(wrap64 (1+(Int.tmod (wrap64 (rd l0 0)) 8)))=8
          ·rw [if_pos c80] at H
           have c80b0:((wrap64 (1+(Int.tmod (wrap64 (rd l0 0)) 8))) == 8)=true:=beq_iff_eq.mpr c80
           have c80b1:((wrap64 (1+(Int.tmod (wrap64 (rd l0 0)) 8))) != 8)=false:=bne_eq_false_iff_eq.mpr c80
           clear c80
           simp only [Option.some.injEq,Prod.mk.injEq] at H
           obtain ⟨rfl,rfl,rfl,rfl,rfl⟩:=H
           have hnb81:=NB422_420.out
           have hnc81:=NB420_422.out
           have hcz82_0:wc.cell? ⟨gb422,0,none⟩=some (.int .i64 (wrap64 (1+(Int.tmod (wrap64 (rd l0 0)) 8)))):=(aj BK422.out 0).trans rfl
           have hcz82_1:wc.cell? ⟨gb422,1,none⟩=some (.string (⟨#[]⟩:ByteArray)):=(aj BK422.out 1).trans rfl
           have hcz82_2:wc.cell? ⟨gb422,2,none⟩=some (.string (⟨#[]⟩:ByteArray)):=(aj BK422.out 2).trans rfl
           have hcz82_3:wc.cell? ⟨gb422,3,none⟩=some (.slice none 0 0):=(aj BK422.out 3).trans rfl
           have hcz82_4:wc.cell? ⟨gb422,4,none⟩=some (.slice none 0 0):=(aj BK422.out 4).trans rfl
           have hfz82_0:=ai BK422.out 0
           have hfz82_1:=ai BK422.out 1
           have hfz82_2:=ai BK422.out 2
           have hfz82_3:=ai BK422.out 3
           have hfz82_4:=ai BK422.out 4
           have hcz83_0:wc.cell? ⟨gb420,0,none⟩=some (.int .i64 0):=(aj BK420.out 0).trans rfl
           have hcz83_1:wc.cell? ⟨gb420,1,none⟩=some (.string (⟨#[]⟩:ByteArray)):=(aj BK420.out 1).trans rfl
           have hcz83_2:wc.cell? ⟨gb420,2,none⟩=some (.string (⟨#[]⟩:ByteArray)):=(aj BK420.out 2).trans rfl
           have hcz83_3:wc.cell? ⟨gb420,3,none⟩=some (.slice none 0 0):=(aj BK420.out 3).trans rfl
           have hcz83_4:wc.cell? ⟨gb420,4,none⟩=some (.slice none 0 0):=(aj BK420.out 4).trans rfl
           have hfz83_0:=ai BK420.out 0
           have hfz83_1:=ai BK420.out 1
           have hfz83_2:=ai BK420.out 2
           have hfz83_3:=ai BK420.out 3
           have hfz83_4:=ai BK420.out 4
           go_wp2
           refine bodyPost_ret (results_cell_row rfl _ _ gb420 25 #[.int .i64 (wrap64 (1+(Int.tmod (wrap64 (rd l0 0)) 8))),.string (bE ByteArray.empty y423 (ji7)),.string (⟨#[]⟩:ByteArray),.slice none 0 0,.slice none 0 0] (0,0) _ rfl (by (with_reducible repeat (first|refine au ?_ _|refine av ?_|refine ak ?_ _));refine bG (cs:=#[.int .i64 (wrap64 (1+(Int.tmod (wrap64 (rd l0 0)) 8))),.string (bE ByteArray.empty y423 (ji7)),.string (⟨#[]⟩:ByteArray),.slice none 0 0,.slice none 0 0]) ?_ 4 _ (by first|rfl|(simp only [ay,ax];rfl)|simp [ay,ax]);(with_reducible repeat (first|refine au ?_ _|refine av ?_|refine ak ?_ _));refine bG (cs:=#[.int .i64 (wrap64 (1+(Int.tmod (wrap64 (rd l0 0)) 8))),.string (bE ByteArray.empty y423 (ji7)),.string (⟨#[]⟩:ByteArray),.slice none 0 0,.slice none 0 0]) ?_ 3 _ (by first|rfl|(simp only [ay,ax];rfl)|simp [ay,ax]);(with_reducible repeat (first|refine au ?_ _|refine av ?_|refine ak ?_ _));refine bG (cs:=#[.int .i64 (wrap64 (1+(Int.tmod (wrap64 (rd l0 0)) 8))),.string (bE ByteArray.empty y423 (ji7)),.string (⟨#[]⟩:ByteArray),.slice none 0 0,.slice none 0 0]) ?_ 2 _ (by first|rfl|(simp only [ay,ax];rfl)|simp [ay,ax]);(with_reducible repeat (first|refine au ?_ _|refine av ?_|refine ak ?_ _));refine bG (cs:=#[.int .i64 (wrap64 (1+(Int.tmod (wrap64 (rd l0 0)) 8))),.string (⟨#[]⟩:ByteArray),.string (⟨#[]⟩:ByteArray),.slice none 0 0,.slice none 0 0]) ?_ 1 _ (by first|rfl|(simp only [ay,ax];rfl)|simp [ay,ax]);(with_reducible repeat (first|refine au ?_ _|refine av ?_|refine ak ?_ _));refine bG (cs:=#[.int .i64 0,.string (⟨#[]⟩:ByteArray),.string (⟨#[]⟩:ByteArray),.slice none 0 0,.slice none 0 0]) ?_ 0 _ (by first|rfl|(simp only [ay,ax];rfl)|simp [ay,ax]);(with_reducible repeat (first|refine au ?_ _|refine av ?_|refine ak ?_ _));refine dB ?_ NB420_422.out _;(with_reducible repeat (first|refine au ?_ _|refine av ?_|refine ak ?_ _));exact BK420.out) Tryz.underlying25 rfl (by kernel_rfl)) rfl ?_
           exact ⟨_,_,by first|rfl|(simp [aM,aK] <;> rfl)|(simp only [← hji7,← hji10];first|rfl|(simp [aM,aK] <;> rfl))|(simp [*,aM,aK] <;> rfl),Kd.jw _ _ _ _ _,by first|exact Kd.ko _ _ _ _ _|exact Kd.oL _ _ _ _ _|exact Kd.jw _ _ _ _ _|exact Kd.oO _ _ _ _ _|exact Kd.oP _ _ _ _ _,by repeat (first|(with_reducible first|exact HB.out|apply af|apply ae|apply ag|refine ah ?_ GE420.out|refine ah ?_ GE422.out)|exact HB.out)⟩
          ·rw [if_neg c80] at H
           have c80b0:((wrap64 (1+(Int.tmod (wrap64 (rd l0 0)) 8))) == 8)=false:=beq_eq_false_iff_ne.mpr c80
           have c80b1:((wrap64 (1+(Int.tmod (wrap64 (rd l0 0)) 8))) != 8)=true:=bne_iff_ne.mpr c80
           by_cases c84:(wrap64 (1+(Int.tmod (wrap64 (rd l0 0)) 8)))=5
           ·rw [if_pos c84] at H
            have c84b0:((wrap64 (1+(Int.tmod (wrap64 (rd l0 0)) 8))) == 5)=true:=beq_iff_eq.mpr c84
            have c84b1:((wrap64 (1+(Int.tmod (wrap64 (rd l0 0)) 8))) != 5)=false:=bne_eq_false_iff_eq.mpr c84
            clear c84
            obtain ⟨y470,hy470⟩:∃ y_:List ByteArray,y_=(([(⟨#[110]⟩:ByteArray),(⟨#[]⟩:ByteArray)]:List ByteArray)):=⟨_,rfl⟩
            replace H:(if a1.size+1≤9223372036854775807 then ((some (([y470,(([(⟨#[]⟩:ByteArray),(⟨#[49]⟩:ByteArray)]:List ByteArray)),(([(⟨#[]⟩:ByteArray),a1++(⟨#[101]⟩:ByteArray),(⟨#[]⟩:ByteArray)]:List ByteArray)),(([(⟨#[68]⟩:ByteArray),(⟨#[32]⟩:ByteArray),(⟨#[53]⟩:ByteArray)]:List ByteArray))]:List (List ByteArray)):List (List ByteArray))).bind fun y482=>(if 0≤(Int.tmod (wrap64 (Int.tdiv (wrap64 (rd l0 0)) 48)) 4) then (if (Int.tmod (wrap64 (Int.tdiv (wrap64 (rd l0 0)) 48)) 4) < (y482.length:Int) then (some ((wrap64 (1+(Int.tmod (wrap64 (rd l0 0)) 8))),(bE ByteArray.empty y423 (ji7)),(⟨#[]⟩:ByteArray),gZ y482 (Int.tmod (wrap64 (Int.tdiv (wrap64 (rd l0 0)) 48)) 4),([]:List (S25)))) else (none)) else (none))) else (none))=some (r1,r2,r3,r4,r5):=by first|(rw [hy470];with_reducible exact H)|(have H2_:=(Option.bind_some _ _).symm.trans H;rw [hy470];with_reducible exact H2_)|(have H2_:=(Option.bind_some _ _).symm.trans H;with_reducible exact H2_)|with_reducible exact H|(rw [hy470];exact H)|exact H
            have Ny470:=aa.mk hy470
            clear hy470
            obtain ⟨y473,hy473⟩:∃ y_:List ByteArray,y_=(([(⟨#[]⟩:ByteArray),(⟨#[49]⟩:ByteArray)]:List ByteArray)):=⟨_,rfl⟩
            replace H:(if a1.size+1≤9223372036854775807 then ((some (([y470,y473,(([(⟨#[]⟩:ByteArray),a1++(⟨#[101]⟩:ByteArray),(⟨#[]⟩:ByteArray)]:List ByteArray)),(([(⟨#[68]⟩:ByteArray),(⟨#[32]⟩:ByteArray),(⟨#[53]⟩:ByteArray)]:List ByteArray))]:List (List ByteArray)):List (List ByteArray))).bind fun y482=>(if 0≤(Int.tmod (wrap64 (Int.tdiv (wrap64 (rd l0 0)) 48)) 4) then (if (Int.tmod (wrap64 (Int.tdiv (wrap64 (rd l0 0)) 48)) 4) < (y482.length:Int) then (some ((wrap64 (1+(Int.tmod (wrap64 (rd l0 0)) 8))),(bE ByteArray.empty y423 (ji7)),(⟨#[]⟩:ByteArray),gZ y482 (Int.tmod (wrap64 (Int.tdiv (wrap64 (rd l0 0)) 48)) 4),([]:List (S25)))) else (none)) else (none))) else (none))=some (r1,r2,r3,r4,r5):=by first|(rw [hy473];with_reducible exact H)|(have H2_:=(Option.bind_some _ _).symm.trans H;rw [hy473];with_reducible exact H2_)|(have H2_:=(Option.bind_some _ _).symm.trans H;with_reducible exact H2_)|with_reducible exact H|(rw [hy473];exact H)|exact H
            have Ny473:=aa.mk hy473
            clear hy473
            by_cases c85:a1.size+1≤9223372036854775807
            ·rw [if_pos c85] at H
             have c85b0:=eq_true c85
             have c85b1:decide (a1.size+1≤9223372036854775807)=true:=decide_eq_true c85
             try have c85b2:(9223372036854775807 < a1.size+1)=False:=eq_false (Nat.not_lt.2 c85)
             obtain ⟨y476,hy476⟩:∃ y_:List ByteArray,y_=(([(⟨#[]⟩:ByteArray),a1++(⟨#[101]⟩:ByteArray),(⟨#[]⟩:ByteArray)]:List ByteArray)):=⟨_,rfl⟩
             replace H:((some (([y470,y473,y476,(([(⟨#[68]⟩:ByteArray),(⟨#[32]⟩:ByteArray),(⟨#[53]⟩:ByteArray)]:List ByteArray))]:List (List ByteArray)):List (List ByteArray))).bind fun y482=>(if 0≤(Int.tmod (wrap64 (Int.tdiv (wrap64 (rd l0 0)) 48)) 4) then (if (Int.tmod (wrap64 (Int.tdiv (wrap64 (rd l0 0)) 48)) 4) < (y482.length:Int) then (some ((wrap64 (1+(Int.tmod (wrap64 (rd l0 0)) 8))),(bE ByteArray.empty y423 (ji7)),(⟨#[]⟩:ByteArray),gZ y482 (Int.tmod (wrap64 (Int.tdiv (wrap64 (rd l0 0)) 48)) 4),([]:List (S25)))) else (none)) else (none)))=some (r1,r2,r3,r4,r5):=by first|(rw [hy476];with_reducible exact H)|(have H2_:=(Option.bind_some _ _).symm.trans H;rw [hy476];with_reducible exact H2_)|(have H2_:=(Option.bind_some _ _).symm.trans H;with_reducible exact H2_)|with_reducible exact H|(rw [hy476];exact H)|exact H
             have Ny476:=aa.mk hy476
             clear hy476
             obtain ⟨y479,hy479⟩:∃ y_:List ByteArray,y_=(([(⟨#[68]⟩:ByteArray),(⟨#[32]⟩:ByteArray),(⟨#[53]⟩:ByteArray)]:List ByteArray)):=⟨_,rfl⟩
             replace H:((some (([y470,y473,y476,y479]:List (List ByteArray)):List (List ByteArray))).bind fun y482=>(if 0≤(Int.tmod (wrap64 (Int.tdiv (wrap64 (rd l0 0)) 48)) 4) then (if (Int.tmod (wrap64 (Int.tdiv (wrap64 (rd l0 0)) 48)) 4) < (y482.length:Int) then (some ((wrap64 (1+(Int.tmod (wrap64 (rd l0 0)) 8))),(bE ByteArray.empty y423 (ji7)),(⟨#[]⟩:ByteArray),gZ y482 (Int.tmod (wrap64 (Int.tdiv (wrap64 (rd l0 0)) 48)) 4),([]:List (S25)))) else (none)) else (none)))=some (r1,r2,r3,r4,r5):=by first|(rw [hy479];with_reducible exact H)|(have H2_:=(Option.bind_some _ _).symm.trans H;rw [hy479];with_reducible exact H2_)|(have H2_:=(Option.bind_some _ _).symm.trans H;with_reducible exact H2_)|with_reducible exact H|(rw [hy479];exact H)|exact H
             have Ny479:=aa.mk hy479
             clear hy479
             obtain ⟨y482,hy482⟩:∃ y_:List (List ByteArray),y_=(([y470,y473,y476,y479]:List (List ByteArray))):=⟨_,rfl⟩
             replace H:(if 0≤(Int.tmod (wrap64 (Int.tdiv (wrap64 (rd l0 0)) 48)) 4) then (if (Int.tmod (wrap64 (Int.tdiv (wrap64 (rd l0 0)) 48)) 4) < (y482.length:Int) then (some ((wrap64 (1+(Int.tmod (wrap64 (rd l0 0)) 8))),(bE ByteArray.empty y423 (ji7)),(⟨#[]⟩:ByteArray),gZ y482 (Int.tmod (wrap64 (Int.tdiv (wrap64 (rd l0 0)) 48)) 4),([]:List (S25)))) else (none)) else (none))=some (r1,r2,r3,r4,r5):=by first|(rw [hy482];with_reducible exact H)|(have H2_:=(Option.bind_some _ _).symm.trans H;rw [hy482];with_reducible exact H2_)|(have H2_:=(Option.bind_some _ _).symm.trans H;with_reducible exact H2_)|with_reducible exact H|(rw [hy482];exact H)|exact H
             have Ny482:=aa.mk hy482
             clear hy482
             obtain ⟨ji86,hji86⟩:∃ j_:Int,(Int.tmod (wrap64 (Int.tdiv (wrap64 (rd l0 0)) 48)) 4)=j_:=⟨_,rfl⟩
             replace H:(if 0≤(ji86) then (if (ji86) < (y482.length:Int) then (some ((wrap64 (1+(Int.tmod (wrap64 (rd l0 0)) 8))),(bE ByteArray.empty y423 (ji7)),(⟨#[]⟩:ByteArray),gZ y482 (ji86),([]:List (S25)))) else (none)) else (none))=some (r1,r2,r3,r4,r5):=by first|(rw [hji86] at H;exact H)|(simp only [hji86] at H ⊢;exact H)
             by_cases c87:0≤(ji86)
             ·rw [if_pos c87] at H
              have c87b0:decide (0≤(ji86))=true:=decide_eq_true c87
              clear c87
              by_cases c88:(ji86) < (y482.length:Int)
              ·rw [if_pos c88] at H
               have c88b0:decide ((ji86) < (y482.length:Int))=true:=decide_eq_true c88
               clear c88
               simp only [Option.some.injEq,Prod.mk.injEq] at H
               obtain ⟨rfl,rfl,rfl,rfl,rfl⟩:=H
               have hnb89:=NB422_420.out
               have hnc89:=NB420_422.out
               have hcz90_0:wc.cell? ⟨gb422,0,none⟩=some (.int .i64 (wrap64 (1+(Int.tmod (wrap64 (rd l0 0)) 8)))):=(aj BK422.out 0).trans rfl
               have hcz90_1:wc.cell? ⟨gb422,1,none⟩=some (.string (⟨#[]⟩:ByteArray)):=(aj BK422.out 1).trans rfl
               have hcz90_2:wc.cell? ⟨gb422,2,none⟩=some (.string (⟨#[]⟩:ByteArray)):=(aj BK422.out 2).trans rfl
               have hcz90_3:wc.cell? ⟨gb422,3,none⟩=some (.slice none 0 0):=(aj BK422.out 3).trans rfl
               have hcz90_4:wc.cell? ⟨gb422,4,none⟩=some (.slice none 0 0):=(aj BK422.out 4).trans rfl
               have hfz90_0:=ai BK422.out 0
               have hfz90_1:=ai BK422.out 1
               have hfz90_2:=ai BK422.out 2
               have hfz90_3:=ai BK422.out 3
               have hfz90_4:=ai BK422.out 4
               go_wp2_with (first|((with_reducible refine bS (N:=93) rfl ?_);refine Kd.jb Kd.string _ 9 ?hg (N:=93) ?hd (xs:=([(⟨#[110]⟩:ByteArray),(⟨#[]⟩:ByteArray)]:List ByteArray)) (inner:=[.string (⟨#[110]⟩:ByteArray),.string (⟨#[]⟩:ByteArray)]) (ok:=fun _=>True) (okp:=fun _=>True) ?hr ?hp (fun _ hk=>hk) trivial (Below.refl _ _) (Nat.le_refl _) (by simp) ?_;(case hd=>rfl);(case hg=>rfl);(case hr=>first|(go_simp;done)|(go_simp;rfl));(case hp=>exact (bI.one (show Kd.M Kd.string _ _ _ (⟨#[110]⟩:ByteArray) [.string (⟨#[110]⟩:ByteArray)] from rfl) (bI.one (show Kd.M Kd.string _ _ _ (⟨#[]⟩:ByteArray) [.string (⟨#[]⟩:ByteArray)] from rfl) (bI.none _ _))));intro v471 w91 ho92 hb hg_ hnew_;clear hg_ hnew_;(first|rw [← Ny470.out] at ho92|(simp only [Int.reduceToNat] at ho92;rw [← Ny470.out] at ho92));have n0_:=aa.mk (Kd.dN (Kd.fu (M:=fun k_=>(w.heap.size≤k_)) ho92 (aG (by repeat (first|(with_reducible first|exact HB.out|apply af|apply ae|apply ag|refine ah ?_ GE420.out|refine ah ?_ GE422.out)|exact HB.out))) (fun k_ h_=>h_)) (aG (by repeat (first|(with_reducible first|exact HB.out|apply af|apply ae|apply ag|refine ah ?_ GE420.out|refine ah ?_ GE422.out)|exact HB.out))));have n1_:=aa.mk (aI (g:=gb420) (o:=.cells #[.int .i64 0,.string (⟨#[]⟩:ByteArray),.string (⟨#[]⟩:ByteArray),.slice none 0 0,.slice none 0 0] 25 (0,0)) (by (with_reducible repeat (first|refine au ?_ _|refine av ?_|refine ak ?_ _));refine dB ?_ NB420_422.out _;(with_reducible repeat (first|refine au ?_ _|refine av ?_|refine ak ?_ _));exact BK420.out) hb);have n2_:=aa.mk (aI (g:=gb422) (o:=.cells #[.int .i64 (wrap64 (1+(Int.tmod (wrap64 (rd l0 0)) 8))),.string (bE ByteArray.empty y423 (ji7)),.string (⟨#[]⟩:ByteArray),.slice none 0 0,.slice none 0 0] 25 (0,0)) (by (with_reducible repeat (first|refine au ?_ _|refine av ?_|refine ak ?_ _));refine bG (cs:=#[.int .i64 (wrap64 (1+(Int.tmod (wrap64 (rd l0 0)) 8))),.string (⟨#[]⟩:ByteArray),.string (⟨#[]⟩:ByteArray),.slice none 0 0,.slice none 0 0]) ?_ 1 _ (by first|rfl|(simp only [ay,ax];rfl)|simp [ay,ax]);(with_reducible repeat (first|refine au ?_ _|refine av ?_|refine ak ?_ _));exact BK422.out) hb);have n3_:=aa.mk (aD (by repeat (first|(with_reducible first|exact HB.out|apply af|apply ae|apply ag|refine ah ?_ GE420.out|refine ah ?_ GE422.out)|exact HB.out)) hb);clear BK420;clear BK422;clear HB;have HO472:=n0_;have BK420:=n1_;have BK422:=n2_;have HB:=n3_;clear n0_ n1_ n2_ n3_;clear hb ho92)|((with_reducible refine bS (N:=94) rfl ?_);refine Kd.jb Kd.string _ 9 ?hg (N:=94) ?hd (xs:=([(⟨#[]⟩:ByteArray),(⟨#[49]⟩:ByteArray)]:List ByteArray)) (inner:=[.string (⟨#[]⟩:ByteArray),.string (⟨#[49]⟩:ByteArray)]) (ok:=fun _=>True) (okp:=fun _=>True) ?hr ?hp (fun _ hk=>hk) trivial (Below.refl _ _) (Nat.le_refl _) (by simp) ?_;(case hd=>rfl);(case hg=>rfl);(case hr=>first|(go_simp;done)|(go_simp;rfl));(case hp=>exact (bI.one (show Kd.M Kd.string _ _ _ (⟨#[]⟩:ByteArray) [.string (⟨#[]⟩:ByteArray)] from rfl) (bI.one (show Kd.M Kd.string _ _ _ (⟨#[49]⟩:ByteArray) [.string (⟨#[49]⟩:ByteArray)] from rfl) (bI.none _ _))));intro v474 w93 ho94 hb hg_ hnew_;clear hg_ hnew_;(first|rw [← Ny473.out] at ho94|(simp only [Int.reduceToNat] at ho94;rw [← Ny473.out] at ho94));have n0_:=aa.mk (Kd.eY (by (with_reducible repeat (first|apply Kd.bz|apply Kd.bq|apply Kd.bB));exact HO472.out) (Kd.dI ho94) hb);have n1_:=aa.mk (Kd.dN (Kd.gB (Kd.fu (M:=fun k_=>(w.heap.size≤k_)) ho94 (aG (by repeat (first|(with_reducible first|exact HB.out|apply af|apply ae|apply ag|refine ah ?_ GE420.out|refine ah ?_ GE422.out)|exact HB.out))) (fun k_ h_=>h_)) (Kd.iD (by (with_reducible repeat (first|apply Kd.bz|apply Kd.bq|apply Kd.bB));exact HO472.out))) (aG (by repeat (first|(with_reducible first|exact HB.out|apply af|apply ae|apply ag|refine ah ?_ GE420.out|refine ah ?_ GE422.out)|exact HB.out))));have n2_:=aa.mk (aI (g:=gb420) (o:=.cells #[.int .i64 0,.string (⟨#[]⟩:ByteArray),.string (⟨#[]⟩:ByteArray),.slice none 0 0,.slice none 0 0] 25 (0,0)) (by (with_reducible repeat (first|refine au ?_ _|refine av ?_|refine ak ?_ _));exact BK420.out) hb);have n3_:=aa.mk (aI (g:=gb422) (o:=.cells #[.int .i64 (wrap64 (1+(Int.tmod (wrap64 (rd l0 0)) 8))),.string (bE ByteArray.empty y423 (ji7)),.string (⟨#[]⟩:ByteArray),.slice none 0 0,.slice none 0 0] 25 (0,0)) (by (with_reducible repeat (first|refine au ?_ _|refine av ?_|refine ak ?_ _));exact BK422.out) hb);have n4_:=aa.mk (aD (by repeat (first|(with_reducible first|exact HB.out|apply af|apply ae|apply ag|refine ah ?_ GE420.out|refine ah ?_ GE422.out)|exact HB.out)) hb);clear HO472;clear BK420;clear BK422;clear HB;have HO472:=n0_;have HO475:=n1_;have BK420:=n2_;have BK422:=n3_;have HB:=n4_;clear n0_ n1_ n2_ n3_ n4_;clear hb ho94)|((with_reducible refine bS (N:=97) rfl ?_);refine Kd.jb Kd.string _ 9 ?hg (N:=97) ?hd (xs:=([(⟨#[]⟩:ByteArray),a1++(⟨#[101]⟩:ByteArray),(⟨#[]⟩:ByteArray)]:List ByteArray)) (inner:=[.string (⟨#[]⟩:ByteArray),.string (a1++(⟨#[101]⟩:ByteArray)),.string (⟨#[]⟩:ByteArray)]) (ok:=fun _=>True) (okp:=fun _=>True) ?hr ?hp (fun _ hk=>hk) trivial (Below.refl _ _) (Nat.le_refl _) (by simp) ?_;(case hd=>rfl);(case hg=>rfl);(case hr=>first|(go_simp;done)|(go_simp;rfl));(case hp=>exact (bI.one (show Kd.M Kd.string _ _ _ (⟨#[]⟩:ByteArray) [.string (⟨#[]⟩:ByteArray)] from rfl) (bI.one (show Kd.M Kd.string _ _ _ (a1++(⟨#[101]⟩:ByteArray)) [.string (a1++(⟨#[101]⟩:ByteArray))] from rfl) (bI.one (show Kd.M Kd.string _ _ _ (⟨#[]⟩:ByteArray) [.string (⟨#[]⟩:ByteArray)] from rfl) (bI.none _ _)))));intro v477 w95 ho96 hb hg_ hnew_;clear hg_ hnew_;(first|rw [← Ny476.out] at ho96|(simp only [Int.reduceToNat] at ho96;rw [← Ny476.out] at ho96));have n0_:=aa.mk (Kd.eY (by (with_reducible repeat (first|apply Kd.bz|apply Kd.bq|apply Kd.bB));exact HO472.out) (Kd.dI ho96) hb);have n1_:=aa.mk (Kd.eY (by (with_reducible repeat (first|apply Kd.bz|apply Kd.bq|apply Kd.bB));exact HO475.out) (Kd.dI ho96) hb);have n2_:=aa.mk (Kd.dN (Kd.gB (Kd.gB (Kd.fu (M:=fun k_=>(w.heap.size≤k_)) ho96 (aG (by repeat (first|(with_reducible first|exact HB.out|apply af|apply ae|apply ag|refine ah ?_ GE420.out|refine ah ?_ GE422.out)|exact HB.out))) (fun k_ h_=>h_)) (Kd.iD (by (with_reducible repeat (first|apply Kd.bz|apply Kd.bq|apply Kd.bB));exact HO472.out))) (Kd.iD (by (with_reducible repeat (first|apply Kd.bz|apply Kd.bq|apply Kd.bB));exact HO475.out))) (aG (by repeat (first|(with_reducible first|exact HB.out|apply af|apply ae|apply ag|refine ah ?_ GE420.out|refine ah ?_ GE422.out)|exact HB.out))));have n3_:=aa.mk (aI (g:=gb420) (o:=.cells #[.int .i64 0,.string (⟨#[]⟩:ByteArray),.string (⟨#[]⟩:ByteArray),.slice none 0 0,.slice none 0 0] 25 (0,0)) (by (with_reducible repeat (first|refine au ?_ _|refine av ?_|refine ak ?_ _));exact BK420.out) hb);have n4_:=aa.mk (aI (g:=gb422) (o:=.cells #[.int .i64 (wrap64 (1+(Int.tmod (wrap64 (rd l0 0)) 8))),.string (bE ByteArray.empty y423 (ji7)),.string (⟨#[]⟩:ByteArray),.slice none 0 0,.slice none 0 0] 25 (0,0)) (by (with_reducible repeat (first|refine au ?_ _|refine av ?_|refine ak ?_ _));exact BK422.out) hb);have n5_:=aa.mk (aD (by repeat (first|(with_reducible first|exact HB.out|apply af|apply ae|apply ag|refine ah ?_ GE420.out|refine ah ?_ GE422.out)|exact HB.out)) hb);clear HO472;clear HO475;clear BK420;clear BK422;clear HB;have HO472:=n0_;have HO475:=n1_;have HO478:=n2_;have BK420:=n3_;have BK422:=n4_;have HB:=n5_;clear n0_ n1_ n2_ n3_ n4_ n5_;clear hb ho96)|((with_reducible refine bS (N:=98) rfl ?_);refine Kd.jb Kd.string _ 9 ?hg (N:=98) ?hd (xs:=([(⟨#[68]⟩:ByteArray),(⟨#[32]⟩:ByteArray),(⟨#[53]⟩:ByteArray)]:List ByteArray)) (inner:=[.string (⟨#[68]⟩:ByteArray),.string (⟨#[32]⟩:ByteArray),.string (⟨#[53]⟩:ByteArray)]) (ok:=fun _=>True) (okp:=fun _=>True) ?hr ?hp (fun _ hk=>hk) trivial (Below.refl _ _) (Nat.le_refl _) (by simp) ?_;(case hd=>rfl);(case hg=>rfl);(case hr=>first|(go_simp;done)|(go_simp;rfl));(case hp=>exact (bI.one (show Kd.M Kd.string _ _ _ (⟨#[68]⟩:ByteArray) [.string (⟨#[68]⟩:ByteArray)] from rfl) (bI.one (show Kd.M Kd.string _ _ _ (⟨#[32]⟩:ByteArray) [.string (⟨#[32]⟩:ByteArray)] from rfl) (bI.one (show Kd.M Kd.string _ _ _ (⟨#[53]⟩:ByteArray) [.string (⟨#[53]⟩:ByteArray)] from rfl) (bI.none _ _)))));intro v480 w97 ho98 hb hg_ hnew_;clear hg_ hnew_;(first|rw [← Ny479.out] at ho98|(simp only [Int.reduceToNat] at ho98;rw [← Ny479.out] at ho98));have n0_:=aa.mk (Kd.eY (by (with_reducible repeat (first|apply Kd.bz|apply Kd.bq|apply Kd.bB));exact HO472.out) (Kd.dI ho98) hb);have n1_:=aa.mk (Kd.eY (by (with_reducible repeat (first|apply Kd.bz|apply Kd.bq|apply Kd.bB));exact HO475.out) (Kd.dI ho98) hb);have n2_:=aa.mk (Kd.eY (by (with_reducible repeat (first|apply Kd.bz|apply Kd.bq|apply Kd.bB));exact HO478.out) (Kd.dI ho98) hb);have n3_:=aa.mk (Kd.dN (Kd.gB (Kd.gB (Kd.gB (Kd.fu (M:=fun k_=>(w.heap.size≤k_)) ho98 (aG (by repeat (first|(with_reducible first|exact HB.out|apply af|apply ae|apply ag|refine ah ?_ GE420.out|refine ah ?_ GE422.out)|exact HB.out))) (fun k_ h_=>h_)) (Kd.iD (by (with_reducible repeat (first|apply Kd.bz|apply Kd.bq|apply Kd.bB));exact HO472.out))) (Kd.iD (by (with_reducible repeat (first|apply Kd.bz|apply Kd.bq|apply Kd.bB));exact HO475.out))) (Kd.iD (by (with_reducible repeat (first|apply Kd.bz|apply Kd.bq|apply Kd.bB));exact HO478.out))) (aG (by repeat (first|(with_reducible first|exact HB.out|apply af|apply ae|apply ag|refine ah ?_ GE420.out|refine ah ?_ GE422.out)|exact HB.out))));have n4_:=aa.mk (aI (g:=gb420) (o:=.cells #[.int .i64 0,.string (⟨#[]⟩:ByteArray),.string (⟨#[]⟩:ByteArray),.slice none 0 0,.slice none 0 0] 25 (0,0)) (by (with_reducible repeat (first|refine au ?_ _|refine av ?_|refine ak ?_ _));exact BK420.out) hb);have n5_:=aa.mk (aI (g:=gb422) (o:=.cells #[.int .i64 (wrap64 (1+(Int.tmod (wrap64 (rd l0 0)) 8))),.string (bE ByteArray.empty y423 (ji7)),.string (⟨#[]⟩:ByteArray),.slice none 0 0,.slice none 0 0] 25 (0,0)) (by (with_reducible repeat (first|refine au ?_ _|refine av ?_|refine ak ?_ _));exact BK422.out) hb);have n6_:=aa.mk (aD (by repeat (first|(with_reducible first|exact HB.out|apply af|apply ae|apply ag|refine ah ?_ GE420.out|refine ah ?_ GE422.out)|exact HB.out)) hb);clear HO472;clear HO475;clear HO478;clear BK420;clear BK422;clear HB;have HO472:=n0_;have HO475:=n1_;have HO478:=n2_;have HO481:=n3_;have BK420:=n4_;have BK422:=n5_;have HB:=n6_;clear n0_ n1_ n2_ n3_ n4_ n5_ n6_;clear hb ho98;obtain ⟨Ao99,co99,eo99⟩:=Kd.cO HO472.out;subst eo99;obtain ⟨Ao100,co100,eo100⟩:=Kd.cO HO475.out;subst eo100;obtain ⟨Ao101,co101,eo101⟩:=Kd.cO HO478.out;subst eo101;obtain ⟨Ao102,co102,eo102⟩:=Kd.cO HO481.out;subst eo102)|((with_reducible refine bS (N:=99) rfl ?_);refine Kd.mD (Kd.slice 9 Kd.string) _ 22 ?hg (N':=99) ?hd (xs:=([y470,y473,y476,y479]:List (List ByteArray))) (inner:=[.slice Ao99 y470.length co99,.slice Ao100 y473.length co100,.slice Ao101 y476.length co101,.slice Ao102 y479.length co102]) (ok:=(fun k_=>(w.heap.size≤k_)∧k_≠gb420∧k_≠gb422)) (okp:=(fun k_=>(w.heap.size≤k_)∧k_≠gb420∧k_≠gb422)) ?hr ?hp (fun _ hk=>hk) ((show ∀ k_,w97.heap.size≤k_→(fun k_=>(w.heap.size≤k_)∧k_≠gb420∧k_≠gb422) k_ from fun k_ hk=>⟨(Nat.le_trans (aG (by repeat (first|(with_reducible first|exact HB.out|apply af|apply ae|apply ag|refine ah ?_ GE420.out|refine ah ?_ GE422.out)|exact HB.out))) hk),Kd.dC (g:=gb420) (o:=.cells #[.int .i64 0,.string (⟨#[]⟩:ByteArray),.string (⟨#[]⟩:ByteArray),.slice none 0 0,.slice none 0 0] 25 (0,0)) (by (with_reducible repeat (first|refine au ?_ _|refine av ?_|refine ak ?_ _));exact BK420.out) k_ hk,Kd.dC (g:=gb422) (o:=.cells #[.int .i64 (wrap64 (1+(Int.tmod (wrap64 (rd l0 0)) 8))),.string (bE ByteArray.empty y423 (ji7)),.string (⟨#[]⟩:ByteArray),.slice none 0 0,.slice none 0 0] 25 (0,0)) (by (with_reducible repeat (first|refine au ?_ _|refine av ?_|refine ak ?_ _));exact BK422.out) k_ hk⟩) _ (Nat.le_refl _)) (Below.refl _ _) (Nat.le_refl _) (by simp) ?_;(case hd=>rfl);(case hg=>rfl);(case hr=>first|(go_simp;done)|(go_simp;rfl));(case hp=>exact (bI.one (show Kd.FK (Kd.slice 9 Kd.string) _ _ y470 [.slice Ao99 y470.length co99] from (Kd.iY (Kd.bL (Kd.bX (ok':=(fun k_=>(w.heap.size≤k_)∧k_≠gb420∧k_≠gb422)) (Kd.bK (Kd.bK (HO472.out) BK420.out (by decide)) BK422.out (by decide)) (fun k_ hk=>⟨hk.1.1.1.1.1.1,⟨hk.1.2,hk.2⟩⟩))).2.1 (Kd.R_F (Kd.bX (ok':=(fun k_=>(w.heap.size≤k_)∧k_≠gb420∧k_≠gb422)) (Kd.bK (Kd.bK (HO472.out) BK420.out (by decide)) BK422.out (by decide)) (fun k_ hk=>⟨hk.1.1.1.1.1.1,⟨hk.1.2,hk.2⟩⟩))))) (bI.one (show Kd.FK (Kd.slice 9 Kd.string) _ _ y473 [.slice Ao100 y473.length co100] from (Kd.iY (Kd.bL (Kd.bX (ok':=(fun k_=>(w.heap.size≤k_)∧k_≠gb420∧k_≠gb422)) (Kd.bK (Kd.bK (HO475.out) BK420.out (by decide)) BK422.out (by decide)) (fun k_ hk=>⟨hk.1.1.1.1.1.1,⟨hk.1.2,hk.2⟩⟩))).2.1 (Kd.R_F (Kd.bX (ok':=(fun k_=>(w.heap.size≤k_)∧k_≠gb420∧k_≠gb422)) (Kd.bK (Kd.bK (HO475.out) BK420.out (by decide)) BK422.out (by decide)) (fun k_ hk=>⟨hk.1.1.1.1.1.1,⟨hk.1.2,hk.2⟩⟩))))) (bI.one (show Kd.FK (Kd.slice 9 Kd.string) _ _ y476 [.slice Ao101 y476.length co101] from (Kd.iY (Kd.bL (Kd.bX (ok':=(fun k_=>(w.heap.size≤k_)∧k_≠gb420∧k_≠gb422)) (Kd.bK (Kd.bK (HO478.out) BK420.out (by decide)) BK422.out (by decide)) (fun k_ hk=>⟨hk.1.1.1.1.1.1,⟨hk.1.2,hk.2⟩⟩))).2.1 (Kd.R_F (Kd.bX (ok':=(fun k_=>(w.heap.size≤k_)∧k_≠gb420∧k_≠gb422)) (Kd.bK (Kd.bK (HO478.out) BK420.out (by decide)) BK422.out (by decide)) (fun k_ hk=>⟨hk.1.1.1.1.1.1,⟨hk.1.2,hk.2⟩⟩))))) (bI.one (show Kd.FK (Kd.slice 9 Kd.string) _ _ y479 [.slice Ao102 y479.length co102] from (Kd.iY (Kd.bL (Kd.bX (ok':=(fun k_=>(w.heap.size≤k_)∧k_≠gb420∧k_≠gb422)) (Kd.bK (Kd.bK (HO481.out) BK420.out (by decide)) BK422.out (by decide)) (fun k_ hk=>⟨hk.1.1.1.1.1.1,⟨hk.1.2,hk.2⟩⟩))).2.1 (Kd.R_F (Kd.bX (ok':=(fun k_=>(w.heap.size≤k_)∧k_≠gb420∧k_≠gb422)) (Kd.bK (Kd.bK (HO481.out) BK420.out (by decide)) BK422.out (by decide)) (fun k_ hk=>⟨hk.1.1.1.1.1.1,⟨hk.1.2,hk.2⟩⟩))))) (bI.none _ _))))));intro v483 w103 ho104 hb hg_ hnew_;clear hg_ hnew_;(first|rw [← Ny482.out] at ho104|(simp only [Int.reduceToNat] at ho104;rw [← Ny482.out] at ho104));have n0_:=aa.mk (Kd.fw ho104 (aG (by repeat (first|(with_reducible first|exact HB.out|apply af|apply ae|apply ag|refine ah ?_ GE420.out|refine ah ?_ GE422.out)|exact HB.out))));have n1_:=aa.mk (aI (g:=gb420) (o:=.cells #[.int .i64 0,.string (⟨#[]⟩:ByteArray),.string (⟨#[]⟩:ByteArray),.slice none 0 0,.slice none 0 0] 25 (0,0)) (by (with_reducible repeat (first|refine au ?_ _|refine av ?_|refine ak ?_ _));exact BK420.out) hb);have n2_:=aa.mk (aI (g:=gb422) (o:=.cells #[.int .i64 (wrap64 (1+(Int.tmod (wrap64 (rd l0 0)) 8))),.string (bE ByteArray.empty y423 (ji7)),.string (⟨#[]⟩:ByteArray),.slice none 0 0,.slice none 0 0] 25 (0,0)) (by (with_reducible repeat (first|refine au ?_ _|refine av ?_|refine ak ?_ _));exact BK422.out) hb);have n3_:=aa.mk (aD (by repeat (first|(with_reducible first|exact HB.out|apply af|apply ae|apply ag|refine ah ?_ GE420.out|refine ah ?_ GE422.out)|exact HB.out)) hb);clear BK420;clear BK422;clear HB;clear HO472;clear HO475;clear HO478;clear HO481;have HO484:=n0_;have BK420:=n1_;have BK422:=n2_;have HB:=n3_;clear n0_ n1_ n2_ n3_;clear hb ho104;obtain ⟨Ao105,co105,eo105⟩:=Kd.dR HO484.out;subst eo105;have p485:0≤((ji86):Int):=of_decide_eq_true (by first|(with_reducible assumption)|assumption);have q485:(ji86) < (y482.length:Int):=of_decide_eq_true (by first|(with_reducible assumption)|assumption);obtain ⟨ad485,A485_0,c485_0,e485,hx485_0,hl485_0,hi485_0⟩:=yf (Kd.bO HO484.out).2.2 (ji86) p485 q485;cases e485;obtain ⟨ce485,hce485,hMe485,hcc485⟩:=Kd.nW HO484.out [] (ji86) p485 (by first|exact q485|exact of_decide_eq_true (by first|(with_reducible assumption)|assumption)|(have e_:=(Kd.bO HO484.out).1;omega));obtain ⟨ua485_0,uc485_0,rfl,ul485_0,ge485_0⟩:=Kd.oh hMe485;have hv485_0:=hcc485 0 _ rfl;rw [Nat.add_zero,show ((Kd.slice 9 Kd.string)).sz=1 from rfl,Nat.mul_one] at hv485_0;replace hv485_0:=Option.some.inj (hv485_0.symm.trans hx485_0);injection hv485_0 with hva_ hvn_ hvc_;rw [hva_] at ge485_0;rw [hvc_] at ul485_0;have HL485_0:=aa.mk (show Kd.V Kd.string 9 _ w.heap.size _ _ (gZ y482 (ji86)) from Kd.mi ul485_0 ge485_0);clear hva_ hvn_ hvc_ ge485_0 ul485_0;clear hcc485 hce485;have HR485_0:=aa.mk hi485_0;have HC485_0:=aa.mk hl485_0;clear hi485_0 hl485_0;replace p485:=eq_true p485;replace q485:=eq_true q485;have hcz106_0:w103.cell? ⟨gb422,0,none⟩=some (.int .i64 (wrap64 (1+(Int.tmod (wrap64 (rd l0 0)) 8)))):=(aj BK422.out 0).trans rfl;have hcz106_1:w103.cell? ⟨gb422,1,none⟩=some (.string (bE ByteArray.empty y423 (ji7))):=(aj BK422.out 1).trans rfl;have hcz106_2:w103.cell? ⟨gb422,2,none⟩=some (.string (⟨#[]⟩:ByteArray)):=(aj BK422.out 2).trans rfl;have hcz106_3:w103.cell? ⟨gb422,3,none⟩=some (.slice none 0 0):=(aj BK422.out 3).trans rfl;have hcz106_4:w103.cell? ⟨gb422,4,none⟩=some (.slice none 0 0):=(aj BK422.out 4).trans rfl;have hfz106_0:=ai BK422.out 0;have hfz106_1:=ai BK422.out 1;have hfz106_2:=ai BK422.out 2;have hfz106_3:=ai BK422.out 3;have hfz106_4:=ai BK422.out 4;have hcz107_0:w103.cell? ⟨gb420,0,none⟩=some (.int .i64 0):=(aj BK420.out 0).trans rfl;have hcz107_1:w103.cell? ⟨gb420,1,none⟩=some (.string (⟨#[]⟩:ByteArray)):=(aj BK420.out 1).trans rfl;have hcz107_2:w103.cell? ⟨gb420,2,none⟩=some (.string (⟨#[]⟩:ByteArray)):=(aj BK420.out 2).trans rfl;have hcz107_3:w103.cell? ⟨gb420,3,none⟩=some (.slice none 0 0):=(aj BK420.out 3).trans rfl;have hcz107_4:w103.cell? ⟨gb420,4,none⟩=some (.slice none 0 0):=(aj BK420.out 4).trans rfl;have hfz107_0:=ai BK420.out 0;have hfz107_1:=ai BK420.out 1;have hfz107_2:=ai BK420.out 2;have hfz107_3:=ai BK420.out 3;have hfz107_4:=ai BK420.out 4))
               refine bodyPost_ret (results_cell_row rfl _ _ gb420 25 #[.int .i64 (wrap64 (1+(Int.tmod (wrap64 (rd l0 0)) 8))),.string (bE ByteArray.empty y423 (ji7)),.string (⟨#[]⟩:ByteArray),.slice A485_0 (gZ y482 (ji86)).length c485_0,.slice none 0 0] (0,0) _ rfl (by (with_reducible repeat (first|refine au ?_ _|refine av ?_|refine ak ?_ _));refine bG (cs:=#[.int .i64 (wrap64 (1+(Int.tmod (wrap64 (rd l0 0)) 8))),.string (bE ByteArray.empty y423 (ji7)),.string (⟨#[]⟩:ByteArray),.slice A485_0 (gZ y482 (ji86)).length c485_0,.slice none 0 0]) ?_ 4 _ (by first|rfl|(simp only [ay,ax];rfl)|simp [ay,ax]);(with_reducible repeat (first|refine au ?_ _|refine av ?_|refine ak ?_ _));refine bG (cs:=#[.int .i64 (wrap64 (1+(Int.tmod (wrap64 (rd l0 0)) 8))),.string (bE ByteArray.empty y423 (ji7)),.string (⟨#[]⟩:ByteArray),.slice none 0 0,.slice none 0 0]) ?_ 3 _ (by first|rfl|(simp only [ay,ax];rfl)|simp [ay,ax]);(with_reducible repeat (first|refine au ?_ _|refine av ?_|refine ak ?_ _));refine bG (cs:=#[.int .i64 (wrap64 (1+(Int.tmod (wrap64 (rd l0 0)) 8))),.string (bE ByteArray.empty y423 (ji7)),.string (⟨#[]⟩:ByteArray),.slice none 0 0,.slice none 0 0]) ?_ 2 _ (by first|rfl|(simp only [ay,ax];rfl)|simp [ay,ax]);(with_reducible repeat (first|refine au ?_ _|refine av ?_|refine ak ?_ _));refine bG (cs:=#[.int .i64 (wrap64 (1+(Int.tmod (wrap64 (rd l0 0)) 8))),.string (⟨#[]⟩:ByteArray),.string (⟨#[]⟩:ByteArray),.slice none 0 0,.slice none 0 0]) ?_ 1 _ (by first|rfl|(simp only [ay,ax];rfl)|simp [ay,ax]);(with_reducible repeat (first|refine au ?_ _|refine av ?_|refine ak ?_ _));refine bG (cs:=#[.int .i64 0,.string (⟨#[]⟩:ByteArray),.string (⟨#[]⟩:ByteArray),.slice none 0 0,.slice none 0 0]) ?_ 0 _ (by first|rfl|(simp only [ay,ax];rfl)|simp [ay,ax]);(with_reducible repeat (first|refine au ?_ _|refine av ?_|refine ak ?_ _));refine dB ?_ NB420_422.out _;(with_reducible repeat (first|refine au ?_ _|refine av ?_|refine ak ?_ _));exact BK420.out) Tryz.underlying25 rfl (by kernel_rfl)) rfl ?_
               exact ⟨_,_,by first|rfl|(simp [aM,aK] <;> rfl)|(simp only [← hji7,← hji10,← hji86];first|rfl|(simp [aM,aK] <;> rfl))|(simp [*,aM,aK] <;> rfl),by (with_reducible repeat (first|apply Kd.cB|apply Kd.cz|apply Kd.dm));exact Kd.dF (Kd.oN (p:=⟨gb420,4,none⟩) (Kd.oN (p:=⟨gb420,3,none⟩) (Kd.oN (p:=⟨gb420,2,none⟩) (Kd.oN (p:=⟨gb420,1,none⟩) (Kd.oN (p:=⟨gb420,0,none⟩) (Kd.oN (p:=⟨gb422,3,none⟩) (Kd.dF (Kd.dF HL485_0.out (fun k_ hk=>(⟨hk,hk.1.2.2⟩:_∧k_≠gb422))) (fun k_ hk=>(⟨hk,hk.1.1.2.1⟩:_∧k_≠gb420))) (fun _ hk=>hk.1.2) (.slice A485_0 (gZ y482 (ji86)).length c485_0)) (fun _ hk=>hk.2) (.int .i64 (wrap64 (1+(Int.tmod (wrap64 (rd l0 0)) 8))))) (fun _ hk=>hk.2) (.string (bE ByteArray.empty y423 (ji7)))) (fun _ hk=>hk.2) (.string (⟨#[]⟩:ByteArray))) (fun _ hk=>hk.2) (.slice A485_0 (gZ y482 (ji86)).length c485_0)) (fun _ hk=>hk.2) (.slice none 0 0)) (fun _ hk=>⟨hk.1.1.1.1,(by simp [Value.ownBlock])⟩),by first|exact Kd.ko _ _ _ _ _|exact Kd.oL _ _ _ _ _|exact Kd.jw _ _ _ _ _|exact Kd.oO _ _ _ _ _|exact Kd.oP _ _ _ _ _,by repeat (first|(with_reducible first|exact HB.out|apply af|apply ae|apply ag|refine ah ?_ GE420.out|refine ah ?_ GE422.out)|exact HB.out)⟩
              ·rw [if_neg c88] at H
               exact absurd H (by simp)
             ·rw [if_neg c87] at H
              exact absurd H (by simp)
            ·rw [if_neg c85] at H
             exact absurd H (by simp)
           ·rw [if_neg c84] at H
            have c84b0:((wrap64 (1+(Int.tmod (wrap64 (rd l0 0)) 8))) == 5)=false:=beq_eq_false_iff_ne.mpr c84
            have c84b1:((wrap64 (1+(Int.tmod (wrap64 (rd l0 0)) 8))) != 5)=true:=bne_iff_ne.mpr c84
            simp only [Option.some.injEq,Prod.mk.injEq] at H
            obtain ⟨rfl,rfl,rfl,rfl,rfl⟩:=H
            have hnb108:=NB422_420.out
            have hnc108:=NB420_422.out
            have hcz109_0:wc.cell? ⟨gb422,0,none⟩=some (.int .i64 (wrap64 (1+(Int.tmod (wrap64 (rd l0 0)) 8)))):=(aj BK422.out 0).trans rfl
            have hcz109_1:wc.cell? ⟨gb422,1,none⟩=some (.string (⟨#[]⟩:ByteArray)):=(aj BK422.out 1).trans rfl
            have hcz109_2:wc.cell? ⟨gb422,2,none⟩=some (.string (⟨#[]⟩:ByteArray)):=(aj BK422.out 2).trans rfl
            have hcz109_3:wc.cell? ⟨gb422,3,none⟩=some (.slice none 0 0):=(aj BK422.out 3).trans rfl
            have hcz109_4:wc.cell? ⟨gb422,4,none⟩=some (.slice none 0 0):=(aj BK422.out 4).trans rfl
            have hfz109_0:=ai BK422.out 0
            have hfz109_1:=ai BK422.out 1
            have hfz109_2:=ai BK422.out 2
            have hfz109_3:=ai BK422.out 3
            have hfz109_4:=ai BK422.out 4
            have hcz110_0:wc.cell? ⟨gb420,0,none⟩=some (.int .i64 0):=(aj BK420.out 0).trans rfl
            have hcz110_1:wc.cell? ⟨gb420,1,none⟩=some (.string (⟨#[]⟩:ByteArray)):=(aj BK420.out 1).trans rfl
            have hcz110_2:wc.cell? ⟨gb420,2,none⟩=some (.string (⟨#[]⟩:ByteArray)):=(aj BK420.out 2).trans rfl
            have hcz110_3:wc.cell? ⟨gb420,3,none⟩=some (.slice none 0 0):=(aj BK420.out 3).trans rfl
            have hcz110_4:wc.cell? ⟨gb420,4,none⟩=some (.slice none 0 0):=(aj BK420.out 4).trans rfl
            have hfz110_0:=ai BK420.out 0
            have hfz110_1:=ai BK420.out 1
            have hfz110_2:=ai BK420.out 2
            have hfz110_3:=ai BK420.out 3
            have hfz110_4:=ai BK420.out 4
            go_wp2
            refine bodyPost_ret (results_cell_row rfl _ _ gb420 25 #[.int .i64 (wrap64 (1+(Int.tmod (wrap64 (rd l0 0)) 8))),.string (bE ByteArray.empty y423 (ji7)),.string (bE ByteArray.empty y427 (ji10)),.slice none 0 0,.slice none 0 0] (0,0) _ rfl (by (with_reducible repeat (first|refine au ?_ _|refine av ?_|refine ak ?_ _));refine bG (cs:=#[.int .i64 (wrap64 (1+(Int.tmod (wrap64 (rd l0 0)) 8))),.string (bE ByteArray.empty y423 (ji7)),.string (bE ByteArray.empty y427 (ji10)),.slice none 0 0,.slice none 0 0]) ?_ 4 _ (by first|rfl|(simp only [ay,ax];rfl)|simp [ay,ax]);(with_reducible repeat (first|refine au ?_ _|refine av ?_|refine ak ?_ _));refine bG (cs:=#[.int .i64 (wrap64 (1+(Int.tmod (wrap64 (rd l0 0)) 8))),.string (bE ByteArray.empty y423 (ji7)),.string (bE ByteArray.empty y427 (ji10)),.slice none 0 0,.slice none 0 0]) ?_ 3 _ (by first|rfl|(simp only [ay,ax];rfl)|simp [ay,ax]);(with_reducible repeat (first|refine au ?_ _|refine av ?_|refine ak ?_ _));refine bG (cs:=#[.int .i64 (wrap64 (1+(Int.tmod (wrap64 (rd l0 0)) 8))),.string (bE ByteArray.empty y423 (ji7)),.string (⟨#[]⟩:ByteArray),.slice none 0 0,.slice none 0 0]) ?_ 2 _ (by first|rfl|(simp only [ay,ax];rfl)|simp [ay,ax]);(with_reducible repeat (first|refine au ?_ _|refine av ?_|refine ak ?_ _));refine bG (cs:=#[.int .i64 (wrap64 (1+(Int.tmod (wrap64 (rd l0 0)) 8))),.string (⟨#[]⟩:ByteArray),.string (⟨#[]⟩:ByteArray),.slice none 0 0,.slice none 0 0]) ?_ 1 _ (by first|rfl|(simp only [ay,ax];rfl)|simp [ay,ax]);(with_reducible repeat (first|refine au ?_ _|refine av ?_|refine ak ?_ _));refine bG (cs:=#[.int .i64 0,.string (⟨#[]⟩:ByteArray),.string (⟨#[]⟩:ByteArray),.slice none 0 0,.slice none 0 0]) ?_ 0 _ (by first|rfl|(simp only [ay,ax];rfl)|simp [ay,ax]);(with_reducible repeat (first|refine au ?_ _|refine av ?_|refine ak ?_ _));refine dB ?_ NB420_422.out _;(with_reducible repeat (first|refine au ?_ _|refine av ?_|refine ak ?_ _));refine dB ?_ NB420_422.out _;(with_reducible repeat (first|refine au ?_ _|refine av ?_|refine ak ?_ _));exact BK420.out) Tryz.underlying25 rfl (by kernel_rfl)) rfl ?_
            exact ⟨_,_,by first|rfl|(simp [aM,aK] <;> rfl)|(simp only [← hji7,← hji10];first|rfl|(simp [aM,aK] <;> rfl))|(simp [*,aM,aK] <;> rfl),Kd.jw _ _ _ _ _,by first|exact Kd.ko _ _ _ _ _|exact Kd.oL _ _ _ _ _|exact Kd.jw _ _ _ _ _|exact Kd.oO _ _ _ _ _|exact Kd.oP _ _ _ _ _,by repeat (first|(with_reducible first|exact HB.out|apply af|apply ae|apply ag|refine ah ?_ GE420.out|refine ah ?_ GE422.out)|exact HB.out)⟩
      ·rw [if_neg c12] at H
       exact absurd H (by simp)
     ·rw [if_neg c11] at H
      exact absurd H (by simp)
    ·rw [if_neg c9] at H
     exact absurd H (by simp)
   ·rw [if_neg c8] at H
    exact absurd H (by simp)
  ·rw [if_neg c6] at H
   exact absurd H (by simp)
end Go.Proofs.YthfpaoacjpjnfaaGreatDoor.P


namespace Go.Proofs.YthfpaoacjpjnfaaGreatDoor.P
open Go.RowKit Go.Proofs.YthfpaoacjpjnfaaGreatDoorW.PrintWords Go.Proofs.YthfpaoacjpjnfaaGreatDoorW.PrintLast Go.Proofs.YthfpaoacjpjnfaaGreatDoorW.PrintMore
def MF (f:S25):Prop:=(∀ m,szF m f)∧(∀ m,szT m f)∧∀ m,noM m f
abbrev tup (f:S25):Int × ByteArray × ByteArray × List ByteArray × List S25:=(f.f0,f.f1,f.f2,f.f3,f.f4)
theorem MF.mk' (kd:Int) (t v:ByteArray) (ps:List ByteArray) (ks:List S25) (ht:t.size≤1073741824) (h3:dO t.data.toList≠3) (hp:∀ i:Nat,i < ps.length→(bE ByteArray.empty ps (i:Int)).size≤4611686018427387903) (hk:∀ x ∈ ks,MF x):MF ⟨kd,t,v,ps,ks⟩:=by
  refine ⟨fun m=>?_,fun m=>?_,fun m=>?_⟩
  · cases m with
    | zero=>exact hp
    | succ m=>exact ⟨hp,fun x hx=>(hk x hx).1 m⟩
  · cases m with
    | zero=>exact ht
    | succ m=>exact ⟨ht,fun x hx=>(hk x hx).2.1 m⟩
  · cases m with
    | zero=>exact h3
    | succ m=>exact ⟨h3,fun x hx=>(hk x hx).2.2 m⟩
def Bs (l:List Int):Prop:=∀ z ∈ l,0≤z∧z≤255
theorem Bs.of_rd {l:List Int} (h:∀ i:Nat,0≤rd l (i:Int)∧rd l (i:Int)≤255):Bs l:=by
  intro z hz
  obtain ⟨i,hi,e⟩:=List.mem_iff_getElem.1 hz
  have:=h i
  unfold rd at this
  rw [Int.toNat_natCast,List.getD_eq_getElem?_getD,List.getElem?_eq_getElem hi] at this
  rw [← e]
  exact this
theorem Bs.rd0 {l:List Int} (h:Bs l):0≤rd l 0∧rd l 0≤255:=by
  unfold rd
  rw [List.getD_eq_getElem?_getD]
  cases l with
  | nil=>decide
  | cons a r=>exact h a List.mem_cons_self
theorem gT:∀ i:Nat,i < ([]:List ByteArray).length→(bE ByteArray.empty [] (i:Int)).size≤4611686018427387903:=fun i hi=>absurd hi (Nat.not_lt_zero _)
theorem iQ {a b:Int} (h0:0≤a) (h1:a≤255) (hb:0 < b):0≤Int.tdiv a b∧Int.tdiv a b≤255:=by
  refine ⟨Int.tdiv_nonneg h0 (by omega),?_⟩
  have:=Int.tdiv_le_self b h0
  omega
def qF:List ByteArray:=[(⟨#[99,110]⟩:ByteArray),(⟨#[115,110]⟩:ByteArray),(⟨#[100,101,115,99,114,105,112,116,105,111,110]⟩:ByteArray),(⟨#[117,105,100,78,117,109,98,101,114]⟩:ByteArray),(⟨#[109,97,105,108]⟩:ByteArray),(⟨#[111,98,106,101,99,116,67,108,97,115,115]⟩:ByteArray)]
theorem uR:∀ n:Fin 6,dO (bE ByteArray.empty qF (n.val:Int)).data.toList≠3:=by decide +kernel
theorem ug:∀ n:Fin 6,(bE ByteArray.empty qF (n.val:Int)).size≤30:=by decide
def uG (s:ByteArray):List (List ByteArray):=[(([(⟨#[110]⟩:ByteArray),(⟨#[]⟩:ByteArray)]:List ByteArray)),(([(⟨#[]⟩:ByteArray),(⟨#[49]⟩:ByteArray)]:List ByteArray)),(([(⟨#[]⟩:ByteArray),s++(⟨#[101]⟩:ByteArray),(⟨#[]⟩:ByteArray)]:List ByteArray)),(([(⟨#[68]⟩:ByteArray),(⟨#[32]⟩:ByteArray),(⟨#[53]⟩:ByteArray)]:List ByteArray))]
theorem sV (s:ByteArray) (hs:s.size≤1000) (i:Int) (h0:0≤i) (h1:i < 4):∀ p ∈ gZ (uG s) i,p.size≤1001:=by
  have hc:i=0∨i=1∨i=2∨i=3:=by omega
  have hz:(s++(⟨#[101]⟩:ByteArray)).size≤1001:=by
    rw [ByteArray.size_append]
    have:(⟨#[101]⟩:ByteArray).size=1:=rfl
    omega
  have h2:∀ a b:ByteArray,a.size≤1001→b.size≤1001→∀ p ∈ [a,b],p.size≤1001:=fun a b ha hb p hp=>by
    rcases List.mem_cons.1 hp with rfl|hp
    · exact ha
    · rw [List.mem_singleton.1 hp];exact hb
  have h3:∀ a b c:ByteArray,a.size≤1001→b.size≤1001→c.size≤1001→∀ p ∈ [a,b,c],p.size≤1001:=fun a b c ha hb hc p hp=>by
    rcases List.mem_cons.1 hp with rfl|hp
    · exact ha
    · exact h2 b c hb hc p hp
  rcases hc with rfl|rfl|rfl|rfl
  · exact h2 _ _ (by decide) (by decide)
  · exact h2 _ _ (by decide) (by decide)
  · exact h3 _ _ _ (by decide) hz (by decide)
  · exact h3 _ _ _ (by decide) (by decide) (by decide)
theorem tH {l:List ByteArray} {n:Nat} (h:∀ p ∈ l,p.size≤n) (i:Nat) (hi:i < l.length):(bE ByteArray.empty l (i:Int)).size≤n:=by
  unfold bE
  rw [Int.toNat_natCast,List.getD_eq_getElem?_getD,List.getElem?_eq_getElem hi]
  exact h _ (List.getElem_mem hi)
theorem rC (s:ByteArray) (x0:List Int) (hx:Bs x0) (hlen:1≤x0.length) (hl:x0.length≤1000000) (n0 kd:Int) (hn:0≤n0∧n0≤255)
    (IH:∀ l:List Int,l.length < x0.length→Bs l→∃ f,Ev (fun k=>aH.f k l s) (tup f)∧MF f) :
    ∀ (m i:Nat),x0.length - i=m→1≤i→∀ acc:List S25,acc.length≤i→(∀ x ∈ acc,MF x)→∃ f,Ev (fun k=>aH.l0 k x0 s n0 (i:Int) kd (⟨#[]⟩:ByteArray) (⟨#[]⟩:ByteArray) acc) (tup f)∧MF f:=by
  have fin:∀ acc:List S25,(∀ x ∈ acc,MF x)→∃ f,Ev (fun k=>if kd=3 then (if 1≤(x0.length:Int) then ((aH.f k (x0.drop 1) s).bind fun bt445=>(some (kd,(⟨#[]⟩:ByteArray),(⟨#[]⟩:ByteArray),([]:List ByteArray),(([(⟨bt445.1,bt445.2.1,bt445.2.2.1,bt445.2.2.2.1,bt445.2.2.2.2⟩:S25)]:List (S25)))))) else (none)) else (some (kd,(⟨#[]⟩:ByteArray),(⟨#[]⟩:ByteArray),([]:List ByteArray),acc))) (tup f)∧MF f:=by
    intro acc ha
    by_cases c:kd=3
    · obtain ⟨⟨g0,g1,g2,g3,g4⟩,hg,mg⟩:=IH (x0.drop 1) (by rw [List.length_drop];omega) (fun z hz=>hx z (List.mem_of_mem_drop hz))
      exact ⟨⟨kd,⟨#[]⟩,⟨#[]⟩,[],[⟨g0,g1,g2,g3,g4⟩]⟩,Ev.ifp c (Ev.ifp (by omega) (hg.bind (Ev.now _))),MF.mk' _ _ _ _ _ (by decide) (by decide +kernel) gT (fun x hx=>by rw [List.mem_singleton.1 hx];exact mg)⟩
    · exact ⟨⟨kd,⟨#[]⟩,⟨#[]⟩,[],acc⟩,Ev.ifn c (Ev.now _),MF.mk' _ _ _ _ _ (by decide) (by decide +kernel) gT ha⟩
  have d24:=iQ hn.1 hn.2 (b:=24) (by decide)
  have d60:=iQ hn.1 hn.2 (b:=60) (by decide)
  have W24:=aa.mk (show wrap64 (Int.tdiv n0 24)=Int.tdiv n0 24 from wrap_small _ d24.1 (by omega))
  have W60:=aa.mk (show wrap64 (Int.tdiv n0 60)=Int.tdiv n0 60 from wrap_small _ d60.1 (by omega))
  have t4:=fF d24.1 (b:=4) (by decide)
  intro m
  induction m with
  | zero =>
    intro i hm hi acc ha hacc
    obtain ⟨f,hf,mf⟩:=fin acc hacc
    have c:¬ (i:Int) < (x0.length:Int):=by omega
    exact ⟨f,Ev.step (fun k=>by rw [aH.l0]) (Ev.ifn c hf),mf⟩
  | succ m ih =>
    intro i hm hi acc ha hacc
    have c:(i:Int) < (x0.length:Int):=by omega
    by_cases c2:(i:Int)≤Int.tmod (Int.tdiv n0 24) 4
    · have hi3:(i:Int)≤3:=by omega
      have WW:=aa.mk (show wrap64 (wrap64 ((i:Int)+wrap64 (Int.tdiv n0 60))+1)=(i:Int)+Int.tdiv n0 60+1 by rw [W60.out,wrap_small ((i:Int)+Int.tdiv n0 60) (by omega) (by omega),wrap_small ((i:Int)+Int.tdiv n0 60+1) (by omega) (by omega)])
      obtain ⟨e,he,he1,he2⟩:∃ e:Nat,mn (x0.length:Int) ((i:Int)+Int.tdiv n0 60+1)=(e:Int)∧i≤e∧e≤x0.length:=by
        refine ⟨(mn (x0.length:Int) ((i:Int)+Int.tdiv n0 60+1)).toNat,?_,?_,?_⟩ <;> (unfold mn;split <;> omega)
      obtain ⟨⟨g0,g1,g2,g3,g4⟩,hg,mg⟩:=IH ((x0.take e).drop i) (by rw [List.length_drop,List.length_take];omega) (fun z hz=>hx z (List.mem_of_mem_take (List.mem_of_mem_drop hz)))
      have HW:=aa.mk (show wrap64 ((i:Int)+1)=((i+1:Nat):Int) by rw [wrap_small _ (by omega) (by omega)];omega)
      obtain ⟨f,hf,mf⟩:=ih (i+1) (by omega) (by omega) (acc++[⟨g0,g1,g2,g3,g4⟩]) (by rw [List.length_append];simp;omega) (fun x hx=>by
        rcases List.mem_append.1 hx with h|h
        · exact hacc x h
        · rw [List.mem_singleton.1 h];exact mg)
      rw [← HW.out] at hf
      refine ⟨f,Ev.step (fun k=>by rw [aH.l0]) (Ev.ifp c (Ev.ifp (by rw [W24.out];exact c2) (Ev.ifp (by omega) ?_))),mf⟩
      rw [WW.out,he]
      refine Ev.ifp (by omega) (Ev.ifp (by omega) ?_)
      rw [Int.toNat_natCast,Int.toNat_natCast]
      exact hg.bind (Ev.ifp (by omega) hf)
    · obtain ⟨f,hf,mf⟩:=fin acc hacc
      exact ⟨f,Ev.step (fun k=>by rw [aH.l0]) (Ev.ifp c (Ev.ifn (by rw [W24.out];exact c2) hf)),mf⟩
theorem nG (s:ByteArray) (hs:s.size≤1000):∀ (n:Nat) (l:List Int),l.length≤n→l.length≤1000000→Bs l→∃ f,Ev (fun k=>aH.f k l s) (tup f)∧MF f:=by
  intro n
  induction n with
  | zero =>
    intro l hl _ hb
    have c:(l.length:Int)=0:=by omega
    exact ⟨⟨8,⟨#[99,110]⟩,⟨#[]⟩,[],[]⟩,Ev.step (fun k=>by rw [aH.f]) (Ev.ifp c (Ev.now _)),MF.mk' _ _ _ _ _ (by decide) (by decide +kernel) gT (fun x hx=>by cases hx)⟩
  | succ n ih =>
    intro l hl hl2 hb
    by_cases c0:l.length=0
    · have c:(l.length:Int)=0:=by omega
      exact ⟨⟨8,⟨#[99,110]⟩,⟨#[]⟩,[],[]⟩,Ev.step (fun k=>by rw [aH.f]) (Ev.ifp c (Ev.now _)),MF.mk' _ _ _ _ _ (by decide) (by decide +kernel) gT (fun x hx=>by cases hx)⟩
    have hr:=hb.rd0
    generalize hn:rd l 0=n0 at hr
    have WN:=aa.mk (show wrap64 n0=n0 from wrap_small _ hr.1 (by omega))
    have t8:=fF hr.1 (b:=8) (by decide)
    have WK:=aa.mk (show wrap64 (1+Int.tmod n0 8)=1+Int.tmod n0 8 from wrap_small _ (by omega) (by omega))
    have d8:=iQ hr.1 hr.2 (b:=8) (by decide)
    have d16:=iQ hr.1 hr.2 (b:=16) (by decide)
    have d48:=iQ hr.1 hr.2 (b:=48) (by decide)
    have W8:=aa.mk (show wrap64 (Int.tdiv n0 8)=Int.tdiv n0 8 from wrap_small _ d8.1 (by omega))
    have W16:=aa.mk (show wrap64 (Int.tdiv n0 16)=Int.tdiv n0 16 from wrap_small _ d16.1 (by omega))
    have W48:=aa.mk (show wrap64 (Int.tdiv n0 48)=Int.tdiv n0 48 from wrap_small _ d48.1 (by omega))
    have m8:=fF d8.1 (b:=6) (by decide)
    have m16:=fF d16.1 (b:=6) (by decide)
    have m48:=fF d48.1 (b:=4) (by decide)
    have IH:∀ l':List Int,l'.length < l.length→Bs l'→∃ f,Ev (fun k=>aH.f k l' s) (tup f)∧MF f:=fun l' h hb'=>ih l' (by omega) (by omega) hb'
    have J:∀ (t v:ByteArray) (x41:Bool),t.size≤30→dO t.data.toList≠3→∃ f,Ev (fun k=>aH.j0 k l s n0 t v (1+Int.tmod n0 8) x41 (1+Int.tmod n0 8) (⟨#[]⟩:ByteArray) (⟨#[]⟩:ByteArray)) (tup f)∧MF f:=by
      intro t v x41 ht h3
      cases x41 with
      | true =>
        obtain ⟨f,hf,mf⟩:=rC s l hb (by omega) hl2 n0 (1+Int.tmod n0 8) hr IH (l.length - 1) 1 rfl (Nat.le_refl _) [] (Nat.zero_le _) (fun x hx=>by cases hx)
        have hf':Ev (fun k=>aH.l0 k l s n0 1 (1+Int.tmod n0 8) (⟨#[]⟩:ByteArray) (⟨#[]⟩:ByteArray) []) (tup f):=hf
        exact ⟨f,Ev.step (fun k=>by rw [aH.j0]) (Ev.ifp rfl hf'),mf⟩
      | false =>
        by_cases k8:1+Int.tmod n0 8=8
        · exact ⟨⟨1+Int.tmod n0 8,t,⟨#[]⟩,[],[]⟩,Ev.step (fun k=>by rw [aH.j0]) (Ev.ifn (by decide) (Ev.ifp k8 (Ev.now _))),MF.mk' _ _ _ _ _ (by omega) h3 gT (fun x hx=>by cases hx)⟩
        by_cases k5:1+Int.tmod n0 8=5
        · have hp:=sV s hs (Int.tmod (Int.tdiv n0 48) 4) m48.1 m48.2
          refine ⟨⟨1+Int.tmod n0 8,t,⟨#[]⟩,gZ (uG s) (Int.tmod (Int.tdiv n0 48) 4),[]⟩,Ev.step (fun k=>by rw [aH.j0]) (Ev.ifn (by decide) (Ev.ifn k8 (Ev.ifp k5 (Ev.ifp (by omega) ?_)))),MF.mk' _ _ _ _ _ (by omega) h3 (fun i hi=>by have:=tH hp i hi;omega) (fun x hx=>by cases hx)⟩
          rw [W48.out]
          exact Ev.bs (Ev.ifp m48.1 (Ev.ifp (show Int.tmod (Int.tdiv n0 48) 4 < (4:Int) from m48.2) (Ev.now _)))
        · exact ⟨⟨1+Int.tmod n0 8,t,v,[],[]⟩,Ev.step (fun k=>by rw [aH.j0]) (Ev.ifn (by decide) (Ev.ifn k8 (Ev.ifn k5 (Ev.now _)))),MF.mk' _ _ _ _ _ (by omega) h3 gT (fun x hx=>by cases hx)⟩
    obtain ⟨q,hq⟩:∃ q:Fin 6,Int.tmod (Int.tdiv n0 8) 6=(q.val:Int):=⟨⟨(Int.tmod (Int.tdiv n0 8) 6).toNat,by omega⟩,by show _=(((Int.tmod (Int.tdiv n0 8) 6).toNat:Nat):Int);omega⟩
    have ht:(bE ByteArray.empty qF (Int.tmod (Int.tdiv n0 8) 6)).size≤30:=by rw [hq];exact ug q
    have h3:dO (bE ByteArray.empty qF (Int.tmod (Int.tdiv n0 8) 6)).data.toList≠3:=by rw [hq];exact uR q
    have c:¬ (l.length:Int)=0:=by omega
    have main:∃ f,Ev (fun k=>if 1+Int.tmod n0 8=1 then (aH.j0 k l s n0 (bE ByteArray.empty qF (Int.tmod (Int.tdiv n0 8) 6)) (bE ByteArray.empty [(⟨#[110,49]⟩:ByteArray),(⟨#[78,50]⟩:ByteArray),s,(⟨#[53]⟩:ByteArray),(⟨#[100]⟩:ByteArray),(⟨#[112,101,114,115,111,110]⟩:ByteArray)] (Int.tmod (Int.tdiv n0 16) 6)) (1+Int.tmod n0 8) ((1+Int.tmod n0 8) == 1) (1+Int.tmod n0 8) (⟨#[]⟩:ByteArray) (⟨#[]⟩:ByteArray)) else (if 1+Int.tmod n0 8=2 then (aH.j0 k l s n0 (bE ByteArray.empty qF (Int.tmod (Int.tdiv n0 8) 6)) (bE ByteArray.empty [(⟨#[110,49]⟩:ByteArray),(⟨#[78,50]⟩:ByteArray),s,(⟨#[53]⟩:ByteArray),(⟨#[100]⟩:ByteArray),(⟨#[112,101,114,115,111,110]⟩:ByteArray)] (Int.tmod (Int.tdiv n0 16) 6)) (1+Int.tmod n0 8) ((1+Int.tmod n0 8) == 2) (1+Int.tmod n0 8) (⟨#[]⟩:ByteArray) (⟨#[]⟩:ByteArray)) else (aH.j0 k l s n0 (bE ByteArray.empty qF (Int.tmod (Int.tdiv n0 8) 6)) (bE ByteArray.empty [(⟨#[110,49]⟩:ByteArray),(⟨#[78,50]⟩:ByteArray),s,(⟨#[53]⟩:ByteArray),(⟨#[100]⟩:ByteArray),(⟨#[112,101,114,115,111,110]⟩:ByteArray)] (Int.tmod (Int.tdiv n0 16) 6)) (1+Int.tmod n0 8) ((1+Int.tmod n0 8) == 3) (1+Int.tmod n0 8) (⟨#[]⟩:ByteArray) (⟨#[]⟩:ByteArray)))) (tup f)∧MF f:=by
      by_cases k1:1+Int.tmod n0 8=1
      · obtain ⟨f,hf,mf⟩:=J _ _ _ ht h3
        exact ⟨f,Ev.ifp k1 hf,mf⟩
      by_cases k2:1+Int.tmod n0 8=2
      · obtain ⟨f,hf,mf⟩:=J _ _ _ ht h3
        exact ⟨f,Ev.ifn k1 (Ev.ifp k2 hf),mf⟩
      · obtain ⟨f,hf,mf⟩:=J _ _ _ ht h3
        exact ⟨f,Ev.ifn k1 (Ev.ifn k2 hf),mf⟩
    obtain ⟨f,hf,mf⟩:=main
    refine ⟨f,Ev.step (fun k=>by rw [aH.f]) (Ev.ifn c (Ev.ifp (by omega) (Ev.bs ?_))),mf⟩
    rw [hn,WN.out,WK.out,W8.out,W16.out]
    refine Ev.ifp m8.1 (Ev.ifp (show Int.tmod (Int.tdiv n0 8) 6 < (6:Int) from m8.2) (Ev.bs (Ev.ifp m16.1 (Ev.ifp (show Int.tmod (Int.tdiv n0 16) 6 < (6:Int) from m16.2) hf))))
end Go.Proofs.YthfpaoacjpjnfaaGreatDoor.P

namespace Go.Proofs.YthfpaoacjpjnfaaGreatDoor.P
open Go.RowKit Go.Proofs.YthfpaoacjpjnfaaGreatDoorW.PrintWords Go.Proofs.YthfpaoacjpjnfaaGreatDoorW.PrintLast Go.Proofs.YthfpaoacjpjnfaaGreatDoorW.PrintMore
attribute [local go_sem] dW dZ eP eQ dL dM dY dX
def bW.f (k:Nat)  : Option (Bool):=(bT.f k 1 (⟨#[]⟩:ByteArray) (⟨#[]⟩:ByteArray) ([]:List ByteArray) ([]:List (S25)) (⟨#[]⟩:ByteArray) ([]:List (S45))).bind fun t407=>(if t407=1 then ((bY.f (⟨#[97,110,110]⟩:ByteArray)).bind fun bt408=>((bT.f k 4 (⟨#[99,110]⟩:ByteArray) (⟨#[65,78,78]⟩:ByteArray) ([]:List ByteArray) ([]:List (S25)) bt408.1 bt408.2).bind fun t412=>(some (t412 == 1)))) else (some false))
set_option maxHeartbeats 8000000 in
set_option maxRecDepth 100000 in
theorem bW.calls (k:Nat)  (r:Bool) (w:World) (hG:Gl w) (h:bW.f k  = some r) :
  Calls Tryz.prog 15 #[] w fun e w'=>e=.returned (.bool r)∧Below w.heap.size w w':=by
 have hu25:=Tryz.underlying25
 have hu28:=Tryz.underlying28
 have HB:=aa.mk (Below.refl w.heap.size w)
 have HG:=aa.mk hG
 clear hG
 have H:((bT.f k 1 (⟨#[]⟩:ByteArray) (⟨#[]⟩:ByteArray) ([]:List ByteArray) ([]:List (S25)) (⟨#[]⟩:ByteArray) ([]:List (S45))).bind fun t407=>(if t407=1 then ((bY.f (⟨#[97,110,110]⟩:ByteArray)).bind fun bt408=>((bT.f k 4 (⟨#[99,110]⟩:ByteArray) (⟨#[65,78,78]⟩:ByteArray) ([]:List ByteArray) ([]:List (S25)) bt408.1 bt408.2).bind fun t412=>(some (t412 == 1)))) else (some false)))=some r:=h
 clear h
 replace H:=Option.bind_eq_some_iff.mp H
 obtain ⟨t407,A10,H⟩:=H
 replace H:(if t407=1 then ((bY.f (⟨#[97,110,110]⟩:ByteArray)).bind fun bt408=>((bT.f k 4 (⟨#[99,110]⟩:ByteArray) (⟨#[65,78,78]⟩:ByteArray) ([]:List ByteArray) ([]:List (S25)) bt408.1 bt408.2).bind fun t412=>(some (t412 == 1)))) else (some false))=some r:=H
 have A1:=aa.mk A10
 clear A10
 by_cases c2:t407=1
 ·rw [if_pos c2] at H
  have c2b0:(t407 == 1)=true:=beq_iff_eq.mpr c2
  have c2b1:(t407 != 1)=false:=bne_eq_false_iff_eq.mpr c2
  clear c2
  replace H:=Option.bind_eq_some_iff.mp H
  obtain ⟨⟨t408,t409⟩,A30,H⟩:=H
  replace H:((bT.f k 4 (⟨#[99,110]⟩:ByteArray) (⟨#[65,78,78]⟩:ByteArray) ([]:List ByteArray) ([]:List (S25)) t408 t409).bind fun t412=>(some (t412 == 1)))=some r:=H
  have A3:=aa.mk A30
  clear A30
  replace H:=Option.bind_eq_some_iff.mp H
  obtain ⟨t412,A40,H⟩:=H
  replace H:(some (t412 == 1))=some r:=H
  have A4:=aa.mk A40
  clear A40
  obtain rfl:=Option.some.inj H
  go_enter Tryz.func15,Tryz.ntmps15
  go_wp2_with (first|((with_reducible refine aV (f:=13) rfl ?_);refine bJ (some 3) rfl rfl Tryz.func13 (by kernel_rfl) rfl #[.agg #[.int .i64 1,.string (⟨#[]⟩:ByteArray),.string (⟨#[]⟩:ByteArray),.slice none 0 0,.slice none 0 0],.agg #[.string (⟨#[]⟩:ByteArray),.slice none 0 0]] rfl (by (try simp only [List.map_toArray,List.map_cons,List.map_nil]);first|done|rfl|(simp only [List.length_drop,List.length_take];rfl)) ?_;(refine (bT.calls k 1 (⟨#[]⟩:ByteArray) (⟨#[]⟩:ByteArray) _ _ ([]:List ByteArray) _ _ ([]:List (S25)) (⟨#[]⟩:ByteArray) _ _ ([]:List (S45)) t407 _ ?side1 ?side2 ?side3 ?side4 ?side5 ?side6 ?side7 A1.out).mono ?_);(case side1=>exact Kd.iJ _ _);(case side2=>exact Nat.le_refl _);(case side3=>exact Kd.iJ _ _);(case side4=>exact Nat.le_refl _);(case side5=>exact Kd.iJ _ _);(case side6=>exact Nat.le_refl _);(case side7=>first|exact HG.out|exact Gl.drewN HG.out _|exact Gl.below HG.out (by repeat (first|(with_reducible first|exact HB.out|apply af|apply ae|apply ag)|exact HB.out)));rintro e w5 ⟨rfl,hb⟩;refine ⟨_,rfl,?_⟩;have n0_:=aa.mk (aD (by repeat (first|(with_reducible first|exact HB.out|apply af|apply ae|apply ag)|exact HB.out)) hb);clear HB;have HB:=n0_;clear n0_;(try clear hb);(try clear hb2);(try clear hk);(try clear hi))|(go_at_call 29;(with_reducible refine (bY.calls (⟨#[97,110,110]⟩:ByteArray) t408 t409 _ A3.out).mono ?_);rintro e w6 ⟨v410,rfl,ho0,hb⟩;have n0_:=aa.mk (Kd.fw (Kd.bH (ok':=fun k_=>True) ho0 (fun k_ hk_=>trivial)) (aG (by repeat (first|(with_reducible first|exact HB.out|apply af|apply ae|apply ag)|exact HB.out))));have n1_:=aa.mk (aD (by repeat (first|(with_reducible first|exact HB.out|apply af|apply ae|apply ag)|exact HB.out)) hb);clear HB;have HO411:=n0_;have HB:=n1_;clear n0_ n1_;(try clear hb);(try clear hb2);(try clear hk);(try clear hi);(try clear ho0);obtain ⟨Ao7,co7,eo7⟩:=Kd.dR HO411.out;subst eo7)|(go_at_call 13;(refine (bT.calls k 4 (⟨#[99,110]⟩:ByteArray) (⟨#[65,78,78]⟩:ByteArray) _ _ ([]:List ByteArray) _ _ ([]:List (S25)) t408 _ _ t409 t412 _ ?side1 ?side2 ?side3 ?side4 ?side5 ?side6 ?side7 A4.out).mono ?_);(case side1=>exact Kd.iJ _ _);(case side2=>exact Nat.le_refl _);(case side3=>exact Kd.iJ _ _);(case side4=>exact Nat.le_refl _);(case side5=>repeat (first|exact (Kd.bO HO411.out).2.2|(with_reducible refine Kd.aN ?_ _)|(with_reducible refine Kd.aQ ?_ _)|(with_reducible refine Kd.aW ?_)));(case side6=>exact (Kd.bO HO411.out).2.1);(case side7=>first|exact HG.out|exact Gl.drewN HG.out _|exact Gl.below HG.out (by repeat (first|(with_reducible first|exact HB.out|apply af|apply ae|apply ag)|exact HB.out)));rintro e w8 ⟨rfl,hb⟩;have n0_:=aa.mk (Kd.df (by (with_reducible repeat (first|apply Kd.aZ|apply Kd.aY|apply Kd.bn));exact HO411.out) hb);have n1_:=aa.mk (aD (by repeat (first|(with_reducible first|exact HB.out|apply af|apply ae|apply ag)|exact HB.out)) hb);clear HO411;clear HB;have HO411:=n0_;have HB:=n1_;clear n0_ n1_;(try clear hb);(try clear hb2);(try clear hk);(try clear hi)))
  go_ret
  exact ⟨by first|rfl|(simp [aM,aK] <;> rfl)|(simp [*,aM,aK] <;> rfl),by repeat (first|(with_reducible first|exact HB.out|apply af|apply ae|apply ag)|exact HB.out)⟩
 ·rw [if_neg c2] at H
  have c2b0:(t407 == 1)=false:=beq_eq_false_iff_ne.mpr c2
  have c2b1:(t407 != 1)=true:=bne_iff_ne.mpr c2
  obtain rfl:=Option.some.inj H
  go_enter Tryz.func15,Tryz.ntmps15
  go_wp2_with (first|((with_reducible refine aV (f:=13) rfl ?_);refine bJ (some 3) rfl rfl Tryz.func13 (by kernel_rfl) rfl #[.agg #[.int .i64 1,.string (⟨#[]⟩:ByteArray),.string (⟨#[]⟩:ByteArray),.slice none 0 0,.slice none 0 0],.agg #[.string (⟨#[]⟩:ByteArray),.slice none 0 0]] rfl (by (try simp only [List.map_toArray,List.map_cons,List.map_nil]);first|done|rfl|(simp only [List.length_drop,List.length_take];rfl)) ?_;(refine (bT.calls k 1 (⟨#[]⟩:ByteArray) (⟨#[]⟩:ByteArray) _ _ ([]:List ByteArray) _ _ ([]:List (S25)) (⟨#[]⟩:ByteArray) _ _ ([]:List (S45)) t407 _ ?side1 ?side2 ?side3 ?side4 ?side5 ?side6 ?side7 A1.out).mono ?_);(case side1=>exact Kd.iJ _ _);(case side2=>exact Nat.le_refl _);(case side3=>exact Kd.iJ _ _);(case side4=>exact Nat.le_refl _);(case side5=>exact Kd.iJ _ _);(case side6=>exact Nat.le_refl _);(case side7=>first|exact HG.out|exact Gl.drewN HG.out _|exact Gl.below HG.out (by repeat (first|(with_reducible first|exact HB.out|apply af|apply ae|apply ag)|exact HB.out)));rintro e w9 ⟨rfl,hb⟩;refine ⟨_,rfl,?_⟩;have n0_:=aa.mk (aD (by repeat (first|(with_reducible first|exact HB.out|apply af|apply ae|apply ag)|exact HB.out)) hb);clear HB;have HB:=n0_;clear n0_;(try clear hb);(try clear hb2);(try clear hk);(try clear hi)))
  go_ret
  exact ⟨by first|rfl|(simp [aM,aK] <;> rfl)|(simp [*,aM,aK] <;> rfl),by repeat (first|(with_reducible first|exact HB.out|apply af|apply ae|apply ag)|exact HB.out)⟩
end Go.Proofs.YthfpaoacjpjnfaaGreatDoor.P


namespace Go.Proofs.YthfpaoacjpjnfaaGreatDoor.P
open Go.RowKit Go.Proofs.YthfpaoacjpjnfaaGreatDoorW.PrintWords Go.Proofs.YthfpaoacjpjnfaaGreatDoorW.PrintLast Go.Proofs.YthfpaoacjpjnfaaGreatDoorW.PrintMore
theorem lS (a:Int):Ev (fun k=>bD.f k [] a) false:=by
  unfold bD.f bA.f
  refine Ev.bind (a:=-1) (Ev.step (fun k=>by rw [bA.l0]) (Ev.ifn (c:=(0:Int) < (([]:List Int).length:Int)) (by decide) (Ev.now _))) (Ev.now _)
theorem pK (a0:ByteArray) (l1:List S45):Ev (fun k=>bT.f k 1 (⟨#[]⟩:ByteArray) (⟨#[]⟩:ByteArray) [] [] a0 l1) 1:=by
  unfold bT.f
  have hm:eX.f 1 (⟨#[]⟩:ByteArray) (⟨#[]⟩:ByteArray) [] []=some true:=by
    unfold eX.f
    rw [if_pos (show szF 12 ⟨1,⟨#[]⟩,⟨#[]⟩,[],[]⟩ from ⟨fun i hi=>absurd hi (Nat.not_lt_zero _),fun x hx=>by cases hx⟩)]
    congr 1
    unfold fC dh jQ
    dsimp only
    rw [if_pos (.inl rfl)]
    decide +kernel
  rw [hm]
  refine Ev.bs (Ev.congr (fun k=>if_pos rfl) ?_)
  suffices h:Ev (fun k=>bP.f k 1 (⟨#[]⟩:ByteArray) (⟨#[]⟩:ByteArray) [] [] a0 l1) 1 from h.bind (Ev.now _)
  refine Ev.step (fun k=>by rw [bP.f]) (Ev.step (fun k=>by rw [bP.l0]) ?_)
  refine Ev.ifn (c:=(0:Int) < (([]:List S25).length:Int)) (by decide) (Ev.ifp (c:=(1:Int)=1) rfl ?_)
  unfold fT.f
  refine Ev.bind (a:=1) ((lS 0).bind (Ev.congr (fun k=>if_neg (by decide)) ((lS 2).bind (Ev.congr (fun k=>if_neg (by decide)) (Ev.now _))))) (Ev.now _)
theorem sD:Ev (fun k=>bW.f k) true:=by
  unfold bW.f
  refine (pK (⟨#[]⟩:ByteArray) []).bind (Ev.congr (fun k=>if_pos rfl) ?_)
  have hp:bY.f (⟨#[97,110,110]⟩:ByteArray)=some ((((⟨#[99,110,61]⟩:ByteArray)++⟨#[97,110,110]⟩)++(⟨#[44,111,61,120]⟩:ByteArray)),([(⟨(⟨#[99,110]⟩:ByteArray),(([(⟨#[97,110,110]⟩:ByteArray)]:List ByteArray))⟩:S45),(⟨(⟨#[111,98,106,101,99,116,99,108,97,115,115]⟩:ByteArray),(([(⟨#[112,101,114,115,111,110]⟩:ByteArray)]:List ByteArray))⟩:S45),(⟨(⟨#[115,110]⟩:ByteArray),(([(⟨#[115]⟩:ByteArray)]:List ByteArray))⟩:S45)])):=by
    unfold bY.f
    rw [if_pos (by decide),if_pos (by decide)]
  rw [hp]
  refine Ev.bs ?_
  have h:=tX 4 (⟨#[99,110]⟩:ByteArray) (⟨#[65,78,78]⟩:ByteArray) (((⟨#[99,110,61]⟩:ByteArray)++⟨#[97,110,110]⟩)++(⟨#[44,111,61,120]⟩:ByteArray)) ([(⟨(⟨#[99,110]⟩:ByteArray),(([(⟨#[97,110,110]⟩:ByteArray)]:List ByteArray))⟩:S45),(⟨(⟨#[111,98,106,101,99,116,99,108,97,115,115]⟩:ByteArray),(([(⟨#[112,101,114,115,111,110]⟩:ByteArray)]:List ByteArray))⟩:S45),(⟨(⟨#[115,110]⟩:ByteArray),(([(⟨#[115]⟩:ByteArray)]:List ByteArray))⟩:S45)]) [(⟨#[97,110,110]⟩:ByteArray)] (.inl rfl) (by decide +kernel) (by decide) (by decide) (by decide +kernel) (by decide +kernel) (by decide +kernel) (by decide)
  rw [show nu 4 (⟨#[99,110]⟩:ByteArray) (⟨#[65,78,78]⟩:ByteArray) [(⟨#[97,110,110]⟩:ByteArray)]=1 by decide +kernel] at h
  exact h.bind (Ev.now _)
end Go.Proofs.YthfpaoacjpjnfaaGreatDoor.P
