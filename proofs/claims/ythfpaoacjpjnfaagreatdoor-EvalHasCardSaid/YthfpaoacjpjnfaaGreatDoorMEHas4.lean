/- Part 4 of 8 of the proof. See the last part. -/
import Derived.Test.YthfpaoacjpjnfaaGreatDoorMEHas2
import Derived.Test.YthfpaoacjpjnfaaGreatDoorMEHas3
import Derived.Lib.ItoaNum
import Derived.BigQuiet
import Derived.Deep.QuietTactic
import Derived.Deep.RegionHeld3
import Derived.Deep.CutRange
set_option linter.unusedVariables false
set_option linter.unusedSimpArgs false
namespace Go.Proofs.YthfpaoacjpjnfaaGreatDoor.P
open Go.RowKit Go.Proofs.YthfpaoacjpjnfaaGreatDoorW.PrintWords Go.Proofs.YthfpaoacjpjnfaaGreatDoorW.PrintLast Go.Proofs.YthfpaoacjpjnfaaGreatDoorW.PrintMore
attribute [local go_sem] eB eu fB fC dR dQ ed eD
def eP.f (k:Nat) (a0:ByteArray) (a1:ByteArray) (a2:ByteArray):Option (ByteArray × ByteArray × Bool):=(bL.f k a0 a1).bind fun bt188=>((bL.f k a0 a2).bind fun bt190=>(if bt188.2=true then (some (bt188.1,bt190.1,bt190.2)) else (some (bt188.1,bt190.1,false))))
set_option maxHeartbeats 8000000 in
set_option maxRecDepth 100000 in
theorem eP.calls (k:Nat) (a0:ByteArray) (a1:ByteArray) (a2:ByteArray) (r1:ByteArray) (r2:ByteArray) (r3:Bool) (w:World) (hG:Gl w) (h:eP.f k a0 a1 a2=some (r1,r2,r3)) :
  Calls Tryz.prog 92 #[.string a0,.string a1,.string a2] w fun e w'=>e=.returned (.tuple #[.string r1,.string r2,.bool r3])∧Below w.heap.size w w':=by
 have HB:=ae.mk (Below.refl w.heap.size w)
 have HG:=ae.mk hG
 clear hG
 have H:((bL.f k a0 a1).bind fun bt188=>((bL.f k a0 a2).bind fun bt190=>(if bt188.2=true then (some (bt188.1,bt190.1,bt190.2)) else (some (bt188.1,bt190.1,false)))))=some (r1,r2,r3):=h
 clear h
 replace H:=Option.bind_eq_some_iff.mp H
 obtain ⟨⟨t188,t189⟩,A40,H⟩:=H
 replace H:((bL.f k a0 a2).bind fun bt190=>(if t189=true then (some (t188,bt190.1,bt190.2)) else (some (t188,bt190.1,false))))=some (r1,r2,r3):=H
 have A4:=ae.mk A40
 clear A40
 replace H:=Option.bind_eq_some_iff.mp H
 obtain ⟨⟨t190,t191⟩,A50,H⟩:=H
 replace H:(if t189=true then (some (t188,t190,t191)) else (some (t188,t190,false)))=some (r1,r2,r3):=H
 have A5:=ae.mk A50
 clear A50
 by_cases c6:t189=true
 ·subst c6
  have H1:(some (t188,t190,t191))=some (r1,r2,r3):=by rw [if_pos rfl] at H;exact H
  clear H
  have H:=H1
  clear H1
  simp only [Option.some.injEq,Prod.mk.injEq] at H
  obtain ⟨rfl,rfl,rfl⟩:=H
  go_enter Tryz.func92,Tryz.ntmps92
  go_wp2_with (first|((with_reducible refine aI (f:=39) rfl ?_);refine bn (some 13) rfl rfl Tryz.func39 (by kernel_rfl) rfl #[.string a0,.string a1] rfl (by (try simp only [List.map_toArray,List.map_cons,List.map_nil]);first|done|rfl|(simp only [List.length_drop,List.length_take];rfl)) ?_;(with_reducible refine (bL.calls k a0 a1 t188 true _ ?side1 A4.out).mono ?_);(case side1=>first|exact HG.out|exact Gl.drewN HG.out _|exact Gl.below HG.out (by repeat (first|(with_reducible first|exact HB.out|apply af|apply aa|apply ag)|exact HB.out)));rintro e w7 ⟨rfl,hb⟩;refine ⟨_,rfl,?_⟩;have n0_:=ae.mk (az (by repeat (first|(with_reducible first|exact HB.out|apply af|apply aa|apply ag)|exact HB.out)) hb);clear HB;have HB:=n0_;clear n0_;(try clear hb);(try clear hb2);(try clear hk);(try clear hi))|((with_reducible refine aI (f:=39) rfl ?_);refine bn (some 19) rfl rfl Tryz.func39 (by kernel_rfl) rfl #[.string a0,.string a2] rfl (by (try simp only [List.map_toArray,List.map_cons,List.map_nil]);first|done|rfl|(simp only [List.length_drop,List.length_take];rfl)) ?_;(with_reducible refine (bL.calls k a0 a2 t190 t191 _ ?side1 A5.out).mono ?_);(case side1=>first|exact HG.out|exact Gl.drewN HG.out _|exact Gl.below HG.out (by repeat (first|(with_reducible first|exact HB.out|apply af|apply aa|apply ag)|exact HB.out)));rintro e w8 ⟨rfl,hb⟩;refine ⟨_,rfl,?_⟩;have n0_:=ae.mk (az (by repeat (first|(with_reducible first|exact HB.out|apply af|apply aa|apply ag)|exact HB.out)) hb);clear HB;have HB:=n0_;clear n0_;(try clear hb);(try clear hb2);(try clear hk);(try clear hi)))
  go_ret3
  exact ⟨by first|rfl|(simp [aJ,aK] <;> rfl)|(simp [*,aJ,aK] <;> rfl),by repeat (first|(with_reducible first|exact HB.out|apply af|apply aa|apply ag)|exact HB.out)⟩
 ·replace c6:=Bool.eq_false_iff.mpr c6
  subst c6
  have H1:(some (t188,t190,false))=some (r1,r2,r3):=by rw [if_neg (show ¬ (false=true) by decide)] at H;exact H
  clear H
  have H:=H1
  clear H1
  simp only [Option.some.injEq,Prod.mk.injEq] at H
  obtain ⟨rfl,rfl,rfl⟩:=H
  go_enter Tryz.func92,Tryz.ntmps92
  go_wp2_with (first|((with_reducible refine aI (f:=39) rfl ?_);refine bn (some 13) rfl rfl Tryz.func39 (by kernel_rfl) rfl #[.string a0,.string a1] rfl (by (try simp only [List.map_toArray,List.map_cons,List.map_nil]);first|done|rfl|(simp only [List.length_drop,List.length_take];rfl)) ?_;(with_reducible refine (bL.calls k a0 a1 t188 false _ ?side1 A4.out).mono ?_);(case side1=>first|exact HG.out|exact Gl.drewN HG.out _|exact Gl.below HG.out (by repeat (first|(with_reducible first|exact HB.out|apply af|apply aa|apply ag)|exact HB.out)));rintro e w9 ⟨rfl,hb⟩;refine ⟨_,rfl,?_⟩;have n0_:=ae.mk (az (by repeat (first|(with_reducible first|exact HB.out|apply af|apply aa|apply ag)|exact HB.out)) hb);clear HB;have HB:=n0_;clear n0_;(try clear hb);(try clear hb2);(try clear hk);(try clear hi))|((with_reducible refine aI (f:=39) rfl ?_);refine bn (some 19) rfl rfl Tryz.func39 (by kernel_rfl) rfl #[.string a0,.string a2] rfl (by (try simp only [List.map_toArray,List.map_cons,List.map_nil]);first|done|rfl|(simp only [List.length_drop,List.length_take];rfl)) ?_;(with_reducible refine (bL.calls k a0 a2 t190 t191 _ ?side1 A5.out).mono ?_);(case side1=>first|exact HG.out|exact Gl.drewN HG.out _|exact Gl.below HG.out (by repeat (first|(with_reducible first|exact HB.out|apply af|apply aa|apply ag)|exact HB.out)));rintro e w10 ⟨rfl,hb⟩;refine ⟨_,rfl,?_⟩;have n0_:=ae.mk (az (by repeat (first|(with_reducible first|exact HB.out|apply af|apply aa|apply ag)|exact HB.out)) hb);clear HB;have HB:=n0_;clear n0_;(try clear hb);(try clear hb2);(try clear hk);(try clear hi)))
  go_ret3
  exact ⟨by first|rfl|(simp [aJ,aK] <;> rfl)|(simp [*,aJ,aK] <;> rfl),by repeat (first|(with_reducible first|exact HB.out|apply af|apply aa|apply ag)|exact HB.out)⟩
end Go.Proofs.YthfpaoacjpjnfaaGreatDoor.P

namespace Go.Proofs.YthfpaoacjpjnfaaGreatDoor.P
open Go.RowKit Go.Proofs.YthfpaoacjpjnfaaGreatDoorW.PrintWords Go.Proofs.YthfpaoacjpjnfaaGreatDoorW.PrintLast Go.Proofs.YthfpaoacjpjnfaaGreatDoorW.PrintMore
def su (x y:List UInt8):Option (Bool × Bool) :=
  match Lib.atoiAll x,Lib.atoiAll y with
  | .ok n,.ok m=>some (decide (n < m),true)
  | _,_=>none
def qg (r:Int) (x y:ByteArray):Option (Bool × Bool) :=
  if r=1 then some (Op.bytesLess x.toList y.toList,true) else if r=2 then (if x.size≤281474976710656∧y.size≤281474976710656 then su x.data.toList y.data.toList else none) else some (false,false)
def iG.f (k:Nat) (a0 a1 a2:ByteArray):Option (Bool × Bool) :=
  (eP.f k a0 a1 a2).bind fun b=>if b.2.2=true then (dA.f a0).bind fun r=>qg r b.1 b.2.1 else some (false,false)
set_option maxHeartbeats 8000000 in
theorem iG.calls (k:Nat) (a0 a1 a2:ByteArray) (r1 r2:Bool) (w:World) (hG:Gl w) (h:iG.f k a0 a1 a2=some (r1,r2)) :
    Calls Tryz.prog 69 #[.string a0,.string a1,.string a2] w fun e w'=>e=.returned (.tuple #[.bool r1,.bool r2])∧Below w.heap.size w w':=by
  unfold iG.f at h
  obtain ⟨⟨x,y,ok⟩,hn,h⟩:=Option.bind_eq_some_iff.1 h
  have HN:=Lib.hid hn
  have HG:=Lib.hid hG
  clear hn hG
  simp only at h
  cases ok with
  | false =>
    rw [if_neg (by simp)] at h
    obtain ⟨rfl,rfl⟩:=Prod.mk.inj (Option.some.inj h)
    clear h
    go_enter Tryz.func69,Tryz.ntmps69
    go_wp2_with (go_at_call 92;refine (eP.calls k a0 a1 a2 x y false _ HG.out HN.out).mono ?_;rintro e w1 ⟨rfl,hb1⟩;have HB1:=Lib.hid hb1;clear hb1)
    go_ret2
    exact ⟨rfl,HB1.out⟩
  | true =>
    rw [if_pos rfl] at h
    obtain ⟨r,hr,h⟩:=Option.bind_eq_some_iff.1 h
    have HR:=Lib.hid hr
    clear hr
    unfold qg at h
    by_cases e1:r=1
    · rw [if_pos e1] at h
      obtain ⟨rfl,rfl⟩:=Prod.mk.inj (Option.some.inj h)
      clear h
      have b1:(r == 1)=true:=beq_iff_eq.2 e1
      clear e1
      go_enter Tryz.func69,Tryz.ntmps69
      go_wp2_with (first
        | (go_at_call 92;refine (eP.calls k a0 a1 a2 x y true _ HG.out HN.out).mono ?_;rintro e w1 ⟨rfl,hb1⟩;have HB1:=Lib.hid hb1;clear hb1)
        | (go_at_call 59;refine (dA.calls a0 r _ HR.out).mono ?_;rintro e w2 ⟨rfl,hb2⟩;have HB2:=Lib.hid hb2;clear hb2))
      go_ret2
      exact ⟨rfl,HB1.out.trans (HB2.out.mono HB1.out.size)⟩
    · have b1:(r == 1)=false:=beq_eq_false_iff_ne.2 e1
      rw [if_neg e1] at h
      by_cases e2:r=2
      · rw [if_pos e2] at h
        by_cases hz:x.size≤281474976710656∧y.size≤281474976710656
        · rw [if_pos hz] at h
          unfold su at h
          have nx:∃ n,Lib.atoiAll x.data.toList=.ok n:=by
            cases hx:Lib.atoiAll x.data.toList with
            | ok n=>exact ⟨n,rfl⟩
            | _=>rw [hx] at h;exact absurd h (by simp)
          obtain ⟨n,hx⟩:=nx
          have ny:∃ m,Lib.atoiAll y.data.toList=.ok m:=by
            cases hy:Lib.atoiAll y.data.toList with
            | ok m=>exact ⟨m,rfl⟩
            | _=>rw [hx,hy] at h;exact absurd h (by simp)
          obtain ⟨m,hy⟩:=ny
          · ·
              rw [hx,hy] at h
              obtain ⟨rfl,rfl⟩:=Prod.mk.inj (Option.some.inj h)
              have HX:=Lib.hid hx
              have HY:=Lib.hid hy
              have HZ:=Lib.hid hz
              have b2:(r == 2)=true:=beq_iff_eq.2 e2
              clear h hx hy hz e1 e2
              go_enter Tryz.func69,Tryz.ntmps69
              go_wp2_with (first
                | (go_at_call 92;refine (eP.calls k a0 a1 a2 x y true _ HG.out HN.out).mono ?_;rintro e w1 ⟨rfl,hb1⟩;have HB1:=Lib.hid hb1;clear hb1)
                | (go_at_call 59;refine (dA.calls a0 r _ HR.out).mono ?_;rintro e w2 ⟨rfl,hb2⟩;have HB2:=Lib.hid hb2;clear hb2)
                | fail)
              refine (uZ x n HZ.out.1 HX.out _).mono ?_
              rintro e w3 ⟨rfl,hb3⟩
              have HB3:=Lib.hid hb3
              clear hb3
              go_wp2_with fail
              refine (uZ y m HZ.out.2 HY.out _).mono ?_
              rintro e w4 ⟨rfl,hb4⟩
              have HB4:=Lib.hid hb4
              clear hb4
              go_wp2_with fail
              go_ret2
              have c1:=HB1.out.trans (HB2.out.mono HB1.out.size)
              have c2:=c1.trans (HB3.out.mono c1.size)
              exact ⟨rfl,c2.trans (HB4.out.mono c2.size)⟩
        · rw [if_neg hz] at h
          cases h
      · rw [if_neg e2] at h
        obtain ⟨rfl,rfl⟩:=Prod.mk.inj (Option.some.inj h)
        have b2:(r == 2)=false:=beq_eq_false_iff_ne.2 e2
        clear h e1 e2
        go_enter Tryz.func69,Tryz.ntmps69
        go_wp2_with (first
          | (go_at_call 92;refine (eP.calls k a0 a1 a2 x y true _ HG.out HN.out).mono ?_;rintro e w1 ⟨rfl,hb1⟩;have HB1:=Lib.hid hb1;clear hb1)
          | (go_at_call 59;refine (dA.calls a0 r _ HR.out).mono ?_;rintro e w2 ⟨rfl,hb2⟩;have HB2:=Lib.hid hb2;clear hb2))
        go_ret2
        exact ⟨rfl,HB1.out.trans (HB2.out.mono HB1.out.size)⟩
end Go.Proofs.YthfpaoacjpjnfaaGreatDoor.P

namespace Go.Proofs.YthfpaoacjpjnfaaGreatDoor.P
open Go.RowKit Go.Proofs.YthfpaoacjpjnfaaGreatDoorW.PrintWords Go.Proofs.YthfpaoacjpjnfaaGreatDoorW.PrintLast Go.Proofs.YthfpaoacjpjnfaaGreatDoorW.PrintMore
attribute [local go_sem] eB eu fB fC dR dQ ed eD
def jM.f (k:Nat) (a0:ByteArray) (a1:ByteArray) (a2:ByteArray):Option (Bool):=(eP.f k a0 a1 a2).bind fun bt192=>(if bt192.2.2=true then (some (bt192.1.toList == bt192.2.1.toList)) else (some false))
set_option maxHeartbeats 8000000 in
set_option maxRecDepth 100000 in
theorem jM.calls (k:Nat) (a0:ByteArray) (a1:ByteArray) (a2:ByteArray) (r:Bool) (w:World) (hG:Gl w) (h:jM.f k a0 a1 a2=some r) :
  Calls Tryz.prog 68 #[.string a0,.string a1,.string a2] w fun e w'=>e=.returned (.bool r)∧Below w.heap.size w w':=by
 have HB:=ae.mk (Below.refl w.heap.size w)
 have HG:=ae.mk hG
 clear hG
 have H:((eP.f k a0 a1 a2).bind fun bt192=>(if bt192.2.2=true then (some (bt192.1.toList == bt192.2.1.toList)) else (some false)))=some r:=h
 clear h
 replace H:=Option.bind_eq_some_iff.mp H
 obtain ⟨⟨t192,t193,t194⟩,A40,H⟩:=H
 replace H:(if t194=true then (some (t192.toList == t193.toList)) else (some false))=some r:=H
 have A4:=ae.mk A40
 clear A40
 by_cases c5:t194=true
 ·subst c5
  have H1:(some (t192.toList == t193.toList))=some r:=by rw [if_pos rfl] at H;exact H
  clear H
  have H:=H1
  clear H1
  obtain rfl:=Option.some.inj H
  go_enter Tryz.func68,Tryz.ntmps68
  go_wp2_with (first|((with_reducible refine aI (f:=92) rfl ?_);refine bn (some 14) rfl rfl Tryz.func92 (by kernel_rfl) rfl #[.string a0,.string a1,.string a2] rfl (by (try simp only [List.map_toArray,List.map_cons,List.map_nil]);first|done|rfl|(simp only [List.length_drop,List.length_take];rfl)) ?_;(with_reducible refine (eP.calls k a0 a1 a2 t192 t193 true _ ?side1 A4.out).mono ?_);(case side1=>first|exact HG.out|exact Gl.drewN HG.out _|exact Gl.below HG.out (by repeat (first|(with_reducible first|exact HB.out|apply af|apply aa|apply ag)|exact HB.out)));rintro e w6 ⟨rfl,hb⟩;refine ⟨_,rfl,?_⟩;have n0_:=ae.mk (az (by repeat (first|(with_reducible first|exact HB.out|apply af|apply aa|apply ag)|exact HB.out)) hb);clear HB;have HB:=n0_;clear n0_;(try clear hb);(try clear hb2);(try clear hk);(try clear hi)))
  go_ret
  exact ⟨by first|rfl|(simp [aJ,aK] <;> rfl)|(simp [*,aJ,aK] <;> rfl),by repeat (first|(with_reducible first|exact HB.out|apply af|apply aa|apply ag)|exact HB.out)⟩
 ·replace c5:=Bool.eq_false_iff.mpr c5
  subst c5
  have H1:(some false)=some r:=by rw [if_neg (show ¬ (false=true) by decide)] at H;exact H
  clear H
  have H:=H1
  clear H1
  obtain rfl:=Option.some.inj H
  go_enter Tryz.func68,Tryz.ntmps68
  go_wp2_with (first|((with_reducible refine aI (f:=92) rfl ?_);refine bn (some 14) rfl rfl Tryz.func92 (by kernel_rfl) rfl #[.string a0,.string a1,.string a2] rfl (by (try simp only [List.map_toArray,List.map_cons,List.map_nil]);first|done|rfl|(simp only [List.length_drop,List.length_take];rfl)) ?_;(with_reducible refine (eP.calls k a0 a1 a2 t192 t193 false _ ?side1 A4.out).mono ?_);(case side1=>first|exact HG.out|exact Gl.drewN HG.out _|exact Gl.below HG.out (by repeat (first|(with_reducible first|exact HB.out|apply af|apply aa|apply ag)|exact HB.out)));rintro e w7 ⟨rfl,hb⟩;refine ⟨_,rfl,?_⟩;have n0_:=ae.mk (az (by repeat (first|(with_reducible first|exact HB.out|apply af|apply aa|apply ag)|exact HB.out)) hb);clear HB;have HB:=n0_;clear n0_;(try clear hb);(try clear hb2);(try clear hk);(try clear hi)))
  go_ret
  exact ⟨by first|rfl|(simp [aJ,aK] <;> rfl)|(simp [*,aJ,aK] <;> rfl),by repeat (first|(with_reducible first|exact HB.out|apply af|apply aa|apply ag)|exact HB.out)⟩
end Go.Proofs.YthfpaoacjpjnfaaGreatDoor.P


namespace Go.Proofs.YthfpaoacjpjnfaaGreatDoor.P
open Go.RowKit Go.Proofs.YthfpaoacjpjnfaaGreatDoorW.PrintWords Go.Proofs.YthfpaoacjpjnfaaGreatDoorW.PrintLast Go.Proofs.YthfpaoacjpjnfaaGreatDoorW.PrintMore
def uJ (l:List UInt8):Int :=
  if l=[117,105,100,110,117,109,98,101,114] then 2 else if l=[109,101,109,98,101,114] then 3 else if l=[117,115,101,114,112,97,115,115,119,111,114,100] then 4 else
  if l=[111,98,106,101,99,116,99,108,97,115,115] then 1 else if l=[99,110] then 1 else if l=[115,110] then 1 else if l=[111] then 1 else if l=[111,117] then 1 else if l=[117,105,100] then 1 else if l=[109,97,105,108] then 1 else
  if l=[100,101,115,99,114,105,112,116,105,111,110] then 1 else 0
def dY (t:List UInt8):Int:=uJ (t.map gB)
theorem oN (s:ByteArray):dZ.f s=some (uJ s.data.toList):=by
  unfold dZ.f uJ
  rw [toList_data]
  simp only [apply_ite (some (α:=Int))]
theorem mZ (s:ByteArray) (h:s.size≤9223372036854775807):dF.f s=if dY s.data.toList=0 then some (mk [],false) else some (gM s,true):=by
  unfold dF.f dY
  rw [if_pos h,oN,kG]
  rfl
theorem rR (s:ByteArray) (h:s.size≤9223372036854775807):dA.f s=some (dY s.data.toList):=by
  unfold dA.f
  rw [mZ s h]
  by_cases h0:dY s.data.toList=0
  · rw [if_pos h0,h0]
    show (dZ.f (mk [])).bind _=_
    rw [oN]
    rfl
  · rw [if_neg h0]
    show (dZ.f (gM s)).bind _=_
    rw [oN,kG]
    rfl
def iL:Option (List UInt8)→ByteArray × Bool
  | some n=>(mk n,true)
  | none=>(mk [],false)
def lg (o:Option (List UInt8)) (t v:List UInt8):Option (List UInt8) :=
  if v=[]∨100 < v.length then none else
  if dY t=1 then (if fO v=[] then none else some (fO v)) else
  if dY t=2 then (if gZ v=true then some v else none) else
  if dY t=3 then (if o=some [] then none else o) else
  if dY t=4 then some v else none
theorem Ev.const {α:Type} {g:Nat→Option α} {r:α} (h:∀ k,g k=some r):Ev g r:=⟨0,fun k _=>h k⟩
theorem Ev.ifp {α:Type} {c:Prop} [Decidable c] {f g:Nat→Option α} {r:α} (h:c) (e:Ev f r):Ev (fun k=>if c then f k else g k) r:=Ev.congr (fun k=>if_pos h) e
theorem Ev.ifn {α:Type} {c:Prop} [Decidable c] {f g:Nat→Option α} {r:α} (h:¬ c) (e:Ev g r):Ev (fun k=>if c then f k else g k) r:=Ev.congr (fun k=>if_neg h) e
theorem Ev.bs {α β:Type} {a:α} {f:Nat→α→Option β} {r:β} (e:Ev (fun k=>f k a) r):Ev (fun k=>(some a).bind (f k)) r:=e
theorem yO (t v:ByteArray) (o:Option (List UInt8)) (ht:t.size≤9223372036854775807)
    (hk:v.size≤100→dY t.data.toList=3→Ev (fun k=>dO.f k v) (iL o)) :
    Ev (fun k=>bL.f k t v) (iL (lg o t.data.toList v.data.toList)):=by
  by_cases h0:v.data.toList=[]
  · have:lg o t.data.toList v.data.toList=none:=by unfold lg;rw [if_pos (Or.inl h0)]
    rw [this]
    refine ⟨1,fun k hk=>?_⟩
    obtain ⟨k,rfl⟩:∃ j,k=j+1:=⟨k - 1,by omega⟩
    simp only [bL.f]
    rw [toList_data,if_pos h0]
    rfl
  by_cases h1:100 < v.data.toList.length
  · have:lg o t.data.toList v.data.toList=none:=by unfold lg;rw [if_pos (Or.inr h1)]
    rw [this]
    refine ⟨1,fun k hk=>?_⟩
    obtain ⟨k,rfl⟩:∃ j,k=j+1:=⟨k - 1,by omega⟩
    simp only [bL.f]
    rw [toList_data,if_neg h0,show decide ((v.size:Int) > 100)=true from decide_eq_true (by rw [bZ];omega)]
    rfl
  have hn:lg o t.data.toList v.data.toList=(if dY t.data.toList=1 then (if fO v.data.toList=[] then none else some (fO v.data.toList)) else
      if dY t.data.toList=2 then (if gZ v.data.toList=true then some v.data.toList else none) else
      if dY t.data.toList=3 then (if o=some [] then none else o) else
      if dY t.data.toList=4 then some v.data.toList else none):=by
    unfold lg
    rw [if_neg (by intro h;rcases h with h|h;exact h0 h;exact h1 h)]
  rw [hn]
  clear hn
  have hv:v.size≤100:=by rw [bZ];omega
  have key:Ev (fun k=>bL.j0 k t v false) (iL (if dY t.data.toList=1 then (if fO v.data.toList=[] then none else some (fO v.data.toList)) else
      if dY t.data.toList=2 then (if gZ v.data.toList=true then some v.data.toList else none) else
      if dY t.data.toList=3 then (if o=some [] then none else o) else
      if dY t.data.toList=4 then some v.data.toList else none)):=by
    refine Ev.step (fun k=>by rw [bL.j0,if_neg Bool.false_ne_true,rR t ht,Option.bind_some]) ?_
    by_cases r1:dY t.data.toList=1
    · simp only [if_pos r1]
      unfold gD.f
      rw [if_pos (by omega)]
      refine Ev.const fun k=>?_
      rw [Option.bind_some,fQ]
      by_cases hf:fO v.data.toList=[]
      · rw [if_pos hf,if_pos hf];rfl
      · rw [if_neg hf,if_neg hf];rfl
    simp only [if_neg r1]
    by_cases r2:dY t.data.toList=2
    · simp only [if_pos r2]
      unfold eF.f
      rw [if_pos (by omega)]
      refine Ev.const fun k=>?_
      rw [Option.bind_some]
      by_cases hf:gZ v.data.toList=true
      · rw [if_pos hf,if_pos hf,toList_data,if_neg h0];rfl
      · rw [if_neg hf,if_neg hf];rfl
    simp only [if_neg r2]
    by_cases r3:dY t.data.toList=3
    · simp only [if_pos r3]
      refine (hk hv r3).bind (Ev.const fun k=>?_)
      cases o with
      | none=>rfl
      | some n =>
        by_cases hn:n=[]
        · subst hn
          show (if true=true then (if (mk []).toList=[] then _ else _) else _)=_
          rw [if_pos rfl,if_pos (fQ []),if_pos rfl];rfl
        · show (if true=true then (if (mk n).toList=[] then _ else _) else _)=_
          rw [if_pos rfl,fQ,if_neg hn,if_neg (by intro h;exact hn (Option.some.inj h))];rfl
    simp only [if_neg r3]
    by_cases r4:dY t.data.toList=4
    · simp only [if_pos r4]
      refine Ev.const fun k=>?_
      rw [toList_data,if_neg h0];rfl
    · simp only [if_neg r4]
      exact Ev.const fun k=>rfl
  refine Ev.congr (fun k=>?_) key
  simp only [bL.f]
  rw [toList_data,if_neg h0,show decide ((v.size:Int) > 100)=false from decide_eq_false (by omega)]
def xW (x y:Option (List UInt8)):Bool :=
  match x,y with
  | some a,some b=>a == b
  | _,_=>false
theorem sS {t a b:ByteArray} {x y:Option (List UInt8)} (ha:Ev (fun k=>bL.f k t a) (iL x)) (hb:Ev (fun k=>bL.f k t b) (iL y)) :
    Ev (fun k=>eP.f k t a b) ((iL x).1,(iL y).1,(x.isSome && y.isSome)):=by
  unfold eP.f
  refine ha.bind (hb.bind (Ev.const fun k=>?_))
  cases x <;> cases y <;> rfl
theorem yZ {t a b:ByteArray} {x y:Option (List UInt8)} (ha:Ev (fun k=>bL.f k t a) (iL x)) (hb:Ev (fun k=>bL.f k t b) (iL y)) :
    Ev (fun k=>jM.f k t a b) (xW x y):=by
  unfold jM.f
  refine (sS ha hb).bind (Ev.const fun k=>?_)
  cases x with
  | none=>rfl
  | some x=>cases y with
    | none=>rfl
    | some y=>show (if true=true then some ((mk x).toList == (mk y).toList) else _)=_;rw [if_pos rfl,fQ,fQ];rfl
theorem zB {t a b:ByteArray} {x y:Option (List UInt8)} {p:Bool × Bool} (ht:t.size≤9223372036854775807) (ha:Ev (fun k=>bL.f k t a) (iL x)) (hb:Ev (fun k=>bL.f k t b) (iL y))
    (h:(if (x.isSome && y.isSome)=true then qg (dY t.data.toList) (iL x).1 (iL y).1 else some (false,false))=some p) :
    Ev (fun k=>iG.f k t a b) p:=by
  unfold iG.f
  refine (sS ha hb).bind (Ev.const fun k=>?_)
  rw [rR t ht,Option.bind_some]
  exact h
def gq (c:UInt8):Bool:=(decide (48≤c) && decide (c≤57)) || (decide (97≤c) && decide (c≤102)) || (decide (65≤c) && decide (c≤70))
def iI (c:UInt8):UInt8:=if c≤57 then c - 48 else if c≤70 then c - 55 else c - 87
def nu:List UInt8→Option (UInt8 × Nat)
  | []=>none
  | c :: r=>if (dH c || c == 61 || c == 35 || c == 32)=true then some (c,1) else
    match r with
    | []=>none
    | d :: _=>if (gq c && gq d)=true then some (iI c * 16+iI d,2) else none
def pU (first:Bool) (c:UInt8):Bool:=decide (c < 32) || decide (126 < c) || dH c || (first && (c == 35 || c == 32))
def ib (first sp:Bool):List UInt8→Option (List UInt8 × List UInt8)
  | []=>if sp=true then none else some ([],[])
  | c :: r=>if c=44 then (if sp=true then none else some ([],c :: r)) else
    if c=92 then (match nu r with|none=>none|some (b,n)=>(ib false false (r.drop n)).map fun p=>(b :: p.1,p.2)) else
    if pU first c=true then none else (ib false (c == 32) r).map fun p=>(c :: p.1,p.2)
termination_by l=>l.length
decreasing_by all_goals (simp only [List.length_drop,List.length_cons];omega)
theorem u8i (u v:UInt8):((u.toNat:Int)=(v.toNat:Int))↔u=v :=
  ⟨fun h=>UInt8.toNat_inj.1 (by omega),fun h=>by rw [h]⟩
theorem jX (c:UInt8):dE.f (c.toNat:Int)=some (if gq c=true then ((iI c).toNat:Int) else -1) :=
  d9 (p:=fun c=>dE.f (c.toNat:Int)=some (if gq c=true then ((iI c).toNat:Int) else -1)) (by decide +kernel) c
theorem sO (c:UInt8):gq c=true→(iI c).toNat < 16:=d9 (p:=fun c=>gq c=true→(iI c).toNat < 16) (by decide +kernel) c
theorem or16:∀ a b:Fin 16,(Go.bits .or .i64 (wrap64 ((a.val:Int) * 16)) (b.val:Int)) % 256=((UInt8.ofNat a.val * 16+UInt8.ofNat b.val).toNat:Int):=by decide +kernel
theorem zy (c d:UInt8) (hc:gq c=true) (hd:gq d=true):(Go.bits .or .i64 (wrap64 (((iI c).toNat:Int) * 16)) ((iI d).toNat:Int)) % 256=((iI c * 16+iI d).toNat:Int):=by
  have h:=or16 ⟨(iI c).toNat,sO c hc⟩ ⟨(iI d).toNat,sO d hd⟩
  simpa using h
theorem sj (c:UInt8) (r:List UInt8):bt (mk (c :: r)) 0=(c.toNat:Int):=by rw [yj];rfl
theorem yx (c d:UInt8) (r:List UInt8):bt (mk (c :: d :: r)) 1=(d.toNat:Int):=by rw [yj];rfl
theorem rq (c:UInt8) (r:List UInt8) (h:(dH c || c == 61 || c == 35 || c == 32)=true):nu (c :: r)=some (c,1):=by simp only [nu];rw [if_pos h]
theorem rX (c:UInt8) (h:(dH c || c == 61 || c == 35 || c == 32)=false):nu [c]=none:=by simp only [nu];rw [if_neg (by rw [h];exact Bool.false_ne_true)]
theorem oK (c d:UInt8) (r:List UInt8) (h:(dH c || c == 61 || c == 35 || c == 32)=false):nu (c :: d :: r)=if (gq c && gq d)=true then some (iI c * 16+iI d,2) else none:=by
  simp only [nu];rw [if_neg (by rw [h];exact Bool.false_ne_true)]
theorem pE (l:List UInt8) (b:UInt8) (n:Nat) (h:nu l=some (b,n)):(n=1∨n=2)∧n≤l.length:=by
  cases l with
  | nil=>cases h
  | cons c r =>
    cases hc:(dH c || c == 61 || c == 35 || c == 32) with
    | true =>
      rw [rq c r hc] at h
      have:=(Prod.mk.inj (Option.some.inj h)).2
      rw [List.length_cons];omega
    | false =>
      cases r with
      | nil=>rw [rX c hc] at h;cases h
      | cons d r =>
        rw [oK c d r hc] at h
        by_cases hh:(gq c && gq d)=true
        · rw [if_pos hh] at h
          have:=(Prod.mk.inj (Option.some.inj h)).2
          rw [List.length_cons,List.length_cons];omega
        · rw [if_neg hh] at h;cases h
def uL (l:List UInt8):Int × Int:=match nu l with|none=>(0,0)|some (b,n)=>((b.toNat:Int),(n:Int))
theorem mD (c d:UInt8) (r:List UInt8) (b:Bool) (hb:b=true→gq c=true∧gq d=true) :
    Ev (fun k=>bA.j1 k (mk (c :: d :: r)) b) (if b=true then (((iI c * 16+iI d).toNat:Int),2) else (0,0)):=by
  refine Ev.step (fun k=>by rw [bA.j1]) ?_
  cases b with
  | false=>exact Ev.ifn Bool.false_ne_true (Ev.now _)
  | true =>
    obtain ⟨hc,hd⟩:=hb rfl
    refine Ev.const fun k=>?_
    rw [if_pos rfl,if_pos rfl,if_pos (by rw [eT];simp only [List.length_cons];omega),sj,yx,jX,jX,if_pos hc,if_pos hd,Option.bind_some,if_pos (by rw [eT];simp only [List.length_cons];omega),Option.bind_some,zy c d hc hd]
theorem kH (c:UInt8) (r:List UInt8) (b:Bool) (hb:b=(dH c || c == 61 || c == 35 || c == 32)) :
    Ev (fun k=>bA.j0 k (mk (c :: r)) b) (uL (c :: r)):=by
  refine Ev.step (fun k=>by rw [bA.j0]) ?_
  unfold uL
  cases b with
  | true =>
    rw [rq c r hb.symm]
    refine Ev.const fun k=>?_
    rw [if_pos rfl,if_pos (by rw [eT];simp only [List.length_cons];omega),sj]
    rfl
  | false =>
    refine Ev.ifn Bool.false_ne_true ?_
    cases r with
    | nil =>
      rw [rX c hb.symm]
      exact Ev.ifn (by rw [eT];simp only [List.length_cons,List.length_nil];omega) (Ev.step (fun k=>by rw [bA.j1]) (Ev.const fun k=>by rw [if_neg Bool.false_ne_true]))
    | cons d r =>
      rw [oK c d r hb.symm]
      refine Ev.ifp (by rw [eT];simp only [List.length_cons];omega) (Ev.ifp (by rw [eT];simp only [List.length_cons];omega) ?_)
      rw [sj,jX]
      refine Ev.bs ?_
      by_cases hc:gq c=true
      · rw [if_pos hc]
        refine Ev.ifp (by omega) (Ev.ifp (by rw [eT];simp only [List.length_cons];omega) ?_)
        rw [yx,jX]
        refine Ev.bs ?_
        by_cases hd:gq d=true
        · rw [if_pos hd,hc,hd,decide_eq_true (by omega)]
          exact mD c d r true (fun _=>⟨hc,hd⟩)
        · rw [if_neg hd,Bool.eq_false_iff.2 hd,Bool.and_false,decide_eq_false (by omega)]
          exact mD c d r false (fun h=>by cases h)
      · rw [if_neg hc,Bool.eq_false_iff.2 hc,Bool.false_and]
        exact Ev.ifn (by omega) (mD c d r false (fun h=>by cases h))
theorem uE (s:ByteArray):Ev (fun k=>bA.f k s) (uL s.data.toList):=by
  rw [← vG s]
  generalize s.data.toList=l
  unfold bA.f
  rw [fQ]
  cases l with
  | nil=>exact Ev.ifp rfl (Ev.now _)
  | cons c r =>
    refine Ev.ifn (by simp) (Ev.ifp (by rw [eT];simp only [List.length_cons];omega) ?_)
    rw [sj,iC]
    refine Ev.bs ?_
    by_cases h1:dH c=true
    · exact Ev.ifp h1 (kH c r true (by rw [h1];rfl))
    have h1':=Bool.eq_false_iff.2 h1
    refine Ev.ifn h1 ?_
    by_cases h2:c=61
    · exact Ev.ifp ((u8i c 61).2 h2) (kH c r true (by rw [h2];rfl))
    refine Ev.ifn (fun h=>h2 ((u8i c 61).1 h)) ?_
    by_cases h3:c=35
    · exact Ev.ifp ((u8i c 35).2 h3) (kH c r true (by rw [h3];rfl))
    refine Ev.ifn (fun h=>h3 ((u8i c 35).1 h)) ?_
    refine kH c r _ ?_
    rw [h1',beq_eq_false_iff_ne.2 h2,beq_eq_false_iff_ne.2 h3,Bool.false_or,Bool.false_or,Bool.false_or]
    by_cases h4:c=32
    · rw [h4];rfl
    · rw [beq_eq_false_iff_ne.2 h4,show (((c.toNat:Int)) == 32)=false from beq_eq_false_iff_ne.2 (fun h=>h4 ((u8i c 32).1 h))]
theorem qJ (l:List UInt8) (i:Nat) (h:i < l.length):l.drop i=l.getD i 0 :: l.drop (i+1):=by
  rw [List.drop_eq_getElem_cons h,List.getD_eq_getElem?_getD,List.getElem?_eq_getElem h];rfl
theorem jw (s:ByteArray) (i:Nat):s.extract i s.size=mk (s.data.toList.drop i):=by
  apply pz
  have e:(s.data.toList.drop i).length=s.size - i:=by rw [List.length_drop,← bZ]
  rw [extract_data,mk_data,List.take_of_length_le (Nat.le_of_eq e)]
theorem wrap_small (n:Int) (h0:0≤n) (h1:n≤9223372036854775807):wrap64 n=n:=by
  first
    | exact wrap64_small n (by omega) (by omega)
    | (unfold wrap64;simp only [Int.emod_def];omega)
def nQ (o:List UInt8) (x:Option (List UInt8 × List UInt8)) (p:ByteArray × ByteArray × Bool):Prop :=
  match x with
  | some (v,r)=>p=(mk (o++v),mk r,true)
  | none=>p.2.2=false
theorem nQ.push {o:List UInt8} {b:UInt8} {x:Option (List UInt8 × List UInt8)} {p:ByteArray × ByteArray × Bool} (h:nQ (o++[b]) x p):nQ o (x.map fun q=>(b :: q.1,q.2)) p:=by
  cases x with
  | none=>exact h
  | some q =>
    obtain ⟨v,r⟩:=q
    unfold nQ at h ⊢
    simp only [Option.map_some]
    rw [h,List.append_assoc];rfl
theorem ug (s:ByteArray) (hs:s.size≤70368744177664):∀ (n i:Nat) (o:List UInt8) (sp:Bool),s.size - i=n→i≤s.size→o.length≤i →
    ∃ p,Ev (fun k=>bN.l0 k s (fT o) sp (i:Int)) p∧nQ o (ib (decide (i=0)) sp (s.data.toList.drop i)) p:=by
  intro n
  induction n using Nat.strongRecOn with
  | _ n ih =>
    intro i o sp hn hi ho
    have hlen:s.data.toList.length=s.size:=(bZ s).symm
    have stop:∀ (x20:Bool),x20=false→(s.data.toList.drop i=[]∨∃ r,s.data.toList.drop i=44 :: r) →
        ∃ p,Ev (fun k=>bN.j1 k s (fT o) sp (i:Int) x20) p∧nQ o (ib (decide (i=0)) sp (s.data.toList.drop i)) p:=by
      intro x20 hx hr
      subst hx
      refine ⟨(strOfNums (fT o),s.extract i s.size,!sp),Ev.step (fun k=>by rw [bN.j1]) (Ev.ifn Bool.false_ne_true (Ev.ifp (by omega) (Ev.ifp (by omega) (Ev.const fun k=>by rw [Int.toNat_natCast])))),?_⟩
      rw [nU,jw]
      cases sp with
      | true =>
        have:ib (decide (i=0)) true (s.data.toList.drop i)=none:=by
          rcases hr with hr|⟨r,hr⟩
          · rw [hr,ib,if_pos rfl]
          · rw [hr,ib,if_pos rfl,if_pos rfl]
        rw [this]
        rfl
      | false =>
        have:ib (decide (i=0)) false (s.data.toList.drop i)=some ([],s.data.toList.drop i):=by
          rcases hr with hr|⟨r,hr⟩
          · rw [hr,ib,if_neg Bool.false_ne_true]
          · rw [hr,ib,if_pos rfl,if_neg Bool.false_ne_true]
        rw [this]
        show _=_
        rw [List.append_nil];rfl
    by_cases hlt:i < s.size
    · have hd:=qJ s.data.toList i (by omega)
      generalize hc:s.data.toList.getD i 0=c at hd
      have hb:bt s (i:Int)=(c.toNat:Int):=by rw [oV,hc]
      by_cases h44:c=44
      · obtain ⟨p,hp,hv⟩:=stop ((bt s (i:Int)) != 44) (by rw [hb,h44];rfl) (Or.inr ⟨_,by rw [hd,h44]⟩)
        exact ⟨p,Ev.step (fun k=>by rw [bN.l0]) (Ev.ifp (by omega) (Ev.ifp (by omega) hp)),hv⟩
      · have hne:((bt s (i:Int)) != 44)=true:=by rw [hb,bne_iff_ne];exact fun h=>h44 ((u8i c 44).1 h)
        have body:∃ p,Ev (fun k=>bN.j1 k s (fT o) sp (i:Int) true) p∧nQ o (ib (decide (i=0)) sp (s.data.toList.drop i)) p:=by
          rw [hd,ib,if_neg h44]
          have w1:wrap64 ((i:Int)+1)=((i+1:Nat):Int):=by rw [wrap_small _ (by omega) (by omega)];omega
          by_cases h92:c=92
          · rw [if_pos h92]
            have he:=uE (s.extract (i+1) s.size)
            rw [jw,mk_data] at he
            have pre:∀ {p:ByteArray × ByteArray × Bool},Ev (fun k=>if (uL (s.data.toList.drop (i+1))).2=0 then some ((⟨#[]⟩:ByteArray),(⟨#[]⟩:ByteArray),false) else (if (fT o).length < 140737488355328 then (bN.l0 k s (fT o++[(uL (s.data.toList.drop (i+1))).1]) ((bt s (i:Int)) == 32) (wrap64 ((wrap64 ((i:Int)+(uL (s.data.toList.drop (i+1))).2))+1))) else none)) p →
                Ev (fun k=>bN.j1 k s (fT o) sp (i:Int) true) p:=by
              intro p hp
              refine Ev.step (fun k=>by rw [bN.j1]) (Ev.ifp rfl (Ev.ifp (by omega) (Ev.ifp (by omega) (Ev.ifp (by rw [hb,h92];rfl) ?_))))
              rw [w1]
              refine Ev.ifp (by omega) (Ev.ifp (by omega) ?_)
              rw [Int.toNat_natCast,jw]
              exact he.bind hp
            unfold uL at pre
            cases hx:nu (s.data.toList.drop (i+1)) with
            | none =>
              rw [hx] at pre
              exact ⟨_,pre (Ev.ifp rfl (Ev.now _)),rfl⟩
            | some q =>
              obtain ⟨b,m⟩:=q
              rw [hx] at pre
              have hm:(m=1∨m=2)∧i+1+m≤s.size:=by
                obtain ⟨e1,e2⟩:=pE _ _ _ hx
                rw [List.length_drop] at e2
                omega
              obtain ⟨p,hp,hv⟩:=ih (s.size - (i+1+m)) (by omega) (i+1+m) (o++[b]) false rfl hm.2 (by rw [List.length_append,List.length_singleton];omega)
              rw [show decide (i+1+m=0)=false from decide_eq_false (by omega)] at hv
              refine ⟨p,pre (Ev.ifn (by simp only;omega) (Ev.ifp (by rw [jJ];omega) ?_)),?_⟩
              · rw [← kX,show ((bt s (i:Int)) == 32)=false by rw [hb,h92];rfl]
                rw [wrap_small ((i:Int)+(m:Int)) (by omega) (by omega),wrap_small _ (by omega) (by omega),show (i:Int)+(m:Int)+1=((i+1+m:Nat):Int) by omega]
                exact hp
              · rw [← List.drop_drop] at hv
                exact hv.push
          · rw [if_neg h92]
            have go:∀ {p:ByteArray × ByteArray × Bool} (h32:32≤c) (h126:c≤126) (hsp:dH c=false) (hf:i=0→c≠35∧c≠32),Ev (fun k=>bN.l0 k s (fT o++[bt s (i:Int)]) ((bt s (i:Int)) == 32) (wrap64 ((i:Int)+1))) p→Ev (fun k=>bN.j1 k s (fT o) sp (i:Int) true) p:=by
              intro p h32 h126 hsp hf hp
              have g1:¬ bt s (i:Int) < 32:=by rw [hb];have:(32:UInt8).toNat≤c.toNat:=h32;have e:(32:UInt8).toNat=32:=rfl;omega
              have g2:¬ bt s (i:Int) > 126:=by rw [hb];have:c.toNat≤(126:UInt8).toNat:=h126;have e:(126:UInt8).toNat=126:=rfl;omega
              refine Ev.step (fun k=>by rw [bN.j1]) (Ev.ifp rfl (Ev.ifp (by omega) (Ev.ifp (by omega) (Ev.ifn (by rw [hb];exact fun h=>h92 ((u8i c 92).1 h)) (Ev.ifn g1 (Ev.ifn g2 ?_))))))
              rw [hb,iC,← hb]
              refine Ev.bs (Ev.ifn (by rw [hsp];exact Bool.false_ne_true) ?_)
              by_cases hi0:i=0
              · obtain ⟨f1,f2⟩:=hf hi0
                exact Ev.ifp (by omega) (Ev.ifn (by rw [hb];exact fun h=>f1 ((u8i c 35).1 h)) (Ev.ifn (by rw [hb];exact fun h=>f2 ((u8i c 32).1 h)) (Ev.ifp (by rw [jJ];omega) hp)))
              · exact Ev.ifn (by omega) (Ev.ifp (by rw [jJ];omega) hp)
            by_cases hbad:pU (decide (i=0)) c=true
            · rw [if_pos hbad]
              refine ⟨((⟨#[]⟩:ByteArray),(⟨#[]⟩:ByteArray),false),?_,rfl⟩
              refine Ev.step (fun k=>by rw [bN.j1]) (Ev.ifp rfl (Ev.ifp (by omega) (Ev.ifp (by omega) (Ev.ifn (by rw [hb];exact fun h=>h92 ((u8i c 92).1 h)) ?_))))
              by_cases g1:bt s (i:Int) < 32
              · exact Ev.ifp g1 (Ev.now _)
              refine Ev.ifn g1 ?_
              by_cases g2:bt s (i:Int) > 126
              · exact Ev.ifp g2 (Ev.now _)
              refine Ev.ifn g2 ?_
              have g1':¬ c < 32:=by rw [hb] at g1;intro h;have:c.toNat < (32:UInt8).toNat:=h;have e:(32:UInt8).toNat=32:=rfl;omega
              have g2':¬ 126 < c:=by rw [hb] at g2;intro h;have:(126:UInt8).toNat < c.toNat:=h;have e:(126:UInt8).toNat=126:=rfl;omega
              rw [hb,iC,← hb]
              refine Ev.bs ?_
              by_cases hsp:dH c=true
              · exact Ev.ifp hsp (Ev.now _)
              refine Ev.ifn hsp ?_
              unfold pU at hbad
              rw [decide_eq_false g1',decide_eq_false g2',Bool.eq_false_iff.2 hsp] at hbad
              simp only [Bool.false_or,Bool.and_eq_true,decide_eq_true_eq,Bool.or_eq_true,beq_iff_eq] at hbad
              obtain ⟨hi0,h⟩:=hbad
              refine Ev.ifp (by omega) ?_
              rcases h with h|h
              · exact Ev.ifp (by rw [hb];exact (u8i c 35).2 h) (Ev.now _)
              · exact Ev.ifn (by rw [hb,h];decide) (Ev.ifp (by rw [hb];exact (u8i c 32).2 h) (Ev.now _))
            · rw [if_neg hbad]
              have hbad':=Bool.eq_false_iff.2 hbad
              unfold pU at hbad'
              simp only [Bool.or_eq_false_iff,decide_eq_false_iff_not,Bool.and_eq_false_iff,beq_eq_false_iff_ne] at hbad'
              obtain ⟨⟨⟨b1,b2⟩,b3⟩,b4⟩:=hbad'
              obtain ⟨p,hp,hv⟩:=ih (s.size - (i+1)) (by omega) (i+1) (o++[c]) (c == 32) rfl (by omega) (by rw [List.length_append,List.length_singleton];omega)
              rw [show decide (i+1=0)=false from decide_eq_false (by omega)] at hv
              refine ⟨p,go (UInt8.not_lt.1 b1) (UInt8.not_lt.1 b2) b3 (fun h=>?_) ?_,hv.push⟩
              · rcases b4 with b4|b4
                · exact absurd h b4
                · exact b4
              · rw [w1,hb,← kX]
                have:(((c.toNat:Int)) == 32)=(c == 32):=by
                  by_cases h:c=32
                  · rw [h];rfl
                  · rw [beq_eq_false_iff_ne.2 h,show (((c.toNat:Int)) == 32)=false from beq_eq_false_iff_ne.2 (fun e=>h ((u8i c 32).1 e))]
                rw [this]
                exact hp
        obtain ⟨p,hp,hv⟩:=body
        refine ⟨p,Ev.step (fun k=>by rw [bN.l0]) (Ev.ifp (by omega) (Ev.ifp (by omega) ?_)),hv⟩
        rw [hne]
        exact hp
    · obtain ⟨p,hp,hv⟩:=stop false rfl (Or.inl (List.drop_eq_nil_of_le (by omega)))
      exact ⟨p,Ev.step (fun k=>by rw [bN.l0]) (Ev.ifn (by omega) hp),hv⟩
theorem yD (s:ByteArray) (hs:s.size≤70368744177664):∃ p,Ev (fun k=>bN.f k s) p∧nQ [] (ib true false s.data.toList) p:=by
  have h:=ug s hs s.size 0 [] false (by omega) (by omega) (Nat.le_refl _)
  exact h
abbrev PR:=List UInt8 × List UInt8
def iO:List UInt8→Option (List UInt8 × List UInt8)
  | []=>none
  | c :: r=>if c=61 then some ([],r) else (iO r).map fun p=>(c :: p.1,p.2)
theorem u6:∀ (l:List UInt8),match iO l with
    | none=>Lib.indexByte l 61=-1
    | some (a,b)=>∃ n:Nat,Lib.indexByte l 61=n∧l.take n=a∧l.drop (n+1)=b
  | []=>rfl
  | c :: r=>by
    have ih:=u6 r
    unfold iO
    by_cases hc:c=61
    · rw [if_pos hc]
      exact ⟨0,by unfold Lib.indexByte;rw [if_pos (by rw [hc];rfl)];rfl,rfl,rfl⟩
    · rw [if_neg hc]
      cases h:iO r with
      | none =>
        rw [h] at ih
        show Lib.indexByte (c :: r) 61=-1
        unfold Lib.indexByte
        rw [if_neg (by rw [beq_iff_eq];exact hc),if_pos (by rw [show Lib.indexByte r 61=-1 from ih];rfl)]
      | some p =>
        obtain ⟨a,b⟩:=p
        rw [h] at ih
        obtain ⟨n,h1,h2,h3⟩:=ih
        refine ⟨n+1,?_,?_,?_⟩
        · unfold Lib.indexByte
          rw [if_neg (by rw [beq_iff_eq];exact hc),h1,if_neg (by rw [beq_iff_eq];omega)]
          omega
        · rw [List.take_succ_cons,h2]
        · rw [List.drop_succ_cons,h3]
theorem xV (l:List UInt8):Lib.cut l [61]=match iO l with|none=>(l,[],false)|some (a,b)=>(a,b,true):=by
  have h:=u6 l
  unfold Lib.cut
  rw [Lib.index_one]
  cases hc:iO l with
  | none =>
    rw [hc] at h
    rw [show Lib.indexByte l 61=-1 from h,if_neg (by decide)]
  | some p =>
    obtain ⟨a,b⟩:=p
    rw [hc] at h
    obtain ⟨n,h1,h2,h3⟩:=h
    rw [h1,if_pos (by omega),Int.toNat_natCast,List.length_singleton,h2,h3]
theorem nN:∀ (l a b:List UInt8),iO l=some (a,b)→l=a++61 :: b
  | [],a,b,h=>by cases h
  | c :: r,a,b,h=>by
    unfold iO at h
    by_cases hc:c=61
    · rw [if_pos hc] at h
      obtain ⟨rfl,rfl⟩:=Prod.mk.inj (Option.some.inj h)
      rw [hc];rfl
    · rw [if_neg hc] at h
      obtain ⟨⟨a',b'⟩,h1,h2⟩:=Option.map_eq_some_iff.1 h
      obtain ⟨rfl,rfl⟩:=Prod.mk.inj h2
      rw [nN r _ _ h1];rfl
def jr:Nat→List UInt8→Option (List PR)
  | 0,_=>none
  | m+1,l=>match iO l with
    | none=>none
    | some (t,v)=>if dz t=true then (match ib true false v with
      | none=>none
      | some (x,[])=>some [(t,x)]
      | some (x,_ :: r)=>(jr m r).map fun y=>(t,x) :: y) else none
def okV (p:PR):Bool:=!p.2.isEmpty && decide (p.2.length≤100)
def okR (p:PR):Bool:=dz p.1 && okV p
def oz (rs:List PR):Bool:=rs.all okR && decide (rs.length≤8)
def kI (l:List UInt8):Option (List PR):=if l=[] then some [] else (jr 8 l).bind fun rs=>if rs.all okV=true then some rs else none
def toS (p:PR):dL:=⟨mk p.1,mk p.2⟩
theorem yg (rs:List PR) (i:Nat) (h:i < rs.length):bf (rs.map toS) (i:Int)=toS (rs.getD i ([],[])):=by
  unfold bf
  rw [Int.toNat_natCast,List.getD_eq_getElem?_getD,List.getElem?_map,List.getElem?_eq_getElem h,List.getD_eq_getElem?_getD,List.getElem?_eq_getElem h];rfl
theorem mq (l:List PR) (i:Nat) (h:i < l.length):l.drop i=l.getD i ([],[]) :: l.drop (i+1):=by
  rw [List.drop_eq_getElem_cons h,List.getD_eq_getElem?_getD,List.getElem?_eq_getElem h];rfl
theorem yA (rs:List PR) (hr:rs.length≤1000000000):∀ n i:Nat,rs.length - i=n→i≤rs.length →
    Ev (fun k=>gK.l0 k (rs.map toS) (rs.map toS) (rs.length:Int) (i:Int)) ((rs.drop i).all okR && decide (rs.length≤8)):=by
  intro n
  induction n with
  | zero =>
    intro i hn hi
    refine Ev.step (fun k=>by rw [gK.l0]) (Ev.ifn (by omega) (Ev.const fun k=>?_))
    rw [List.drop_eq_nil_of_le (by omega),List.length_map]
    simp only [List.all_nil,Bool.true_and]
    congr 1
    exact decide_eq_decide.2 (by omega)
  | succ n ih =>
    intro i hn hi
    refine Ev.step (fun k=>by rw [gK.l0]) (Ev.ifp (by omega) (Ev.ifp (by omega) (Ev.ifp (by rw [List.length_map];omega) ?_)))
    rw [yg rs i (by omega),mq rs i (by omega)]
    generalize rs.getD i ([],[])=p
    unfold fH.f
    refine Ev.bs ?_
    show Ev (fun k=>if dz p.1=true then (if (mk p.2).toList=[] then some false else (if ((mk p.2).size:Int) > 100 then some false else _)) else some false) _
    rw [List.all_cons]
    by_cases h1:dz p.1=true
    · refine Ev.ifp h1 ?_
      rw [fQ,eT]
      by_cases h2:p.2=[]
      · refine Ev.ifp h2 (Ev.const fun k=>?_)
        unfold okR okV;rw [h2];simp
      refine Ev.ifn h2 ?_
      by_cases h3:(p.2.length:Int) > 100
      · refine Ev.ifp h3 (Ev.const fun k=>?_)
        unfold okR okV;rw [decide_eq_false (show ¬ p.2.length≤100 by omega)];simp
      refine Ev.ifn h3 ?_
      have hp:okR p=true:=by unfold okR okV;rw [h1,decide_eq_true (by omega)];simp [List.isEmpty_iff,h2]
      rw [hp,Bool.true_and,wrap_small _ (by omega) (by omega),show (i:Int)+1=((i+1:Nat):Int) by omega]
      exact ih (i+1) (by omega) (by omega)
    · refine Ev.ifn h1 (Ev.const fun k=>?_)
      unfold okR;rw [Bool.eq_false_iff.2 h1];simp
theorem Au (rs:List PR) (hr:rs.length≤1000000000):Ev (fun k=>gK.f k (rs.map toS)) (oz rs):=by
  have h:=yA rs hr rs.length 0 (by omega) (by omega)
  unfold gK.f
  rw [List.length_map]
  exact h
theorem x9:∀ (n:Nat) (l:List UInt8) (f sp:Bool) (v r:List UInt8),l.length=n→ib f sp l=some (v,r)→v.length+r.length≤l.length∧(r=[]∨∃ r',r=44 :: r'):=by
  intro n
  induction n using Nat.strongRecOn with
  | _ n ih =>
    intro l f sp v r hn h
    cases l with
    | nil =>
      rw [ib] at h
      split at h
      · cases h
      · obtain ⟨rfl,rfl⟩:=Prod.mk.inj (Option.some.inj h)
        exact ⟨Nat.le_refl _,Or.inl rfl⟩
    | cons c l =>
      rw [List.length_cons] at hn
      rw [ib] at h
      by_cases h44:c=44
      · rw [if_pos h44] at h
        split at h
        · cases h
        · obtain ⟨rfl,rfl⟩:=Prod.mk.inj (Option.some.inj h)
          exact ⟨by simp,Or.inr ⟨l,by rw [h44]⟩⟩
      rw [if_neg h44] at h
      by_cases h92:c=92
      · rw [if_pos h92] at h
        cases hx:nu l with
        | none=>rw [hx] at h;cases h
        | some q =>
          obtain ⟨b,m⟩:=q
          rw [hx] at h
          obtain ⟨⟨v',r'⟩,h1,h2⟩:=Option.map_eq_some_iff.1 h
          obtain ⟨rfl,rfl⟩:=Prod.mk.inj h2
          obtain ⟨e1,e2⟩:=pE _ _ _ hx
          have:=ih _ (by rw [List.length_drop];omega) (l.drop m) _ _ _ _ rfl h1
          rw [List.length_drop] at this
          simp only [List.length_cons]
          exact ⟨by omega,this.2⟩
      · rw [if_neg h92] at h
        split at h
        · cases h
        · obtain ⟨⟨v',r'⟩,h1,h2⟩:=Option.map_eq_some_iff.1 h
          obtain ⟨rfl,rfl⟩:=Prod.mk.inj h2
          have:=ih l.length (by omega) l _ _ _ _ rfl h1
          simp only [List.length_cons]
          exact ⟨by omega,this.2⟩
theorem uY (l:List UInt8):((mk l).toList != [])=!decide (l=[]):=by
  rw [fQ]
  cases l <;> rfl
def pW (x:Option (List PR)):List dL × Bool:=match x with|some rs=>(rs.map toS,true)|none=>([],false)
def lK (acc:List PR) (m:Nat) (l:List UInt8):Option (List PR):=(jr m l).bind fun rs=>if (acc++rs).all okV=true then some (acc++rs) else none
theorem qf (acc:List PR) (ht:acc.all (fun p=>dz p.1)=true) (hl:acc.length≤8) (s:ByteArray) :
    Ev (fun k=>bJ.l0 k s (acc.map toS) false) (pW (if acc.all okV=true then some acc else none)):=by
  refine Ev.step (fun k=>by rw [bJ.l0]) (Ev.ifn Bool.false_ne_true ((Au acc (by omega)).bind (Ev.const fun k=>?_)))
  have e:oz acc=acc.all okV:=by
    unfold oz
    rw [decide_eq_true hl,Bool.and_true]
    clear hl
    induction acc with
    | nil=>rfl
    | cons a r ih =>
      rw [List.all_cons,Bool.and_eq_true] at ht
      rw [List.all_cons,List.all_cons,ih ht.2]
      unfold okR;rw [ht.1,Bool.true_and]
  rw [e]
  split <;> rfl
theorem uI:∀ (m:Nat) (acc:List PR),8 - acc.length=m→acc.length≤8→acc.all (fun p=>dz p.1)=true→∀ l:List UInt8,l.length≤2147483648 →
    Ev (fun k=>bJ.l0 k (mk l) (acc.map toS) true) (pW (lK acc m l)):=by
  intro m
  induction m with
  | zero =>
    intro acc hm ha ht l hl
    have e:lK acc 0 l=none:=rfl
    rw [e]
    have j:∀ (t v:ByteArray),Ev (fun k=>bJ.j1 k (acc.map toS) t v true) (([]:List dL),false):=fun t v=>Ev.step (fun k=>by rw [bJ.j1]) (Ev.ifp rfl (Ev.now _))
    refine Ev.step (fun k=>by rw [bJ.l0]) (Ev.ifp rfl ?_)
    unfold strings_Cut.f
    rw [eT,if_pos (by omega),mk_data,show (⟨#[61]⟩:ByteArray).data.toList=[61] from rfl,xV]
    cases hc:iO l with
    | none=>exact Ev.bs (Ev.ifn Bool.false_ne_true (j _ _))
    | some p =>
      obtain ⟨a,b⟩:=p
      refine Ev.bs (Ev.ifp rfl ?_)
      unfold fH.f
      refine Ev.bs ?_
      rw [List.length_map,show (((acc.length:Int)) == 8)=true from beq_iff_eq.2 (by omega)]
      by_cases h:dz a=true
      · exact Ev.ifp h (j _ _)
      · exact Ev.ifn h (j _ _)
  | succ m ih =>
    intro acc hm ha ht l hl
    have j:∀ (t v:ByteArray),Ev (fun k=>bJ.j1 k (acc.map toS) t v true) (([]:List dL),false):=fun t v=>Ev.step (fun k=>by rw [bJ.j1]) (Ev.ifp rfl (Ev.now _))
    refine Ev.step (fun k=>by rw [bJ.l0]) (Ev.ifp rfl ?_)
    unfold strings_Cut.f
    rw [eT,if_pos (by omega),mk_data,show (⟨#[61]⟩:ByteArray).data.toList=[61] from rfl,xV]
    unfold lK jr
    cases hc:iO l with
    | none=>exact Ev.bs (Ev.ifn Bool.false_ne_true (j _ _))
    | some p =>
      obtain ⟨a,b⟩:=p
      have hlen:=congrArg List.length (nN _ _ _ hc)
      rw [List.length_append,List.length_cons] at hlen
      refine Ev.bs (Ev.ifp rfl ?_)
      unfold fH.f
      refine Ev.bs ?_
      rw [List.length_map,show (((acc.length:Int)) == 8)=false from beq_eq_false_iff_ne.2 (by omega)]
      by_cases h:dz a=true
      · simp only [if_pos h]
        refine Ev.step (fun k=>by rw [bJ.j1]) (Ev.ifn Bool.false_ne_true ?_)
        obtain ⟨p,hp,hv⟩:=yD (mk b) (by rw [eT];omega)
        rw [mk_data] at hv
        refine hp.bind ?_
        cases hx:ib true false b with
        | none =>
          rw [hx] at hv
          exact Ev.ifn (by rw [show p.2.2=false from hv];exact Bool.false_ne_true) (Ev.now _)
        | some q =>
          obtain ⟨v,r⟩:=q
          rw [hx] at hv
          rw [show p=(mk v,mk r,true) from hv]
          have hvl:=x9 _ _ _ _ _ _ rfl hx
          have ht':(acc++[(a,v)]).all (fun p=>dz p.1)=true:=by rw [List.all_append,ht];simp [h]
          have hm':(acc.map toS++[(⟨mk a,mk v⟩:dL)])=(acc++[(a,v)]).map toS:=by rw [List.map_append];rfl
          refine Ev.ifp rfl (Ev.ifp (by rw [List.length_map];omega) (Ev.bs ?_))
          show Ev (fun k=>if (mk r).toList=[] then bJ.l0 k (mk r) (acc.map toS++[(⟨mk a,mk v⟩:dL)]) ((mk r).toList != []) else _) _
          rw [hm',uY,fQ]
          cases r with
          | nil =>
            refine Ev.ifp rfl ?_
            exact qf (acc++[(a,v)]) ht' (by rw [List.length_append,List.length_singleton];omega) _
          | cons c r =>
            refine Ev.ifn (by simp) (Ev.ifp (by rw [eT];simp only [List.length_cons];omega) ?_)
            rw [jw,mk_data,List.drop_succ_cons,List.drop_zero]
            have hi:=ih (acc++[(a,v)]) (by rw [List.length_append,List.length_singleton];omega) (by rw [List.length_append,List.length_singleton];omega) ht' r (by simp only [List.length_cons] at hvl;omega)
            have e:lK (acc++[(a,v)]) m r=((jr m r).map fun y=>(a,v) :: y).bind fun rs=>if (acc++rs).all okV=true then some (acc++rs) else none:=by
              unfold lK
              cases jr m r with
              | none=>rfl
              | some y=>simp only [Option.bind_some,Option.map_some,List.append_assoc,List.singleton_append]
            rw [e] at hi
            exact hi
      · simp only [if_neg h]
        exact j _ _
theorem xk (s:ByteArray) (hs:s.size≤2147483648):Ev (fun k=>bJ.f k s) (pW (kI s.data.toList)):=by
  rw [← vG s]
  rw [bZ] at hs
  generalize s.data.toList=l at hs
  unfold bJ.f kI
  rw [uY]
  by_cases h:l=[]
  · rw [if_pos h,decide_eq_true h]
    exact qf [] rfl (by decide) _
  · rw [if_neg h,decide_eq_false h]
    have:=uI 8 [] rfl (by decide) rfl l hs
    unfold lK at this
    simp only [List.nil_append] at this
    exact this
def jy (first:Bool):List UInt8→List UInt8
  | []=>[]
  | c :: r=>(if kJ c=true then [92,gV (c >>> 4),gV (c &&& 15)] else if (dH c || (first && (decide (c=35) || decide (c=32))) || (decide (r=[]) && decide (c=32)))=true then [92,c] else [c])++jy false r
theorem vI (l:List UInt8):∀ i,i≤l.length→bS l i++jy (decide (i=0)) (l.drop i)=jy true l
  | 0,_=>by
    show bS l 0++jy true (l.drop 0)=jy true l
    rfl
  | i+1,h=>by
    have ih:=vI l i (by omega)
    rw [qJ l i (by omega),jy] at ih
    rw [jQ,show decide (i+1=0)=false from decide_eq_false (by omega),List.append_assoc,← ih]
    congr 2
    unfold uw kg
    have e:decide (l.drop (i+1)=[])=decide (i+1=l.length):=decide_eq_decide.2 (by rw [List.drop_eq_nil_iff];omega)
    rw [e]
theorem Av (l:List UInt8):uM l=jy true l:=by
  have h:=vI l l.length (Nat.le_refl _)
  rw [List.drop_length] at h
  simp only [jy,List.append_nil] at h
  exact h
def gI (first:Bool):List PR→List UInt8
  | []=>[]
  | p :: r=>(if first=true then [] else [44])++(p.1++[61]++jy true p.2)++gI false r
theorem sI (rs:List PR):∀ i,i≤rs.length→fM (rs.map toS) i++gI (decide (i=0)) (rs.drop i)=gI true rs
  | 0,_=>by
    show fM (rs.map toS) 0++gI true (rs.drop 0)=gI true rs
    rfl
  | i+1,h=>by
    have ih:=sI rs i (by omega)
    rw [mq rs i (by omega),gI] at ih
    rw [jk,show decide (i+1=0)=false from decide_eq_false (by omega),List.append_assoc,← ih,List.append_assoc]
    have e:((rs.map toS).getD i lX)=toS (rs.getD i ([],[])):=by
      rw [List.getD_eq_getElem?_getD,List.getElem?_map,List.getElem?_eq_getElem (by omega),List.getD_eq_getElem?_getD,List.getElem?_eq_getElem (by omega)];rfl
    rw [e]
    unfold mF uG toS
    rw [mk_data,mk_data,Av]
    by_cases h0:i=0
    · rw [if_pos h0,decide_eq_true h0,if_pos rfl]
      simp only [List.append_assoc]
    · rw [if_neg h0,decide_eq_false h0,if_neg Bool.false_ne_true]
      simp only [List.append_assoc]
theorem zq (rs:List PR):mY (rs.map toS)=gI true rs:=by
  have h:=sI rs rs.length (Nat.le_refl _)
  rw [List.drop_length] at h
  unfold mY
  rw [List.length_map]
  simp only [gI,List.append_nil] at h
  exact h
theorem zK (c:UInt8):kJ c=true→(dH (gV (c >>> 4)) || gV (c >>> 4) == 61 || gV (c >>> 4) == 35 || gV (c >>> 4) == 32)=false∧(gq (gV (c >>> 4)) && gq (gV (c &&& 15)))=true∧iI (gV (c >>> 4)) * 16+iI (gV (c &&& 15))=c :=
  d9 (p:=fun c=>kJ c=true→(dH (gV (c >>> 4)) || gV (c >>> 4) == 61 || gV (c >>> 4) == 35 || gV (c >>> 4) == 32)=false∧(gq (gV (c >>> 4)) && gq (gV (c &&& 15)))=true∧iI (gV (c >>> 4)) * 16+iI (gV (c &&& 15))=c) (by decide +kernel) c
theorem yN (f:Bool) (c:UInt8):kJ c=false→(dH c || (f && (decide (c=35) || decide (c=32))))=false→c≠44∧c≠92∧pU f c=false:=by
  cases f
  · exact d9 (p:=fun c=>kJ c=false→(dH c || (false && (decide (c=35) || decide (c=32))))=false→c≠44∧c≠92∧pU false c=false) (by decide +kernel) c
  · exact d9 (p:=fun c=>kJ c=false→(dH c || (true && (decide (c=35) || decide (c=32))))=false→c≠44∧c≠92∧pU true c=false) (by decide +kernel) c
theorem mG (tail:List UInt8) (ht:tail=[]∨∃ t,tail=44 :: t):∀ (v:List UInt8) (f sp:Bool),(v=[]→sp=false)→ib f sp (jy f v++tail)=some (v,tail)
  | [],f,sp,hsp=>by
    rw [hsp rfl]
    rcases ht with rfl|⟨t,rfl⟩
    · show ib f false []=_;rw [ib,if_neg Bool.false_ne_true]
    · show ib f false (44 :: t)=_;rw [ib,if_pos rfl,if_neg Bool.false_ne_true]
  | c :: r,f,sp,_=>by
    unfold jy
    by_cases ho:kJ c=true
    · obtain ⟨h1,h2,h3⟩:=zK c ho
      rw [if_pos ho]
      show ib f sp (92 :: gV (c >>> 4) :: gV (c &&& 15) :: (jy false r++tail))=_
      rw [ib,if_neg (by decide),if_pos rfl,oK _ _ _ h1,if_pos h2,h3]
      show (ib false false (jy false r++tail)).map _=_
      rw [mG tail ht r false false (fun _=>rfl)];rfl
    · rw [if_neg ho]
      have ho':=Bool.eq_false_iff.2 ho
      by_cases hb:(dH c || (f && (decide (c=35) || decide (c=32))) || (decide (r=[]) && decide (c=32)))=true
      · rw [if_pos hb]
        show ib f sp (92 :: c :: (jy false r++tail))=_
        have hc:(dH c || c == 61 || c == 35 || c == 32)=true:=by
          simp only [Bool.or_eq_true,Bool.and_eq_true,decide_eq_true_eq,beq_iff_eq] at hb ⊢
          rcases hb with (h|⟨_,h|h⟩)|⟨_,h⟩
          · exact .inl (.inl (.inl h))
          · exact .inl (.inr h)
          · exact .inr h
          · exact .inr h
        rw [ib,if_neg (by decide),if_pos rfl,rq _ _ hc]
        show (ib false false (jy false r++tail)).map _=_
        rw [mG tail ht r false false (fun _=>rfl)];rfl
      · rw [if_neg hb]
        have hb':=Bool.eq_false_iff.2 hb
        rw [Bool.or_eq_false_iff] at hb'
        obtain ⟨b1,b2,b3⟩:=yN f c ho' hb'.1
        show ib f sp (c :: (jy false r++tail))=_
        rw [ib,if_neg b1,if_neg b2,if_neg (by rw [b3];exact Bool.false_ne_true),mG tail ht r false (c == 32) ?_]
        · rfl
        · intro hr
          have:=hb'.2
          rw [decide_eq_true hr,Bool.true_and] at this
          exact beq_eq_false_iff_ne.2 (of_decide_eq_false this)
theorem qW:∀ (t r:List UInt8),(∀ c ∈ t,c≠61)→iO (t++61 :: r)=some (t,r)
  | [],r,_=>by show iO (61 :: r)=_;unfold iO;rw [if_pos rfl]
  | c :: t,r,h=>by
    show iO (c :: (t++61 :: r))=_
    unfold iO
    rw [if_neg (h c (List.mem_cons_self)),qW t r (fun x hx=>h x (List.mem_cons_of_mem _ hx))];rfl
theorem uA {t:List UInt8} (h:dz t=true):∀ c ∈ t,c≠61:=by
  intro c hc e
  unfold dz at h
  simp only [Bool.and_eq_true] at h
  have:=List.all_eq_true.1 h.2 c hc
  rw [e] at this
  exact absurd this (by decide)
theorem tY (rs:List PR):gI false rs=[]∨∃ t,gI false rs=44 :: t:=by
  cases rs with
  | nil=>exact Or.inl rfl
  | cons p r=>exact Or.inr ⟨p.1++[61]++jy true p.2++gI false r,rfl⟩
theorem nO:∀ (m:Nat) (rs:List PR),rs≠[]→rs.length≤m→rs.all okR=true→jr m (gI true rs)=some rs
  | 0,rs,h,hl,_=>absurd (List.eq_nil_of_length_eq_zero (by omega)) h
  | m+1,[],h,_,_=>absurd rfl h
  | m+1,(t,v) :: rs,_,hl,hr=>by
    rw [List.all_cons,Bool.and_eq_true] at hr
    unfold okR okV at hr
    simp only [Bool.and_eq_true] at hr
    obtain ⟨⟨h1,h2,h3⟩,h4⟩:=hr
    have hv:v≠[]:=by intro e;subst e;exact absurd h2 (by decide)
    have e:gI true ((t,v) :: rs)=t++61 :: (jy true v++gI false rs):=by
      show []++(t++[61]++jy true v)++gI false rs=_
      simp
    unfold jr
    rw [e,qW t _ (uA h1)]
    simp only [if_pos h1]
    rw [mG (gI false rs) (tY rs) v true false (fun h=>absurd h hv)]
    cases rs with
    | nil=>rfl
    | cons p r =>
      have ih:=nO m (p :: r) (by simp) (by simp only [List.length_cons] at hl ⊢;omega) h4
      have e2:gI false (p :: r)=44 :: gI true (p :: r):=rfl
      rw [e2]
      simp only [ih,Option.map_some]
theorem wh {rs:List PR} (h:gI true rs=[]):rs=[]:=by
  cases rs with
  | nil=>rfl
  | cons p r =>
    exfalso
    have:=congrArg List.length h
    simp [gI] at this
theorem uf (rs:List PR) (h:oz rs=true):kI (gI true rs)=some rs:=by
  unfold oz at h
  rw [Bool.and_eq_true] at h
  obtain ⟨h1,h2⟩:=h
  unfold kI
  by_cases h0:rs=[]
  · subst h0;rfl
  · rw [if_neg (fun e=>h0 (wh e)),nO 8 rs h0 (of_decide_eq_true h2) h1]
    rw [Option.bind_some,if_pos]
    refine List.all_eq_true.2 fun p hp=>?_
    have:=List.all_eq_true.1 h1 p hp
    unfold okR at this
    rw [Bool.and_eq_true] at this
    exact this.2
theorem nk:∀ (m:Nat) (l:List UInt8) (rs:List PR),jr m l=some rs→rs.length≤m∧rs≠[]∧rs.all (fun p=>dz p.1)=true
  | 0,l,rs,h=>by cases h
  | m+1,l,rs,h=>by
    unfold jr at h
    cases hc:iO l with
    | none=>rw [hc] at h;cases h
    | some p =>
      obtain ⟨a,b⟩:=p
      rw [hc] at h
      simp only at h
      by_cases ht:dz a=true
      · rw [if_pos ht] at h
        cases hx:ib true false b with
        | none=>rw [hx] at h;cases h
        | some q =>
          obtain ⟨v,r⟩:=q
          rw [hx] at h
          cases r with
          | nil =>
            obtain rfl:=Option.some.inj h
            exact ⟨by simp,by simp,by simp [ht]⟩
          | cons c r =>
            obtain ⟨y,h1,rfl⟩:=Option.map_eq_some_iff.1 h
            obtain ⟨i1,i2,i3⟩:=nk m r y h1
            exact ⟨by simp only [List.length_cons];omega,by simp,by rw [List.all_cons,i3];simp [ht]⟩
      · rw [if_neg ht] at h;cases h
theorem qB {l:List UInt8} {rs:List PR} (h:kI l=some rs):oz rs=true:=by
  unfold kI at h
  by_cases h0:l=[]
  · rw [if_pos h0] at h
    obtain rfl:=Option.some.inj h
    decide
  · rw [if_neg h0] at h
    obtain ⟨y,h1,h2⟩:=Option.bind_eq_some_iff.1 h
    by_cases ho:y.all okV=true
    · rw [if_pos ho] at h2
      obtain rfl:=Option.some.inj h2
      obtain ⟨i1,i2,i3⟩:=nk _ _ _ h1
      unfold oz
      rw [decide_eq_true i1,Bool.and_true]
      refine List.all_eq_true.2 fun p hp=>?_
      unfold okR
      rw [List.all_eq_true.1 i3 p hp,List.all_eq_true.1 ho p hp];rfl
    · rw [if_neg ho] at h2;cases h2
def iD (p:PR):PR:=(p.1.map gB,fO p.2)
def qy (rs:List PR):Option (List UInt8):=if rs.all (fun p=>!(fO p.2).isEmpty)=true then some (gI true (rs.map iD)) else none
def rY (l:List UInt8):Option (List UInt8):=(kI l).bind qy
theorem xy (f:Bool):∀ v:List UInt8,(jy f v).length≤3 * v.length:=by
  intro v
  induction v generalizing f with
  | nil=>exact Nat.zero_le _
  | cons c r ih =>
    unfold jy
    rw [List.length_append,List.length_cons]
    have:=ih false
    split
    · simp only [List.length_cons,List.length_nil];omega
    · split <;> (simp only [List.length_cons,List.length_nil];omega)
theorem lQ (l:List UInt8):(fO l).length≤l.length:=by
  unfold fO
  have h:=lF ((Lib.trimB l 32).map gB) _ (Nat.le_refl _)
  rw [List.take_length,List.length_map] at h
  exact Nat.le_trans h (qH l)
theorem qC (n:Nat):∀ (rs:List PR) (f:Bool),(∀ p ∈ rs,p.1.length≤30∧p.2.length≤n)→(gI f rs).length≤rs.length * (32+3 * n)
  | [],_,_=>Nat.zero_le _
  | p :: r,f,h=>by
    have ih:=qC n r false (fun q hq=>h q (List.mem_cons_of_mem _ hq))
    have hp:=h p (List.mem_cons_self)
    have he:=xy true p.2
    unfold gI
    simp only [List.length_append,List.length_cons,List.length_nil]
    rw [Nat.add_mul]
    have:(if f=true then ([]:List UInt8) else [44]).length≤1:=by split <;> simp
    omega
theorem xI (rs:List PR) (hr:oz rs=true):∀ n i:Nat,rs.length - i=n→i≤rs.length→(rs.take i).all (fun p=>!(fO p.2).isEmpty)=true →
    Ev (fun k=>dO.l0 k (((rs.take i).map iD++rs.drop i).map toS) (rs.length:Int) (i:Int)) (iL (qy rs)):=by
  have hm:=hr
  unfold oz at hm
  rw [Bool.and_eq_true,decide_eq_true_eq] at hm
  have hb:∀ p ∈ rs,p.1.length≤30∧p.2.length≤100:=by
    intro p hp
    have:=List.all_eq_true.1 hm.1 p hp
    unfold okR okV dz at this
    simp only [Bool.and_eq_true,decide_eq_true_eq] at this
    exact ⟨this.1.1.1.2,this.2.2⟩
  intro n
  induction n with
  | zero =>
    intro i hn hi hall
    have e:i=rs.length:=by omega
    subst e
    rw [List.take_length] at hall
    rw [List.take_length,List.drop_length,List.append_nil]
    have ek:qy rs=some (gI true (rs.map iD)):=by unfold qy;rw [if_pos hall]
    rw [ek]
    refine Ev.step (fun k=>by rw [dO.l0]) (Ev.ifn (by omega) ?_)
    unfold j6.f
    rw [zq]
    have hl:=qC 100 (rs.map iD) true (fun q hq=>by
      obtain ⟨p,hp,rfl⟩:=List.mem_map.1 hq
      have:=hb p hp
      unfold iD
      have h2:=lQ p.2
      simp only [List.length_map]
      omega)
    rw [List.length_map] at hl
    rw [if_pos (by omega)]
    exact Ev.const fun k=>rfl
  | succ n ih =>
    intro i hn hi hall
    have hget:(((rs.take i).map iD++rs.drop i).getD i ([],[]))=rs.getD i ([],[]):=by
      rw [List.getD_eq_getElem?_getD,List.getElem?_append_right (by rw [List.length_map,List.length_take];omega),List.length_map,List.length_take,Nat.min_eq_left hi,Nat.sub_self,List.getElem?_drop,Nat.add_zero,← List.getD_eq_getElem?_getD]
    have hlen:((rs.take i).map iD++rs.drop i).length=rs.length:=by
      rw [List.length_append,List.length_map,List.length_take,List.length_drop];omega
    refine Ev.step (fun k=>by rw [dO.l0]) (Ev.ifp (by omega) (Ev.ifp (by omega) (Ev.ifp (by rw [List.length_map,hlen];omega) ?_)))
    rw [yg _ i (by omega),hget]
    generalize hp:rs.getD i ([],[])=p
    have hpm:p ∈ rs:=by
      rw [← hp,List.getD_eq_getElem?_getD,List.getElem?_eq_getElem (by omega)]
      exact List.getElem_mem _
    have hbp:=hb p hpm
    have e1:fA.f (toS p).f0=some (mk (p.1.map gB)):=by
      unfold fA.f toS
      rw [eT,if_pos (by omega)]
      congr 1
      apply pz
      rw [kG,mk_data,mk_data]
    have e2:gD.f (toS p).f1=some (mk (fO p.2)):=by
      unfold gD.f toS
      rw [eT,if_pos (by omega),mk_data]
    rw [e1,e2]
    refine Ev.bs (Ev.bs (Ev.bs ?_))
    rw [fQ]
    by_cases hf:fO p.2=[]
    · refine Ev.ifp hf ?_
      have ek:qy rs=none:=by
        unfold qy
        rw [if_neg]
        intro h
        have:=List.all_eq_true.1 h p hpm
        rw [hf] at this
        exact absurd this (by decide)
      rw [ek]
      exact Ev.now _
    · refine Ev.ifn hf ?_
      have hset:((((rs.take i).map iD++rs.drop i).map toS).set (i:Int).toNat (⟨mk (p.1.map gB),(toS p).f1⟩:dL)).set (i:Int).toNat (⟨(bf ((((rs.take i).map iD++rs.drop i).map toS).set (i:Int).toNat (⟨mk (p.1.map gB),(toS p).f1⟩:dL)) (i:Int)).f0,mk (fO p.2)⟩:dL)=(((rs.take (i+1)).map iD++rs.drop (i+1)).map toS):=by
        rw [Int.toNat_natCast,List.set_set]
        have er:(bf ((((rs.take i).map iD++rs.drop i).map toS).set i (⟨mk (p.1.map gB),(toS p).f1⟩:dL)) (i:Int)).f0=mk (p.1.map gB):=by
          unfold bf
          rw [Int.toNat_natCast,List.getD_eq_getElem?_getD,List.getElem?_set_self (by rw [List.length_map,hlen];omega)];rfl
        rw [er,mq rs i (by omega),hp,List.take_succ_eq_append_getElem (by omega),List.map_append,List.map_append,List.map_append,List.map_append,List.map_cons]
        have eg:rs[i]'(by omega)=p:=by rw [← hp,List.getD_eq_getElem?_getD,List.getElem?_eq_getElem (by omega)];rfl
        rw [eg,List.set_append_right _ _ (by rw [List.length_map,List.length_map,List.length_take];omega)]
        rw [show i - ((rs.take i).map iD |>.map toS).length=0 by rw [List.length_map,List.length_map,List.length_take];omega]
        rw [List.set_cons_zero,List.append_assoc]
        rfl
      rw [hset,wrap_small _ (by omega) (by omega),show (i:Int)+1=((i+1:Nat):Int) by omega]
      refine ih (i+1) (by omega) (by omega) ?_
      rw [List.take_succ_eq_append_getElem (by omega),List.all_append,hall]
      have eg:rs[i]'(by omega)=p:=by rw [← hp,List.getD_eq_getElem?_getD,List.getElem?_eq_getElem (by omega)];rfl
      rw [eg]
      simp [List.isEmpty_iff,hf]
theorem Ac (s:ByteArray) (hs:s.size≤2147483648):Ev (fun k=>dO.f k s) (iL (rY s.data.toList)):=by
  unfold dO.f rY
  refine (xk s hs).bind ?_
  cases h:kI s.data.toList with
  | none=>exact Ev.ifn Bool.false_ne_true (Ev.now _)
  | some rs =>
    refine Ev.ifp rfl ?_
    have:=xI rs (qB h) rs.length 0 (by omega) (by omega) (by rfl)
    show Ev (fun k=>dO.l0 k (rs.map toS) ((rs.map toS).length:Int) 0) (iL (qy rs))
    rw [List.length_map]
    exact this
def sqR (b:Bool):List UInt8→List UInt8
  | []=>[]
  | c :: r=>if c=32∧b=true then sqR true r else c :: sqR (decide (c=32)) r
theorem sG:∀ (l acc:List UInt8),l.foldl jm acc=acc++sqR (decide (acc.getLast?=some 32)) l
  | [],acc=>by simp [sqR]
  | c :: r,acc=>by
    rw [List.foldl_cons,sG r]
    unfold jm
    conv=>rhs;rw [sqR]
    by_cases h:c=32∧acc.getLast?=some 32
    · rw [if_pos h,if_pos ⟨h.1,decide_eq_true h.2⟩,decide_eq_true h.2]
    · rw [if_neg h,if_neg (fun e=>h ⟨e.1,of_decide_eq_true e.2⟩),List.append_assoc]
      have:(decide ((acc++[c]).getLast?=some 32))=decide (c=32):=decide_eq_decide.2 (by simp)
      rw [this];rfl
theorem sq_R (l:List UInt8):sq l=sqR false l:=by
  unfold sq
  rw [sG];rfl
theorem pG:∀ (l:List UInt8) (b:Bool),sqR b (sqR b l)=sqR b l
  | [],b=>rfl
  | c :: r,b=>by
    by_cases h:c=32∧b=true
    · have e:sqR b (c :: r)=sqR true r:=by rw [sqR,if_pos h]
      rw [e,h.2]
      exact pG r true
    · have e:sqR b (c :: r)=c :: sqR (decide (c=32)) r:=by rw [sqR,if_neg h]
      rw [e,sqR,if_neg h,pG r]
theorem wD (c:UInt8):gB (gB c)=gB c:=d9 (p:=fun c=>gB (gB c)=gB c) (by decide +kernel) c
theorem sV (l:List UInt8):(l.map gB).map gB=l.map gB:=by
  rw [List.map_map]
  exact List.map_congr_left fun c _=>wD c
theorem rC:∀ (l:List UInt8) (b:Bool),(sqR b l).map gB=sqR b (l.map gB)
  | [],b=>rfl
  | c :: r,b=>by
    rw [List.map_cons,sqR,sqR]
    have e:(gB c=32)=(c=32):=propext (iU c)
    by_cases h:c=32∧b=true
    · rw [if_pos h,if_pos ⟨(iU c).2 h.1,h.2⟩,rC r]
    · rw [if_neg h,if_neg (fun x=>h ⟨(iU c).1 x.1,x.2⟩),List.map_cons,rC r]
      simp only [e]
theorem qd:∀ (l:List UInt8) (b:Bool),l≠[]→l.getLast?≠some 32→(sqR b l).getLast?=l.getLast?∧sqR b l≠[]
  | [],b,h,_=>absurd rfl h
  | [c],b,_,h=>by
    have hc:c≠32:=fun e=>h (by rw [e];rfl)
    rw [sqR,if_neg (fun x=>hc x.1)]
    exact ⟨rfl,by simp⟩
  | c :: d :: r,b,_,h=>by
    have h':(d :: r).getLast?≠some 32:=by rw [List.getLast?_cons_cons] at h;exact h
    rw [sqR]
    by_cases hx:c=32∧b=true
    · rw [if_pos hx,List.getLast?_cons_cons]
      exact qd (d :: r) true (by simp) h'
    · rw [if_neg hx,List.getLast?_cons_cons]
      obtain ⟨h1,h2⟩:=qd (d :: r) (decide (c=32)) (by simp) h'
      refine ⟨?_,by simp⟩
      rw [← h1]
      cases hs:sqR (decide (c=32)) (d :: r) with
      | nil=>exact absurd hs h2
      | cons x y=>rw [List.getLast?_cons_cons]
theorem pR (l:List UInt8):(l.dropWhile (· == 32)).head?≠some 32:=by
  induction l with
  | nil=>simp
  | cons c r ih =>
    rw [List.dropWhile_cons]
    split
    · exact ih
    · rename_i h
      intro e
      have:c=32:=by simpa using e
      exact h (by rw [this];rfl)
theorem tq (l:List UInt8) (h:l.head?≠some 32):l.dropWhile (· == 32)=l:=by
  cases l with
  | nil=>rfl
  | cons c r =>
    rw [List.dropWhile_cons,if_neg]
    intro e
    exact h (by rw [beq_iff_eq.1 e];rfl)
theorem uq (l:List UInt8) (h:l.getLast?≠some 32):(l.dropWhile (· == 32)).getLast?≠some 32:=by
  induction l with
  | nil=>simp
  | cons c r ih =>
    rw [List.dropWhile_cons]
    split
    · cases r with
      | nil=>simp
      | cons d r=>exact ih (by rw [List.getLast?_cons_cons] at h;exact h)
    · exact h
theorem vV (l:List UInt8):(Lib.trimB l 32).head?≠some 32:=pR _
theorem vZ (l:List UInt8):(Lib.trimB l 32).getLast?≠some 32:=by
  refine uq _ ?_
  unfold Lib.trimRightB
  rw [List.getLast?_reverse]
  exact pR _
theorem zF (l:List UInt8) (h1:l.head?≠some 32) (h2:l.getLast?≠some 32):Lib.trimB l 32=l:=by
  unfold Lib.trimB Lib.trimLeftB Lib.trimRightB
  rw [tq l.reverse (by rw [List.head?_reverse];exact h2),List.reverse_reverse,tq l h1]
theorem oG (l:List UInt8):fO l=sqR false ((Lib.trimB l 32).map gB):=sq_R _
theorem xh (l:List UInt8) (h1:l.head?≠some 32) (h2:l.getLast?≠some 32):(l.map gB).head?≠some 32∧(l.map gB).getLast?≠some 32:=by
  constructor
  · intro e
    rw [List.head?_map,Option.map_eq_some_iff] at e
    obtain ⟨c,hc,e⟩:=e
    exact h1 (by rw [hc,(iU c).1 e])
  · intro e
    rw [List.getLast?_map,Option.map_eq_some_iff] at e
    obtain ⟨c,hc,e⟩:=e
    exact h2 (by rw [hc,(iU c).1 e])
theorem xM (l:List UInt8):(sqR false l).head?=l.head?:=by
  cases l with
  | nil=>rfl
  | cons c r=>rw [sqR,if_neg (fun x=>Bool.false_ne_true x.2)];rfl
theorem qG (l:List UInt8):(fO l).head?≠some 32∧(fO l).getLast?≠some 32:=by
  rw [oG]
  obtain ⟨h1,h2⟩:=xh _ (vV l) (vZ l)
  refine ⟨by rw [xM];exact h1,?_⟩
  by_cases h:(Lib.trimB l 32).map gB=[]
  · rw [h];simp [sqR]
  · rw [(qd _ false h h2).1];exact h2
theorem nD (l:List UInt8):fO (fO l)=fO l:=by
  obtain ⟨h1,h2⟩:=qG l
  rw [oG (fO l),zF _ h1 h2,oG l,rC,sV,pG]
def cst (f:Bool) (c:UInt8):Nat:=if kJ c=true then 3 else if (dH c || (f && (decide (c=35) || decide (c=32))))=true then 2 else 1
def fU (f:Bool):List UInt8→Nat
  | []=>0
  | c :: r=>cst f c+fU false r
theorem zg (f:Bool) (c:UInt8):1≤cst f c:=by unfold cst;split;omega;split <;> omega
theorem vY (f:Bool) (c:UInt8):cst f c≤3:=by unfold cst;split;omega;split <;> omega
theorem zt (f:Bool) (c:UInt8):pU f c=false→cst f c=1:=by
  cases f
  · exact d9 (p:=fun c=>pU false c=false→cst false c=1) (by decide +kernel) c
  · exact d9 (p:=fun c=>pU true c=false→cst true c=1) (by decide +kernel) c
theorem zl (f:Bool) (c:UInt8):(dH c || c == 61 || c == 35 || c == 32)=true→cst f c≤2:=by
  cases f
  · exact d9 (p:=fun c=>(dH c || c == 61 || c == 35 || c == 32)=true→cst false c≤2) (by decide +kernel) c
  · exact d9 (p:=fun c=>(dH c || c == 61 || c == 35 || c == 32)=true→cst true c≤2) (by decide +kernel) c
theorem yU (f:Bool) (c:UInt8):cst f (gB c)=cst f c:=by
  cases f
  · exact d9 (p:=fun c=>cst false (gB c)=cst false c) (by decide +kernel) c
  · exact d9 (p:=fun c=>cst true (gB c)=cst true c) (by decide +kernel) c
theorem wJ (c:UInt8):cst true c≤cst false c+1:=d9 (p:=fun c=>cst true c≤cst false c+1) (by decide +kernel) c
theorem vS (f:Bool) (l:List UInt8) (b:UInt8) (n:Nat) (h:nu l=some (b,n)):cst f b≤n+1:=by
  cases l with
  | nil=>cases h
  | cons c r =>
    cases hc:(dH c || c == 61 || c == 35 || c == 32) with
    | true =>
      rw [rq c r hc] at h
      obtain ⟨e1,e2⟩:=Prod.mk.inj (Option.some.inj h)
      rw [← e1,← e2]
      exact zl f c hc
    | false =>
      cases r with
      | nil=>rw [rX c hc] at h;cases h
      | cons d r =>
        rw [oK c d r hc] at h
        by_cases hh:(gq c && gq d)=true
        · rw [if_pos hh] at h
          obtain ⟨e1,e2⟩:=Prod.mk.inj (Option.some.inj h)
          have:=vY f b
          omega
        · rw [if_neg hh] at h;cases h
theorem wH:∀ (n:Nat) (l:List UInt8) (f sp:Bool) (v r:List UInt8),l.length=n→ib f sp l=some (v,r)→fU f v+r.length≤l.length:=by
  intro n
  induction n using Nat.strongRecOn with
  | _ n ih =>
    intro l f sp v r hn h
    cases l with
    | nil =>
      rw [ib] at h
      split at h
      · cases h
      · obtain ⟨rfl,rfl⟩:=Prod.mk.inj (Option.some.inj h)
        exact Nat.le_refl _
    | cons c l =>
      rw [List.length_cons] at hn
      rw [ib] at h
      by_cases h44:c=44
      · rw [if_pos h44] at h
        split at h
        · cases h
        · obtain ⟨rfl,rfl⟩:=Prod.mk.inj (Option.some.inj h)
          simp [fU]
      rw [if_neg h44] at h
      by_cases h92:c=92
      · rw [if_pos h92] at h
        cases hx:nu l with
        | none=>rw [hx] at h;cases h
        | some q =>
          obtain ⟨b,m⟩:=q
          rw [hx] at h
          obtain ⟨⟨v',r'⟩,h1,h2⟩:=Option.map_eq_some_iff.1 h
          obtain ⟨rfl,rfl⟩:=Prod.mk.inj h2
          obtain ⟨e1,e2⟩:=pE _ _ _ hx
          have:=ih _ (by rw [List.length_drop];omega) (l.drop m) _ _ _ _ rfl h1
          have hc:=vS f _ _ _ hx
          rw [List.length_drop] at this
          simp only [fU,List.length_cons]
          omega
      · rw [if_neg h92] at h
        by_cases hb:pU f c=true
        · rw [if_pos hb] at h;cases h
        · rw [if_neg hb] at h
          obtain ⟨⟨v',r'⟩,h1,h2⟩:=Option.map_eq_some_iff.1 h
          obtain ⟨rfl,rfl⟩:=Prod.mk.inj h2
          have:=ih l.length (by omega) l _ _ _ _ rfl h1
          have hc:=zt f c (Bool.eq_false_iff.2 hb)
          simp only [fU,List.length_cons]
          omega
theorem qU:∀ (v:List UInt8) (f:Bool),v.getLast?≠some 32→(jy f v).length=fU f v
  | [],f,_=>rfl
  | c :: r,f,h=>by
    have hr:(decide (r=[]) && decide (c=32))=false:=by
      by_cases e:r=[]
      · subst e
        rw [decide_eq_false (show ¬ c=32 from fun e=>h (by rw [e];rfl)),Bool.and_false]
      · rw [decide_eq_false e,Bool.false_and]
    have h':r.getLast?≠some 32:=by
      cases r with
      | nil=>simp
      | cons d r=>rw [List.getLast?_cons_cons] at h;exact h
    unfold jy fU cst
    rw [hr,Bool.or_false,List.length_append,qU r false h']
    congr 1
    split
    · rfl
    · split <;> rfl
theorem xN (f:Bool):∀ v:List UInt8,fU f (v.map gB)=fU f v:=by
  intro v
  induction v generalizing f with
  | nil=>rfl
  | cons c r ih=>simp only [List.map_cons,fU];rw [yU,ih]
theorem qc:∀ (v:List UInt8) (b:Bool),fU false (sqR b v)≤fU false v
  | [],b=>Nat.le_refl _
  | c :: r,b=>by
    rw [sqR]
    by_cases h:c=32∧b=true
    · rw [if_pos h]
      have:=qc r true
      simp only [fU];omega
    · rw [if_neg h]
      have:=qc r (decide (c=32))
      simp only [fU];omega
theorem ze (v:List UInt8):fU true (sqR false v)≤fU true v:=by
  cases v with
  | nil=>exact Nat.le_refl _
  | cons c r =>
    rw [sqR,if_neg (fun x=>Bool.false_ne_true x.2)]
    have:=qc r (decide (c=32))
    simp only [fU];omega
theorem xZ (f:Bool):∀ a b:List UInt8,fU f a≤fU f (a++b):=by
  intro a
  induction a generalizing f with
  | nil=>intro b;exact Nat.zero_le _
  | cons c r ih =>
    intro b
    have:=ih false b
    simp only [List.cons_append,fU];omega
theorem o9:∀ r:List UInt8,fU true (r.dropWhile (· == 32))≤fU false r+1
  | []=>Nat.zero_le _
  | c :: r=>by
    rw [List.dropWhile_cons]
    split
    · have:=o9 r
      have:=zg false c
      simp only [fU];omega
    · have:=wJ c
      simp only [fU];omega
theorem wL (l:List UInt8):fU true (l.dropWhile (· == 32))≤fU true l:=by
  cases l with
  | nil=>exact Nat.le_refl _
  | cons c r =>
    rw [List.dropWhile_cons]
    split
    · rename_i h
      have:=o9 r
      have e:cst true c=2:=by rw [beq_iff_eq.1 h];decide
      simp only [fU];omega
    · exact Nat.le_refl _
theorem wN (l:List UInt8):∃ b,l=Lib.trimRightB l 32++b:=by
  refine ⟨(l.reverse.takeWhile (· == 32)).reverse,?_⟩
  unfold Lib.trimRightB
  rw [← List.reverse_append,List.takeWhile_append_dropWhile,List.reverse_reverse]
theorem wO (l:List UInt8):fU true (Lib.trimB l 32)≤fU true l:=by
  refine Nat.le_trans (wL _) ?_
  obtain ⟨b,hb⟩:=wN l
  conv=>rhs;rw [hb]
  exact xZ true _ _
theorem wQ (v:List UInt8):(jy true (fO v)).length≤fU true v:=by
  rw [qU _ _ (qG v).2,oG]
  refine Nat.le_trans (ze _) ?_
  rw [xN]
  exact wO v
def qj (f:Bool):List PR→Nat
  | []=>0
  | p :: r=>(if f=true then 0 else 1)+(p.1.length+1+fU true p.2)+qj false r
theorem uQ {rs:List PR} (h:rs≠[]):qj false rs=1+qj true rs:=by
  cases rs with
  | nil=>exact absurd rfl h
  | cons p r=>simp only [qj,if_neg Bool.false_ne_true,if_pos];omega
theorem nX:∀ (m:Nat) (l:List UInt8) (rs:List PR),jr m l=some rs→qj true rs≤l.length
  | 0,l,rs,h=>by cases h
  | m+1,l,rs,h=>by
    unfold jr at h
    cases hc:iO l with
    | none=>rw [hc] at h;cases h
    | some p =>
      obtain ⟨a,b⟩:=p
      have hlen:=congrArg List.length (nN _ _ _ hc)
      rw [List.length_append,List.length_cons] at hlen
      rw [hc] at h
      simp only at h
      by_cases ht:dz a=true
      · rw [if_pos ht] at h
        cases hx:ib true false b with
        | none=>rw [hx] at h;cases h
        | some q =>
          obtain ⟨v,r⟩:=q
          rw [hx] at h
          have hv:=wH _ _ _ _ _ _ rfl hx
          cases r with
          | nil =>
            obtain rfl:=Option.some.inj h
            simp only [qj,if_pos,List.length_nil] at hv ⊢
            omega
          | cons c r =>
            obtain ⟨y,h1,rfl⟩:=Option.map_eq_some_iff.1 h
            have ih:=nX m r y h1
            have e:=uQ (nk m r y h1).2.1
            simp only [qj,if_pos,List.length_cons] at hv ⊢
            omega
      · rw [if_neg ht] at h;cases h
theorem l7:∀ (rs:List PR) (f:Bool),(gI f (rs.map iD)).length≤qj f rs
  | [],f=>Nat.le_refl _
  | p :: r,f=>by
    have ih:=l7 r false
    have hc:=wQ p.2
    rw [List.map_cons]
    unfold gI qj iD
    simp only [List.length_append,List.length_cons,List.length_nil,List.length_map]
    have:(if f=true then ([]:List UInt8) else [44]).length=if f=true then 0 else 1:=by split <;> rfl
    have e2:(gI false (r.map fun p=>(p.1.map gB,fO p.2))).length≤qj false r:=ih
    rw [this]
    omega
theorem yQ {l k:List UInt8} (h:rY l=some k):k.length≤l.length:=by
  unfold rY at h
  obtain ⟨rs,h1,h2⟩:=Option.bind_eq_some_iff.1 h
  unfold qy at h2
  by_cases ha:rs.all (fun p=>!(fO p.2).isEmpty)=true
  · rw [if_pos ha] at h2
    obtain rfl:=Option.some.inj h2
    refine Nat.le_trans (l7 rs true) ?_
    unfold kI at h1
    by_cases h0:l=[]
    · rw [if_pos h0] at h1
      obtain rfl:=Option.some.inj h1
      exact Nat.zero_le _
    · rw [if_neg h0] at h1
      obtain ⟨y,g1,g2⟩:=Option.bind_eq_some_iff.1 h1
      split at g2
      · obtain rfl:=Option.some.inj g2
        exact nX _ _ _ g1
      · cases g2
  · rw [if_neg ha] at h2;cases h2
theorem zx (c:UInt8):ji (gB c)=ji c:=d9 (p:=fun c=>ji (gB c)=ji c) (by decide +kernel) c
theorem xu (c:UInt8):dW (gB c)=dW c:=d9 (p:=fun c=>dW (gB c)=dW c) (by decide +kernel) c
theorem wC (t:List UInt8):dz (t.map gB)=dz t:=by
  unfold dz
  rw [List.length_map,List.all_map]
  have e1:(t.map gB).isEmpty=t.isEmpty:=by cases t <;> rfl
  have e2:(dW ∘ gB)=dW:=funext xu
  rw [e1,e2]
  cases t with
  | nil=>rfl
  | cons c r=>rw [List.map_cons];simp only [List.getD_cons_zero];rw [zx]
theorem tO (p:PR):iD (iD p)=iD p:=by
  unfold iD
  simp only
  rw [sV,nD]
theorem xL {rs:List PR} (h:oz rs=true) (ha:rs.all (fun p=>!(fO p.2).isEmpty)=true):oz (rs.map iD)=true:=by
  unfold oz at h ⊢
  rw [Bool.and_eq_true] at h ⊢
  refine ⟨?_,by rw [List.length_map];exact h.2⟩
  refine List.all_eq_true.2 fun q hq=>?_
  obtain ⟨p,hp,rfl⟩:=List.mem_map.1 hq
  have h1:=List.all_eq_true.1 h.1 p hp
  have h2:=List.all_eq_true.1 ha p hp
  unfold okR okV at h1 ⊢
  simp only [Bool.and_eq_true,decide_eq_true_eq] at h1 ⊢
  unfold iD
  simp only
  have:=lQ p.2
  exact ⟨by rw [wC];exact h1.1,h2,by omega⟩
theorem xq {l k:List UInt8} (h:rY l=some k):rY k=some k:=by
  unfold rY at h
  obtain ⟨rs,h1,h2⟩:=Option.bind_eq_some_iff.1 h
  unfold qy at h2
  by_cases ha:rs.all (fun p=>!(fO p.2).isEmpty)=true
  · rw [if_pos ha] at h2
    obtain rfl:=Option.some.inj h2
    unfold rY
    rw [uf _ (xL (qB h1) ha),Option.bind_some]
    unfold qy
    rw [if_pos]
    · rw [List.map_map]
      congr 2
      exact List.map_congr_left fun p _=>tO p
    · refine List.all_eq_true.2 fun q hq=>?_
      obtain ⟨p,hp,rfl⟩:=List.mem_map.1 hq
      unfold iD
      simp only
      rw [nD]
      exact List.all_eq_true.1 ha p hp
  · rw [if_neg ha] at h2;cases h2
def fJ (t v:List UInt8):Option (List UInt8):=lg (rY v) t v
theorem jS (t v:ByteArray) (ht:t.size≤9223372036854775807):Ev (fun k=>bL.f k t v) (iL (fJ t.data.toList v.data.toList)) :=
  yO t v _ ht (fun hv _=>Ac v (by omega))
theorem jZ {t v x:List UInt8} (h:fJ t v=some x):x≠[]∧x.length≤100:=by
  unfold fJ lg at h
  split at h
  · cases h
  · rename_i hv
    rw [not_or] at hv
    split at h
    · split at h
      · cases h
      · rename_i hf
        obtain rfl:=Option.some.inj h
        have:=lQ v
        exact ⟨hf,by omega⟩
    · split at h
      · split at h
        · obtain rfl:=Option.some.inj h
          exact ⟨hv.1,by omega⟩
        · cases h
      · split at h
        · split at h
          · cases h
          · rename_i hk
            have:=yQ h
            refine ⟨fun e=>hk (by rw [h,e]),by omega⟩
        · split at h
          · obtain rfl:=Option.some.inj h
            exact ⟨hv.1,by omega⟩
          · cases h
theorem vL {t v x:List UInt8} (h:fJ t v=some x):fJ t x=some x:=by
  have hs:=jZ h
  have hx:¬ (x=[]∨100 < x.length):=by rw [not_or];exact ⟨hs.1,by omega⟩
  unfold fJ lg at h ⊢
  rw [if_neg hx]
  split at h
  · cases h
  · split at h
    · rename_i r1
      split at h
      · cases h
      · obtain rfl:=Option.some.inj h
        rw [if_pos r1,nD,if_neg hs.1]
    · rename_i r1
      rw [if_neg r1]
      split at h
      · rename_i r2
        rw [if_pos r2]
        split at h
        · rename_i hn
          obtain rfl:=Option.some.inj h
          rw [if_pos hn]
        · cases h
      · rename_i r2
        rw [if_neg r2]
        split at h
        · rename_i r3
          rw [if_pos r3]
          split at h
          · cases h
          · rw [xq h,if_neg (fun e=>hs.1 (Option.some.inj e))]
        · rename_i r3
          rw [if_neg r3]
          split at h
          · rename_i r4
            rw [if_pos r4]
          · cases h
def cO.f (a0:ByteArray):Option ByteArray:=if a0.size≤9223372036854775807 then some (gM a0) else none
theorem cO.any (a0:ByteArray) (w:World) (hs:a0.size≤9223372036854775807) :
    Calls Tryz.prog 31 #[.string a0] w fun e w'=>e=.returned (.string (gM a0))∧Below w.heap.size w w':=by
  have hcv:=fun W=>Lib.run_convert_string_bytes (P:=Tryz.prog) W 9 34 5 a0 (u:=.string) Tryz.underlying9 Tryz.underlying34 Tryz.underlying5
  go_enter Tryz.func31,Tryz.ntmps31
  go_wp2
  go_loopw [4] (fun i wr=>∃ k:Nat,k≤a0.size∧i=.int .i64 k∧ae (Below w.heap.size w wr)∧ae (jh wr w.heap.size a0.size (je a0 k))) (fun i _=>a0.size - (intOf i).toNat)
  case atStart=>exact ⟨0,Nat.zero_le _,rfl,⟨Lib.bytesWorld_below _ _ _⟩,⟨by rw [jP];exact iX w a0⟩⟩
  case round =>
    obtain ⟨k,hk,rfl,HB,HR⟩:=hrel
    by_cases hlt:k < a0.size
    · have hc:=HR.out.cell k hlt
      have hz:=HR.out.free k hlt
      rw [jL] at hc
      obtain ⟨c,hcc⟩:∃ c:Int,((a0.data.toList.getD k 0).toNat:Int)=c:=⟨_,rfl⟩
      rw [hcc] at hc
      have hcr:0≤c∧c≤255:=by have:=(a0.data.toList.getD k 0).toNat_lt;omega
      have hc0:0≤c:=hcr.1
      have hc1:c≤255:=hcr.2
      clear hcr
      have HC:=Lib.hid hcc
      clear hcc
      by_cases h1:65≤c
      · by_cases h2:c≤90
        · have HL:=Lib.hid (oI h1 h2)
          go_wp2
          refine ⟨⟨k+1,by omega,by go_num,⟨?_⟩,⟨?_⟩⟩,by simp [intOf];omega⟩
          · exact (HB.out).setCell (Nat.le_refl _) _
          · have:=kz HR.out hlt HC.out
            rw [HL.out] at this
            first
            | exact this
            | (rw [show (c+32) % 256=c+32 from by omega];exact this)
        · have HL:=Lib.hid (jc (c:=c) (by omega))
          have d2:decide (c≤90)=false:=by simpa using h2
          go_wp2
          refine ⟨⟨k+1,by omega,by go_num,HB,⟨ig HR.out HC.out HL.out⟩⟩,by simp [intOf];omega⟩
      · have HL:=Lib.hid (jc (c:=c) (by omega))
        have d1:decide (65≤c)=false:=by simpa using h1
        go_wp2
        refine ⟨⟨k+1,by omega,by go_num,HB,⟨ig HR.out HC.out HL.out⟩⟩,by simp [intOf];omega⟩
    · have hge:¬ (k:Int) < (a0.size:Int):=by omega
      have hst:=fun cap=>jb (P:=Tryz.prog) HR.out cap 34 5 9 Tryz.underlying34 Tryz.underlying5 Tryz.underlying9
      rw [ky a0 k hlt] at hst
      go_wp2
      go_ret
      exact ⟨rfl,HB.out⟩
theorem cO.calls (a0:ByteArray) (r:ByteArray) (w:World) (h:cO.f a0=some r) :
    Calls Tryz.prog 31 #[.string a0] w fun e w'=>e=.returned (.string r)∧Below w.heap.size w w':=by
  unfold cO.f at h
  by_cases hs:a0.size≤9223372036854775807
  · rw [if_pos hs] at h
    obtain rfl:=Option.some.inj h
    exact cO.any a0 w hs
  · rw [if_neg hs] at h
    cases h
end Go.Proofs.YthfpaoacjpjnfaaGreatDoor.P

namespace Go.Proofs.YthfpaoacjpjnfaaGreatDoor.P
open Go.RowKit Go.Proofs.YthfpaoacjpjnfaaGreatDoorW.PrintWords Go.Proofs.YthfpaoacjpjnfaaGreatDoorW.PrintLast Go.Proofs.YthfpaoacjpjnfaaGreatDoorW.PrintMore
attribute [local go_sem] eB eu fB fC dR dQ ed eD
end Go.Proofs.YthfpaoacjpjnfaaGreatDoor.P

namespace Go.Proofs.YthfpaoacjpjnfaaGreatDoor.P
open Go.RowKit Go.Proofs.YthfpaoacjpjnfaaGreatDoorW.PrintWords Go.Proofs.YthfpaoacjpjnfaaGreatDoorW.PrintLast Go.Proofs.YthfpaoacjpjnfaaGreatDoorW.PrintMore
theorem one_byte (w:World) (c:Int):(convert 34 9 (.slice (some ⟨w.heap.size,0,none⟩) 1 1)).run Tryz.prog (w.alloc (.cells #[.int .u8 c] 5))=.ok (.string (strOfNums [c])) (w.alloc (.cells #[.int .u8 c] 5)):=by
  refine run_convert_bytes_arg _ _ _ Tryz.underlying34 Tryz.underlying5 _ 0 1 1 [c] rfl (fun i hi=>?_) _ Tryz.underlying9
  obtain rfl:i=0:=by omega
  simp
theorem ku (n:Nat) (h:10≤n):Lib.decDigits n=Lib.decDigits (n / 10)++[UInt8.ofNat (48+n % 10)]:=by
  rw [Lib.decDigits,dif_neg (by omega)]
theorem iE (n:Nat) (h:n < 10):Lib.decDigits n=[UInt8.ofNat (48+n)]:=by
  rw [Lib.decDigits,dif_pos h]
theorem qi (n:Nat):n < 18446744073709551616→(Lib.decDigits n).length≤20:=by
  intro h
  have key:∀ d m:Nat,m < 10 ^ (d+1)→(Lib.decDigits m).length≤d+1:=by
    intro d
    induction d with
    | zero=>intro m hm;rw [iE m (by omega)];simp
    | succ d ih =>
      intro m hm
      by_cases h1:m < 10
      · rw [iE m h1];simp
      · rw [ku m (by omega),List.length_append]
        have:=ih (m / 10) (by rw [Nat.pow_succ] at hm;omega)
        simp;omega
  exact key 19 n (by omega)
theorem lS (d:Nat) (h:d < 10):strOfNums [48+(d:Int)]=mk [UInt8.ofNat (48+d)]:=by
  apply pz
  rw [strOfNums_data,mk_data]
  simp only [List.map_cons,List.map_nil]
  rw [show (48+(d:Int)).toNat=48+d from by omega]
theorem jK (a b:List UInt8):mk a++mk b=mk (a++b):=by apply pz;rw [jU,mk_data,mk_data,mk_data]
def bB.f (a0:Int):Option ByteArray:=if -9223372036854775808≤a0∧a0≤9223372036854775807 then some (mk (Lib.itoa a0)) else none
set_option maxHeartbeats 8000000 in
theorem bB.any (n:Int) (hn0:-9223372036854775808≤n) (hn1:n≤9223372036854775807) (w:World) :
    Calls Tryz.prog 23 #[.int .i64 n] w fun e w'=>e=.returned (.string (mk (Lib.itoa n)))∧Below w.heap.size w w':=by
  have hob:=one_byte
  obtain ⟨m,hm⟩:∃ m:Nat,n.natAbs=m:=⟨_,rfl⟩
  have hm2:m≤9223372036854775808:=by omega
  have hml:=qi m (by omega)
  by_cases hneg:n < 0
  · have d0:decide (n < 0)=true:=decide_eq_true hneg
    have hw:IntKind.u64.wrap (-IntKind.u64.wrap n)=(m:Int):=by rw [IntKind.wrap_u64,IntKind.wrap_u64];omega
    have hit:Lib.itoa n=45 :: Lib.decDigits m:=by unfold Lib.itoa;rw [if_pos hneg,hm]
    rw [hit]
    have HW:=Lib.hid hw
    clear hm hit
    go_enter Tryz.func23,Tryz.ntmps23
    go_wp2
    clear hw
    go_loopw [3,4] (fun x s wr=>∃ (u:Nat) (ui:Int) (t:List UInt8),0≤ui∧ui≤9223372036854775808∧ae (ui=(u:Int))∧x=.int .u64 ui∧s=.string (mk t)∧ae (Below w.heap.size w wr)∧ae (Lib.decDigits m=Lib.decDigits u++t)) (fun x _ _=>(intOf x).toNat)
    case atStart=>exact ⟨m,m,[],by omega,by omega,⟨rfl⟩,by first|rfl|(rw [HW.out]),rfl,⟨Below.refl _ _⟩,⟨by simp⟩⟩
    case round =>
      obtain ⟨u,ui,t,h0,h1,HU,rfl,rfl,HB,HE⟩:=hrel
      have htl:t.length≤20:=by have:=congrArg List.length HE.out;rw [List.length_append] at this;omega
      obtain ⟨T,hT⟩:∃ T,mk t=T:=⟨_,rfl⟩
      have hts:T.size≤20:=by rw [← hT,eT];exact htl
      rw [hT]
      have HT:=Lib.hid hT
      clear hT htl
      by_cases hu:10≤ui
      · obtain ⟨d,hd⟩:∃ d:Int,ui % 10=d:=⟨_,rfl⟩
        have hd0:0≤d∧d≤9:=by omega
        have HD:=Lib.hid hd
        obtain ⟨D,hD⟩:∃ D,strOfNums [48+d]=D:=⟨_,rfl⟩
        have hDs:D.size=1:=by rw [← hD,strOfNums_size];rfl
        have hsz:D.size+T.size≤9223372036854775807:=by omega
        have hd1:0≤d:=hd0.1
        have hd2:d≤9:=hd0.2
        have HDD:=Lib.hid hD
        clear hd0 hDs
        go_wp2_with fail
        have hdu:d=((u % 10:Nat):Int):=by have:=HU.out;omega
        have hDm:D=mk [UInt8.ofNat (48+u % 10)]:=by rw [← HDD.out,hdu];exact lS _ (by omega)
        refine ⟨⟨u / 10,ui / 10,[UInt8.ofNat (48+u % 10)]++t,by omega,by omega,⟨by have:=HU.out;omega⟩,rfl,?_,⟨HB.out.alloc HB.out.size _⟩,⟨?_⟩⟩,by simp [intOf];omega⟩
        · rw [hDm,← HT.out,jK]
        · rw [HE.out,ku u (by have:=HU.out;omega),List.append_assoc]
      · obtain ⟨D,hD⟩:∃ D,strOfNums [48+ui]=D:=⟨_,rfl⟩
        have hDs:D.size=1:=by rw [← hD,strOfNums_size];rfl
        have hsz:D.size+T.size≤9223372036854775807:=by omega
        have hu9:ui≤9:=by omega
        have hDT:(D++T).size≤21:=by
          rw [bZ,jU,List.length_append,← bZ,← bZ];omega
        obtain ⟨E,hE⟩:∃ E,D++T=E:=⟨_,rfl⟩
        rw [hE] at hDT
        have hfin:E=mk (Lib.decDigits m):=by
          have hu2:u < 10:=by have:=HU.out;omega
          rw [HE.out,iE u hu2,← hE,← hD,HU.out,lS u hu2,← HT.out,jK]
        have hsz2:(1:Nat)+E.size≤9223372036854775807:=by omega
        have hsz3:(⟨#[45]⟩:ByteArray).size+E.size≤9223372036854775807:=by
          rw [show (⟨#[45]⟩:ByteArray).size=1 from rfl];omega
        have HD:=Lib.hid hD
        have HFIN:=Lib.hid hfin
        clear hDs hfin
        go_wp2_with fail
        go_ret
        refine ⟨?_,HB.out.alloc HB.out.size _⟩
        have hF:=HFIN.out
        first
        | (rw [hF];done)
        | (show Ending.returned (.string _)=_;rw [hE,hF];rfl)
        | (show Ending.returned (.string _)=_;rw [hF];rfl)
        | (rw [hF,show (⟨#[45]⟩:ByteArray)=mk [45] from rfl,jK];rfl)
        | (show Ending.returned (.string E)=_;rw [hF])
  · have d0:decide (n < 0)=false:=decide_eq_false hneg
    have hw:IntKind.u64.wrap n=(m:Int):=by rw [IntKind.wrap_u64];omega
    have hit:Lib.itoa n=Lib.decDigits m:=by unfold Lib.itoa;rw [if_neg hneg,show n.toNat=m by omega]
    rw [hit]
    have HW:=Lib.hid hw
    clear hm hit
    go_enter Tryz.func23,Tryz.ntmps23
    go_wp2
    clear hw
    go_loopw [3,4] (fun x s wr=>∃ (u:Nat) (ui:Int) (t:List UInt8),0≤ui∧ui≤9223372036854775808∧ae (ui=(u:Int))∧x=.int .u64 ui∧s=.string (mk t)∧ae (Below w.heap.size w wr)∧ae (Lib.decDigits m=Lib.decDigits u++t)) (fun x _ _=>(intOf x).toNat)
    case atStart=>exact ⟨m,m,[],by omega,by omega,⟨rfl⟩,by first|rfl|(rw [HW.out]),rfl,⟨Below.refl _ _⟩,⟨by simp⟩⟩
    case round =>
      obtain ⟨u,ui,t,h0,h1,HU,rfl,rfl,HB,HE⟩:=hrel
      have htl:t.length≤20:=by have:=congrArg List.length HE.out;rw [List.length_append] at this;omega
      obtain ⟨T,hT⟩:∃ T,mk t=T:=⟨_,rfl⟩
      have hts:T.size≤20:=by rw [← hT,eT];exact htl
      rw [hT]
      have HT:=Lib.hid hT
      clear hT htl
      by_cases hu:10≤ui
      · obtain ⟨d,hd⟩:∃ d:Int,ui % 10=d:=⟨_,rfl⟩
        have hd0:0≤d∧d≤9:=by omega
        have HD:=Lib.hid hd
        obtain ⟨D,hD⟩:∃ D,strOfNums [48+d]=D:=⟨_,rfl⟩
        have hDs:D.size=1:=by rw [← hD,strOfNums_size];rfl
        have hsz:D.size+T.size≤9223372036854775807:=by omega
        have hd1:0≤d:=hd0.1
        have hd2:d≤9:=hd0.2
        have HDD:=Lib.hid hD
        clear hd0 hDs
        go_wp2_with fail
        have hdu:d=((u % 10:Nat):Int):=by have:=HU.out;omega
        have hDm:D=mk [UInt8.ofNat (48+u % 10)]:=by rw [← HDD.out,hdu];exact lS _ (by omega)
        refine ⟨⟨u / 10,ui / 10,[UInt8.ofNat (48+u % 10)]++t,by omega,by omega,⟨by have:=HU.out;omega⟩,rfl,?_,⟨HB.out.alloc HB.out.size _⟩,⟨?_⟩⟩,by simp [intOf];omega⟩
        · rw [hDm,← HT.out,jK]
        · rw [HE.out,ku u (by have:=HU.out;omega),List.append_assoc]
      · obtain ⟨D,hD⟩:∃ D,strOfNums [48+ui]=D:=⟨_,rfl⟩
        have hDs:D.size=1:=by rw [← hD,strOfNums_size];rfl
        have hsz:D.size+T.size≤9223372036854775807:=by omega
        have hu9:ui≤9:=by omega
        have hDT:(D++T).size≤21:=by
          rw [bZ,jU,List.length_append,← bZ,← bZ];omega
        obtain ⟨E,hE⟩:∃ E,D++T=E:=⟨_,rfl⟩
        rw [hE] at hDT
        have hfin:E=mk (Lib.decDigits m):=by
          have hu2:u < 10:=by have:=HU.out;omega
          rw [HE.out,iE u hu2,← hE,← hD,HU.out,lS u hu2,← HT.out,jK]
        have hsz2:(1:Nat)+E.size≤9223372036854775807:=by omega
        have hsz3:(⟨#[45]⟩:ByteArray).size+E.size≤9223372036854775807:=by
          rw [show (⟨#[45]⟩:ByteArray).size=1 from rfl];omega
        have HD:=Lib.hid hD
        have HFIN:=Lib.hid hfin
        clear hDs hfin
        go_wp2_with fail
        go_ret
        refine ⟨?_,HB.out.alloc HB.out.size _⟩
        have hF:=HFIN.out
        first
        | (rw [hF];done)
        | (show Ending.returned (.string _)=_;rw [hE,hF];rfl)
        | (show Ending.returned (.string _)=_;rw [hF];rfl)
        | (rw [hF,show (⟨#[45]⟩:ByteArray)=mk [45] from rfl,jK];rfl)
        | (show Ending.returned (.string E)=_;rw [hF])
theorem bB.calls (a0:Int) (r:ByteArray) (w:World) (h:bB.f a0=some r) :
    Calls Tryz.prog 23 #[.int .i64 a0] w fun e w'=>e=.returned (.string r)∧Below w.heap.size w w':=by
  unfold bB.f at h
  by_cases hs:-9223372036854775808≤a0∧a0≤9223372036854775807
  · rw [if_pos hs] at h
    obtain rfl:=Option.some.inj h
    exact bB.any a0 hs.1 hs.2 w
  · rw [if_neg hs] at h
    cases h
end Go.Proofs.YthfpaoacjpjnfaaGreatDoor.P

namespace Go.Proofs.YthfpaoacjpjnfaaGreatDoor.P
open Go.RowKit Go.Proofs.YthfpaoacjpjnfaaGreatDoorW.PrintWords Go.Proofs.YthfpaoacjpjnfaaGreatDoorW.PrintLast Go.Proofs.YthfpaoacjpjnfaaGreatDoorW.PrintMore
attribute [local go_sem] eB eu fB fC dR dQ ed eD
end Go.Proofs.YthfpaoacjpjnfaaGreatDoor.P


namespace Go.Proofs.YthfpaoacjpjnfaaGreatDoor.P
open Go.RowKit Go.Proofs.YthfpaoacjpjnfaaGreatDoorW.PrintWords Go.Proofs.YthfpaoacjpjnfaaGreatDoorW.PrintLast Go.Proofs.YthfpaoacjpjnfaaGreatDoorW.PrintMore
end Go.Proofs.YthfpaoacjpjnfaaGreatDoor.P

namespace Go.Proofs.YthfpaoacjpjnfaaGreatDoor.P
open Go.RowKit Go.Proofs.YthfpaoacjpjnfaaGreatDoorW.PrintWords Go.Proofs.YthfpaoacjpjnfaaGreatDoorW.PrintLast Go.Proofs.YthfpaoacjpjnfaaGreatDoorW.PrintMore
attribute [local go_sem] eB eu fB fC dR dQ ed eD
attribute [local go_sem high] zH
attribute [local go_sem high] zm
end Go.Proofs.YthfpaoacjpjnfaaGreatDoor.P


namespace Go.Proofs.YthfpaoacjpjnfaaGreatDoor.P
open Go.RowKit Go.Proofs.YthfpaoacjpjnfaaGreatDoorW.PrintWords Go.Proofs.YthfpaoacjpjnfaaGreatDoorW.PrintLast Go.Proofs.YthfpaoacjpjnfaaGreatDoorW.PrintMore
def xx (l:List UInt8):Int:=match Lib.atoiAll l with|.ok v=>v|_=>0
def zM (r:Int) (x y:Option (List UInt8)):Bool × Bool :=
  match x,y with
  | some a,some b=>if r=1 then (Op.bytesLess a b,true) else if r=2 then (decide (xx a < xx b),true) else (false,false)
  | _,_=>(false,false)
theorem oo {t v x:List UInt8} (h:fJ t v=some x) (hr:dY t=2):gZ x=true:=by
  have h2:=vL h
  have hs:=jZ h
  unfold fJ lg at h2
  rw [if_neg (by rw [not_or];exact ⟨hs.1,by omega⟩),hr,if_neg (by decide),if_pos rfl] at h2
  by_cases hn:gZ x=true
  · exact hn
  · rw [if_neg hn] at h2;cases h2
theorem xO (t a b:ByteArray) (ht:t.size≤9223372036854775807):Ev (fun k=>iG.f k t a b) (zM (dY t.data.toList) (fJ t.data.toList a.data.toList) (fJ t.data.toList b.data.toList)):=by
  have ha:=jS t a ht
  have hb:=jS t b ht
  refine zB ht ha hb ?_
  cases hx:fJ t.data.toList a.data.toList with
  | none=>rfl
  | some x =>
    cases hy:fJ t.data.toList b.data.toList with
    | none=>rfl
    | some y =>
      have sx:=jZ hx
      have sy:=jZ hy
      show qg (dY t.data.toList) (mk x) (mk y)=some (if dY t.data.toList=1 then (Op.bytesLess x y,true) else if dY t.data.toList=2 then (decide (xx x < xx y),true) else (false,false))
      unfold qg
      by_cases r1:dY t.data.toList=1
      · rw [if_pos r1,if_pos r1,fQ,fQ]
      rw [if_neg r1,if_neg r1]
      by_cases r2:dY t.data.toList=2
      · rw [if_pos r2,if_pos r2,eT,eT,if_pos (by omega)]
        obtain ⟨vx,hvx,_,_⟩:=qO (oo hx r2)
        obtain ⟨vy,hvy,_,_⟩:=qO (oo hy r2)
        unfold su xx
        rw [mk_data,mk_data,hvx,hvy]
      · rw [if_neg r2,if_neg r2]
theorem oU (t v:ByteArray) (w:World) (hG:Gl w) (ht:t.size≤9223372036854775807) :
    Calls Tryz.prog 39 #[.string t,.string v] w fun e w'=>e=.returned (.tuple #[.string (iL (fJ t.data.toList v.data.toList)).1,.bool (iL (fJ t.data.toList v.data.toList)).2])∧Below w.heap.size w w':=by
  obtain ⟨k,hk⟩:=Ev.rounds (jS t v ht)
  exact bL.calls k t v _ _ w hG hk
theorem ul (t a b:ByteArray) (w:World) (hG:Gl w) (ht:t.size≤9223372036854775807) :
    Calls Tryz.prog 68 #[.string t,.string a,.string b] w fun e w'=>e=.returned (.bool (xW (fJ t.data.toList a.data.toList) (fJ t.data.toList b.data.toList)))∧Below w.heap.size w w':=by
  obtain ⟨k,hk⟩:=Ev.rounds (yZ (jS t a ht) (jS t b ht))
  exact jM.calls k t a b _ w hG hk
def jR (t a b:ByteArray):Bool × Bool:=zM (dY t.data.toList) (fJ t.data.toList a.data.toList) (fJ t.data.toList b.data.toList)
theorem kK (t a b:ByteArray) (w:World) (hG:Gl w) (ht:t.size≤9223372036854775807) :
    Calls Tryz.prog 69 #[.string t,.string a,.string b] w fun e w'=>e=.returned (.tuple #[.bool (jR t a b).1,.bool (jR t a b).2])∧Below w.heap.size w w':=by
  obtain ⟨k,hk⟩:=Ev.rounds (xO t a b ht)
  exact iG.calls k t a b _ _ w hG hk
theorem pK (t:ByteArray) (w:World) (ht:t.size≤9223372036854775807) :
    Calls Tryz.prog 59 #[.string t] w fun e w'=>e=.returned (.int .i64 (dY t.data.toList))∧Below w.heap.size w w':=by
  refine (dA.calls t _ w (rR t ht)).mono ?_
  rintro e w' ⟨rfl,hb⟩
  exact ⟨rfl,hb⟩
def zN (t a b:ByteArray):Bool:=xW (fJ t.data.toList a.data.toList) (fJ t.data.toList b.data.toList)
theorem yz (B C:Nat) (v typ val:ByteArray) (W:World) (hG:Gl W) (hc:W.cell? ⟨B,0,none⟩=some (.string typ)) (hd:W.cell? ⟨C,0,none⟩=some (.string val)) (h2:typ.size≤9223372036854775807) :
    Calls Tryz.prog 67 (#[.string v]++#[.pointer (some ⟨B,0,none⟩),.pointer (some ⟨C,0,none⟩)]) W fun e w'=>e=.returned (.bool (zN typ v val))∧Below W.heap.size W w':=by
  have HG:=ae.mk hG
  have H2:=ae.mk h2
  clear hG h2
  show Calls Tryz.prog 67 #[.string v,.pointer (some ⟨B,0,none⟩),.pointer (some ⟨C,0,none⟩)] W _
  go_enter Tryz.func67,Tryz.ntmps67
  go_wp2_with (go_at_call 68;refine (ul typ v val _ HG.out H2.out).mono ?_;rintro e w' ⟨rfl,hb⟩)
  go_ret
  exact ⟨rfl,hb⟩
def qD (vs:List ByteArray) (typ val:ByteArray) (i:Nat):Bool:=zN typ (bH ByteArray.empty vs (i:Int)) val
def gy.f (a0:ByteArray) (l:List S45) (typ val:ByteArray):Option Bool :=
  (dS.f a0 l typ).bind fun vs=>if vs.length≤1000000000∧typ.size≤9223372036854775807 then some (gN (qD vs typ val) vs.length) else none
set_option maxHeartbeats 2000000 in
set_option maxRecDepth 100000 in
theorem gy.calls (a0:ByteArray) (A1:Option Addr) (c1:Nat) (l1:List S45) (typ val:ByteArray) (r:Bool) (w:World) (hr:Kd.C k45 w A1 l1.length l1) (hc:l1.length≤c1) (hG:Gl w) (h:gy.f a0 l1 typ val=some r) :
    Calls Tryz.prog 40 #[.agg #[.string a0,.slice A1 l1.length c1],.string typ,.string val] w fun e w'=>e=.returned (.bool r)∧Below w.heap.size w w':=by
  obtain ⟨vs,hv,h⟩:=Option.bind_eq_some_iff.1 h
  by_cases hs:vs.length≤1000000000∧typ.size≤9223372036854775807
  · rw [if_pos hs] at h
    obtain rfl:=Option.some.inj h
    have hu2:=Tryz.underlying28
    have eg:∀ args w,(callFunc 67 args).run Tryz.prog w=.ok (.enter 67 args) w:=enters_of Tryz.func67 (by kernel_rfl) rfl
    have HR:=ae.mk hr
    have HC:=ae.mk hc
    have HG:=ae.mk hG
    have HV:=ae.mk hv
    have HS:=ae.mk hs
    clear hr hc hG hv hs h
    have ct:∀ (W:World) (A:Option Addr) (c:Nat),Below w.heap.size w W→W.cell? ⟨w.heap.size+1,0,none⟩=some (.string typ)→W.cell? ⟨w.heap.size+2,0,none⟩=some (.string val)→Kd.string.C W A vs.length vs →
        Calls Tryz.prog 61 #[.slice A vs.length c,.func (.func 67) #[] #[.pointer (some ⟨w.heap.size+1,0,none⟩),.pointer (some ⟨w.heap.size+2,0,none⟩)]] W fun e w'=>e=.returned (.bool (gN (qD vs typ val) vs.length))∧Below W.heap.size W w':=by
      intro W A c hb hc1 hc2 hcs
      refine jq A c vs 67 _ (qD vs typ val) W eg hcs (fun i hi W' hb'=>?_)
      refine (yz (w.heap.size+1) (w.heap.size+2) _ typ val W' ((HG.out.below hb).below hb') (bM (W0:=w) hc1 hb') (bM (W0:=w) hc2 hb') HS.out.2).mono ?_
      rintro e w' ⟨rfl,hb2⟩
      exact ⟨rfl,az hb' hb2⟩
    have CT:=ae.mk ct
    clear ct eg
    go_enter Tryz.func40,Tryz.ntmps40
    go_upto_region 1 with (fail)
    obtain ⟨w0,hw0⟩:∃ w0,((w.alloc (.cells #[.string a0,.slice A1 l1.length c1] 28)).alloc (.cells #[.string typ] 9)).alloc (.cells #[.string val] 9)=w0:=⟨_,rfl⟩
    have kD:w0.cell? ⟨w.heap.size,0,none⟩=some (.string a0):=by rw [← hw0];simp [go_sem]
    have kE:w0.cell? ⟨w.heap.size,1,none⟩=some (.slice A1 l1.length c1):=by rw [← hw0];simp [go_sem]
    have kT:w0.cell? ⟨w.heap.size+1,0,none⟩=some (.string typ):=by rw [← hw0];simp [go_sem]
    have kV:w0.cell? ⟨w.heap.size+2,0,none⟩=some (.string val):=by rw [← hw0];simp [go_sem]
    have kB:Below w.heap.size w w0:=by rw [← hw0];exact af (af (af (Below.refl _ _) _) _) _
    rw [hw0]
    clear hw0
    have KB:=ae.mk kB
    clear kB
    go_wp2_with (first|(go_at_call 37;refine (dS.calls a0 A1 c1 l1 typ vs w0 (Kd.df HR.out KB.out) HC.out HV.out).mono ?_;rintro e w1 ⟨v,rfl,ho,hb⟩;obtain ⟨Ao,co,eo⟩:=Kd.bY ho;subst eo;have kT1:=bM (W0:=w) kT hb;have kV1:=bM (W0:=w) kV hb;have KB1:=ae.mk (az KB.out hb);have HO:=ae.mk ho;clear hb ho kT kV kD kE)|(go_at_call 61;refine (CT.out _ _ _ KB1.out kT1 kV1 (Kd.aY HO.out).2.2).mono ?_;rintro e w2 ⟨rfl,hb2⟩))
    go_ret
    exact ⟨rfl,az KB1.out hb2⟩
  · rw [if_neg hs] at h
    cases h
def zY (kind:Int) (typ val v:ByteArray):Bool:=if kind=7 then ((jR typ val v).2 && !(jR typ val v).1) else ((jR typ v val).2 && !(jR typ v val).1)
set_option maxHeartbeats 2000000 in
set_option maxRecDepth 100000 in
theorem yG (B:Nat) (kind:Int) (v typ val:ByteArray) (W:World) (hG:Gl W) (hk:W.cell? ⟨B,0,none⟩=some (.int .i64 kind)) (hc:W.cell? ⟨B,1,none⟩=some (.string typ)) (hd:W.cell? ⟨B,2,none⟩=some (.string val)) (h2:typ.size≤9223372036854775807) :
    Calls Tryz.prog 70 (#[.string v]++#[.pointer (some ⟨B,0,none⟩)]) W fun e w'=>e=.returned (.bool (zY kind typ val v))∧Below W.heap.size W w':=by
  have HG:=ae.mk hG
  have H2:=ae.mk h2
  have hu:=Tryz.underlying25
  clear hG h2
  show Calls Tryz.prog 70 #[.string v,.pointer (some ⟨B,0,none⟩)] W _
  unfold zY
  by_cases h7:kind=7
  · rw [if_pos h7]
    have b7:(kind == 7)=true:=beq_iff_eq.2 h7
    clear h7
    obtain ⟨p,hp⟩:∃ p,jR typ val v=p:=⟨_,rfl⟩
    rw [hp]
    obtain ⟨p1,p2⟩:=p
    have HL:=ae.mk hp
    clear hp
    go_enter Tryz.func70,Tryz.ntmps70
    go_upto_region 1 with (fail)
    go_quiet (fail)
    go_wp2_with (go_at_call 69;refine (kK typ val v _ (Gl.drewN HG.out _) H2.out).mono ?_;rintro e w' ⟨rfl,hb⟩;rw [HL.out])
    all_goals (go_ret;exact ⟨by first|rfl|(simp [*];done),kN (aa (Below.refl _ _) _) (by simp) hb⟩)
  · rw [if_neg h7]
    have b7:(kind == 7)=false:=beq_eq_false_iff_ne.2 h7
    clear h7
    obtain ⟨p,hp⟩:∃ p,jR typ v val=p:=⟨_,rfl⟩
    rw [hp]
    obtain ⟨p1,p2⟩:=p
    have HL:=ae.mk hp
    clear hp
    go_enter Tryz.func70,Tryz.ntmps70
    go_upto_region 1 with (fail)
    go_quiet (fail)
    go_wp2_with (go_at_call 69;refine (kK typ v val _ (Gl.drewN HG.out _) H2.out).mono ?_;rintro e w' ⟨rfl,hb⟩;rw [HL.out])
    all_goals (go_ret;exact ⟨by first|rfl|(simp [*];done),kN (aa (Below.refl _ _) _) (by simp) hb⟩)
def qb (kind:Int) (vs:List ByteArray) (typ val:ByteArray) (i:Nat):Bool:=zY kind typ val (bH ByteArray.empty vs (i:Int))
def fV.f (a0_0:Int) (a0_1 a0_2:ByteArray) (l0_3:List ByteArray) (l0_4:List S25) (a1_0:ByteArray) (l1_1:List S45):Option Int :=
  if a0_1.size≤9223372036854775807 then (if (jR a0_1 a0_2 a0_2).2=false then some 2 else
    (dS.f a1_0 l1_1 a0_1).bind fun vs=>if vs.length≤1000000000 then some (if gN (qb a0_0 vs a0_1 a0_2) vs.length=true then 1 else 0) else none) else none
theorem lh (b:Bool):dI.f b=some (if b=true then 1 else 0):=by cases b <;> rfl
set_option maxHeartbeats 4000000 in
set_option maxRecDepth 100000 in
theorem fV.calls (a0_0:Int) (a0_1:ByteArray) (a0_2:ByteArray) (A0_3:Option Addr) (c0_3:Nat) (l0_3:List ByteArray) (A0_4:Option Addr) (c0_4:Nat) (l0_4:List S25) (a1_0:ByteArray) (A1_1:Option Addr) (c1_1:Nat) (l1_1:List S45) (r:Int) (w:World) (hr0_3:Kd.C Kd.string w A0_3 l0_3.length l0_3) (hc0_3:l0_3.length≤c0_3) (hr0_4:Kd.C k25 w A0_4 l0_4.length l0_4) (hc0_4:l0_4.length≤c0_4) (hr1_1:Kd.C k45 w A1_1 l1_1.length l1_1) (hc1_1:l1_1.length≤c1_1) (hG:Gl w) (h:fV.f a0_0 a0_1 a0_2 l0_3 l0_4 a1_0 l1_1=some r) :
    Calls Tryz.prog 41 #[.agg #[.int .i64 a0_0,.string a0_1,.string a0_2,.slice A0_3 l0_3.length c0_3,.slice A0_4 l0_4.length c0_4],.agg #[.string a1_0,.slice A1_1 l1_1.length c1_1]] w fun e w'=>e=.returned (.int .i64 r)∧Below w.heap.size w w':=by
  unfold fV.f at h
  by_cases hs:a0_1.size≤9223372036854775807
  · rw [if_pos hs] at h
    have hu1:=Tryz.underlying25
    have hu2:=Tryz.underlying28
    have eg:∀ args w,(callFunc 70 args).run Tryz.prog w=.ok (.enter 70 args) w:=enters_of Tryz.func70 (by kernel_rfl) rfl
    have HS:=ae.mk hs
    have HR:=ae.mk hr1_1
    have HC:=ae.mk hc1_1
    have HG:=ae.mk hG
    clear hr0_3 hc0_3 hr0_4 hc0_4 hr1_1 hc1_1 hG hs
    obtain ⟨p,hp⟩:∃ p,jR a0_1 a0_2 a0_2=p:=⟨_,rfl⟩
    rw [hp] at h
    obtain ⟨p1,p2⟩:=p
    have HL:=ae.mk hp
    clear hp
    have HH:=ae.mk h
    clear h
    have cells:∀ W:World,Below (w.alloc (.cells #[.int .i64 a0_0,.string a0_1,.string a0_2,.slice A0_3 l0_3.length c0_3,.slice A0_4 l0_4.length c0_4] 25)).heap.size (w.alloc (.cells #[.int .i64 a0_0,.string a0_1,.string a0_2,.slice A0_3 l0_3.length c0_3,.slice A0_4 l0_4.length c0_4] 25)) W→W.cell? ⟨w.heap.size,0,none⟩=some (.int .i64 a0_0)∧W.cell? ⟨w.heap.size,1,none⟩=some (.string a0_1)∧W.cell? ⟨w.heap.size,2,none⟩=some (.string a0_2):=by
      intro W hb
      exact ⟨bM (W0:=w) (by simp [go_sem]) hb,bM (W0:=w) (by simp [go_sem]) hb,bM (W0:=w) (by simp [go_sem]) hb⟩
    have ct:∀ (vs:List ByteArray) (W:World) (A:Option Addr) (c:Nat),Below w.heap.size w W→(W.cell? ⟨w.heap.size,0,none⟩=some (.int .i64 a0_0)∧W.cell? ⟨w.heap.size,1,none⟩=some (.string a0_1)∧W.cell? ⟨w.heap.size,2,none⟩=some (.string a0_2))→Kd.string.C W A vs.length vs →
        Calls Tryz.prog 61 #[.slice A vs.length c,.func (.func 70) #[] #[.pointer (some ⟨w.heap.size,0,none⟩)]] W fun e w'=>e=.returned (.bool (gN (qb a0_0 vs a0_1 a0_2) vs.length))∧Below W.heap.size W w':=by
      intro vs W A c hb hcs hv
      refine jq A c vs 70 _ (qb a0_0 vs a0_1 a0_2) W eg hv (fun i hi W' hb'=>?_)
      refine (yG w.heap.size a0_0 _ a0_1 a0_2 W' ((HG.out.below hb).below hb') (bM (W0:=w) hcs.1 hb') (bM (W0:=w) hcs.2.1 hb') (bM (W0:=w) hcs.2.2 hb') HS.out).mono ?_
      rintro e w' ⟨rfl,hb2⟩
      exact ⟨rfl,az hb' hb2⟩
    have CT:=ae.mk ct
    clear ct eg
    go_enter Tryz.func41,Tryz.ntmps41
    go_upto_region 1 with (fail)
    obtain ⟨w0,hw0⟩:∃ w0,(w.alloc (.cells #[.int .i64 a0_0,.string a0_1,.string a0_2,.slice A0_3 l0_3.length c0_3,.slice A0_4 l0_4.length c0_4] 25)).alloc (.cells #[.string a1_0,.slice A1_1 l1_1.length c1_1] 28)=w0:=⟨_,rfl⟩
    have kq:=cells w0 (by rw [← hw0];exact af (Below.refl _ _) _)
    have k0:=kq.1
    have k1:=kq.2.1
    have k2:=kq.2.2
    have kD:w0.cell? ⟨w.heap.size+1,0,none⟩=some (.string a1_0):=by rw [← hw0];simp [go_sem]
    have kE:w0.cell? ⟨w.heap.size+1,1,none⟩=some (.slice A1_1 l1_1.length c1_1):=by rw [← hw0];simp [go_sem]
    have kB:Below w.heap.size w w0:=by rw [← hw0];exact af (af (Below.refl _ _) _) _
    rw [hw0]
    clear hw0 kq cells
    have KB:=ae.mk kB
    clear kB
    cases p2 with
    | false =>
      have hr2:(2:Int)=r:=Option.some.inj HH.out
      subst hr2
      clear HH
      go_wp2_with (go_at_call 69;refine (kK a0_1 a0_2 a0_2 _ (HG.out.below KB.out) HS.out).mono ?_;rintro e w1 ⟨rfl,hb⟩;rw [HL.out])
      go_ret
      exact ⟨rfl,az KB.out hb⟩
    | true =>
      obtain ⟨vs,hv,h⟩:=Option.bind_eq_some_iff.1 HH.out
      by_cases hl:vs.length≤1000000000
      · rw [if_pos hl] at h
        have hr2:=Option.some.inj h
        obtain ⟨b,hb0⟩:∃ b,gN (qb a0_0 vs a0_1 a0_2) vs.length=b:=⟨_,rfl⟩
        rw [hb0] at hr2
        have CT2:=ae.mk (CT.out vs)
        rw [hb0] at CT2
        have HV:=ae.mk hv
        have HT:=ae.mk (lh b)
        subst hr2
        clear HH CT hv h hl hb0
        go_wp2_with (first|(go_at_call 69;refine (kK a0_1 a0_2 a0_2 _ (HG.out.below KB.out) HS.out).mono ?_;rintro e w1 ⟨rfl,hb⟩;rw [HL.out];have j0:=bM (W0:=w) k0 hb;have j1:=bM (W0:=w) k1 hb;have j2:=bM (W0:=w) k2 hb;have jD:=bM (W0:=w) kD hb;have jE:=bM (W0:=w) kE hb;have KB1:=ae.mk (az KB.out hb);clear hb k0 k1 k2 kD kE)|(go_at_call 37;refine (dS.calls a1_0 A1_1 c1_1 l1_1 a0_1 vs _ (Kd.df HR.out KB1.out) HC.out HV.out).mono ?_;rintro e w2 ⟨v,rfl,ho,hb⟩;obtain ⟨Ao,co,eo⟩:=Kd.bY ho;subst eo;have KQ:=ae.mk (And.intro (bM (W0:=w) j0 hb) (And.intro (bM (W0:=w) j1 hb) (bM (W0:=w) j2 hb)));have KB2:=ae.mk (az KB1.out hb);have HO:=ae.mk ho;clear hb ho j0 j1 j2 jD jE)|(go_at_call 61;refine (CT2.out _ _ _ KB2.out KQ.out (Kd.aY HO.out).2.2).mono ?_;rintro e w3 ⟨rfl,hb⟩;have KB3:=ae.mk (az KB2.out hb);clear hb)|(go_at_call 36;refine (dI.calls _ _ _ HT.out).mono ?_;rintro e w4 ⟨rfl,⟨nq,rfl⟩⟩))
        all_goals (go_ret;exact ⟨by first|rfl|(simp [*];done),aa KB3.out _⟩)
      · rw [if_neg hl] at h
        cases h
  · rw [if_neg hs] at h
    cases h
def strings_CutPrefix.f (a0 a1:ByteArray):Option (ByteArray × Bool):=some (mk (Lib.trimPrefix a0.data.toList a1.data.toList),Lib.hasPrefix a0.data.toList a1.data.toList)
theorem strings_CutPrefix.calls (a0 a1:ByteArray) (r1:ByteArray) (r2:Bool) (w:World) (h:strings_CutPrefix.f a0 a1=some (r1,r2)) :
    Calls Tryz.prog 82 #[.string a0,.string a1] w fun e w'=>e=.returned (.tuple #[.string r1,.bool r2])∧aU w w':=by
  obtain ⟨rfl,rfl⟩:=Prod.mk.inj (Option.some.inj h)
  refine (Tryz.strings_CutPrefix a0 a1 w).mono ?_
  rintro e w' ⟨rfl,rfl⟩
  exact ⟨rfl,aU.refl _⟩
def strings_HasSuffix.f (a0 a1:ByteArray):Option Bool:=if a0.size≤9223372036854775807 then some (Lib.hasSuffix a0.data.toList a1.data.toList) else none
theorem strings_HasSuffix.calls (a0 a1:ByteArray) (r:Bool) (w:World) (h:strings_HasSuffix.f a0 a1=some r) :
    Calls Tryz.prog 84 #[.string a0,.string a1] w fun e w'=>e=.returned (.bool r)∧aU w w':=by
  unfold strings_HasSuffix.f at h
  by_cases hs:a0.size≤9223372036854775807
  · rw [if_pos hs] at h
    obtain rfl:=Option.some.inj h
    refine (Tryz.strings_HasSuffix a0 a1 w hs).mono ?_
    rintro e w' ⟨rfl,rfl⟩
    exact ⟨rfl,aU.refl _⟩
  · rw [if_neg hs] at h
    cases h
end Go.Proofs.YthfpaoacjpjnfaaGreatDoor.P

namespace Go.Proofs.YthfpaoacjpjnfaaGreatDoor.P
open Go.RowKit Go.Proofs.YthfpaoacjpjnfaaGreatDoorW.PrintWords Go.Proofs.YthfpaoacjpjnfaaGreatDoorW.PrintLast Go.Proofs.YthfpaoacjpjnfaaGreatDoorW.PrintMore
attribute [local go_sem] eB eu fB fC dR dQ ed eD
def dh.l0:Nat→List ByteArray→Int→ByteArray→Bool→List ByteArray→Int→Int→Option (Bool)
 | 0,_,_,_,_,_,_,_=>none
 | k+1,x1,x5,x6,x7,x23,x24,x25=>if x25 < x24 then (if 0≤x25 then (if x25 < (x23.length:Int) then (if x7=true then ((strings_Cut.f x6 (bH ByteArray.empty x23 x25)).bind fun bt126=>(dh.l0 k x1 x5 bt126.2.1 bt126.2.2 x23 x24 (wrap64 (x25+1)))) else (dh.l0 k x1 x5 x6 x7 x23 x24 (wrap64 (x25+1)))) else (none)) else (none)) else (if x7=true then (if 0≤x5 then (if x5 < (x1.length:Int) then ((strings_HasSuffix.f x6 (bH ByteArray.empty x1 x5)).bind fun t130=>(some t130)) else (none)) else (none)) else (some false))
def dh.f (k:Nat) (a0:ByteArray) (l1:List ByteArray):Option (Bool):=if 0 < (l1.length:Int) then ((strings_CutPrefix.f a0 (bH ByteArray.empty l1 0)).bind fun bt122=>(if 1≤(wrap64 ((l1.length:Int) - 1)) then (if (wrap64 ((l1.length:Int) - 1))≤(l1.length:Int) then (dh.l0 k l1 (wrap64 ((l1.length:Int) - 1)) bt122.1 bt122.2 ((l1.take ((wrap64 ((l1.length:Int) - 1)):Int).toNat).drop 1) (((l1.take ((wrap64 ((l1.length:Int) - 1)):Int).toNat).drop 1).length:Int) 0) else (none)) else (none))) else (none)
set_option maxHeartbeats 8000000 in
set_option maxRecDepth 100000 in
theorem dh.calls (k:Nat) (a0:ByteArray) (A1:Option Addr) (c1:Nat) (l1:List ByteArray) (r:Bool) (w:World) (hr1:Kd.C Kd.string w A1 l1.length l1) (hc1:l1.length≤c1) (hG:Gl w) (h:dh.f k a0 l1=some r) :
  Calls Tryz.prog 63 #[.string a0,.slice A1 l1.length c1] w fun e w'=>e=.returned (.bool r)∧aU w w':=by
 have HR1:=ae.mk hr1
 have HC1:=ae.mk hc1
 clear hr1 hc1
 have HG:=ae.mk hG
 clear hG
 have H:(if 0 < (l1.length:Int) then ((strings_CutPrefix.f a0 (bH ByteArray.empty l1 0)).bind fun bt122=>(if 1≤(wrap64 ((l1.length:Int) - 1)) then (if (wrap64 ((l1.length:Int) - 1))≤(l1.length:Int) then (dh.l0 k l1 (wrap64 ((l1.length:Int) - 1)) bt122.1 bt122.2 ((l1.take ((wrap64 ((l1.length:Int) - 1)):Int).toNat).drop 1) (((l1.take ((wrap64 ((l1.length:Int) - 1)):Int).toNat).drop 1).length:Int) 0) else (none)) else (none))) else (none))=some r:=h
 clear h
 by_cases c3:0 < (l1.length:Int)
 ·rw [if_pos c3] at H
  have c3b0:decide (0 < (l1.length:Int))=true:=decide_eq_true c3
  have c3b1:decide (0 < l1.length)=true:=decide_eq_true (by omega)
  clear c3
  replace H:=Option.bind_eq_some_iff.mp H
  obtain ⟨⟨t122,t123⟩,A40,H⟩:=H
  replace H:(if 1≤(wrap64 ((l1.length:Int) - 1)) then (if (wrap64 ((l1.length:Int) - 1))≤(l1.length:Int) then (dh.l0 k l1 (wrap64 ((l1.length:Int) - 1)) t122 t123 ((l1.take ((wrap64 ((l1.length:Int) - 1)):Int).toNat).drop 1) (((l1.take ((wrap64 ((l1.length:Int) - 1)):Int).toNat).drop 1).length:Int) 0) else (none)) else (none))=some r:=H
  have A4:=ae.mk A40
  clear A40
  by_cases c5:1≤(wrap64 ((l1.length:Int) - 1))
  ·rw [if_pos c5] at H
   have c5b0:=eq_true c5
   have c5b1:decide (1≤(wrap64 ((l1.length:Int) - 1)))=true:=decide_eq_true c5
   clear c5
   by_cases c6:(wrap64 ((l1.length:Int) - 1))≤(l1.length:Int)
   ·rw [if_pos c6] at H
    have c6b0:=eq_true c6
    have HLE:=ae.mk c6
    have c6b1:decide ((wrap64 ((l1.length:Int) - 1))≤(l1.length:Int))=true:=decide_eq_true c6
    clear c6
    have H':=ae.mk H
    clear H
    have p121:0≤(0:Int):=(by omega)
    have q121:0 < (l1.length:Int):=of_decide_eq_true (by first|(with_reducible assumption)|assumption)
    obtain ⟨ad121,e121,hx121_0⟩:=Kd.eO HR1.out 0 p121 q121
    cases e121
    have qi121:(0 < l1.length)=True:=eq_true (by omega)
    (try rw [show ((0:Int)).toNat=0 from rfl] at hx121_0)
    (try rw [Addr.add_zero'] at hx121_0)
    replace p121:=eq_true p121
    replace q121:=eq_true q121
    go_enter Tryz.func63,Tryz.ntmps63
    go_wp2_with (first|((with_reducible refine aI (f:=82) rfl ?_);refine bn (some 18) rfl rfl Tryz.func82 (by kernel_rfl) rfl #[.string a0,.string (bH ByteArray.empty l1 0)] rfl (by (try simp only [List.map_toArray,List.map_cons,List.map_nil]);first|done|rfl|(simp only [List.length_drop,List.length_take];rfl)) ?_;(with_reducible refine (strings_CutPrefix.calls a0 (bH ByteArray.empty l1 0) t122 t123 _ A4.out).mono ?_);rintro e w' ⟨rfl,⟨nd,rfl⟩⟩;refine ⟨_,rfl,?_⟩;obtain ⟨i07,hi07,_,hsz7,_⟩:=info_parts yF;obtain ⟨A7,hcut7,hA7,hC7⟩:=rP (P:=Tryz.prog) Value.string (⟨#[]⟩:ByteArray) 22 9 .i64 .i64 Tryz.underlying22 hi07 hsz7 (some ad121) c1 l1 1 (wrap64 ((l1.length:Int) - 1)) (by omega) (by first|omega|exact of_decide_eq_true (by first|(with_reducible assumption)|assumption)) (of_decide_eq_true (by first|(with_reducible assumption)|assumption)) HC1.out;have HR124:=ae.mk (Kd.uP (h1:=fun _=>rfl) (hA7 _ (Kd.kR HR1.out)));have HC124:=ae.mk hC7;clear hA7 hC7 hi07 hsz7))
    go_loopg [6,7,25] k (fun kq v6 v7 v25 w'=>∃ (x6_1:ByteArray) (x7_1:Bool) (x25_1:Int),v6=.string x6_1∧v7=.bool x7_1∧v25=.int .i64 x25_1∧ae (dh.l0 kq l1 (wrap64 ((l1.length:Int) - 1)) x6_1 x7_1 ((l1.take ((wrap64 ((l1.length:Int) - 1)):Int).toNat).drop 1) (((l1.take ((wrap64 ((l1.length:Int) - 1)):Int).toNat).drop 1).length:Int) x25_1=some r)∧ae (kq≤k)∧aU w w')
    case atStart=>exact ⟨(t122),(t123),(0),(by first|rfl|(simp;done)|(simp [*];done)|(simp [*,aN,aQ,di];done)|(simp only [ax,ay];done)|(simp only [ax,ay];simp;done)|(simp only [ax,ay];simp [*];done)),(by first|rfl|(simp;done)|(simp [*];done)|(simp [*,aN,aQ,di];done)|(simp only [ax,ay];done)|(simp only [ax,ay];simp;done)|(simp only [ax,ay];simp [*];done)),(by first|rfl|(simp;done)|(simp [*];done)|(simp [*,aN,aQ,di];done)|(simp only [ax,ay];done)|(simp only [ax,ay];simp;done)|(simp only [ax,ay];simp [*];done)),H',⟨Nat.le_refl _⟩,by repeat (first|exact aU.refl _|apply aU.step)⟩
    case round =>
     clear H'
     try clear c1
     try clear p1
     try clear q1
     try clear hx1
     try clear qi1
     try clear p2
     try clear c3
     try clear c3b0
     try clear c3b1
     try clear c5
     try clear c5b0
     try clear c5b1
     try clear c6
     try clear c6b0
     try clear c6b1
     try clear p6
     try clear hx121_0
     try clear p121
     try clear q121
     obtain ⟨x6_1,x7_1,x25_1,rfl,rfl,rfl,HA,HK1,⟨m1,rfl⟩⟩:=hrel
     cases gk with
     | zero=>exact absurd HA.out (by simp [dh.l0])
     | succ k1 =>
      have H:=HA.out
      clear HA
      simp only [dh.l0] at H
      by_cases c8:x25_1 < (((l1.take ((wrap64 ((l1.length:Int) - 1)):Int).toNat).drop 1).length:Int)
      ·rw [if_pos c8] at H
       have c8b0:decide (x25_1 < (((l1.take ((wrap64 ((l1.length:Int) - 1)):Int).toNat).drop 1).length:Int))=true:=decide_eq_true c8
       have c8e0:=c8b0
       rw [show ((l1.take ((wrap64 ((l1.length:Int) - 1)):Int).toNat).drop 1).length=((wrap64 ((l1.length:Int) - 1)):Int).toNat - 1 by rw [List.length_drop,List.length_take];have:=HLE.out;omega] at c8e0
       clear c8
       by_cases c9:0≤x25_1
       ·rw [if_pos c9] at H
        have c9b0:decide (0≤x25_1)=true:=decide_eq_true c9
        clear c9
        by_cases c10:x25_1 < (((l1.take ((wrap64 ((l1.length:Int) - 1)):Int).toNat).drop 1).length:Int)
        ·rw [if_pos c10] at H
         have c10b0:decide (x25_1 < (((l1.take ((wrap64 ((l1.length:Int) - 1)):Int).toNat).drop 1).length:Int))=true:=decide_eq_true c10
         have c10e0:=c10b0
         rw [show ((l1.take ((wrap64 ((l1.length:Int) - 1)):Int).toNat).drop 1).length=((wrap64 ((l1.length:Int) - 1)):Int).toNat - 1 by rw [List.length_drop,List.length_take];have:=HLE.out;omega] at c10e0
         clear c10
         by_cases c11:x7_1=true
         ·subst c11
          have H1:((strings_Cut.f x6_1 (bH ByteArray.empty ((l1.take ((wrap64 ((l1.length:Int) - 1)):Int).toNat).drop 1) x25_1)).bind fun bt126=>(dh.l0 k1 l1 (wrap64 ((l1.length:Int) - 1)) bt126.2.1 bt126.2.2 ((l1.take ((wrap64 ((l1.length:Int) - 1)):Int).toNat).drop 1) (((l1.take ((wrap64 ((l1.length:Int) - 1)):Int).toNat).drop 1).length:Int) (wrap64 (x25_1+1))))=some r:=by rw [if_pos rfl] at H;exact H
          clear H
          have H:=H1
          clear H1
          replace H:=Option.bind_eq_some_iff.mp H
          obtain ⟨⟨t126,t127,t128⟩,A120,H⟩:=H
          replace H:(dh.l0 k1 l1 (wrap64 ((l1.length:Int) - 1)) t127 t128 ((l1.take ((wrap64 ((l1.length:Int) - 1)):Int).toNat).drop 1) (((l1.take ((wrap64 ((l1.length:Int) - 1)):Int).toNat).drop 1).length:Int) (wrap64 (x25_1+1)))=some r:=H
          have A12:=ae.mk A120
          clear A120
          have H':=ae.mk H
          clear H
          have p125:0≤(x25_1:Int):=of_decide_eq_true (by first|(with_reducible assumption)|assumption)
          have q125:x25_1 < (((l1.take ((wrap64 ((l1.length:Int) - 1)):Int).toNat).drop 1).length:Int):=of_decide_eq_true (by first|(with_reducible assumption)|assumption)
          obtain ⟨ad125,e125,hx125_0⟩:=Kd.eO HR124.out x25_1 p125 q125
          cases e125
          replace p125:=eq_true p125
          replace q125:=eq_true q125
          have q125e:=q125
          rw [show ((l1.take ((wrap64 ((l1.length:Int) - 1)):Int).toNat).drop 1).length=((wrap64 ((l1.length:Int) - 1)):Int).toNat - 1 by rw [List.length_drop,List.length_take];have:=HLE.out;omega] at q125e
          have A12t:=A12
          rw [List.drop_one] at A12t
          go_wp2_with (first|((with_reducible refine aI (f:=83) rfl ?_);refine bn (some 33) rfl rfl Tryz.func83 (by kernel_rfl) rfl #[.string x6_1,.string (bH ByteArray.empty ((l1.take ((wrap64 ((l1.length:Int) - 1)):Int).toNat).tail) x25_1)] rfl (by (try simp only [List.map_toArray,List.map_cons,List.map_nil]);first|done|rfl|(simp only [List.length_drop,List.length_take];rfl)) ?_;(with_reducible refine (strings_Cut.calls x6_1 (bH ByteArray.empty ((l1.take ((wrap64 ((l1.length:Int) - 1)):Int).toNat).tail) x25_1) t126 t127 t128 _ ?side1 A12t.out).mono ?_);(case side1=>first|exact HG.out|exact Gl.drewN HG.out _);rintro e w' ⟨rfl,⟨nd,rfl⟩⟩;refine ⟨_,rfl,?_⟩))
          go_roundg k1
          case measure=>have:=HK1.out;omega
          case rel=>exact ⟨(t127),(t128),(wrap64 (x25_1+1)),(by first|rfl|(simp;done)|(simp [*];done)|(simp [*,aN,aQ,di];done)|(simp only [ax,ay];done)|(simp only [ax,ay];simp;done)|(simp only [ax,ay];simp [*];done)),(by first|rfl|(simp;done)|(simp [*];done)|(simp [*,aN,aQ,di];done)|(simp only [ax,ay];done)|(simp only [ax,ay];simp;done)|(simp only [ax,ay];simp [*];done)),(by first|rfl|(simp;done)|(simp [*];done)|(simp [*,aN,aQ,di];done)|(simp only [ax,ay];done)|(simp only [ax,ay];simp;done)|(simp only [ax,ay];simp [*];done)),H',⟨by have:=HK1.out;omega⟩,by repeat (first|exact aU.refl _|apply aU.step)⟩
         ·replace c11:=Bool.eq_false_iff.mpr c11
          subst c11
          have H1:(dh.l0 k1 l1 (wrap64 ((l1.length:Int) - 1)) x6_1 false ((l1.take ((wrap64 ((l1.length:Int) - 1)):Int).toNat).drop 1) (((l1.take ((wrap64 ((l1.length:Int) - 1)):Int).toNat).drop 1).length:Int) (wrap64 (x25_1+1)))=some r:=by rw [if_neg (show ¬ (false=true) by decide)] at H;exact H
          clear H
          have H:=H1
          clear H1
          have H':=ae.mk H
          clear H
          have p125:0≤(x25_1:Int):=of_decide_eq_true (by first|(with_reducible assumption)|assumption)
          have q125:x25_1 < (((l1.take ((wrap64 ((l1.length:Int) - 1)):Int).toNat).drop 1).length:Int):=of_decide_eq_true (by first|(with_reducible assumption)|assumption)
          obtain ⟨ad125,e125,hx125_0⟩:=Kd.eO HR124.out x25_1 p125 q125
          cases e125
          replace p125:=eq_true p125
          replace q125:=eq_true q125
          have q125e:=q125
          rw [show ((l1.take ((wrap64 ((l1.length:Int) - 1)):Int).toNat).drop 1).length=((wrap64 ((l1.length:Int) - 1)):Int).toNat - 1 by rw [List.length_drop,List.length_take];have:=HLE.out;omega] at q125e
          go_wp2
          go_roundg k1
          case measure=>have:=HK1.out;omega
          case rel=>exact ⟨(x6_1),(false),(wrap64 (x25_1+1)),(by first|rfl|(simp;done)|(simp [*];done)|(simp [*,aN,aQ,di];done)|(simp only [ax,ay];done)|(simp only [ax,ay];simp;done)|(simp only [ax,ay];simp [*];done)),(by first|rfl|(simp;done)|(simp [*];done)|(simp [*,aN,aQ,di];done)|(simp only [ax,ay];done)|(simp only [ax,ay];simp;done)|(simp only [ax,ay];simp [*];done)),(by first|rfl|(simp;done)|(simp [*];done)|(simp [*,aN,aQ,di];done)|(simp only [ax,ay];done)|(simp only [ax,ay];simp;done)|(simp only [ax,ay];simp [*];done)),H',⟨by have:=HK1.out;omega⟩,by repeat (first|exact aU.refl _|apply aU.step)⟩
        ·rw [if_neg c10] at H
         exact absurd H (by simp)
       ·rw [if_neg c9] at H
        exact absurd H (by simp)
      ·rw [if_neg c8] at H
       have c8b0:decide (x25_1 < (((l1.take ((wrap64 ((l1.length:Int) - 1)):Int).toNat).drop 1).length:Int))=false:=decide_eq_false c8
       have c8e0:=c8b0
       rw [show ((l1.take ((wrap64 ((l1.length:Int) - 1)):Int).toNat).drop 1).length=((wrap64 ((l1.length:Int) - 1)):Int).toNat - 1 by rw [List.length_drop,List.length_take];have:=HLE.out;omega] at c8e0
       clear c8
       by_cases c13:x7_1=true
       ·subst c13
        have H1:(if 0≤(wrap64 ((l1.length:Int) - 1)) then (if (wrap64 ((l1.length:Int) - 1)) < (l1.length:Int) then ((strings_HasSuffix.f x6_1 (bH ByteArray.empty l1 (wrap64 ((l1.length:Int) - 1)))).bind fun t130=>(some t130)) else (none)) else (none))=some r:=by rw [if_pos rfl] at H;exact H
        clear H
        have H:=H1
        clear H1
        obtain ⟨ji14,hji14⟩:∃ j_:Int,(wrap64 ((l1.length:Int) - 1))=j_:=⟨_,rfl⟩
        replace H:(if 0≤(ji14) then (if (ji14) < (l1.length:Int) then ((strings_HasSuffix.f x6_1 (bH ByteArray.empty l1 (ji14))).bind fun t130=>(some t130)) else (none)) else (none))=some r:=by first|(rw [hji14] at H;exact H)|(simp only [hji14] at H ⊢;exact H)
        (try rw [hji14] at c5b0)
        (try rw [hji14] at c5b1)
        (try rw [hji14] at c6b0)
        (try rw [hji14] at c6b1)
        (try rw [hji14] at c8b0)
        (try rw [hji14] at c8e0)
        have hji14w:(IntKind.i64.wrap ((l1.length:Int) - 1))=ji14:=(aN _).trans hji14
        by_cases c15:0≤(ji14)
        ·rw [if_pos c15] at H
         have c15b0:decide (0≤(ji14))=true:=decide_eq_true c15
         clear c15
         by_cases c16:(ji14) < (l1.length:Int)
         ·rw [if_pos c16] at H
          have c16b0:decide ((ji14) < (l1.length:Int))=true:=decide_eq_true c16
          clear c16
          replace H:=Option.bind_eq_some_iff.mp H
          obtain ⟨t130,A170,H⟩:=H
          replace H:(some t130)=some r:=H
          have A17:=ae.mk A170
          clear A170
          obtain rfl:=Option.some.inj H
          have p129:0≤((ji14):Int):=of_decide_eq_true (by first|(with_reducible assumption)|assumption)
          have q129:(ji14) < (l1.length:Int):=of_decide_eq_true (by first|(with_reducible assumption)|assumption)
          obtain ⟨ad129,e129,hx129_0⟩:=Kd.eO HR1.out (ji14) p129 q129
          obtain rfl:ad121=ad129:=(by injection e129)
          replace p129:=eq_true p129
          replace q129:=eq_true q129
          go_wp2_with (first|(go_at_call 84;(with_reducible refine (strings_HasSuffix.calls x6_1 (bH ByteArray.empty l1 (ji14)) t130 _ A17.out).mono ?_);rintro e w' ⟨rfl,⟨nd,rfl⟩⟩))
          go_ret
          exact ⟨by first|rfl|(simp;done)|(simp only [← hji14] <;> (first|rfl|simp))|(simp [*];done),by repeat (first|exact aU.refl _|apply aU.step)⟩
         ·rw [if_neg c16] at H
          exact absurd H (by simp)
        ·rw [if_neg c15] at H
         exact absurd H (by simp)
       ·replace c13:=Bool.eq_false_iff.mpr c13
        subst c13
        have H1:(some false)=some r:=by rw [if_neg (show ¬ (false=true) by decide)] at H;exact H
        clear H
        have H:=H1
        clear H1
        obtain rfl:=Option.some.inj H
        go_wp2
        go_ret
        exact ⟨by first|rfl|(simp;done)|(simp [*];done)|(simp [*,aN,aQ,di];done)|(simp only [ax,ay];done)|(simp only [ax,ay];simp;done)|(simp only [ax,ay];simp [*];done),by repeat (first|exact aU.refl _|apply aU.step)⟩
   ·rw [if_neg c6] at H
    exact absurd H (by simp)
  ·rw [if_neg c5] at H
   exact absurd H (by simp)
 ·rw [if_neg c3] at H
  exact absurd H (by simp)
end Go.Proofs.YthfpaoacjpjnfaaGreatDoor.P


namespace Go.Proofs.YthfpaoacjpjnfaaGreatDoor.P
open Go.RowKit Go.Proofs.YthfpaoacjpjnfaaGreatDoorW.PrintWords Go.Proofs.YthfpaoacjpjnfaaGreatDoorW.PrintLast Go.Proofs.YthfpaoacjpjnfaaGreatDoorW.PrintMore
def sQ:List ByteArray→ByteArray→Bool→ByteArray × Bool
  | [],s,b=>(s,b)
  | p :: r,s,b=>if b=true then sQ r ⟨(Lib.cut s.data.toList p.data.toList).2.1.toArray⟩ (Lib.cut s.data.toList p.data.toList).2.2 else sQ r s b
def Ab (l:List ByteArray) (q:ByteArray × Bool):Bool:=q.2 && Lib.hasSuffix q.1.data.toList (bH ByteArray.empty l ((l.length - 1:Nat):Int)).data.toList
def mI (s:ByteArray) (l:List ByteArray):Bool :=
  Ab l (sQ ((l.take (l.length - 1)).drop 1) ⟨(Lib.trimPrefix s.data.toList (bH ByteArray.empty l 0).data.toList).toArray⟩ (Lib.hasPrefix s.data.toList (bH ByteArray.empty l 0).data.toList))
theorem xG (s p:List UInt8):(Lib.cut s p).2.1.length≤s.length:=by
  unfold Lib.cut
  split
  · show (s.drop _).length≤_
    rw [List.length_drop];omega
  · exact Nat.zero_le _
theorem wF (s p:List UInt8):(Lib.trimPrefix s p).length≤s.length:=by
  unfold Lib.trimPrefix
  split
  · rw [List.length_drop];omega
  · exact Nat.le_refl _
theorem uW (l:List UInt8):(⟨l.toArray⟩:ByteArray).size=l.length:=rfl
theorem yM (s:ByteArray):s.data.toList.length=s.size:=rfl
theorem zG (m:List ByteArray) (i:Nat) (h:i < m.length):m.drop i=bH ByteArray.empty m (i:Int) :: m.drop (i+1):=by
  rw [List.drop_eq_getElem_cons h]
  congr 1
  unfold bH
  rw [Int.toNat_natCast,List.getD_eq_getElem?_getD,List.getElem?_eq_getElem h]
  rfl
theorem tu (l m:List ByteArray) (h1:1≤l.length) (hl:l.length≤1000000000) (hm:m.length≤1000000000):∀ (n i:Nat) (s:ByteArray) (b:Bool),m.length - i=n→i≤m.length→s.size < 4294967281 →
    Ev (fun k=>dh.l0 k l ((l.length - 1:Nat):Int) s b m (m.length:Int) (i:Int)) (Ab l (sQ (m.drop i) s b)):=by
  intro n
  induction n with
  | zero =>
    intro i s b hn hi hs
    have hd:m.drop i=[]:=List.drop_eq_nil_of_le (by omega)
    rw [hd]
    have c1:¬ ((i:Int) < (m.length:Int)):=by omega
    cases b with
    | false=>exact Ev.step (fun k=>by rw [dh.l0]) (Ev.ifn (c:=(i:Int) < (m.length:Int)) c1 (Ev.ifn (c:=false=true) Bool.false_ne_true (Ev.now false)))
    | true =>
      have e:(strings_HasSuffix.f s (bH ByteArray.empty l ((l.length - 1:Nat):Int)))=some (Ab l (sQ [] s true)):=by
        unfold strings_HasSuffix.f
        rw [if_pos (by omega)]
        rfl
      exact Ev.step (fun k=>by rw [dh.l0]) (Ev.ifn (c:=(i:Int) < (m.length:Int)) c1 (Ev.ifp (c:=true=true) rfl (Ev.ifp (c:=0≤((l.length - 1:Nat):Int)) (by omega) (Ev.ifp (c:=((l.length - 1:Nat):Int) < (l.length:Int)) (by omega) (Ev.congr (fun k=>by rw [e];rfl) (Ev.now _))))))
  | succ n ih =>
    intro i s b hn hi hs
    have c1:(i:Int) < (m.length:Int):=by omega
    have hw:wrap64 ((i:Int)+1)=((i+1:Nat):Int):=by unfold wrap64;omega
    rw [zG m i (by omega)]
    cases b with
    | false =>
      have:=ih (i+1) s false (by omega) (by omega) hs
      rw [← hw] at this
      exact Ev.step (fun k=>by rw [dh.l0]) (Ev.ifp (c:=(i:Int) < (m.length:Int)) c1 (Ev.ifp (c:=0≤(i:Int)) (by omega) (Ev.ifp (c:=(i:Int) < (m.length:Int)) c1 (Ev.ifn (c:=false=true) Bool.false_ne_true this))))
    | true =>
      have:=ih (i+1) ⟨(Lib.cut s.data.toList (bH ByteArray.empty m (i:Int)).data.toList).2.1.toArray⟩ (Lib.cut s.data.toList (bH ByteArray.empty m (i:Int)).data.toList).2.2 (by omega) (by omega) (by
        have:=xG s.data.toList (bH ByteArray.empty m (i:Int)).data.toList
        rw [uW];rw [yM] at this;omega)
      rw [← hw] at this
      have e:strings_Cut.f s (bH ByteArray.empty m (i:Int))=some (⟨(Lib.cut s.data.toList (bH ByteArray.empty m (i:Int)).data.toList).1.toArray⟩,⟨(Lib.cut s.data.toList (bH ByteArray.empty m (i:Int)).data.toList).2.1.toArray⟩,(Lib.cut s.data.toList (bH ByteArray.empty m (i:Int)).data.toList).2.2):=by
        unfold strings_Cut.f
        rw [if_pos hs]
      exact Ev.step (fun k=>by rw [dh.l0]) (Ev.ifp (c:=(i:Int) < (m.length:Int)) c1 (Ev.ifp (c:=0≤(i:Int)) (by omega) (Ev.ifp (c:=(i:Int) < (m.length:Int)) c1 (Ev.ifp (c:=true=true) rfl (Ev.congr (fun k=>by rw [e];rfl) this)))))
theorem wV (s:ByteArray) (l:List ByteArray) (h2:2≤l.length) (hl:l.length≤1000000000) (hs:s.size < 4294967281):Ev (fun k=>dh.f k s l) (mI s l):=by
  have hw:wrap64 ((l.length:Int) - 1)=((l.length - 1:Nat):Int):=by unfold wrap64;omega
  have hm:((l.take (l.length - 1)).drop 1).length≤1000000000:=by rw [List.length_drop,List.length_take];omega
  have:=tu l ((l.take (l.length - 1)).drop 1) (by omega) hl hm _ 0 ⟨(Lib.trimPrefix s.data.toList (bH ByteArray.empty l 0).data.toList).toArray⟩ (Lib.hasPrefix s.data.toList (bH ByteArray.empty l 0).data.toList) rfl (by omega) (by
    have:=wF s.data.toList (bH ByteArray.empty l 0).data.toList
    rw [uW];rw [yM] at this;omega)
  rw [List.drop_zero] at this
  unfold dh.f mI
  rw [hw,Int.toNat_natCast]
  exact Ev.ifp (c:=0 < (l.length:Int)) (by omega) (Ev.congr (fun k=>rfl) (Ev.ifp (c:=1≤((l.length - 1:Nat):Int)) (by omega) (Ev.ifp (c:=((l.length - 1:Nat):Int)≤(l.length:Int)) (by omega) this)))
theorem rF.any (a0:ByteArray) (w:World) (hs:a0.size≤9223372036854775807) :
    Calls Tryz.prog 60 #[.string a0] w fun e w'=>e=.returned (.string (gM a0))∧Below w.heap.size w w':=by
  have hcv:=fun W=>Lib.run_convert_string_bytes (P:=Tryz.prog) W 9 34 5 a0 (u:=.string) Tryz.underlying9 Tryz.underlying34 Tryz.underlying5
  go_enter Tryz.func60,Tryz.ntmps60
  go_wp2
  go_loopw [10] (fun i wr=>∃ k:Nat,k≤a0.size∧i=.int .i64 k∧ae (Below w.heap.size w wr)∧ae (jh wr w.heap.size a0.size (je a0 k))) (fun i _=>a0.size - (intOf i).toNat)
  case atStart=>exact ⟨0,Nat.zero_le _,rfl,⟨Lib.bytesWorld_below _ _ _⟩,⟨by rw [jP];exact iX w a0⟩⟩
  case round =>
    obtain ⟨k,hk,rfl,HB,HR⟩:=hrel
    by_cases hlt:k < a0.size
    · have hc:=HR.out.cell k hlt
      have hz:=HR.out.free k hlt
      rw [jL] at hc
      obtain ⟨c,hcc⟩:∃ c:Int,((a0.data.toList.getD k 0).toNat:Int)=c:=⟨_,rfl⟩
      rw [hcc] at hc
      have hcr:0≤c∧c≤255:=by have:=(a0.data.toList.getD k 0).toNat_lt;omega
      have hc0:0≤c:=hcr.1
      have hc1:c≤255:=hcr.2
      clear hcr
      have HC:=Lib.hid hcc
      clear hcc
      by_cases h1:65≤c
      · by_cases h2:c≤90
        · have HL:=Lib.hid (oI h1 h2)
          go_wp2
          refine ⟨⟨k+1,by omega,by go_num,⟨?_⟩,⟨?_⟩⟩,by simp [intOf];omega⟩
          · exact (HB.out).setCell (Nat.le_refl _) _
          · have:=kz HR.out hlt HC.out
            rw [HL.out] at this
            first
            | exact this
            | (rw [show c+97 - 65=c+32 from by omega];exact this)
            | (rw [show ((c+97) - 65) % 256=c+32 from by omega];exact this)
            | (rw [show ((c+97) % 256 - 65) % 256=c+32 from by omega];exact this)
        · have HL:=Lib.hid (jc (c:=c) (by omega))
          have d2:decide (c≤90)=false:=by simpa using h2
          go_wp2
          refine ⟨⟨k+1,by omega,by go_num,HB,⟨ig HR.out HC.out HL.out⟩⟩,by simp [intOf];omega⟩
      · have HL:=Lib.hid (jc (c:=c) (by omega))
        have d1:decide (65≤c)=false:=by simpa using h1
        go_wp2
        refine ⟨⟨k+1,by omega,by go_num,HB,⟨ig HR.out HC.out HL.out⟩⟩,by simp [intOf];omega⟩
    · have hge:¬ (k:Int) < (a0.size:Int):=by omega
      have hst:=fun cap=>jb (P:=Tryz.prog) HR.out cap 34 5 9 Tryz.underlying34 Tryz.underlying5 Tryz.underlying9
      rw [ky a0 k hlt] at hst
      go_wp2
      go_ret
      exact ⟨rfl,HB.out⟩
def Ar (typ:ByteArray) (l:List ByteArray) (v:ByteArray):Bool :=
  (iL (fJ typ.data.toList v.data.toList)).2 && mI (iL (fJ typ.data.toList v.data.toList)).1 l
set_option maxHeartbeats 2000000 in
set_option maxRecDepth 100000 in
theorem yL (B C:Nat) (v typ:ByteArray) (l:List ByteArray) (A:Option Addr) (c:Nat) (W:World) (hG:Gl W) (hc:W.cell? ⟨B,1,none⟩=some (.string typ)) (hd:W.cell? ⟨C,0,none⟩=some (.slice A l.length c)) (hv:Kd.C Kd.string W A l.length l) (hlc:l.length≤c)
    (h2:typ.size≤9223372036854775807) (h3:2≤l.length) (h4:l.length≤1000000000) (h5:(iL (fJ typ.data.toList v.data.toList)).1.size < 4294967281) :
    Calls Tryz.prog 62 (#[.string v]++#[.pointer (some ⟨B,0,none⟩),.pointer (some ⟨C,0,none⟩)]) W fun e w'=>e=.returned (.bool (Ar typ l v))∧Below W.heap.size W w':=by
  have hu:=Tryz.underlying25
  have HG:=ae.mk hG
  have H2:=ae.mk h2
  have HV:=ae.mk hv
  have HC:=ae.mk hlc
  obtain ⟨k,hk⟩:=Ev.rounds (wV (iL (fJ typ.data.toList v.data.toList)).1 l h3 h4 h5)
  have HK:=ae.mk hk
  have HS:=ae.mk (show Ar typ l v=((iL (fJ typ.data.toList v.data.toList)).2 && mI (iL (fJ typ.data.toList v.data.toList)).1 l) from rfl)
  obtain ⟨q,hq⟩:∃ q,iL (fJ typ.data.toList v.data.toList)=q:=⟨_,rfl⟩
  rw [hq] at HK HS
  have HQ:=ae.mk hq
  clear hG h2 hv hlc hk hq h3 h4 h5
  obtain ⟨q1,q2⟩:=q
  show Calls Tryz.prog 62 #[.string v,.pointer (some ⟨B,0,none⟩),.pointer (some ⟨C,0,none⟩)] W _
  cases q2
  · go_enter Tryz.func62,Tryz.ntmps62
    go_wp2_with (go_at_call 39;refine (oU typ v _ HG.out H2.out).mono ?_;rintro e w1 ⟨rfl,hb⟩;rw [HQ.out];have HB:=ae.mk hb;clear hb)
    go_ret
    exact ⟨congrArg (fun b=>Ending.returned (.bool b)) (by rw [HS.out];rfl),HB.out⟩
  · go_enter Tryz.func62,Tryz.ntmps62
    go_wp2_with (first|(go_at_call 39;refine (oU typ v _ HG.out H2.out).mono ?_;rintro e w1 ⟨rfl,hb⟩;rw [HQ.out];have HB:=ae.mk hb;have hd1:=bM (W0:=W) hd hb;clear hb hc hd)|(go_at_call 63;refine (dh.calls k q1 A c l (mI q1 l) _ (Kd.df HV.out HB.out) HC.out (HG.out.below HB.out) HK.out).mono ?_;rintro e w2 ⟨rfl,⟨nq,rfl⟩⟩))
    go_ret
    exact ⟨congrArg (fun b=>Ending.returned (.bool b)) (by rw [HS.out];rfl),aa HB.out nq⟩
structure iq (w W:World) (P:Nat) (o1 o2:Array Value) (v:Value) (xs:List ByteArray):Prop where
  b1:W.heap[w.heap.size]?=some (.cells o1 25 (0,0))
  b2:W.heap[w.heap.size+1]?=some (.cells o2 28 (0,0))
  bp:W.heap[P]?=some (.cells #[v] 22 (0,0))
  row:Kd.R Kd.string 9 W w.heap.size (fun _=>True) v xs
  bl:Below w.heap.size w W
section
variable {w W W':World} {P:Nat} {o1 o2:Array Value} {v:Value} {xs:List ByteArray}
theorem iq.below (h:iq w W P o1 o2 v xs) (hb:Below W.heap.size W W'):iq w W' P o1 o2 v xs :=
  ⟨aH h.b1 hb,aH h.b2 hb,aH h.bp hb,Kd.aW h.row hb,az h.bl hb⟩
theorem iq.drew (h:iq w W P o1 o2 v xs):iq w W.drew P o1 o2 v xs:=h.below (ag (Below.refl _ _))
theorem iq.cellP (h:iq w W P o1 o2 v xs):W.cell? ⟨P,0,none⟩=some v:=(au h.bp 0).trans rfl
theorem iq.put {W1:World} {v1:Value} {p:ByteArray} (h:iq w W P o1 o2 v xs) (hr:Kd.R Kd.string 9 W1 w.heap.size (fun _=>True) v1 (xs++[p])) (hb:Below w.heap.size w W1) (hg:W.grownBy W1 v.ownBlock) (hP:w.heap.size+1 < P):iq w (W1.setCell ⟨P,0,none⟩ v1) P o1 o2 v1 (xs++[p]):=by
  have g1:=dK h.b1 hg (Kd.oC h.row h.b1 (by decide))
  have g2:=dK h.b2 hg (Kd.oC h.row h.b2 (by decide))
  have g3:=dK h.bp hg (Kd.oC h.row h.bp (by decide))
  refine ⟨fo g1 (by show w.heap.size≠P;omega) _,fo g2 (by show w.heap.size+1≠P;omega) _,bW g3 0 v1 rfl,Kd.AC hr g3 (by decide) 0 v1,ah hb (by omega)⟩
end
theorem xQ {w:World} {P:Nat} {o1 o2:Array Value} {v:Value} {xs:List ByteArray} (s:ByteArray) (W:World) (hs:s.size≤9223372036854775807) (h:iq w W P o1 o2 v xs) :
    Calls Tryz.prog 60 #[.string s] W fun e w'=>e=.returned (.string (gM s))∧w'.cell? ⟨P,0,none⟩=some v∧iq w w' P o1 o2 v xs:=by
  refine (rF.any s W hs).mono ?_
  rintro e w' ⟨rfl,hb⟩
  exact ⟨rfl,(h.below hb).cellP,h.below hb⟩
def pu (typ:ByteArray) (l vs:List ByteArray) (i:Nat):Bool:=Ar typ l (bH ByteArray.empty vs (i:Int))
def qY (typ:ByteArray) (l vs:List ByteArray):Prop :=
  2≤l.length∧l.length≤1000000000∧(∀ i:Nat,i < l.length→(bH ByteArray.empty l (i:Int)).size≤9223372036854775807)∧vs.length≤1000000000∧∀ i:Nat,i < vs.length→(iL (fJ typ.data.toList (bH ByteArray.empty vs (i:Int)).data.toList)).1.size < 4294967281
instance qY.dec (typ:ByteArray) (l vs:List ByteArray):Decidable (qY typ l vs):=by unfold qY;infer_instance
def iN.f (a0_0:Int) (a0_1 a0_2:ByteArray) (l0_3:List ByteArray) (l0_4:List S25) (a1_0:ByteArray) (l1_1:List S45):Option Int :=
  if a0_1.size≤9223372036854775807 then (if dY a0_1.data.toList≠1 then some 2 else
    (dS.f a1_0 l1_1 a0_1).bind fun vs=>if qY a0_1 l0_3 vs then some (if gN (pu a0_1 (l0_3.map gM) vs) vs.length=true then 1 else 0) else none) else none
set_option maxHeartbeats 4000000 in
set_option maxRecDepth 100000 in
theorem iN.calls (a0_0:Int) (a0_1:ByteArray) (a0_2:ByteArray) (A0_3:Option Addr) (c0_3:Nat) (l0_3:List ByteArray) (A0_4:Option Addr) (c0_4:Nat) (l0_4:List S25) (a1_0:ByteArray) (A1_1:Option Addr) (c1_1:Nat) (l1_1:List S45) (r:Int) (w:World) (hr0_3:Kd.C Kd.string w A0_3 l0_3.length l0_3) (hc0_3:l0_3.length≤c0_3) (hr0_4:Kd.C k25 w A0_4 l0_4.length l0_4) (hc0_4:l0_4.length≤c0_4) (hr1_1:Kd.C k45 w A1_1 l1_1.length l1_1) (hc1_1:l1_1.length≤c1_1) (hG:Gl w) (h:iN.f a0_0 a0_1 a0_2 l0_3 l0_4 a1_0 l1_1=some r) :
    Calls Tryz.prog 38 #[.agg #[.int .i64 a0_0,.string a0_1,.string a0_2,.slice A0_3 l0_3.length c0_3,.slice A0_4 l0_4.length c0_4],.agg #[.string a1_0,.slice A1_1 l1_1.length c1_1]] w fun e w'=>e=.returned (.int .i64 r)∧Below w.heap.size w w':=by
  unfold iN.f at h
  by_cases hs:a0_1.size≤9223372036854775807
  · rw [if_pos hs] at h
    have hu1:=Tryz.underlying25
    have hu2:=Tryz.underlying28
    have eg:∀ args w,(callFunc 62 args).run Tryz.prog w=.ok (.enter 62 args) w:=enters_of Tryz.func62 (by kernel_rfl) rfl
    obtain ⟨rl,hrl⟩:∃ x,dY a0_1.data.toList=x:=⟨_,rfl⟩
    rw [hrl] at h
    have HS:=ae.mk hs
    have HR:=ae.mk hr1_1
    have HC:=ae.mk hc1_1
    have HP3:=ae.mk hr0_3
    have HG:=ae.mk hG
    have HRL:=ae.mk hrl
    have HH:=ae.mk h
    clear hr0_3 hc0_3 hr0_4 hc0_4 hr1_1 hc1_1 hG hs hrl h
    obtain ⟨o1,ho1⟩:∃ o:Array Value,#[.int .i64 a0_0,.string a0_1,.string a0_2,.slice A0_3 l0_3.length c0_3,.slice A0_4 l0_4.length c0_4]=o:=⟨_,rfl⟩
    obtain ⟨o2,ho2⟩:∃ o:Array Value,#[.string a1_0,.slice A1_1 l1_1.length c1_1]=o:=⟨_,rfl⟩
    have HO1:=ae.mk ho1
    have HO2:=ae.mk ho2
    clear ho1 ho2
    go_enter Tryz.func38,Tryz.ntmps38
    go_upto_region 1 with (fail)
    obtain ⟨w0,hw0⟩:∃ w0,(w.alloc (.cells #[.int .i64 a0_0,.string a0_1,.string a0_2,.slice A0_3 l0_3.length c0_3,.slice A0_4 l0_4.length c0_4] 25)).alloc (.cells #[.string a1_0,.slice A1_1 l1_1.length c1_1] 28)=w0:=⟨_,rfl⟩
    have k1:w0.cell? ⟨w.heap.size,1,none⟩=some (.string a0_1):=by rw [← hw0];simp [go_sem]
    have B1:=ae.mk (show w0.heap[w.heap.size]?=some (.cells o1 25 (0,0)) by rw [← hw0,← HO1.out];exact ai (oL _ _) _)
    have B2:=ae.mk (show w0.heap[w.heap.size+1]?=some (.cells o2 28 (0,0)) by rw [← hw0,← HO2.out];exact (by have:=oL (w.alloc (.cells #[.int .i64 a0_0,.string a0_1,.string a0_2,.slice A0_3 l0_3.length c0_3,.slice A0_4 l0_4.length c0_4] 25)) (.cells #[.string a1_0,.slice A1_1 l1_1.length c1_1] 28);simpa using this))
    have kB:Below w.heap.size w w0:=by rw [← hw0];exact af (af (Below.refl _ _) _) _
    have klt:w.heap.size+1 < w0.heap.size:=by rw [← hw0];simp
    rw [hw0]
    clear hw0
    have KB:=ae.mk kB
    have KL:=ae.mk klt
    clear kB klt
    by_cases h1:rl=1
    · subst h1
      obtain ⟨vs,hv,h⟩:=Option.bind_eq_some_iff.1 (show (dS.f a1_0 l1_1 a0_1).bind _=some r by have:=HH.out;rw [if_neg (fun hne=>hne rfl)] at this;exact this)
      by_cases hok:qY a0_1 l0_3 vs
      · rw [if_pos hok] at h
        have hrr:=Option.some.inj h
        have HV:=ae.mk hv
        have HK:=ae.mk hok
        have HRR:=ae.mk hrr
        clear HH hv h hok hrr
        go_upto_region 3 with (go_at_call 59;refine (pK a0_1 _ HS.out).mono ?_;rintro e w1 ⟨rfl,hb⟩;rw [HRL.out];have KB1:=ae.mk (az KB.out hb);have KL1:=ae.mk (Nat.lt_of_lt_of_le KL.out (aC hb));have B11:=ae.mk (aH B1.out hb);have B21:=ae.mk (aH B2.out hb);clear hb B1 B2 KB KL k1)
        go_upto_region 4 with (fail)
        obtain ⟨w2,hw2⟩:∃ w2,w1.alloc (.cells #[.slice none 0 0] 22)=w2:=⟨_,rfl⟩
        have I2:=ae.mk (show iq w w2 w1.heap.size o1 o2 (.slice none 0 0) [] by
          rw [← hw2]
          exact ⟨ai B11.out _,ai B21.out _,oL _ _,Kd.lw _ _ _ _ _,af KB1.out _⟩)
        rw [hw2]
        clear hw2
        obtain ⟨P,hP⟩:∃ P,w1.heap.size=P:=⟨_,rfl⟩
        rw [hP] at I2 KL1
        rw [hP]
        clear hP B11 B21 KB1
        have k3:w2.cell? ⟨w.heap.size,3,none⟩=some (.slice A0_3 l0_3.length c0_3):=(au I2.out.b1 3).trans (by rw [← HO1.out];rfl)
        go_wp2_with (fail)
        clear k3
        go_loopg [7,15] l0_3.length (fun gg s7 s15 wr=>∃ (kk:Nat) (v:Value),kk≤l0_3.length∧l0_3.length - kk≤gg∧s15=.int .i64 kk∧ae (iq w wr P o1 o2 v ((l0_3.take kk).map gM)))
        case atStart=>exact ⟨0,.slice none 0 0,Nat.zero_le _,by omega,rfl,I2⟩
        case round =>
          obtain ⟨kk,v,hkk,hg,rfl,IV⟩:=hrel
          clear I2
          by_cases hlt:kk < l0_3.length
          · have hltz:(kk:Int) < (l0_3.length:Int):=by omega
            obtain ⟨ad,ea,x0⟩:=Kd.eO (Kd.df HP3.out IV.out.bl) (kk:Int) (by omega) (by omega)
            subst ea
            rw [Int.toNat_natCast] at x0
            have hsz:=HK.out.2.2.1 kk hlt
            obtain ⟨xs,hxs⟩:∃ xs,(l0_3.take kk).map gM=xs:=⟨_,rfl⟩
            rw [hxs] at IV
            have HXS:=ae.mk hxs
            clear hxs
            obtain ⟨p,hp⟩:∃ p,bH ByteArray.empty l0_3 (kk:Int)=p:=⟨_,rfl⟩
            rw [hp] at x0 hsz
            have HPP:=ae.mk hp
            clear hp
            go_upto_region 7 with (fail)
            have iv:=IV.out
            have kP:=iv.cellP
            clear IV
            have hPlt:=KL1.out
            have hn1:(xs.length+1) * 16≤140737488355328:=by
              have:=HK.out.2.1
              rw [← HXS.out,List.length_map,List.length_take]
              omega
            go_region_law (first|(refine Kd.lY Kd.string (w0:=w) w.heap.size (by rfl) (.tmp 19) (.tmp 22) 22 9 (.string ⟨#[]⟩) 16 (by rfl) Tryz.underlying22 yF rfl (by decide) (by omega) v xs (gM p) [.string (gM p)] (fun _=>True) (fun _=>False) (by rfl) (by rfl) (by rfl) (fun _ hk=>hk.elim) (fun _ _=>trivial) q2.row q2.bl (aC q2.bl) hn1 ?_;intro v1 w4 r1 b1 g1 t1;obtain ⟨A4,c4,e4⟩:=Kd.bY r1;subst e4;have kP4:w4.cell? ⟨P,0,none⟩=some v:=(au (dK q2.bp g1 (Kd.oC q2.row q2.bp (by decide))) 0).trans rfl;have fP4:w4.frozen? ⟨P,0,none⟩=false:=av (dK q2.bp g1 (Kd.oC q2.row q2.bp (by decide))) 0)|(go_simp;go_at_call 60;refine (xQ _ _ hsz (by first|assumption|exact iq.drew (by assumption))).mono ?_;rintro e w' ⟨rfl,q1,q2⟩;have kQ:(w'.alloc (.cells #[.string (gM p)] 9)).cell? ⟨P,0,none⟩=some v:=(au (ai q2.bp _) 0).trans rfl))
            all_goals
              have inv:=q2.put r1 b1 g1 hPlt
              rw [show (xs++[gM p]).length=xs.length+1 by simp] at inv
              have INV:=ae.mk inv
              clear inv iv kP q1 q2 r1 b1 g1 t1 kP4 fP4 kQ x0
              generalize hW5:w4.setCell ⟨P,0,none⟩ (.slice A4 (xs.length+1) c4)=w5 at INV ⊢
              clear hW5
              go_wp2
              go_roundg (l0_3.length - (kk+1))
              case measure=>omega
              case rel =>
                have hbd:=HK.out.2.1
                refine ⟨kk+1,.slice A4 (xs.length+1) c4,by omega,by omega,congrArg (Value.int IntKind.i64) (by unfold wrap64;omega),⟨?_⟩⟩
                have e:(l0_3.take (kk+1)).map gM=xs++[gM p]:=by
                  rw [← HXS.out,← HPP.out,List.take_add_one,List.map_append]
                  congr 1
                  unfold bH
                  rw [Int.toNat_natCast,List.getD_eq_getElem?_getD,List.getElem?_eq_getElem hlt]
                  rfl
                rw [e]
                exact INV.out
          · have hltz:¬ (kk:Int) < (l0_3.length:Int):=by omega
            have hkn:kk=l0_3.length:=by omega
            subst hkn
            rw [List.take_length] at IV
            clear hlt hkk hg
            obtain ⟨A5,c5,e5⟩:=Kd.bY IV.out.row
            subst e5
            obtain ⟨ls,hls⟩:∃ ls,l0_3.map gM=ls:=⟨_,rfl⟩
            rw [hls] at IV
            have HRR2:=ae.mk (show (if gN (pu a0_1 ls vs) vs.length=true then (1:Int) else 0)=r by rw [← hls];exact HRR.out)
            have hn3:2≤ls.length:=by rw [← hls,List.length_map];exact HK.out.1
            have hn4:ls.length≤1000000000:=by rw [← hls,List.length_map];exact HK.out.2.1
            have hlen:l0_3.length=ls.length:=by rw [← hls,List.length_map]
            have HLN:=ae.mk hlen
            clear hls hlen
            have ct:∀ (W:World) (A:Option Addr) (c:Nat),iq w W P o1 o2 (.slice A5 ls.length c5) ls→Kd.string.C W A vs.length vs →
                Calls Tryz.prog 61 #[.slice A vs.length c,.func (.func 62) #[] #[.pointer (some ⟨w.heap.size,0,none⟩),.pointer (some ⟨P,0,none⟩)]] W fun e w'=>e=.returned (.bool (gN (pu a0_1 ls vs) vs.length))∧Below W.heap.size W w':=by
              intro W A c hi hvc
              refine jq A c vs 62 _ (pu a0_1 ls vs) W eg hvc (fun i hi2 W' hb'=>?_)
              have iv:=hi.below hb'
              have hrd:=Kd.aY iv.row
              refine (yL w.heap.size P _ a0_1 ls A5 c5 W' (HG.out.below iv.bl) ((au iv.b1 1).trans (by rw [← HO1.out];rfl)) iv.cellP hrd.2.2 hrd.2.1 HS.out hn3 hn4 (HK.out.2.2.2.2 i hi2)).mono ?_
              rintro e w' ⟨rfl,hb2⟩
              exact ⟨rfl,az hb' hb2⟩
            obtain ⟨b,hb0⟩:∃ b,gN (pu a0_1 ls vs) vs.length=b:=⟨_,rfl⟩
            rw [hb0] at HRR2
            have CT:=ae.mk ct
            rw [hb0] at CT
            have HT:=ae.mk (lh b)
            have hrr:=HRR2.out
            subst hrr
            have j1:wr.cell? ⟨w.heap.size,1,none⟩=some (.string a0_1):=(au IV.out.b1 1).trans (by rw [← HO1.out];rfl)
            have jD:wr.cell? ⟨w.heap.size+1,0,none⟩=some (.string a1_0):=(au IV.out.b2 0).trans (by rw [← HO2.out];rfl)
            have jE:wr.cell? ⟨w.heap.size+1,1,none⟩=some (.slice A1_1 l1_1.length c1_1):=(au IV.out.b2 1).trans (by rw [← HO2.out];rfl)
            clear ct eg hb0 hn3 hn4 HRR HRR2
            go_wp2_with (first|(go_at_call 37;refine (dS.calls a1_0 A1_1 c1_1 l1_1 a0_1 vs _ (Kd.df HR.out IV.out.bl) HC.out HV.out).mono ?_;rintro e w2 ⟨v,rfl,ho,hb⟩;obtain ⟨Ao,co,eo⟩:=Kd.bY ho;subst eo;have IV2:=ae.mk (IV.out.below hb);have HO:=ae.mk ho;clear hb ho j1 jD jE)|(go_at_call 61;refine (CT.out _ _ _ IV2.out (Kd.aY HO.out).2.2).mono ?_;rintro e w3 ⟨rfl,hb⟩;have KB3:=ae.mk (az IV2.out.bl hb);clear hb)|(go_at_call 36;refine (dI.calls _ _ _ HT.out).mono ?_;rintro e w4 ⟨rfl,⟨nq,rfl⟩⟩))
            all_goals (go_ret;exact ⟨by first|rfl|(simp [*];done),aa KB3.out _⟩)
      · rw [if_neg hok] at h
        cases h
    · have hr2:(2:Int)=r:=by
        have:=HH.out
        rw [if_pos h1] at this
        exact Option.some.inj this
      subst hr2
      have e1:(rl == 1)=false:=beq_eq_false_iff_ne.2 h1
      clear HH h1
      go_wp2_with (go_at_call 59;refine (pK a0_1 _ HS.out).mono ?_;rintro e w1 ⟨rfl,hb⟩;rw [HRL.out];have KB1:=ae.mk (az KB.out hb);clear hb)
      go_ret
      exact ⟨rfl,KB1.out⟩
  · rw [if_neg hs] at h
    cases h
end Go.Proofs.YthfpaoacjpjnfaaGreatDoor.P
