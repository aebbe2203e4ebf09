/- Part 4 of 8 of the proof. See the last part. -/
import Derived.Test.YthfpaoacjpjnfaaGreatDoorMETypes3
import Derived.Lib.AtoiTie
import Derived.Test.YthfpaoacjpjnfaaGreatDoorMETypes2
import Derived.Lib.ItoaNum
import Derived.BigQuiet
import Derived.Deep.QuietTactic
import Derived.Deep.RegionHeld3
import Derived.Deep.CutRange
set_option linter.unusedVariables false
set_option linter.unusedSimpArgs false

namespace Go.Proofs.YthfpaoacjpjnfaaGreatDoor.P
open Go.Proofs.YthfpaoacjpjnfaaGreatDoorW.PrintWords
theorem tO (n:Nat) (h:10≤n):Lib.decDigits n=Lib.decDigits (n / 10)++[UInt8.ofNat (48+n % 10)]:=by rw [Lib.decDigits,dif_neg (by omega)]
theorem mH (n:Nat) (h:n < 10):Lib.decDigits n=[UInt8.ofNat (48+n)]:=by rw [Lib.decDigits,dif_pos h]
theorem pV (d:Nat) (h:d < 10):(UInt8.ofNat (48+d)).toNat=48+d:=by rw [UInt8.toNat_ofNat'];omega
theorem sI (n:Nat):∀ c ∈ Lib.decDigits n,48≤c.toNat∧c.toNat≤57:=by
  induction n using Nat.strongRecOn with
  | _ n ih =>
    intro c hc
    by_cases h:n < 10
    · rw [mH n h] at hc
      obtain rfl:=List.mem_singleton.1 hc
      rw [pV n h];omega
    · rw [tO n (by omega)] at hc
      rcases List.mem_append.1 hc with hc|hc
      · exact ih (n / 10) (by omega) c hc
      · obtain rfl:=List.mem_singleton.1 hc
        rw [pV _ (by omega)];omega
theorem Bn (n:Nat):Lib.decDigits n≠[]:=by
  by_cases h:n < 10
  · rw [mH n h];simp
  · rw [tO n (by omega)];simp
theorem Al (n k:Nat) (h:n < 10 ^ (k+1)):(Lib.decDigits n).length≤k+1:=by
  induction k generalizing n with
  | zero=>rw [mH n (by omega)];simp
  | succ k ih =>
    by_cases h1:n < 10
    · rw [mH n h1];simp
    · rw [tO n (by omega),List.length_append]
      have:=ih (n / 10) (by rw [Nat.pow_succ] at h;omega)
      simp;omega
theorem oI (m:Int):(m < 0∧Lib.itoa m=45 :: Lib.decDigits m.natAbs)∨(0≤m∧Lib.itoa m=Lib.decDigits m.natAbs):=by
  unfold Lib.itoa
  by_cases h:m < 0
  · exact .inl ⟨h,by rw [if_pos h]⟩
  · exact .inr ⟨by omega,by rw [if_neg h,show m.toNat=m.natAbs by omega]⟩
theorem yn (m:Int) (h0:-1000000000000000 < m) (h1:m < 1000000000000000):(Lib.itoa m).length≤16∧Lib.itoa m≠[]:=by
  have hl:=Al m.natAbs 14 (by omega)
  have hne:=Bn m.natAbs
  rcases oI m with ⟨_,e⟩|⟨_,e⟩ <;> rw [e]
  · exact ⟨by simp;omega,by simp⟩
  · exact ⟨by omega,hne⟩
theorem nJ {l:List UInt8} (h:fV l=true):∃ v,Lib.atoiAll l=.ok v∧l=Lib.itoa v∧(Lib.trimPrefix l [45]).length≤15:=by
  unfold fV at h
  cases hh:Lib.atoiAll l with
  | ok v =>
    rw [hh] at h
    simp only [Bool.and_eq_true,beq_iff_eq,decide_eq_true_eq] at h
    exact ⟨v,rfl,h.1.symm,h.2⟩
  | _=>rw [hh] at h;cases h
theorem uo (v:Int):∀ c ∈ Lib.itoa v,c=45∨(48≤c.toNat∧c.toNat≤57):=by
  intro c hc
  rcases oI v with ⟨_,e⟩|⟨_,e⟩ <;> rw [e] at hc
  · rcases List.mem_cons.1 hc with rfl|hc
    · exact .inl rfl
    · exact .inr (sI _ c hc)
  · exact .inr (sI _ c hc)
end Go.Proofs.YthfpaoacjpjnfaaGreatDoor.P

namespace Go.Proofs.YthfpaoacjpjnfaaGreatDoor.P
open Go.RowKit Go.Proofs.YthfpaoacjpjnfaaGreatDoorW.PrintWords Go.Proofs.YthfpaoacjpjnfaaGreatDoorW.PrintLast Go.Proofs.YthfpaoacjpjnfaaGreatDoorW.PrintMore
attribute [local go_sem] dP dS eP eO dE dD dQ dR
def dX.f (k:Nat) (a0:ByteArray) (a1:ByteArray) (a2:ByteArray):Option (ByteArray × ByteArray × Bool):=(bB.f k a0 a1).bind fun bt188=>((bB.f k a0 a2).bind fun bt190=>(if bt188.2=true then (some (bt188.1,bt190.1,bt190.2)) else (some (bt188.1,bt190.1,false))))
set_option maxHeartbeats 8000000 in
set_option maxRecDepth 100000 in
theorem dX.calls (k:Nat) (a0:ByteArray) (a1:ByteArray) (a2:ByteArray) (r1:ByteArray) (r2:ByteArray) (r3:Bool) (w:World) (hG:Gl w) (h:dX.f k a0 a1 a2=some (r1,r2,r3)) :
  Calls Tryz.prog 92 #[.string a0,.string a1,.string a2] w fun e w'=>e=.returned (.tuple #[.string r1,.string r2,.bool r3])∧Below w.heap.size w w':=by
 have HB:=aa.mk (Below.refl w.heap.size w)
 have HG:=aa.mk hG
 clear hG
 have H:((bB.f k a0 a1).bind fun bt188=>((bB.f k a0 a2).bind fun bt190=>(if bt188.2=true then (some (bt188.1,bt190.1,bt190.2)) else (some (bt188.1,bt190.1,false)))))=some (r1,r2,r3):=h
 clear h
 replace H:=Option.bind_eq_some_iff.mp H
 obtain ⟨⟨t188,t189⟩,A40,H⟩:=H
 replace H:((bB.f k a0 a2).bind fun bt190=>(if t189=true then (some (t188,bt190.1,bt190.2)) else (some (t188,bt190.1,false))))=some (r1,r2,r3):=H
 have A4:=aa.mk A40
 clear A40
 replace H:=Option.bind_eq_some_iff.mp H
 obtain ⟨⟨t190,t191⟩,A50,H⟩:=H
 replace H:(if t189=true then (some (t188,t190,t191)) else (some (t188,t190,false)))=some (r1,r2,r3):=H
 have A5:=aa.mk A50
 clear A50
 by_cases c6:t189=true
 ·subst c6
  have H1:(some (t188,t190,t191))=some (r1,r2,r3):=by rw [if_pos rfl] at H;exact H
  clear H
  have H:=H1
  clear H1
  simp only [Option.some.injEq,Prod.mk.injEq] at H
  obtain ⟨rfl,rfl,rfl⟩:=H
  go_enter Tryz.func92,Tryz.ntmps92
  go_wp2_with (first|((with_reducible refine aH (f:=39) rfl ?_);refine bq (some 13) rfl rfl Tryz.func39 (by kernel_rfl) rfl #[.string a0,.string a1] rfl (by (try simp only [List.map_toArray,List.map_cons,List.map_nil]);first|done|rfl|(simp only [List.length_drop,List.length_take];rfl)) ?_;(with_reducible refine (bB.calls k a0 a1 t188 true _ ?side1 A4.out).mono ?_);(case side1=>first|exact HG.out|exact Gl.drewN HG.out _|exact Gl.below HG.out (by repeat (first|(with_reducible first|exact HB.out|apply af|apply ae|apply ag)|exact HB.out)));rintro e w7 ⟨rfl,hb⟩;refine ⟨_,rfl,?_⟩;have n0_:=aa.mk (aA (by repeat (first|(with_reducible first|exact HB.out|apply af|apply ae|apply ag)|exact HB.out)) hb);clear HB;have HB:=n0_;clear n0_;(try clear hb);(try clear hb2);(try clear hk);(try clear hi))|((with_reducible refine aH (f:=39) rfl ?_);refine bq (some 19) rfl rfl Tryz.func39 (by kernel_rfl) rfl #[.string a0,.string a2] rfl (by (try simp only [List.map_toArray,List.map_cons,List.map_nil]);first|done|rfl|(simp only [List.length_drop,List.length_take];rfl)) ?_;(with_reducible refine (bB.calls k a0 a2 t190 t191 _ ?side1 A5.out).mono ?_);(case side1=>first|exact HG.out|exact Gl.drewN HG.out _|exact Gl.below HG.out (by repeat (first|(with_reducible first|exact HB.out|apply af|apply ae|apply ag)|exact HB.out)));rintro e w8 ⟨rfl,hb⟩;refine ⟨_,rfl,?_⟩;have n0_:=aa.mk (aA (by repeat (first|(with_reducible first|exact HB.out|apply af|apply ae|apply ag)|exact HB.out)) hb);clear HB;have HB:=n0_;clear n0_;(try clear hb);(try clear hb2);(try clear hk);(try clear hi)))
  go_ret3
  exact ⟨by first|rfl|(simp [aD,aG] <;> rfl)|(simp [*,aD,aG] <;> rfl),by repeat (first|(with_reducible first|exact HB.out|apply af|apply ae|apply ag)|exact HB.out)⟩
 ·replace c6:=Bool.eq_false_iff.mpr c6
  subst c6
  have H1:(some (t188,t190,false))=some (r1,r2,r3):=by rw [if_neg (show ¬ (false=true) by decide)] at H;exact H
  clear H
  have H:=H1
  clear H1
  simp only [Option.some.injEq,Prod.mk.injEq] at H
  obtain ⟨rfl,rfl,rfl⟩:=H
  go_enter Tryz.func92,Tryz.ntmps92
  go_wp2_with (first|((with_reducible refine aH (f:=39) rfl ?_);refine bq (some 13) rfl rfl Tryz.func39 (by kernel_rfl) rfl #[.string a0,.string a1] rfl (by (try simp only [List.map_toArray,List.map_cons,List.map_nil]);first|done|rfl|(simp only [List.length_drop,List.length_take];rfl)) ?_;(with_reducible refine (bB.calls k a0 a1 t188 false _ ?side1 A4.out).mono ?_);(case side1=>first|exact HG.out|exact Gl.drewN HG.out _|exact Gl.below HG.out (by repeat (first|(with_reducible first|exact HB.out|apply af|apply ae|apply ag)|exact HB.out)));rintro e w9 ⟨rfl,hb⟩;refine ⟨_,rfl,?_⟩;have n0_:=aa.mk (aA (by repeat (first|(with_reducible first|exact HB.out|apply af|apply ae|apply ag)|exact HB.out)) hb);clear HB;have HB:=n0_;clear n0_;(try clear hb);(try clear hb2);(try clear hk);(try clear hi))|((with_reducible refine aH (f:=39) rfl ?_);refine bq (some 19) rfl rfl Tryz.func39 (by kernel_rfl) rfl #[.string a0,.string a2] rfl (by (try simp only [List.map_toArray,List.map_cons,List.map_nil]);first|done|rfl|(simp only [List.length_drop,List.length_take];rfl)) ?_;(with_reducible refine (bB.calls k a0 a2 t190 t191 _ ?side1 A5.out).mono ?_);(case side1=>first|exact HG.out|exact Gl.drewN HG.out _|exact Gl.below HG.out (by repeat (first|(with_reducible first|exact HB.out|apply af|apply ae|apply ag)|exact HB.out)));rintro e w10 ⟨rfl,hb⟩;refine ⟨_,rfl,?_⟩;have n0_:=aa.mk (aA (by repeat (first|(with_reducible first|exact HB.out|apply af|apply ae|apply ag)|exact HB.out)) hb);clear HB;have HB:=n0_;clear n0_;(try clear hb);(try clear hb2);(try clear hk);(try clear hi)))
  go_ret3
  exact ⟨by first|rfl|(simp [aD,aG] <;> rfl)|(simp [*,aD,aG] <;> rfl),by repeat (first|(with_reducible first|exact HB.out|apply af|apply ae|apply ag)|exact HB.out)⟩
end Go.Proofs.YthfpaoacjpjnfaaGreatDoor.P

namespace Go.Proofs.YthfpaoacjpjnfaaGreatDoor.P
open Go.RowKit Go.Proofs.YthfpaoacjpjnfaaGreatDoorW.PrintWords Go.Proofs.YthfpaoacjpjnfaaGreatDoorW.PrintLast Go.Proofs.YthfpaoacjpjnfaaGreatDoorW.PrintMore
def rQ (x y:List UInt8):Option (Bool × Bool) :=
  match Lib.atoiAll x,Lib.atoiAll y with
  | .ok n,.ok m=>some (decide (n < m),true)
  | _,_=>none
def pE (r:Int) (x y:ByteArray):Option (Bool × Bool) :=
  if r=1 then some (Op.bytesLess x.toList y.toList,true) else if r=2 then (if x.size≤281474976710656∧y.size≤281474976710656 then rQ x.data.toList y.data.toList else none) else some (false,false)
def gZ.f (k:Nat) (a0 a1 a2:ByteArray):Option (Bool × Bool) :=
  (dX.f k a0 a1 a2).bind fun b=>if b.2.2=true then (cB.f a0).bind fun r=>pE r b.1 b.2.1 else some (false,false)
set_option maxHeartbeats 8000000 in
theorem gZ.calls (k:Nat) (a0 a1 a2:ByteArray) (r1 r2:Bool) (w:World) (hG:Gl w) (h:gZ.f k a0 a1 a2=some (r1,r2)) :
    Calls Tryz.prog 69 #[.string a0,.string a1,.string a2] w fun e w'=>e=.returned (.tuple #[.bool r1,.bool r2])∧Below w.heap.size w w':=by
  unfold gZ.f at h
  obtain ⟨⟨x,y,ok⟩,hn,h⟩:=Option.bind_eq_some_iff.1 h
  have HN:=Lib.hid hn
  have HG:=Lib.hid hG
  clear hn hG
  simp only at h
  cases ok with
  | false =>
    rw [if_neg (by simp)] at h
    obtain ⟨rfl,rfl⟩:=Prod.mk.inj (Option.some.inj h)
    clear h
    go_enter Tryz.func69,Tryz.ntmps69
    go_wp2_with (go_at_call 92;refine (dX.calls k a0 a1 a2 x y false _ HG.out HN.out).mono ?_;rintro e w1 ⟨rfl,hb1⟩;have HB1:=Lib.hid hb1;clear hb1)
    go_ret2
    exact ⟨rfl,HB1.out⟩
  | true =>
    rw [if_pos rfl] at h
    obtain ⟨r,hr,h⟩:=Option.bind_eq_some_iff.1 h
    have HR:=Lib.hid hr
    clear hr
    unfold pE at h
    by_cases e1:r=1
    · rw [if_pos e1] at h
      obtain ⟨rfl,rfl⟩:=Prod.mk.inj (Option.some.inj h)
      clear h
      have b1:(r == 1)=true:=beq_iff_eq.2 e1
      clear e1
      go_enter Tryz.func69,Tryz.ntmps69
      go_wp2_with (first
        | (go_at_call 92;refine (dX.calls k a0 a1 a2 x y true _ HG.out HN.out).mono ?_;rintro e w1 ⟨rfl,hb1⟩;have HB1:=Lib.hid hb1;clear hb1)
        | (go_at_call 59;refine (cB.calls a0 r _ HR.out).mono ?_;rintro e w2 ⟨rfl,hb2⟩;have HB2:=Lib.hid hb2;clear hb2))
      go_ret2
      exact ⟨rfl,HB1.out.trans (HB2.out.mono HB1.out.size)⟩
    · have b1:(r == 1)=false:=beq_eq_false_iff_ne.2 e1
      rw [if_neg e1] at h
      by_cases e2:r=2
      · rw [if_pos e2] at h
        by_cases hz:x.size≤281474976710656∧y.size≤281474976710656
        · rw [if_pos hz] at h
          unfold rQ at h
          have nx:∃ n,Lib.atoiAll x.data.toList=.ok n:=by
            cases hx:Lib.atoiAll x.data.toList with
            | ok n=>exact ⟨n,rfl⟩
            | _=>rw [hx] at h;exact absurd h (by simp)
          obtain ⟨n,hx⟩:=nx
          have ny:∃ m,Lib.atoiAll y.data.toList=.ok m:=by
            cases hy:Lib.atoiAll y.data.toList with
            | ok m=>exact ⟨m,rfl⟩
            | _=>rw [hx,hy] at h;exact absurd h (by simp)
          obtain ⟨m,hy⟩:=ny
          · ·
              rw [hx,hy] at h
              obtain ⟨rfl,rfl⟩:=Prod.mk.inj (Option.some.inj h)
              have HX:=Lib.hid hx
              have HY:=Lib.hid hy
              have HZ:=Lib.hid hz
              have b2:(r == 2)=true:=beq_iff_eq.2 e2
              clear h hx hy hz e1 e2
              go_enter Tryz.func69,Tryz.ntmps69
              go_wp2_with (first
                | (go_at_call 92;refine (dX.calls k a0 a1 a2 x y true _ HG.out HN.out).mono ?_;rintro e w1 ⟨rfl,hb1⟩;have HB1:=Lib.hid hb1;clear hb1)
                | (go_at_call 59;refine (cB.calls a0 r _ HR.out).mono ?_;rintro e w2 ⟨rfl,hb2⟩;have HB2:=Lib.hid hb2;clear hb2)
                | fail)
              refine (uZ x n HZ.out.1 HX.out _).mono ?_
              rintro e w3 ⟨rfl,hb3⟩
              have HB3:=Lib.hid hb3
              clear hb3
              go_wp2_with fail
              refine (uZ y m HZ.out.2 HY.out _).mono ?_
              rintro e w4 ⟨rfl,hb4⟩
              have HB4:=Lib.hid hb4
              clear hb4
              go_wp2_with fail
              go_ret2
              have c1:=HB1.out.trans (HB2.out.mono HB1.out.size)
              have c2:=c1.trans (HB3.out.mono c1.size)
              exact ⟨rfl,c2.trans (HB4.out.mono c2.size)⟩
        · rw [if_neg hz] at h
          cases h
      · rw [if_neg e2] at h
        obtain ⟨rfl,rfl⟩:=Prod.mk.inj (Option.some.inj h)
        have b2:(r == 2)=false:=beq_eq_false_iff_ne.2 e2
        clear h e1 e2
        go_enter Tryz.func69,Tryz.ntmps69
        go_wp2_with (first
          | (go_at_call 92;refine (dX.calls k a0 a1 a2 x y true _ HG.out HN.out).mono ?_;rintro e w1 ⟨rfl,hb1⟩;have HB1:=Lib.hid hb1;clear hb1)
          | (go_at_call 59;refine (cB.calls a0 r _ HR.out).mono ?_;rintro e w2 ⟨rfl,hb2⟩;have HB2:=Lib.hid hb2;clear hb2))
        go_ret2
        exact ⟨rfl,HB1.out.trans (HB2.out.mono HB1.out.size)⟩
end Go.Proofs.YthfpaoacjpjnfaaGreatDoor.P

namespace Go.Proofs.YthfpaoacjpjnfaaGreatDoor.P
open Go.RowKit Go.Proofs.YthfpaoacjpjnfaaGreatDoorW.PrintWords Go.Proofs.YthfpaoacjpjnfaaGreatDoorW.PrintLast Go.Proofs.YthfpaoacjpjnfaaGreatDoorW.PrintMore
attribute [local go_sem] dP dS eP eO dE dD dQ dR
def jw.f (k:Nat) (a0:ByteArray) (a1:ByteArray) (a2:ByteArray):Option (Bool):=(dX.f k a0 a1 a2).bind fun bt192=>(if bt192.2.2=true then (some (bt192.1.toList == bt192.2.1.toList)) else (some false))
set_option maxHeartbeats 8000000 in
set_option maxRecDepth 100000 in
theorem jw.calls (k:Nat) (a0:ByteArray) (a1:ByteArray) (a2:ByteArray) (r:Bool) (w:World) (hG:Gl w) (h:jw.f k a0 a1 a2=some r) :
  Calls Tryz.prog 68 #[.string a0,.string a1,.string a2] w fun e w'=>e=.returned (.bool r)∧Below w.heap.size w w':=by
 have HB:=aa.mk (Below.refl w.heap.size w)
 have HG:=aa.mk hG
 clear hG
 have H:((dX.f k a0 a1 a2).bind fun bt192=>(if bt192.2.2=true then (some (bt192.1.toList == bt192.2.1.toList)) else (some false)))=some r:=h
 clear h
 replace H:=Option.bind_eq_some_iff.mp H
 obtain ⟨⟨t192,t193,t194⟩,A40,H⟩:=H
 replace H:(if t194=true then (some (t192.toList == t193.toList)) else (some false))=some r:=H
 have A4:=aa.mk A40
 clear A40
 by_cases c5:t194=true
 ·subst c5
  have H1:(some (t192.toList == t193.toList))=some r:=by rw [if_pos rfl] at H;exact H
  clear H
  have H:=H1
  clear H1
  obtain rfl:=Option.some.inj H
  go_enter Tryz.func68,Tryz.ntmps68
  go_wp2_with (first|((with_reducible refine aH (f:=92) rfl ?_);refine bq (some 14) rfl rfl Tryz.func92 (by kernel_rfl) rfl #[.string a0,.string a1,.string a2] rfl (by (try simp only [List.map_toArray,List.map_cons,List.map_nil]);first|done|rfl|(simp only [List.length_drop,List.length_take];rfl)) ?_;(with_reducible refine (dX.calls k a0 a1 a2 t192 t193 true _ ?side1 A4.out).mono ?_);(case side1=>first|exact HG.out|exact Gl.drewN HG.out _|exact Gl.below HG.out (by repeat (first|(with_reducible first|exact HB.out|apply af|apply ae|apply ag)|exact HB.out)));rintro e w6 ⟨rfl,hb⟩;refine ⟨_,rfl,?_⟩;have n0_:=aa.mk (aA (by repeat (first|(with_reducible first|exact HB.out|apply af|apply ae|apply ag)|exact HB.out)) hb);clear HB;have HB:=n0_;clear n0_;(try clear hb);(try clear hb2);(try clear hk);(try clear hi)))
  go_ret
  exact ⟨by first|rfl|(simp [aD,aG] <;> rfl)|(simp [*,aD,aG] <;> rfl),by repeat (first|(with_reducible first|exact HB.out|apply af|apply ae|apply ag)|exact HB.out)⟩
 ·replace c5:=Bool.eq_false_iff.mpr c5
  subst c5
  have H1:(some false)=some r:=by rw [if_neg (show ¬ (false=true) by decide)] at H;exact H
  clear H
  have H:=H1
  clear H1
  obtain rfl:=Option.some.inj H
  go_enter Tryz.func68,Tryz.ntmps68
  go_wp2_with (first|((with_reducible refine aH (f:=92) rfl ?_);refine bq (some 14) rfl rfl Tryz.func92 (by kernel_rfl) rfl #[.string a0,.string a1,.string a2] rfl (by (try simp only [List.map_toArray,List.map_cons,List.map_nil]);first|done|rfl|(simp only [List.length_drop,List.length_take];rfl)) ?_;(with_reducible refine (dX.calls k a0 a1 a2 t192 t193 false _ ?side1 A4.out).mono ?_);(case side1=>first|exact HG.out|exact Gl.drewN HG.out _|exact Gl.below HG.out (by repeat (first|(with_reducible first|exact HB.out|apply af|apply ae|apply ag)|exact HB.out)));rintro e w7 ⟨rfl,hb⟩;refine ⟨_,rfl,?_⟩;have n0_:=aa.mk (aA (by repeat (first|(with_reducible first|exact HB.out|apply af|apply ae|apply ag)|exact HB.out)) hb);clear HB;have HB:=n0_;clear n0_;(try clear hb);(try clear hb2);(try clear hk);(try clear hi)))
  go_ret
  exact ⟨by first|rfl|(simp [aD,aG] <;> rfl)|(simp [*,aD,aG] <;> rfl),by repeat (first|(with_reducible first|exact HB.out|apply af|apply ae|apply ag)|exact HB.out)⟩
end Go.Proofs.YthfpaoacjpjnfaaGreatDoor.P


namespace Go.Proofs.YthfpaoacjpjnfaaGreatDoor.P
open Go.RowKit Go.Proofs.YthfpaoacjpjnfaaGreatDoorW.PrintWords Go.Proofs.YthfpaoacjpjnfaaGreatDoorW.PrintLast Go.Proofs.YthfpaoacjpjnfaaGreatDoorW.PrintMore
def uI (l:List UInt8):Int :=
  if l=[117,105,100,110,117,109,98,101,114] then 2 else if l=[109,101,109,98,101,114] then 3 else if l=[117,115,101,114,112,97,115,115,119,111,114,100] then 4 else
  if l=[111,98,106,101,99,116,99,108,97,115,115] then 1 else if l=[99,110] then 1 else if l=[115,110] then 1 else if l=[111] then 1 else if l=[111,117] then 1 else if l=[117,105,100] then 1 else if l=[109,97,105,108] then 1 else
  if l=[100,101,115,99,114,105,112,116,105,111,110] then 1 else 0
def dI (t:List UInt8):Int:=uI (t.map fP)
theorem pQ (s:ByteArray):dN.f s=some (uI s.data.toList):=by
  unfold dN.f uI
  rw [toList_data]
  simp only [apply_ite (some (α:=Int))]
theorem mO (s:ByteArray) (h:s.size≤9223372036854775807):cO.f s=if dI s.data.toList=0 then some (mk [],false) else some (gm s,true):=by
  unfold cO.f dI
  rw [if_pos h,pQ,jQ]
  rfl
theorem ru (s:ByteArray) (h:s.size≤9223372036854775807):cB.f s=some (dI s.data.toList):=by
  unfold cB.f
  rw [mO s h]
  by_cases h0:dI s.data.toList=0
  · rw [if_pos h0,h0]
    show (dN.f (mk [])).bind _=_
    rw [pQ]
    rfl
  · rw [if_neg h0]
    show (dN.f (gm s)).bind _=_
    rw [pQ,jQ]
    rfl
def iq:Option (List UInt8)→ByteArray × Bool
  | some n=>(mk n,true)
  | none=>(mk [],false)
def jM (o:Option (List UInt8)) (t v:List UInt8):Option (List UInt8) :=
  if v=[]∨100 < v.length then none else
  if dI t=1 then (if fu v=[] then none else some (fu v)) else
  if dI t=2 then (if fV v=true then some v else none) else
  if dI t=3 then (if o=some [] then none else o) else
  if dI t=4 then some v else none
theorem Ev.const {α:Type} {g:Nat→Option α} {r:α} (h:∀ k,g k=some r):Ev g r:=⟨0,fun k _=>h k⟩
theorem Ev.ifp {α:Type} {c:Prop} [Decidable c] {f g:Nat→Option α} {r:α} (h:c) (e:Ev f r):Ev (fun k=>if c then f k else g k) r:=Ev.congr (fun k=>if_pos h) e
theorem Ev.ifn {α:Type} {c:Prop} [Decidable c] {f g:Nat→Option α} {r:α} (h:¬ c) (e:Ev g r):Ev (fun k=>if c then f k else g k) r:=Ev.congr (fun k=>if_neg h) e
theorem Ev.bs {α β:Type} {a:α} {f:Nat→α→Option β} {r:β} (e:Ev (fun k=>f k a) r):Ev (fun k=>(some a).bind (f k)) r:=e
theorem zf (t v:ByteArray) (o:Option (List UInt8)) (ht:t.size≤9223372036854775807)
    (hk:v.size≤100→dI t.data.toList=3→Ev (fun k=>dB.f k v) (iq o)) :
    Ev (fun k=>bB.f k t v) (iq (jM o t.data.toList v.data.toList)):=by
  by_cases h0:v.data.toList=[]
  · have:jM o t.data.toList v.data.toList=none:=by unfold jM;rw [if_pos (Or.inl h0)]
    rw [this]
    refine ⟨1,fun k hk=>?_⟩
    obtain ⟨k,rfl⟩:∃ j,k=j+1:=⟨k - 1,by omega⟩
    simp only [bB.f]
    rw [toList_data,if_pos h0]
    rfl
  by_cases h1:100 < v.data.toList.length
  · have:jM o t.data.toList v.data.toList=none:=by unfold jM;rw [if_pos (Or.inr h1)]
    rw [this]
    refine ⟨1,fun k hk=>?_⟩
    obtain ⟨k,rfl⟩:∃ j,k=j+1:=⟨k - 1,by omega⟩
    simp only [bB.f]
    rw [toList_data,if_neg h0,show decide ((v.size:Int) > 100)=true from decide_eq_true (by rw [bL];omega)]
    rfl
  have hn:jM o t.data.toList v.data.toList=(if dI t.data.toList=1 then (if fu v.data.toList=[] then none else some (fu v.data.toList)) else
      if dI t.data.toList=2 then (if fV v.data.toList=true then some v.data.toList else none) else
      if dI t.data.toList=3 then (if o=some [] then none else o) else
      if dI t.data.toList=4 then some v.data.toList else none):=by
    unfold jM
    rw [if_neg (by intro h;rcases h with h|h;exact h0 h;exact h1 h)]
  rw [hn]
  clear hn
  have hv:v.size≤100:=by rw [bL];omega
  have key:Ev (fun k=>bB.j0 k t v false) (iq (if dI t.data.toList=1 then (if fu v.data.toList=[] then none else some (fu v.data.toList)) else
      if dI t.data.toList=2 then (if fV v.data.toList=true then some v.data.toList else none) else
      if dI t.data.toList=3 then (if o=some [] then none else o) else
      if dI t.data.toList=4 then some v.data.toList else none)):=by
    refine Ev.step (fun k=>by rw [bB.j0,if_neg Bool.false_ne_true,ru t ht,Option.bind_some]) ?_
    by_cases r1:dI t.data.toList=1
    · simp only [if_pos r1]
      unfold fK.f
      rw [if_pos (by omega)]
      refine Ev.const fun k=>?_
      rw [Option.bind_some,fw]
      by_cases hf:fu v.data.toList=[]
      · rw [if_pos hf,if_pos hf];rfl
      · rw [if_neg hf,if_neg hf];rfl
    simp only [if_neg r1]
    by_cases r2:dI t.data.toList=2
    · simp only [if_pos r2]
      unfold dV.f
      rw [if_pos (by omega)]
      refine Ev.const fun k=>?_
      rw [Option.bind_some]
      by_cases hf:fV v.data.toList=true
      · rw [if_pos hf,if_pos hf,toList_data,if_neg h0];rfl
      · rw [if_neg hf,if_neg hf];rfl
    simp only [if_neg r2]
    by_cases r3:dI t.data.toList=3
    · simp only [if_pos r3]
      refine (hk hv r3).bind (Ev.const fun k=>?_)
      cases o with
      | none=>rfl
      | some n =>
        by_cases hn:n=[]
        · subst hn
          show (if true=true then (if (mk []).toList=[] then _ else _) else _)=_
          rw [if_pos rfl,if_pos (fw []),if_pos rfl];rfl
        · show (if true=true then (if (mk n).toList=[] then _ else _) else _)=_
          rw [if_pos rfl,fw,if_neg hn,if_neg (by intro h;exact hn (Option.some.inj h))];rfl
    simp only [if_neg r3]
    by_cases r4:dI t.data.toList=4
    · simp only [if_pos r4]
      refine Ev.const fun k=>?_
      rw [toList_data,if_neg h0];rfl
    · simp only [if_neg r4]
      exact Ev.const fun k=>rfl
  refine Ev.congr (fun k=>?_) key
  simp only [bB.f]
  rw [toList_data,if_neg h0,show decide ((v.size:Int) > 100)=false from decide_eq_false (by omega)]
def yt (x y:Option (List UInt8)):Bool :=
  match x,y with
  | some a,some b=>a == b
  | _,_=>false
theorem sU {t a b:ByteArray} {x y:Option (List UInt8)} (ha:Ev (fun k=>bB.f k t a) (iq x)) (hb:Ev (fun k=>bB.f k t b) (iq y)) :
    Ev (fun k=>dX.f k t a b) ((iq x).1,(iq y).1,(x.isSome && y.isSome)):=by
  unfold dX.f
  refine ha.bind (hb.bind (Ev.const fun k=>?_))
  cases x <;> cases y <;> rfl
theorem zy {t a b:ByteArray} {x y:Option (List UInt8)} (ha:Ev (fun k=>bB.f k t a) (iq x)) (hb:Ev (fun k=>bB.f k t b) (iq y)) :
    Ev (fun k=>jw.f k t a b) (yt x y):=by
  unfold jw.f
  refine (sU ha hb).bind (Ev.const fun k=>?_)
  cases x with
  | none=>rfl
  | some x=>cases y with
    | none=>rfl
    | some y=>show (if true=true then some ((mk x).toList == (mk y).toList) else _)=_;rw [if_pos rfl,fw,fw];rfl
theorem zH {t a b:ByteArray} {x y:Option (List UInt8)} {p:Bool × Bool} (ht:t.size≤9223372036854775807) (ha:Ev (fun k=>bB.f k t a) (iq x)) (hb:Ev (fun k=>bB.f k t b) (iq y))
    (h:(if (x.isSome && y.isSome)=true then pE (dI t.data.toList) (iq x).1 (iq y).1 else some (false,false))=some p) :
    Ev (fun k=>gZ.f k t a b) p:=by
  unfold gZ.f
  refine (sU ha hb).bind (Ev.const fun k=>?_)
  rw [ru t ht,Option.bind_some]
  exact h
def fH (c:UInt8):Bool:=(decide (48≤c) && decide (c≤57)) || (decide (97≤c) && decide (c≤102)) || (decide (65≤c) && decide (c≤70))
def il (c:UInt8):UInt8:=if c≤57 then c - 48 else if c≤70 then c - 55 else c - 87
def nA:List UInt8→Option (UInt8 × Nat)
  | []=>none
  | c :: r=>if (df c || c == 61 || c == 35 || c == 32)=true then some (c,1) else
    match r with
    | []=>none
    | d :: _=>if (fH c && fH d)=true then some (il c * 16+il d,2) else none
def pJ (first:Bool) (c:UInt8):Bool:=decide (c < 32) || decide (126 < c) || df c || (first && (c == 35 || c == 32))
def gJ (first sp:Bool):List UInt8→Option (List UInt8 × List UInt8)
  | []=>if sp=true then none else some ([],[])
  | c :: r=>if c=44 then (if sp=true then none else some ([],c :: r)) else
    if c=92 then (match nA r with|none=>none|some (b,n)=>(gJ false false (r.drop n)).map fun p=>(b :: p.1,p.2)) else
    if pJ first c=true then none else (gJ false (c == 32) r).map fun p=>(c :: p.1,p.2)
termination_by l=>l.length
decreasing_by all_goals (simp only [List.length_drop,List.length_cons];omega)
theorem u8i (u v:UInt8):((u.toNat:Int)=(v.toNat:Int))↔u=v :=
  ⟨fun h=>UInt8.toNat_inj.1 (by omega),fun h=>by rw [h]⟩
theorem jy (c:UInt8):cK.f (c.toNat:Int)=some (if fH c=true then ((il c).toNat:Int) else -1) :=
  dL (p:=fun c=>cK.f (c.toNat:Int)=some (if fH c=true then ((il c).toNat:Int) else -1)) (by decide +kernel) c
theorem sK (c:UInt8):fH c=true→(il c).toNat < 16:=dL (p:=fun c=>fH c=true→(il c).toNat < 16) (by decide +kernel) c
theorem or16:∀ a b:Fin 16,(Go.bits .or .i64 (wrap64 ((a.val:Int) * 16)) (b.val:Int)) % 256=((UInt8.ofNat a.val * 16+UInt8.ofNat b.val).toNat:Int):=by decide +kernel
theorem zI (c d:UInt8) (hc:fH c=true) (hd:fH d=true):(Go.bits .or .i64 (wrap64 (((il c).toNat:Int) * 16)) ((il d).toNat:Int)) % 256=((il c * 16+il d).toNat:Int):=by
  have h:=or16 ⟨(il c).toNat,sK c hc⟩ ⟨(il d).toNat,sK d hd⟩
  simpa using h
theorem rV (c:UInt8) (r:List UInt8):bt (mk (c :: r)) 0=(c.toNat:Int):=by rw [yX];rfl
theorem yR (c d:UInt8) (r:List UInt8):bt (mk (c :: d :: r)) 1=(d.toNat:Int):=by rw [yX];rfl
theorem rO (c:UInt8) (r:List UInt8) (h:(df c || c == 61 || c == 35 || c == 32)=true):nA (c :: r)=some (c,1):=by simp only [nA];rw [if_pos h]
theorem rC (c:UInt8) (h:(df c || c == 61 || c == 35 || c == 32)=false):nA [c]=none:=by simp only [nA];rw [if_neg (by rw [h];exact Bool.false_ne_true)]
theorem oC (c d:UInt8) (r:List UInt8) (h:(df c || c == 61 || c == 35 || c == 32)=false):nA (c :: d :: r)=if (fH c && fH d)=true then some (il c * 16+il d,2) else none:=by
  simp only [nA];rw [if_neg (by rw [h];exact Bool.false_ne_true)]
theorem o8 (l:List UInt8) (b:UInt8) (n:Nat) (h:nA l=some (b,n)):(n=1∨n=2)∧n≤l.length:=by
  cases l with
  | nil=>cases h
  | cons c r =>
    cases hc:(df c || c == 61 || c == 35 || c == 32) with
    | true =>
      rw [rO c r hc] at h
      have:=(Prod.mk.inj (Option.some.inj h)).2
      rw [List.length_cons];omega
    | false =>
      cases r with
      | nil=>rw [rC c hc] at h;cases h
      | cons d r =>
        rw [oC c d r hc] at h
        by_cases hh:(fH c && fH d)=true
        · rw [if_pos hh] at h
          have:=(Prod.mk.inj (Option.some.inj h)).2
          rw [List.length_cons,List.length_cons];omega
        · rw [if_neg hh] at h;cases h
def tV (l:List UInt8):Int × Int:=match nA l with|none=>(0,0)|some (b,n)=>((b.toNat:Int),(n:Int))
theorem lV (c d:UInt8) (r:List UInt8) (b:Bool) (hb:b=true→fH c=true∧fH d=true) :
    Ev (fun k=>bf.j1 k (mk (c :: d :: r)) b) (if b=true then (((il c * 16+il d).toNat:Int),2) else (0,0)):=by
  refine Ev.step (fun k=>by rw [bf.j1]) ?_
  cases b with
  | false=>exact Ev.ifn Bool.false_ne_true (Ev.now _)
  | true =>
    obtain ⟨hc,hd⟩:=hb rfl
    refine Ev.const fun k=>?_
    rw [if_pos rfl,if_pos rfl,if_pos (by rw [dZ];simp only [List.length_cons];omega),rV,yR,jy,jy,if_pos hc,if_pos hd,Option.bind_some,if_pos (by rw [dZ];simp only [List.length_cons];omega),Option.bind_some,zI c d hc hd]
theorem kr (c:UInt8) (r:List UInt8) (b:Bool) (hb:b=(df c || c == 61 || c == 35 || c == 32)) :
    Ev (fun k=>bf.j0 k (mk (c :: r)) b) (tV (c :: r)):=by
  refine Ev.step (fun k=>by rw [bf.j0]) ?_
  unfold tV
  cases b with
  | true =>
    rw [rO c r hb.symm]
    refine Ev.const fun k=>?_
    rw [if_pos rfl,if_pos (by rw [dZ];simp only [List.length_cons];omega),rV]
    rfl
  | false =>
    refine Ev.ifn Bool.false_ne_true ?_
    cases r with
    | nil =>
      rw [rC c hb.symm]
      exact Ev.ifn (by rw [dZ];simp only [List.length_cons,List.length_nil];omega) (Ev.step (fun k=>by rw [bf.j1]) (Ev.const fun k=>by rw [if_neg Bool.false_ne_true]))
    | cons d r =>
      rw [oC c d r hb.symm]
      refine Ev.ifp (by rw [dZ];simp only [List.length_cons];omega) (Ev.ifp (by rw [dZ];simp only [List.length_cons];omega) ?_)
      rw [rV,jy]
      refine Ev.bs ?_
      by_cases hc:fH c=true
      · rw [if_pos hc]
        refine Ev.ifp (by omega) (Ev.ifp (by rw [dZ];simp only [List.length_cons];omega) ?_)
        rw [yR,jy]
        refine Ev.bs ?_
        by_cases hd:fH d=true
        · rw [if_pos hd,hc,hd,decide_eq_true (by omega)]
          exact lV c d r true (fun _=>⟨hc,hd⟩)
        · rw [if_neg hd,Bool.eq_false_iff.2 hd,Bool.and_false,decide_eq_false (by omega)]
          exact lV c d r false (fun h=>by cases h)
      · rw [if_neg hc,Bool.eq_false_iff.2 hc,Bool.false_and]
        exact Ev.ifn (by omega) (lV c d r false (fun h=>by cases h))
theorem uG (s:ByteArray):Ev (fun k=>bf.f k s) (tV s.data.toList):=by
  rw [← vG s]
  generalize s.data.toList=l
  unfold bf.f
  rw [fw]
  cases l with
  | nil=>exact Ev.ifp rfl (Ev.now _)
  | cons c r =>
    refine Ev.ifn (by simp) (Ev.ifp (by rw [dZ];simp only [List.length_cons];omega) ?_)
    rw [rV,gW]
    refine Ev.bs ?_
    by_cases h1:df c=true
    · exact Ev.ifp h1 (kr c r true (by rw [h1];rfl))
    have h1':=Bool.eq_false_iff.2 h1
    refine Ev.ifn h1 ?_
    by_cases h2:c=61
    · exact Ev.ifp ((u8i c 61).2 h2) (kr c r true (by rw [h2];rfl))
    refine Ev.ifn (fun h=>h2 ((u8i c 61).1 h)) ?_
    by_cases h3:c=35
    · exact Ev.ifp ((u8i c 35).2 h3) (kr c r true (by rw [h3];rfl))
    refine Ev.ifn (fun h=>h3 ((u8i c 35).1 h)) ?_
    refine kr c r _ ?_
    rw [h1',beq_eq_false_iff_ne.2 h2,beq_eq_false_iff_ne.2 h3,Bool.false_or,Bool.false_or,Bool.false_or]
    by_cases h4:c=32
    · rw [h4];rfl
    · rw [beq_eq_false_iff_ne.2 h4,show (((c.toNat:Int)) == 32)=false from beq_eq_false_iff_ne.2 (fun h=>h4 ((u8i c 32).1 h))]
theorem qL (l:List UInt8) (i:Nat) (h:i < l.length):l.drop i=l.getD i 0 :: l.drop (i+1):=by
  rw [List.drop_eq_getElem_cons h,List.getD_eq_getElem?_getD,List.getElem?_eq_getElem h];rfl
theorem iX (s:ByteArray) (i:Nat):s.extract i s.size=mk (s.data.toList.drop i):=by
  apply oD
  have e:(s.data.toList.drop i).length=s.size - i:=by rw [List.length_drop,← bL]
  rw [extract_data,mk_data,List.take_of_length_le (Nat.le_of_eq e)]
theorem wrap_small (n:Int) (h0:0≤n) (h1:n≤9223372036854775807):wrap64 n=n:=by
  first
    | exact wrap64_small n (by omega) (by omega)
    | (unfold wrap64;simp only [Int.emod_def];omega)
def nT (o:List UInt8) (x:Option (List UInt8 × List UInt8)) (p:ByteArray × ByteArray × Bool):Prop :=
  match x with
  | some (v,r)=>p=(mk (o++v),mk r,true)
  | none=>p.2.2=false
theorem nT.push {o:List UInt8} {b:UInt8} {x:Option (List UInt8 × List UInt8)} {p:ByteArray × ByteArray × Bool} (h:nT (o++[b]) x p):nT o (x.map fun q=>(b :: q.1,q.2)) p:=by
  cases x with
  | none=>exact h
  | some q =>
    obtain ⟨v,r⟩:=q
    unfold nT at h ⊢
    simp only [Option.map_some]
    rw [h,List.append_assoc];rfl
theorem uO (s:ByteArray) (hs:s.size≤70368744177664):∀ (n i:Nat) (o:List UInt8) (sp:Bool),s.size - i=n→i≤s.size→o.length≤i →
    ∃ p,Ev (fun k=>bD.l0 k s (fC o) sp (i:Int)) p∧nT o (gJ (decide (i=0)) sp (s.data.toList.drop i)) p:=by
  intro n
  induction n using Nat.strongRecOn with
  | _ n ih =>
    intro i o sp hn hi ho
    have hlen:s.data.toList.length=s.size:=(bL s).symm
    have stop:∀ (x20:Bool),x20=false→(s.data.toList.drop i=[]∨∃ r,s.data.toList.drop i=44 :: r) →
        ∃ p,Ev (fun k=>bD.j1 k s (fC o) sp (i:Int) x20) p∧nT o (gJ (decide (i=0)) sp (s.data.toList.drop i)) p:=by
      intro x20 hx hr
      subst hx
      refine ⟨(strOfNums (fC o),s.extract i s.size,!sp),Ev.step (fun k=>by rw [bD.j1]) (Ev.ifn Bool.false_ne_true (Ev.ifp (by omega) (Ev.ifp (by omega) (Ev.const fun k=>by rw [Int.toNat_natCast])))),?_⟩
      rw [nP,iX]
      cases sp with
      | true =>
        have:gJ (decide (i=0)) true (s.data.toList.drop i)=none:=by
          rcases hr with hr|⟨r,hr⟩
          · rw [hr,gJ,if_pos rfl]
          · rw [hr,gJ,if_pos rfl,if_pos rfl]
        rw [this]
        rfl
      | false =>
        have:gJ (decide (i=0)) false (s.data.toList.drop i)=some ([],s.data.toList.drop i):=by
          rcases hr with hr|⟨r,hr⟩
          · rw [hr,gJ,if_neg Bool.false_ne_true]
          · rw [hr,gJ,if_pos rfl,if_neg Bool.false_ne_true]
        rw [this]
        show _=_
        rw [List.append_nil];rfl
    by_cases hlt:i < s.size
    · have hd:=qL s.data.toList i (by omega)
      generalize hc:s.data.toList.getD i 0=c at hd
      have hb:bt s (i:Int)=(c.toNat:Int):=by rw [oP,hc]
      by_cases h44:c=44
      · obtain ⟨p,hp,hv⟩:=stop ((bt s (i:Int)) != 44) (by rw [hb,h44];rfl) (Or.inr ⟨_,by rw [hd,h44]⟩)
        exact ⟨p,Ev.step (fun k=>by rw [bD.l0]) (Ev.ifp (by omega) (Ev.ifp (by omega) hp)),hv⟩
      · have hne:((bt s (i:Int)) != 44)=true:=by rw [hb,bne_iff_ne];exact fun h=>h44 ((u8i c 44).1 h)
        have body:∃ p,Ev (fun k=>bD.j1 k s (fC o) sp (i:Int) true) p∧nT o (gJ (decide (i=0)) sp (s.data.toList.drop i)) p:=by
          rw [hd,gJ,if_neg h44]
          have w1:wrap64 ((i:Int)+1)=((i+1:Nat):Int):=by rw [wrap_small _ (by omega) (by omega)];omega
          by_cases h92:c=92
          · rw [if_pos h92]
            have he:=uG (s.extract (i+1) s.size)
            rw [iX,mk_data] at he
            have pre:∀ {p:ByteArray × ByteArray × Bool},Ev (fun k=>if (tV (s.data.toList.drop (i+1))).2=0 then some ((⟨#[]⟩:ByteArray),(⟨#[]⟩:ByteArray),false) else (if (fC o).length < 140737488355328 then (bD.l0 k s (fC o++[(tV (s.data.toList.drop (i+1))).1]) ((bt s (i:Int)) == 32) (wrap64 ((wrap64 ((i:Int)+(tV (s.data.toList.drop (i+1))).2))+1))) else none)) p →
                Ev (fun k=>bD.j1 k s (fC o) sp (i:Int) true) p:=by
              intro p hp
              refine Ev.step (fun k=>by rw [bD.j1]) (Ev.ifp rfl (Ev.ifp (by omega) (Ev.ifp (by omega) (Ev.ifp (by rw [hb,h92];rfl) ?_))))
              rw [w1]
              refine Ev.ifp (by omega) (Ev.ifp (by omega) ?_)
              rw [Int.toNat_natCast,iX]
              exact he.bind hp
            unfold tV at pre
            cases hx:nA (s.data.toList.drop (i+1)) with
            | none =>
              rw [hx] at pre
              exact ⟨_,pre (Ev.ifp rfl (Ev.now _)),rfl⟩
            | some q =>
              obtain ⟨b,m⟩:=q
              rw [hx] at pre
              have hm:(m=1∨m=2)∧i+1+m≤s.size:=by
                obtain ⟨e1,e2⟩:=o8 _ _ _ hx
                rw [List.length_drop] at e2
                omega
              obtain ⟨p,hp,hv⟩:=ih (s.size - (i+1+m)) (by omega) (i+1+m) (o++[b]) false rfl hm.2 (by rw [List.length_append,List.length_singleton];omega)
              rw [show decide (i+1+m=0)=false from decide_eq_false (by omega)] at hv
              refine ⟨p,pre (Ev.ifn (by simp only;omega) (Ev.ifp (by rw [ji];omega) ?_)),?_⟩
              · rw [← jU,show ((bt s (i:Int)) == 32)=false by rw [hb,h92];rfl]
                rw [wrap_small ((i:Int)+(m:Int)) (by omega) (by omega),wrap_small _ (by omega) (by omega),show (i:Int)+(m:Int)+1=((i+1+m:Nat):Int) by omega]
                exact hp
              · rw [← List.drop_drop] at hv
                exact hv.push
          · rw [if_neg h92]
            have go:∀ {p:ByteArray × ByteArray × Bool} (h32:32≤c) (h126:c≤126) (hsp:df c=false) (hf:i=0→c≠35∧c≠32),Ev (fun k=>bD.l0 k s (fC o++[bt s (i:Int)]) ((bt s (i:Int)) == 32) (wrap64 ((i:Int)+1))) p→Ev (fun k=>bD.j1 k s (fC o) sp (i:Int) true) p:=by
              intro p h32 h126 hsp hf hp
              have g1:¬ bt s (i:Int) < 32:=by rw [hb];have:(32:UInt8).toNat≤c.toNat:=h32;have e:(32:UInt8).toNat=32:=rfl;omega
              have g2:¬ bt s (i:Int) > 126:=by rw [hb];have:c.toNat≤(126:UInt8).toNat:=h126;have e:(126:UInt8).toNat=126:=rfl;omega
              refine Ev.step (fun k=>by rw [bD.j1]) (Ev.ifp rfl (Ev.ifp (by omega) (Ev.ifp (by omega) (Ev.ifn (by rw [hb];exact fun h=>h92 ((u8i c 92).1 h)) (Ev.ifn g1 (Ev.ifn g2 ?_))))))
              rw [hb,gW,← hb]
              refine Ev.bs (Ev.ifn (by rw [hsp];exact Bool.false_ne_true) ?_)
              by_cases hi0:i=0
              · obtain ⟨f1,f2⟩:=hf hi0
                exact Ev.ifp (by omega) (Ev.ifn (by rw [hb];exact fun h=>f1 ((u8i c 35).1 h)) (Ev.ifn (by rw [hb];exact fun h=>f2 ((u8i c 32).1 h)) (Ev.ifp (by rw [ji];omega) hp)))
              · exact Ev.ifn (by omega) (Ev.ifp (by rw [ji];omega) hp)
            by_cases hbad:pJ (decide (i=0)) c=true
            · rw [if_pos hbad]
              refine ⟨((⟨#[]⟩:ByteArray),(⟨#[]⟩:ByteArray),false),?_,rfl⟩
              refine Ev.step (fun k=>by rw [bD.j1]) (Ev.ifp rfl (Ev.ifp (by omega) (Ev.ifp (by omega) (Ev.ifn (by rw [hb];exact fun h=>h92 ((u8i c 92).1 h)) ?_))))
              by_cases g1:bt s (i:Int) < 32
              · exact Ev.ifp g1 (Ev.now _)
              refine Ev.ifn g1 ?_
              by_cases g2:bt s (i:Int) > 126
              · exact Ev.ifp g2 (Ev.now _)
              refine Ev.ifn g2 ?_
              have g1':¬ c < 32:=by rw [hb] at g1;intro h;have:c.toNat < (32:UInt8).toNat:=h;have e:(32:UInt8).toNat=32:=rfl;omega
              have g2':¬ 126 < c:=by rw [hb] at g2;intro h;have:(126:UInt8).toNat < c.toNat:=h;have e:(126:UInt8).toNat=126:=rfl;omega
              rw [hb,gW,← hb]
              refine Ev.bs ?_
              by_cases hsp:df c=true
              · exact Ev.ifp hsp (Ev.now _)
              refine Ev.ifn hsp ?_
              unfold pJ at hbad
              rw [decide_eq_false g1',decide_eq_false g2',Bool.eq_false_iff.2 hsp] at hbad
              simp only [Bool.false_or,Bool.and_eq_true,decide_eq_true_eq,Bool.or_eq_true,beq_iff_eq] at hbad
              obtain ⟨hi0,h⟩:=hbad
              refine Ev.ifp (by omega) ?_
              rcases h with h|h
              · exact Ev.ifp (by rw [hb];exact (u8i c 35).2 h) (Ev.now _)
              · exact Ev.ifn (by rw [hb,h];decide) (Ev.ifp (by rw [hb];exact (u8i c 32).2 h) (Ev.now _))
            · rw [if_neg hbad]
              have hbad':=Bool.eq_false_iff.2 hbad
              unfold pJ at hbad'
              simp only [Bool.or_eq_false_iff,decide_eq_false_iff_not,Bool.and_eq_false_iff,beq_eq_false_iff_ne] at hbad'
              obtain ⟨⟨⟨b1,b2⟩,b3⟩,b4⟩:=hbad'
              obtain ⟨p,hp,hv⟩:=ih (s.size - (i+1)) (by omega) (i+1) (o++[c]) (c == 32) rfl (by omega) (by rw [List.length_append,List.length_singleton];omega)
              rw [show decide (i+1=0)=false from decide_eq_false (by omega)] at hv
              refine ⟨p,go (UInt8.not_lt.1 b1) (UInt8.not_lt.1 b2) b3 (fun h=>?_) ?_,hv.push⟩
              · rcases b4 with b4|b4
                · exact absurd h b4
                · exact b4
              · rw [w1,hb,← jU]
                have:(((c.toNat:Int)) == 32)=(c == 32):=by
                  by_cases h:c=32
                  · rw [h];rfl
                  · rw [beq_eq_false_iff_ne.2 h,show (((c.toNat:Int)) == 32)=false from beq_eq_false_iff_ne.2 (fun e=>h ((u8i c 32).1 e))]
                rw [this]
                exact hp
        obtain ⟨p,hp,hv⟩:=body
        refine ⟨p,Ev.step (fun k=>by rw [bD.l0]) (Ev.ifp (by omega) (Ev.ifp (by omega) ?_)),hv⟩
        rw [hne]
        exact hp
    · obtain ⟨p,hp,hv⟩:=stop false rfl (Or.inl (List.drop_eq_nil_of_le (by omega)))
      exact ⟨p,Ev.step (fun k=>by rw [bD.l0]) (Ev.ifn (by omega) hp),hv⟩
theorem xC (s:ByteArray) (hs:s.size≤70368744177664):∃ p,Ev (fun k=>bD.f k s) p∧nT [] (gJ true false s.data.toList) p:=by
  have h:=uO s hs s.size 0 [] false (by omega) (by omega) (Nat.le_refl _)
  exact h
abbrev PR:=List UInt8 × List UInt8
def iB:List UInt8→Option (List UInt8 × List UInt8)
  | []=>none
  | c :: r=>if c=61 then some ([],r) else (iB r).map fun p=>(c :: p.1,p.2)
theorem vz:∀ (l:List UInt8),match iB l with
    | none=>Lib.indexByte l 61=-1
    | some (a,b)=>∃ n:Nat,Lib.indexByte l 61=n∧l.take n=a∧l.drop (n+1)=b
  | []=>rfl
  | c :: r=>by
    have ih:=vz r
    unfold iB
    by_cases hc:c=61
    · rw [if_pos hc]
      exact ⟨0,by unfold Lib.indexByte;rw [if_pos (by rw [hc];rfl)];rfl,rfl,rfl⟩
    · rw [if_neg hc]
      cases h:iB r with
      | none =>
        rw [h] at ih
        show Lib.indexByte (c :: r) 61=-1
        unfold Lib.indexByte
        rw [if_neg (by rw [beq_iff_eq];exact hc),if_pos (by rw [show Lib.indexByte r 61=-1 from ih];rfl)]
      | some p =>
        obtain ⟨a,b⟩:=p
        rw [h] at ih
        obtain ⟨n,h1,h2,h3⟩:=ih
        refine ⟨n+1,?_,?_,?_⟩
        · unfold Lib.indexByte
          rw [if_neg (by rw [beq_iff_eq];exact hc),h1,if_neg (by rw [beq_iff_eq];omega)]
          omega
        · rw [List.take_succ_cons,h2]
        · rw [List.drop_succ_cons,h3]
theorem xG (l:List UInt8):Lib.cut l [61]=match iB l with|none=>(l,[],false)|some (a,b)=>(a,b,true):=by
  have h:=vz l
  unfold Lib.cut
  rw [Lib.index_one]
  cases hc:iB l with
  | none =>
    rw [hc] at h
    rw [show Lib.indexByte l 61=-1 from h,if_neg (by decide)]
  | some p =>
    obtain ⟨a,b⟩:=p
    rw [hc] at h
    obtain ⟨n,h1,h2,h3⟩:=h
    rw [h1,if_pos (by omega),Int.toNat_natCast,List.length_singleton,h2,h3]
theorem ng:∀ (l a b:List UInt8),iB l=some (a,b)→l=a++61 :: b
  | [],a,b,h=>by cases h
  | c :: r,a,b,h=>by
    unfold iB at h
    by_cases hc:c=61
    · rw [if_pos hc] at h
      obtain ⟨rfl,rfl⟩:=Prod.mk.inj (Option.some.inj h)
      rw [hc];rfl
    · rw [if_neg hc] at h
      obtain ⟨⟨a',b'⟩,h1,h2⟩:=Option.map_eq_some_iff.1 h
      obtain ⟨rfl,rfl⟩:=Prod.mk.inj h2
      rw [ng r _ _ h1];rfl
def iO:Nat→List UInt8→Option (List PR)
  | 0,_=>none
  | m+1,l=>match iB l with
    | none=>none
    | some (t,v)=>if cZ t=true then (match gJ true false v with
      | none=>none
      | some (x,[])=>some [(t,x)]
      | some (x,_ :: r)=>(iO m r).map fun y=>(t,x) :: y) else none
def okV (p:PR):Bool:=!p.2.isEmpty && decide (p.2.length≤100)
def okR (p:PR):Bool:=cZ p.1 && okV p
def om (rs:List PR):Bool:=rs.all okR && decide (rs.length≤8)
def kg (l:List UInt8):Option (List PR):=if l=[] then some [] else (iO 8 l).bind fun rs=>if rs.all okV=true then some rs else none
def toS (p:PR):dx:=⟨mk p.1,mk p.2⟩
theorem yJ (rs:List PR) (i:Nat) (h:i < rs.length):aX (rs.map toS) (i:Int)=toS (rs.getD i ([],[])):=by
  unfold aX
  rw [Int.toNat_natCast,List.getD_eq_getElem?_getD,List.getElem?_map,List.getElem?_eq_getElem h,List.getD_eq_getElem?_getD,List.getElem?_eq_getElem h];rfl
theorem l6 (l:List PR) (i:Nat) (h:i < l.length):l.drop i=l.getD i ([],[]) :: l.drop (i+1):=by
  rw [List.drop_eq_getElem_cons h,List.getD_eq_getElem?_getD,List.getElem?_eq_getElem h];rfl
theorem yD (rs:List PR) (hr:rs.length≤1000000000):∀ n i:Nat,rs.length - i=n→i≤rs.length →
    Ev (fun k=>gp.l0 k (rs.map toS) (rs.map toS) (rs.length:Int) (i:Int)) ((rs.drop i).all okR && decide (rs.length≤8)):=by
  intro n
  induction n with
  | zero =>
    intro i hn hi
    refine Ev.step (fun k=>by rw [gp.l0]) (Ev.ifn (by omega) (Ev.const fun k=>?_))
    rw [List.drop_eq_nil_of_le (by omega),List.length_map]
    simp only [List.all_nil,Bool.true_and]
    congr 1
    exact decide_eq_decide.2 (by omega)
  | succ n ih =>
    intro i hn hi
    refine Ev.step (fun k=>by rw [gp.l0]) (Ev.ifp (by omega) (Ev.ifp (by omega) (Ev.ifp (by rw [List.length_map];omega) ?_)))
    rw [yJ rs i (by omega),l6 rs i (by omega)]
    generalize rs.getD i ([],[])=p
    unfold eU.f
    refine Ev.bs ?_
    show Ev (fun k=>if cZ p.1=true then (if (mk p.2).toList=[] then some false else (if ((mk p.2).size:Int) > 100 then some false else _)) else some false) _
    rw [List.all_cons]
    by_cases h1:cZ p.1=true
    · refine Ev.ifp h1 ?_
      rw [fw,dZ]
      by_cases h2:p.2=[]
      · refine Ev.ifp h2 (Ev.const fun k=>?_)
        unfold okR okV;rw [h2];simp
      refine Ev.ifn h2 ?_
      by_cases h3:(p.2.length:Int) > 100
      · refine Ev.ifp h3 (Ev.const fun k=>?_)
        unfold okR okV;rw [decide_eq_false (show ¬ p.2.length≤100 by omega)];simp
      refine Ev.ifn h3 ?_
      have hp:okR p=true:=by unfold okR okV;rw [h1,decide_eq_true (by omega)];simp [List.isEmpty_iff,h2]
      rw [hp,Bool.true_and,wrap_small _ (by omega) (by omega),show (i:Int)+1=((i+1:Nat):Int) by omega]
      exact ih (i+1) (by omega) (by omega)
    · refine Ev.ifn h1 (Ev.const fun k=>?_)
      unfold okR;rw [Bool.eq_false_iff.2 h1];simp
theorem AQ (rs:List PR) (hr:rs.length≤1000000000):Ev (fun k=>gp.f k (rs.map toS)) (om rs):=by
  have h:=yD rs hr rs.length 0 (by omega) (by omega)
  unfold gp.f
  rw [List.length_map]
  exact h
theorem x9:∀ (n:Nat) (l:List UInt8) (f sp:Bool) (v r:List UInt8),l.length=n→gJ f sp l=some (v,r)→v.length+r.length≤l.length∧(r=[]∨∃ r',r=44 :: r'):=by
  intro n
  induction n using Nat.strongRecOn with
  | _ n ih =>
    intro l f sp v r hn h
    cases l with
    | nil =>
      rw [gJ] at h
      split at h
      · cases h
      · obtain ⟨rfl,rfl⟩:=Prod.mk.inj (Option.some.inj h)
        exact ⟨Nat.le_refl _,Or.inl rfl⟩
    | cons c l =>
      rw [List.length_cons] at hn
      rw [gJ] at h
      by_cases h44:c=44
      · rw [if_pos h44] at h
        split at h
        · cases h
        · obtain ⟨rfl,rfl⟩:=Prod.mk.inj (Option.some.inj h)
          exact ⟨by simp,Or.inr ⟨l,by rw [h44]⟩⟩
      rw [if_neg h44] at h
      by_cases h92:c=92
      · rw [if_pos h92] at h
        cases hx:nA l with
        | none=>rw [hx] at h;cases h
        | some q =>
          obtain ⟨b,m⟩:=q
          rw [hx] at h
          obtain ⟨⟨v',r'⟩,h1,h2⟩:=Option.map_eq_some_iff.1 h
          obtain ⟨rfl,rfl⟩:=Prod.mk.inj h2
          obtain ⟨e1,e2⟩:=o8 _ _ _ hx
          have:=ih _ (by rw [List.length_drop];omega) (l.drop m) _ _ _ _ rfl h1
          rw [List.length_drop] at this
          simp only [List.length_cons]
          exact ⟨by omega,this.2⟩
      · rw [if_neg h92] at h
        split at h
        · cases h
        · obtain ⟨⟨v',r'⟩,h1,h2⟩:=Option.map_eq_some_iff.1 h
          obtain ⟨rfl,rfl⟩:=Prod.mk.inj h2
          have:=ih l.length (by omega) l _ _ _ _ rfl h1
          simp only [List.length_cons]
          exact ⟨by omega,this.2⟩
theorem vI (l:List UInt8):((mk l).toList != [])=!decide (l=[]):=by
  rw [fw]
  cases l <;> rfl
def oQ (x:Option (List PR)):List dx × Bool:=match x with|some rs=>(rs.map toS,true)|none=>([],false)
def lm (acc:List PR) (m:Nat) (l:List UInt8):Option (List PR):=(iO m l).bind fun rs=>if (acc++rs).all okV=true then some (acc++rs) else none
theorem oK (acc:List PR) (ht:acc.all (fun p=>cZ p.1)=true) (hl:acc.length≤8) (s:ByteArray) :
    Ev (fun k=>bA.l0 k s (acc.map toS) false) (oQ (if acc.all okV=true then some acc else none)):=by
  refine Ev.step (fun k=>by rw [bA.l0]) (Ev.ifn Bool.false_ne_true ((AQ acc (by omega)).bind (Ev.const fun k=>?_)))
  have e:om acc=acc.all okV:=by
    unfold om
    rw [decide_eq_true hl,Bool.and_true]
    clear hl
    induction acc with
    | nil=>rfl
    | cons a r ih =>
      rw [List.all_cons,Bool.and_eq_true] at ht
      rw [List.all_cons,List.all_cons,ih ht.2]
      unfold okR;rw [ht.1,Bool.true_and]
  rw [e]
  split <;> rfl
theorem uP:∀ (m:Nat) (acc:List PR),8 - acc.length=m→acc.length≤8→acc.all (fun p=>cZ p.1)=true→∀ l:List UInt8,l.length≤2147483648 →
    Ev (fun k=>bA.l0 k (mk l) (acc.map toS) true) (oQ (lm acc m l)):=by
  intro m
  induction m with
  | zero =>
    intro acc hm ha ht l hl
    have e:lm acc 0 l=none:=rfl
    rw [e]
    have j:∀ (t v:ByteArray),Ev (fun k=>bA.j1 k (acc.map toS) t v true) (([]:List dx),false):=fun t v=>Ev.step (fun k=>by rw [bA.j1]) (Ev.ifp rfl (Ev.now _))
    refine Ev.step (fun k=>by rw [bA.l0]) (Ev.ifp rfl ?_)
    unfold strings_Cut.f
    rw [dZ,if_pos (by omega),mk_data,show (⟨#[61]⟩:ByteArray).data.toList=[61] from rfl,xG]
    cases hc:iB l with
    | none=>exact Ev.bs (Ev.ifn Bool.false_ne_true (j _ _))
    | some p =>
      obtain ⟨a,b⟩:=p
      refine Ev.bs (Ev.ifp rfl ?_)
      unfold eU.f
      refine Ev.bs ?_
      rw [List.length_map,show (((acc.length:Int)) == 8)=true from beq_iff_eq.2 (by omega)]
      by_cases h:cZ a=true
      · exact Ev.ifp h (j _ _)
      · exact Ev.ifn h (j _ _)
  | succ m ih =>
    intro acc hm ha ht l hl
    have j:∀ (t v:ByteArray),Ev (fun k=>bA.j1 k (acc.map toS) t v true) (([]:List dx),false):=fun t v=>Ev.step (fun k=>by rw [bA.j1]) (Ev.ifp rfl (Ev.now _))
    refine Ev.step (fun k=>by rw [bA.l0]) (Ev.ifp rfl ?_)
    unfold strings_Cut.f
    rw [dZ,if_pos (by omega),mk_data,show (⟨#[61]⟩:ByteArray).data.toList=[61] from rfl,xG]
    unfold lm iO
    cases hc:iB l with
    | none=>exact Ev.bs (Ev.ifn Bool.false_ne_true (j _ _))
    | some p =>
      obtain ⟨a,b⟩:=p
      have hlen:=congrArg List.length (ng _ _ _ hc)
      rw [List.length_append,List.length_cons] at hlen
      refine Ev.bs (Ev.ifp rfl ?_)
      unfold eU.f
      refine Ev.bs ?_
      rw [List.length_map,show (((acc.length:Int)) == 8)=false from beq_eq_false_iff_ne.2 (by omega)]
      by_cases h:cZ a=true
      · simp only [if_pos h]
        refine Ev.step (fun k=>by rw [bA.j1]) (Ev.ifn Bool.false_ne_true ?_)
        obtain ⟨p,hp,hv⟩:=xC (mk b) (by rw [dZ];omega)
        rw [mk_data] at hv
        refine hp.bind ?_
        cases hx:gJ true false b with
        | none =>
          rw [hx] at hv
          exact Ev.ifn (by rw [show p.2.2=false from hv];exact Bool.false_ne_true) (Ev.now _)
        | some q =>
          obtain ⟨v,r⟩:=q
          rw [hx] at hv
          rw [show p=(mk v,mk r,true) from hv]
          have hvl:=x9 _ _ _ _ _ _ rfl hx
          have ht':(acc++[(a,v)]).all (fun p=>cZ p.1)=true:=by rw [List.all_append,ht];simp [h]
          have hm':(acc.map toS++[(⟨mk a,mk v⟩:dx)])=(acc++[(a,v)]).map toS:=by rw [List.map_append];rfl
          refine Ev.ifp rfl (Ev.ifp (by rw [List.length_map];omega) (Ev.bs ?_))
          show Ev (fun k=>if (mk r).toList=[] then bA.l0 k (mk r) (acc.map toS++[(⟨mk a,mk v⟩:dx)]) ((mk r).toList != []) else _) _
          rw [hm',vI,fw]
          cases r with
          | nil =>
            refine Ev.ifp rfl ?_
            exact oK (acc++[(a,v)]) ht' (by rw [List.length_append,List.length_singleton];omega) _
          | cons c r =>
            refine Ev.ifn (by simp) (Ev.ifp (by rw [dZ];simp only [List.length_cons];omega) ?_)
            rw [iX,mk_data,List.drop_succ_cons,List.drop_zero]
            have hi:=ih (acc++[(a,v)]) (by rw [List.length_append,List.length_singleton];omega) (by rw [List.length_append,List.length_singleton];omega) ht' r (by simp only [List.length_cons] at hvl;omega)
            have e:lm (acc++[(a,v)]) m r=((iO m r).map fun y=>(a,v) :: y).bind fun rs=>if (acc++rs).all okV=true then some (acc++rs) else none:=by
              unfold lm
              cases iO m r with
              | none=>rfl
              | some y=>simp only [Option.bind_some,Option.map_some,List.append_assoc,List.singleton_append]
            rw [e] at hi
            exact hi
      · simp only [if_neg h]
        exact j _ _
theorem xY (s:ByteArray) (hs:s.size≤2147483648):Ev (fun k=>bA.f k s) (oQ (kg s.data.toList)):=by
  rw [← vG s]
  rw [bL] at hs
  generalize s.data.toList=l at hs
  unfold bA.f kg
  rw [vI]
  by_cases h:l=[]
  · rw [if_pos h,decide_eq_true h]
    exact oK [] rfl (by decide) _
  · rw [if_neg h,decide_eq_false h]
    have:=uP 8 [] rfl (by decide) rfl l hs
    unfold lm at this
    simp only [List.nil_append] at this
    exact this
def iY (first:Bool):List UInt8→List UInt8
  | []=>[]
  | c :: r=>(if jV c=true then [92,gz (c >>> 4),gz (c &&& 15)] else if (df c || (first && (decide (c=35) || decide (c=32))) || (decide (r=[]) && decide (c=32)))=true then [92,c] else [c])++iY false r
theorem vw (l:List UInt8):∀ i,i≤l.length→bI l i++iY (decide (i=0)) (l.drop i)=iY true l
  | 0,_=>by
    show bI l 0++iY true (l.drop 0)=iY true l
    rfl
  | i+1,h=>by
    have ih:=vw l i (by omega)
    rw [qL l i (by omega),iY] at ih
    rw [jo,show decide (i+1=0)=false from decide_eq_false (by omega),List.append_assoc,← ih]
    congr 2
    unfold uL jI
    have e:decide (l.drop (i+1)=[])=decide (i+1=l.length):=decide_eq_decide.2 (by rw [List.drop_eq_nil_iff];omega)
    rw [e]
theorem Ak (l:List UInt8):ut l=iY true l:=by
  have h:=vw l l.length (Nat.le_refl _)
  rw [List.drop_length] at h
  simp only [iY,List.append_nil] at h
  exact h
def fU (first:Bool):List PR→List UInt8
  | []=>[]
  | p :: r=>(if first=true then [] else [44])++(p.1++[61]++iY true p.2)++fU false r
theorem sG (rs:List PR):∀ i,i≤rs.length→eZ (rs.map toS) i++fU (decide (i=0)) (rs.drop i)=fU true rs
  | 0,_=>by
    show eZ (rs.map toS) 0++fU true (rs.drop 0)=fU true rs
    rfl
  | i+1,h=>by
    have ih:=sG rs i (by omega)
    rw [l6 rs i (by omega),fU] at ih
    rw [iL,show decide (i+1=0)=false from decide_eq_false (by omega),List.append_assoc,← ih,List.append_assoc]
    have e:((rs.map toS).getD i lJ)=toS (rs.getD i ([],[])):=by
      rw [List.getD_eq_getElem?_getD,List.getElem?_map,List.getElem?_eq_getElem (by omega),List.getD_eq_getElem?_getD,List.getElem?_eq_getElem (by omega)];rfl
    rw [e]
    unfold mf uB toS
    rw [mk_data,mk_data,Ak]
    by_cases h0:i=0
    · rw [if_pos h0,decide_eq_true h0,if_pos rfl]
      simp only [List.append_assoc]
    · rw [if_neg h0,decide_eq_false h0,if_neg Bool.false_ne_true]
      simp only [List.append_assoc]
theorem zS (rs:List PR):mD (rs.map toS)=fU true rs:=by
  have h:=sG rs rs.length (Nat.le_refl _)
  rw [List.drop_length] at h
  unfold mD
  rw [List.length_map]
  simp only [fU,List.append_nil] at h
  exact h
theorem zg (c:UInt8):jV c=true→(df (gz (c >>> 4)) || gz (c >>> 4) == 61 || gz (c >>> 4) == 35 || gz (c >>> 4) == 32)=false∧(fH (gz (c >>> 4)) && fH (gz (c &&& 15)))=true∧il (gz (c >>> 4)) * 16+il (gz (c &&& 15))=c :=
  dL (p:=fun c=>jV c=true→(df (gz (c >>> 4)) || gz (c >>> 4) == 61 || gz (c >>> 4) == 35 || gz (c >>> 4) == 32)=false∧(fH (gz (c >>> 4)) && fH (gz (c &&& 15)))=true∧il (gz (c >>> 4)) * 16+il (gz (c &&& 15))=c) (by decide +kernel) c
theorem y9 (f:Bool) (c:UInt8):jV c=false→(df c || (f && (decide (c=35) || decide (c=32))))=false→c≠44∧c≠92∧pJ f c=false:=by
  cases f
  · exact dL (p:=fun c=>jV c=false→(df c || (false && (decide (c=35) || decide (c=32))))=false→c≠44∧c≠92∧pJ false c=false) (by decide +kernel) c
  · exact dL (p:=fun c=>jV c=false→(df c || (true && (decide (c=35) || decide (c=32))))=false→c≠44∧c≠92∧pJ true c=false) (by decide +kernel) c
theorem mV (tail:List UInt8) (ht:tail=[]∨∃ t,tail=44 :: t):∀ (v:List UInt8) (f sp:Bool),(v=[]→sp=false)→gJ f sp (iY f v++tail)=some (v,tail)
  | [],f,sp,hsp=>by
    rw [hsp rfl]
    rcases ht with rfl|⟨t,rfl⟩
    · show gJ f false []=_;rw [gJ,if_neg Bool.false_ne_true]
    · show gJ f false (44 :: t)=_;rw [gJ,if_pos rfl,if_neg Bool.false_ne_true]
  | c :: r,f,sp,_=>by
    unfold iY
    by_cases ho:jV c=true
    · obtain ⟨h1,h2,h3⟩:=zg c ho
      rw [if_pos ho]
      show gJ f sp (92 :: gz (c >>> 4) :: gz (c &&& 15) :: (iY false r++tail))=_
      rw [gJ,if_neg (by decide),if_pos rfl,oC _ _ _ h1,if_pos h2,h3]
      show (gJ false false (iY false r++tail)).map _=_
      rw [mV tail ht r false false (fun _=>rfl)];rfl
    · rw [if_neg ho]
      have ho':=Bool.eq_false_iff.2 ho
      by_cases hb:(df c || (f && (decide (c=35) || decide (c=32))) || (decide (r=[]) && decide (c=32)))=true
      · rw [if_pos hb]
        show gJ f sp (92 :: c :: (iY false r++tail))=_
        have hc:(df c || c == 61 || c == 35 || c == 32)=true:=by
          simp only [Bool.or_eq_true,Bool.and_eq_true,decide_eq_true_eq,beq_iff_eq] at hb ⊢
          rcases hb with (h|⟨_,h|h⟩)|⟨_,h⟩
          · exact .inl (.inl (.inl h))
          · exact .inl (.inr h)
          · exact .inr h
          · exact .inr h
        rw [gJ,if_neg (by decide),if_pos rfl,rO _ _ hc]
        show (gJ false false (iY false r++tail)).map _=_
        rw [mV tail ht r false false (fun _=>rfl)];rfl
      · rw [if_neg hb]
        have hb':=Bool.eq_false_iff.2 hb
        rw [Bool.or_eq_false_iff] at hb'
        obtain ⟨b1,b2,b3⟩:=y9 f c ho' hb'.1
        show gJ f sp (c :: (iY false r++tail))=_
        rw [gJ,if_neg b1,if_neg b2,if_neg (by rw [b3];exact Bool.false_ne_true),mV tail ht r false (c == 32) ?_]
        · rfl
        · intro hr
          have:=hb'.2
          rw [decide_eq_true hr,Bool.true_and] at this
          exact beq_eq_false_iff_ne.2 (of_decide_eq_false this)
theorem ql:∀ (t r:List UInt8),(∀ c ∈ t,c≠61)→iB (t++61 :: r)=some (t,r)
  | [],r,_=>by show iB (61 :: r)=_;unfold iB;rw [if_pos rfl]
  | c :: t,r,h=>by
    show iB (c :: (t++61 :: r))=_
    unfold iB
    rw [if_neg (h c (List.mem_cons_self)),ql t r (fun x hx=>h x (List.mem_cons_of_mem _ hx))];rfl
theorem uw {t:List UInt8} (h:cZ t=true):∀ c ∈ t,c≠61:=by
  intro c hc e
  unfold cZ at h
  simp only [Bool.and_eq_true] at h
  have:=List.all_eq_true.1 h.2 c hc
  rw [e] at this
  exact absurd this (by decide)
theorem uj (rs:List PR):fU false rs=[]∨∃ t,fU false rs=44 :: t:=by
  cases rs with
  | nil=>exact Or.inl rfl
  | cons p r=>exact Or.inr ⟨p.1++[61]++iY true p.2++fU false r,rfl⟩
theorem nR:∀ (m:Nat) (rs:List PR),rs≠[]→rs.length≤m→rs.all okR=true→iO m (fU true rs)=some rs
  | 0,rs,h,hl,_=>absurd (List.eq_nil_of_length_eq_zero (by omega)) h
  | m+1,[],h,_,_=>absurd rfl h
  | m+1,(t,v) :: rs,_,hl,hr=>by
    rw [List.all_cons,Bool.and_eq_true] at hr
    unfold okR okV at hr
    simp only [Bool.and_eq_true] at hr
    obtain ⟨⟨h1,h2,h3⟩,h4⟩:=hr
    have hv:v≠[]:=by intro e;subst e;exact absurd h2 (by decide)
    have e:fU true ((t,v) :: rs)=t++61 :: (iY true v++fU false rs):=by
      show []++(t++[61]++iY true v)++fU false rs=_
      simp
    unfold iO
    rw [e,ql t _ (uw h1)]
    simp only [if_pos h1]
    rw [mV (fU false rs) (uj rs) v true false (fun h=>absurd h hv)]
    cases rs with
    | nil=>rfl
    | cons p r =>
      have ih:=nR m (p :: r) (by simp) (by simp only [List.length_cons] at hl ⊢;omega) h4
      have e2:fU false (p :: r)=44 :: fU true (p :: r):=rfl
      rw [e2]
      simp only [ih,Option.map_some]
theorem wB {rs:List PR} (h:fU true rs=[]):rs=[]:=by
  cases rs with
  | nil=>rfl
  | cons p r =>
    exfalso
    have:=congrArg List.length h
    simp [fU] at this
theorem uD (rs:List PR) (h:om rs=true):kg (fU true rs)=some rs:=by
  unfold om at h
  rw [Bool.and_eq_true] at h
  obtain ⟨h1,h2⟩:=h
  unfold kg
  by_cases h0:rs=[]
  · subst h0;rfl
  · rw [if_neg (fun e=>h0 (wB e)),nR 8 rs h0 (of_decide_eq_true h2) h1]
    rw [Option.bind_some,if_pos]
    refine List.all_eq_true.2 fun p hp=>?_
    have:=List.all_eq_true.1 h1 p hp
    unfold okR at this
    rw [Bool.and_eq_true] at this
    exact this.2
theorem nK:∀ (m:Nat) (l:List UInt8) (rs:List PR),iO m l=some rs→rs.length≤m∧rs≠[]∧rs.all (fun p=>cZ p.1)=true
  | 0,l,rs,h=>by cases h
  | m+1,l,rs,h=>by
    unfold iO at h
    cases hc:iB l with
    | none=>rw [hc] at h;cases h
    | some p =>
      obtain ⟨a,b⟩:=p
      rw [hc] at h
      simp only at h
      by_cases ht:cZ a=true
      · rw [if_pos ht] at h
        cases hx:gJ true false b with
        | none=>rw [hx] at h;cases h
        | some q =>
          obtain ⟨v,r⟩:=q
          rw [hx] at h
          cases r with
          | nil =>
            obtain rfl:=Option.some.inj h
            exact ⟨by simp,by simp,by simp [ht]⟩
          | cons c r =>
            obtain ⟨y,h1,rfl⟩:=Option.map_eq_some_iff.1 h
            obtain ⟨i1,i2,i3⟩:=nK m r y h1
            exact ⟨by simp only [List.length_cons];omega,by simp,by rw [List.all_cons,i3];simp [ht]⟩
      · rw [if_neg ht] at h;cases h
theorem qC {l:List UInt8} {rs:List PR} (h:kg l=some rs):om rs=true:=by
  unfold kg at h
  by_cases h0:l=[]
  · rw [if_pos h0] at h
    obtain rfl:=Option.some.inj h
    decide
  · rw [if_neg h0] at h
    obtain ⟨y,h1,h2⟩:=Option.bind_eq_some_iff.1 h
    by_cases ho:y.all okV=true
    · rw [if_pos ho] at h2
      obtain rfl:=Option.some.inj h2
      obtain ⟨i1,i2,i3⟩:=nK _ _ _ h1
      unfold om
      rw [decide_eq_true i1,Bool.and_true]
      refine List.all_eq_true.2 fun p hp=>?_
      unfold okR
      rw [List.all_eq_true.1 i3 p hp,List.all_eq_true.1 ho p hp];rfl
    · rw [if_neg ho] at h2;cases h2
def gV (p:PR):PR:=(p.1.map fP,fu p.2)
def qb (rs:List PR):Option (List UInt8):=if rs.all (fun p=>!(fu p.2).isEmpty)=true then some (fU true (rs.map gV)) else none
def rR (l:List UInt8):Option (List UInt8):=(kg l).bind qb
theorem yU (f:Bool):∀ v:List UInt8,(iY f v).length≤3 * v.length:=by
  intro v
  induction v generalizing f with
  | nil=>exact Nat.zero_le _
  | cons c r ih =>
    unfold iY
    rw [List.length_append,List.length_cons]
    have:=ih false
    split
    · simp only [List.length_cons,List.length_nil];omega
    · split <;> (simp only [List.length_cons,List.length_nil];omega)
theorem lu (l:List UInt8):(fu l).length≤l.length:=by
  unfold fu
  have h:=kX ((Lib.trimB l 32).map fP) _ (Nat.le_refl _)
  rw [List.take_length,List.length_map] at h
  exact Nat.le_trans h (qH l)
theorem qD (n:Nat):∀ (rs:List PR) (f:Bool),(∀ p ∈ rs,p.1.length≤30∧p.2.length≤n)→(fU f rs).length≤rs.length * (32+3 * n)
  | [],_,_=>Nat.zero_le _
  | p :: r,f,h=>by
    have ih:=qD n r false (fun q hq=>h q (List.mem_cons_of_mem _ hq))
    have hp:=h p (List.mem_cons_self)
    have he:=yU true p.2
    unfold fU
    simp only [List.length_append,List.length_cons,List.length_nil]
    rw [Nat.add_mul]
    have:(if f=true then ([]:List UInt8) else [44]).length≤1:=by split <;> simp
    omega
theorem xU (rs:List PR) (hr:om rs=true):∀ n i:Nat,rs.length - i=n→i≤rs.length→(rs.take i).all (fun p=>!(fu p.2).isEmpty)=true →
    Ev (fun k=>dB.l0 k (((rs.take i).map gV++rs.drop i).map toS) (rs.length:Int) (i:Int)) (iq (qb rs)):=by
  have hm:=hr
  unfold om at hm
  rw [Bool.and_eq_true,decide_eq_true_eq] at hm
  have hb:∀ p ∈ rs,p.1.length≤30∧p.2.length≤100:=by
    intro p hp
    have:=List.all_eq_true.1 hm.1 p hp
    unfold okR okV cZ at this
    simp only [Bool.and_eq_true,decide_eq_true_eq] at this
    exact ⟨this.1.1.1.2,this.2.2⟩
  intro n
  induction n with
  | zero =>
    intro i hn hi hall
    have e:i=rs.length:=by omega
    subst e
    rw [List.take_length] at hall
    rw [List.take_length,List.drop_length,List.append_nil]
    have ek:qb rs=some (fU true (rs.map gV)):=by unfold qb;rw [if_pos hall]
    rw [ek]
    refine Ev.step (fun k=>by rw [dB.l0]) (Ev.ifn (by omega) ?_)
    unfold jJ.f
    rw [zS]
    have hl:=qD 100 (rs.map gV) true (fun q hq=>by
      obtain ⟨p,hp,rfl⟩:=List.mem_map.1 hq
      have:=hb p hp
      unfold gV
      have h2:=lu p.2
      simp only [List.length_map]
      omega)
    rw [List.length_map] at hl
    rw [if_pos (by omega)]
    exact Ev.const fun k=>rfl
  | succ n ih =>
    intro i hn hi hall
    have hget:(((rs.take i).map gV++rs.drop i).getD i ([],[]))=rs.getD i ([],[]):=by
      rw [List.getD_eq_getElem?_getD,List.getElem?_append_right (by rw [List.length_map,List.length_take];omega),List.length_map,List.length_take,Nat.min_eq_left hi,Nat.sub_self,List.getElem?_drop,Nat.add_zero,← List.getD_eq_getElem?_getD]
    have hlen:((rs.take i).map gV++rs.drop i).length=rs.length:=by
      rw [List.length_append,List.length_map,List.length_take,List.length_drop];omega
    refine Ev.step (fun k=>by rw [dB.l0]) (Ev.ifp (by omega) (Ev.ifp (by omega) (Ev.ifp (by rw [List.length_map,hlen];omega) ?_)))
    rw [yJ _ i (by omega),hget]
    generalize hp:rs.getD i ([],[])=p
    have hpm:p ∈ rs:=by
      rw [← hp,List.getD_eq_getElem?_getD,List.getElem?_eq_getElem (by omega)]
      exact List.getElem_mem _
    have hbp:=hb p hpm
    have e1:eG.f (toS p).f0=some (mk (p.1.map fP)):=by
      unfold eG.f toS
      rw [dZ,if_pos (by omega)]
      congr 1
      apply oD
      rw [jQ,mk_data,mk_data]
    have e2:fK.f (toS p).f1=some (mk (fu p.2)):=by
      unfold fK.f toS
      rw [dZ,if_pos (by omega),mk_data]
    rw [e1,e2]
    refine Ev.bs (Ev.bs (Ev.bs ?_))
    rw [fw]
    by_cases hf:fu p.2=[]
    · refine Ev.ifp hf ?_
      have ek:qb rs=none:=by
        unfold qb
        rw [if_neg]
        intro h
        have:=List.all_eq_true.1 h p hpm
        rw [hf] at this
        exact absurd this (by decide)
      rw [ek]
      exact Ev.now _
    · refine Ev.ifn hf ?_
      have hset:((((rs.take i).map gV++rs.drop i).map toS).set (i:Int).toNat (⟨mk (p.1.map fP),(toS p).f1⟩:dx)).set (i:Int).toNat (⟨(aX ((((rs.take i).map gV++rs.drop i).map toS).set (i:Int).toNat (⟨mk (p.1.map fP),(toS p).f1⟩:dx)) (i:Int)).f0,mk (fu p.2)⟩:dx)=(((rs.take (i+1)).map gV++rs.drop (i+1)).map toS):=by
        rw [Int.toNat_natCast,List.set_set]
        have er:(aX ((((rs.take i).map gV++rs.drop i).map toS).set i (⟨mk (p.1.map fP),(toS p).f1⟩:dx)) (i:Int)).f0=mk (p.1.map fP):=by
          unfold aX
          rw [Int.toNat_natCast,List.getD_eq_getElem?_getD,List.getElem?_set_self (by rw [List.length_map,hlen];omega)];rfl
        rw [er,l6 rs i (by omega),hp,List.take_succ_eq_append_getElem (by omega),List.map_append,List.map_append,List.map_append,List.map_append,List.map_cons]
        have eg:rs[i]'(by omega)=p:=by rw [← hp,List.getD_eq_getElem?_getD,List.getElem?_eq_getElem (by omega)];rfl
        rw [eg,List.set_append_right _ _ (by rw [List.length_map,List.length_map,List.length_take];omega)]
        rw [show i - ((rs.take i).map gV |>.map toS).length=0 by rw [List.length_map,List.length_map,List.length_take];omega]
        rw [List.set_cons_zero,List.append_assoc]
        rfl
      rw [hset,wrap_small _ (by omega) (by omega),show (i:Int)+1=((i+1:Nat):Int) by omega]
      refine ih (i+1) (by omega) (by omega) ?_
      rw [List.take_succ_eq_append_getElem (by omega),List.all_append,hall]
      have eg:rs[i]'(by omega)=p:=by rw [← hp,List.getD_eq_getElem?_getD,List.getElem?_eq_getElem (by omega)];rfl
      rw [eg]
      simp [List.isEmpty_iff,hf]
theorem AC (s:ByteArray) (hs:s.size≤2147483648):Ev (fun k=>dB.f k s) (iq (rR s.data.toList)):=by
  unfold dB.f rR
  refine (xY s hs).bind ?_
  cases h:kg s.data.toList with
  | none=>exact Ev.ifn Bool.false_ne_true (Ev.now _)
  | some rs =>
    refine Ev.ifp rfl ?_
    have:=xU rs (qC h) rs.length 0 (by omega) (by omega) (by rfl)
    show Ev (fun k=>dB.l0 k (rs.map toS) ((rs.map toS).length:Int) 0) (iq (qb rs))
    rw [List.length_map]
    exact this
def sqR (b:Bool):List UInt8→List UInt8
  | []=>[]
  | c :: r=>if c=32∧b=true then sqR true r else c :: sqR (decide (c=32)) r
theorem sM:∀ (l acc:List UInt8),l.foldl iP acc=acc++sqR (decide (acc.getLast?=some 32)) l
  | [],acc=>by simp [sqR]
  | c :: r,acc=>by
    rw [List.foldl_cons,sM r]
    unfold iP
    conv=>rhs;rw [sqR]
    by_cases h:c=32∧acc.getLast?=some 32
    · rw [if_pos h,if_pos ⟨h.1,decide_eq_true h.2⟩,decide_eq_true h.2]
    · rw [if_neg h,if_neg (fun e=>h ⟨e.1,of_decide_eq_true e.2⟩),List.append_assoc]
      have:(decide ((acc++[c]).getLast?=some 32))=decide (c=32):=decide_eq_decide.2 (by simp)
      rw [this];rfl
theorem sq_R (l:List UInt8):sq l=sqR false l:=by
  unfold sq
  rw [sM];rfl
theorem o5:∀ (l:List UInt8) (b:Bool),sqR b (sqR b l)=sqR b l
  | [],b=>rfl
  | c :: r,b=>by
    by_cases h:c=32∧b=true
    · have e:sqR b (c :: r)=sqR true r:=by rw [sqR,if_pos h]
      rw [e,h.2]
      exact o5 r true
    · have e:sqR b (c :: r)=c :: sqR (decide (c=32)) r:=by rw [sqR,if_neg h]
      rw [e,sqR,if_neg h,o5 r]
theorem wh (c:UInt8):fP (fP c)=fP c:=dL (p:=fun c=>fP (fP c)=fP c) (by decide +kernel) c
theorem tH (l:List UInt8):(l.map fP).map fP=l.map fP:=by
  rw [List.map_map]
  exact List.map_congr_left fun c _=>wh c
theorem r9:∀ (l:List UInt8) (b:Bool),(sqR b l).map fP=sqR b (l.map fP)
  | [],b=>rfl
  | c :: r,b=>by
    rw [List.map_cons,sqR,sqR]
    have e:(fP c=32)=(c=32):=propext (iC c)
    by_cases h:c=32∧b=true
    · rw [if_pos h,if_pos ⟨(iC c).2 h.1,h.2⟩,r9 r]
    · rw [if_neg h,if_neg (fun x=>h ⟨(iC c).1 x.1,x.2⟩),List.map_cons,r9 r]
      simp only [e]
theorem oZ:∀ (l:List UInt8) (b:Bool),l≠[]→l.getLast?≠some 32→(sqR b l).getLast?=l.getLast?∧sqR b l≠[]
  | [],b,h,_=>absurd rfl h
  | [c],b,_,h=>by
    have hc:c≠32:=fun e=>h (by rw [e];rfl)
    rw [sqR,if_neg (fun x=>hc x.1)]
    exact ⟨rfl,by simp⟩
  | c :: d :: r,b,_,h=>by
    have h':(d :: r).getLast?≠some 32:=by rw [List.getLast?_cons_cons] at h;exact h
    rw [sqR]
    by_cases hx:c=32∧b=true
    · rw [if_pos hx,List.getLast?_cons_cons]
      exact oZ (d :: r) true (by simp) h'
    · rw [if_neg hx,List.getLast?_cons_cons]
      obtain ⟨h1,h2⟩:=oZ (d :: r) (decide (c=32)) (by simp) h'
      refine ⟨?_,by simp⟩
      rw [← h1]
      cases hs:sqR (decide (c=32)) (d :: r) with
      | nil=>exact absurd hs h2
      | cons x y=>rw [List.getLast?_cons_cons]
theorem oV (l:List UInt8):(l.dropWhile (· == 32)).head?≠some 32:=by
  induction l with
  | nil=>simp
  | cons c r ih =>
    rw [List.dropWhile_cons]
    split
    · exact ih
    · rename_i h
      intro e
      have:c=32:=by simpa using e
      exact h (by rw [this];rfl)
theorem tK (l:List UInt8) (h:l.head?≠some 32):l.dropWhile (· == 32)=l:=by
  cases l with
  | nil=>rfl
  | cons c r =>
    rw [List.dropWhile_cons,if_neg]
    intro e
    exact h (by rw [beq_iff_eq.1 e];rfl)
theorem uz (l:List UInt8) (h:l.getLast?≠some 32):(l.dropWhile (· == 32)).getLast?≠some 32:=by
  induction l with
  | nil=>simp
  | cons c r ih =>
    rw [List.dropWhile_cons]
    split
    · cases r with
      | nil=>simp
      | cons d r=>exact ih (by rw [List.getLast?_cons_cons] at h;exact h)
    · exact h
theorem wP (l:List UInt8):(Lib.trimB l 32).head?≠some 32:=oV _
theorem wX (l:List UInt8):(Lib.trimB l 32).getLast?≠some 32:=by
  refine uz _ ?_
  unfold Lib.trimRightB
  rw [List.getLast?_reverse]
  exact oV _
theorem zb (l:List UInt8) (h1:l.head?≠some 32) (h2:l.getLast?≠some 32):Lib.trimB l 32=l:=by
  unfold Lib.trimB Lib.trimLeftB Lib.trimRightB
  rw [tK l.reverse (by rw [List.head?_reverse];exact h2),List.reverse_reverse,tK l h1]
theorem ow (l:List UInt8):fu l=sqR false ((Lib.trimB l 32).map fP):=sq_R _
theorem xN (l:List UInt8) (h1:l.head?≠some 32) (h2:l.getLast?≠some 32):(l.map fP).head?≠some 32∧(l.map fP).getLast?≠some 32:=by
  constructor
  · intro e
    rw [List.head?_map,Option.map_eq_some_iff] at e
    obtain ⟨c,hc,e⟩:=e
    exact h1 (by rw [hc,(iC c).1 e])
  · intro e
    rw [List.getLast?_map,Option.map_eq_some_iff] at e
    obtain ⟨c,hc,e⟩:=e
    exact h2 (by rw [hc,(iC c).1 e])
theorem xz (l:List UInt8):(sqR false l).head?=l.head?:=by
  cases l with
  | nil=>rfl
  | cons c r=>rw [sqR,if_neg (fun x=>Bool.false_ne_true x.2)];rfl
theorem qJ (l:List UInt8):(fu l).head?≠some 32∧(fu l).getLast?≠some 32:=by
  rw [ow]
  obtain ⟨h1,h2⟩:=xN _ (wP l) (wX l)
  refine ⟨by rw [xz];exact h1,?_⟩
  by_cases h:(Lib.trimB l 32).map fP=[]
  · rw [h];simp [sqR]
  · rw [(oZ _ false h h2).1];exact h2
theorem nC (l:List UInt8):fu (fu l)=fu l:=by
  obtain ⟨h1,h2⟩:=qJ l
  rw [ow (fu l),zb _ h1 h2,ow l,r9,tH,o5]
def cst (f:Bool) (c:UInt8):Nat:=if jV c=true then 3 else if (df c || (f && (decide (c=35) || decide (c=32))))=true then 2 else 1
def fD (f:Bool):List UInt8→Nat
  | []=>0
  | c :: r=>cst f c+fD false r
theorem zW (f:Bool) (c:UInt8):1≤cst f c:=by unfold cst;split;omega;split <;> omega
theorem xh (f:Bool) (c:UInt8):cst f c≤3:=by unfold cst;split;omega;split <;> omega
theorem y8 (f:Bool) (c:UInt8):pJ f c=false→cst f c=1:=by
  cases f
  · exact dL (p:=fun c=>pJ false c=false→cst false c=1) (by decide +kernel) c
  · exact dL (p:=fun c=>pJ true c=false→cst true c=1) (by decide +kernel) c
theorem y7 (f:Bool) (c:UInt8):(df c || c == 61 || c == 35 || c == 32)=true→cst f c≤2:=by
  cases f
  · exact dL (p:=fun c=>(df c || c == 61 || c == 35 || c == 32)=true→cst false c≤2) (by decide +kernel) c
  · exact dL (p:=fun c=>(df c || c == 61 || c == 35 || c == 32)=true→cst true c≤2) (by decide +kernel) c
theorem za (f:Bool) (c:UInt8):cst f (fP c)=cst f c:=by
  cases f
  · exact dL (p:=fun c=>cst false (fP c)=cst false c) (by decide +kernel) c
  · exact dL (p:=fun c=>cst true (fP c)=cst true c) (by decide +kernel) c
theorem wV (c:UInt8):cst true c≤cst false c+1:=dL (p:=fun c=>cst true c≤cst false c+1) (by decide +kernel) c
theorem wS (f:Bool) (l:List UInt8) (b:UInt8) (n:Nat) (h:nA l=some (b,n)):cst f b≤n+1:=by
  cases l with
  | nil=>cases h
  | cons c r =>
    cases hc:(df c || c == 61 || c == 35 || c == 32) with
    | true =>
      rw [rO c r hc] at h
      obtain ⟨e1,e2⟩:=Prod.mk.inj (Option.some.inj h)
      rw [← e1,← e2]
      exact y7 f c hc
    | false =>
      cases r with
      | nil=>rw [rC c hc] at h;cases h
      | cons d r =>
        rw [oC c d r hc] at h
        by_cases hh:(fH c && fH d)=true
        · rw [if_pos hh] at h
          obtain ⟨e1,e2⟩:=Prod.mk.inj (Option.some.inj h)
          have:=xh f b
          omega
        · rw [if_neg hh] at h;cases h
theorem xq:∀ (n:Nat) (l:List UInt8) (f sp:Bool) (v r:List UInt8),l.length=n→gJ f sp l=some (v,r)→fD f v+r.length≤l.length:=by
  intro n
  induction n using Nat.strongRecOn with
  | _ n ih =>
    intro l f sp v r hn h
    cases l with
    | nil =>
      rw [gJ] at h
      split at h
      · cases h
      · obtain ⟨rfl,rfl⟩:=Prod.mk.inj (Option.some.inj h)
        exact Nat.le_refl _
    | cons c l =>
      rw [List.length_cons] at hn
      rw [gJ] at h
      by_cases h44:c=44
      · rw [if_pos h44] at h
        split at h
        · cases h
        · obtain ⟨rfl,rfl⟩:=Prod.mk.inj (Option.some.inj h)
          simp [fD]
      rw [if_neg h44] at h
      by_cases h92:c=92
      · rw [if_pos h92] at h
        cases hx:nA l with
        | none=>rw [hx] at h;cases h
        | some q =>
          obtain ⟨b,m⟩:=q
          rw [hx] at h
          obtain ⟨⟨v',r'⟩,h1,h2⟩:=Option.map_eq_some_iff.1 h
          obtain ⟨rfl,rfl⟩:=Prod.mk.inj h2
          obtain ⟨e1,e2⟩:=o8 _ _ _ hx
          have:=ih _ (by rw [List.length_drop];omega) (l.drop m) _ _ _ _ rfl h1
          have hc:=wS f _ _ _ hx
          rw [List.length_drop] at this
          simp only [fD,List.length_cons]
          omega
      · rw [if_neg h92] at h
        by_cases hb:pJ f c=true
        · rw [if_pos hb] at h;cases h
        · rw [if_neg hb] at h
          obtain ⟨⟨v',r'⟩,h1,h2⟩:=Option.map_eq_some_iff.1 h
          obtain ⟨rfl,rfl⟩:=Prod.mk.inj h2
          have:=ih l.length (by omega) l _ _ _ _ rfl h1
          have hc:=y8 f c (Bool.eq_false_iff.2 hb)
          simp only [fD,List.length_cons]
          omega
theorem qO:∀ (v:List UInt8) (f:Bool),v.getLast?≠some 32→(iY f v).length=fD f v
  | [],f,_=>rfl
  | c :: r,f,h=>by
    have hr:(decide (r=[]) && decide (c=32))=false:=by
      by_cases e:r=[]
      · subst e
        rw [decide_eq_false (show ¬ c=32 from fun e=>h (by rw [e];rfl)),Bool.and_false]
      · rw [decide_eq_false e,Bool.false_and]
    have h':r.getLast?≠some 32:=by
      cases r with
      | nil=>simp
      | cons d r=>rw [List.getLast?_cons_cons] at h;exact h
    unfold iY fD cst
    rw [hr,Bool.or_false,List.length_append,qO r false h']
    congr 1
    split
    · rfl
    · split <;> rfl
theorem yg (f:Bool):∀ v:List UInt8,fD f (v.map fP)=fD f v:=by
  intro v
  induction v generalizing f with
  | nil=>rfl
  | cons c r ih=>simp only [List.map_cons,fD];rw [za,ih]
theorem oG:∀ (v:List UInt8) (b:Bool),fD false (sqR b v)≤fD false v
  | [],b=>Nat.le_refl _
  | c :: r,b=>by
    rw [sqR]
    by_cases h:c=32∧b=true
    · rw [if_pos h]
      have:=oG r true
      simp only [fD];omega
    · rw [if_neg h]
      have:=oG r (decide (c=32))
      simp only [fD];omega
theorem zm (v:List UInt8):fD true (sqR false v)≤fD true v:=by
  cases v with
  | nil=>exact Nat.le_refl _
  | cons c r =>
    rw [sqR,if_neg (fun x=>Bool.false_ne_true x.2)]
    have:=oG r (decide (c=32))
    simp only [fD];omega
theorem yQ (f:Bool):∀ a b:List UInt8,fD f a≤fD f (a++b):=by
  intro a
  induction a generalizing f with
  | nil=>intro b;exact Nat.zero_le _
  | cons c r ih =>
    intro b
    have:=ih false b
    simp only [List.cons_append,fD];omega
theorem pW:∀ r:List UInt8,fD true (r.dropWhile (· == 32))≤fD false r+1
  | []=>Nat.zero_le _
  | c :: r=>by
    rw [List.dropWhile_cons]
    split
    · have:=pW r
      have:=zW false c
      simp only [fD];omega
    · have:=wV c
      simp only [fD];omega
theorem wL (l:List UInt8):fD true (l.dropWhile (· == 32))≤fD true l:=by
  cases l with
  | nil=>exact Nat.le_refl _
  | cons c r =>
    rw [List.dropWhile_cons]
    split
    · rename_i h
      have:=pW r
      have e:cst true c=2:=by rw [beq_iff_eq.1 h];decide
      simp only [fD];omega
    · exact Nat.le_refl _
theorem wz (l:List UInt8):∃ b,l=Lib.trimRightB l 32++b:=by
  refine ⟨(l.reverse.takeWhile (· == 32)).reverse,?_⟩
  unfold Lib.trimRightB
  rw [← List.reverse_append,List.takeWhile_append_dropWhile,List.reverse_reverse]
theorem wE (l:List UInt8):fD true (Lib.trimB l 32)≤fD true l:=by
  refine Nat.le_trans (wL _) ?_
  obtain ⟨b,hb⟩:=wz l
  conv=>rhs;rw [hb]
  exact yQ true _ _
theorem vW (v:List UInt8):(iY true (fu v)).length≤fD true v:=by
  rw [qO _ _ (qJ v).2,ow]
  refine Nat.le_trans (zm _) ?_
  rw [yg]
  exact wE v
def qc (f:Bool):List PR→Nat
  | []=>0
  | p :: r=>(if f=true then 0 else 1)+(p.1.length+1+fD true p.2)+qc false r
theorem uR {rs:List PR} (h:rs≠[]):qc false rs=1+qc true rs:=by
  cases rs with
  | nil=>exact absurd rfl h
  | cons p r=>simp only [qc,if_neg Bool.false_ne_true,if_pos];omega
theorem nL:∀ (m:Nat) (l:List UInt8) (rs:List PR),iO m l=some rs→qc true rs≤l.length
  | 0,l,rs,h=>by cases h
  | m+1,l,rs,h=>by
    unfold iO at h
    cases hc:iB l with
    | none=>rw [hc] at h;cases h
    | some p =>
      obtain ⟨a,b⟩:=p
      have hlen:=congrArg List.length (ng _ _ _ hc)
      rw [List.length_append,List.length_cons] at hlen
      rw [hc] at h
      simp only at h
      by_cases ht:cZ a=true
      · rw [if_pos ht] at h
        cases hx:gJ true false b with
        | none=>rw [hx] at h;cases h
        | some q =>
          obtain ⟨v,r⟩:=q
          rw [hx] at h
          have hv:=xq _ _ _ _ _ _ rfl hx
          cases r with
          | nil =>
            obtain rfl:=Option.some.inj h
            simp only [qc,if_pos,List.length_nil] at hv ⊢
            omega
          | cons c r =>
            obtain ⟨y,h1,rfl⟩:=Option.map_eq_some_iff.1 h
            have ih:=nL m r y h1
            have e:=uR (nK m r y h1).2.1
            simp only [qc,if_pos,List.length_cons] at hv ⊢
            omega
      · rw [if_neg ht] at h;cases h
theorem lQ:∀ (rs:List PR) (f:Bool),(fU f (rs.map gV)).length≤qc f rs
  | [],f=>Nat.le_refl _
  | p :: r,f=>by
    have ih:=lQ r false
    have hc:=vW p.2
    rw [List.map_cons]
    unfold fU qc gV
    simp only [List.length_append,List.length_cons,List.length_nil,List.length_map]
    have:(if f=true then ([]:List UInt8) else [44]).length=if f=true then 0 else 1:=by split <;> rfl
    have e2:(fU false (r.map fun p=>(p.1.map fP,fu p.2))).length≤qc false r:=ih
    rw [this]
    omega
theorem zK {l k:List UInt8} (h:rR l=some k):k.length≤l.length:=by
  unfold rR at h
  obtain ⟨rs,h1,h2⟩:=Option.bind_eq_some_iff.1 h
  unfold qb at h2
  by_cases ha:rs.all (fun p=>!(fu p.2).isEmpty)=true
  · rw [if_pos ha] at h2
    obtain rfl:=Option.some.inj h2
    refine Nat.le_trans (lQ rs true) ?_
    unfold kg at h1
    by_cases h0:l=[]
    · rw [if_pos h0] at h1
      obtain rfl:=Option.some.inj h1
      exact Nat.zero_le _
    · rw [if_neg h0] at h1
      obtain ⟨y,g1,g2⟩:=Option.bind_eq_some_iff.1 h1
      split at g2
      · obtain rfl:=Option.some.inj g2
        exact nL _ _ _ g1
      · cases g2
  · rw [if_neg ha] at h2;cases h2
theorem zN (c:UInt8):iJ (fP c)=iJ c:=dL (p:=fun c=>iJ (fP c)=iJ c) (by decide +kernel) c
theorem yu (c:UInt8):dH (fP c)=dH c:=dL (p:=fun c=>dH (fP c)=dH c) (by decide +kernel) c
theorem wJ (t:List UInt8):cZ (t.map fP)=cZ t:=by
  unfold cZ
  rw [List.length_map,List.all_map]
  have e1:(t.map fP).isEmpty=t.isEmpty:=by cases t <;> rfl
  have e2:(dH ∘ fP)=dH:=funext yu
  rw [e1,e2]
  cases t with
  | nil=>rfl
  | cons c r=>rw [List.map_cons];simp only [List.getD_cons_zero];rw [zN]
theorem uA (p:PR):gV (gV p)=gV p:=by
  unfold gV
  simp only
  rw [tH,nC]
theorem yl {rs:List PR} (h:om rs=true) (ha:rs.all (fun p=>!(fu p.2).isEmpty)=true):om (rs.map gV)=true:=by
  unfold om at h ⊢
  rw [Bool.and_eq_true] at h ⊢
  refine ⟨?_,by rw [List.length_map];exact h.2⟩
  refine List.all_eq_true.2 fun q hq=>?_
  obtain ⟨p,hp,rfl⟩:=List.mem_map.1 hq
  have h1:=List.all_eq_true.1 h.1 p hp
  have h2:=List.all_eq_true.1 ha p hp
  unfold okR okV at h1 ⊢
  simp only [Bool.and_eq_true,decide_eq_true_eq] at h1 ⊢
  unfold gV
  simp only
  have:=lu p.2
  exact ⟨by rw [wJ];exact h1.1,h2,by omega⟩
theorem xD {l k:List UInt8} (h:rR l=some k):rR k=some k:=by
  unfold rR at h
  obtain ⟨rs,h1,h2⟩:=Option.bind_eq_some_iff.1 h
  unfold qb at h2
  by_cases ha:rs.all (fun p=>!(fu p.2).isEmpty)=true
  · rw [if_pos ha] at h2
    obtain rfl:=Option.some.inj h2
    unfold rR
    rw [uD _ (yl (qC h1) ha),Option.bind_some]
    unfold qb
    rw [if_pos]
    · rw [List.map_map]
      congr 2
      exact List.map_congr_left fun p _=>uA p
    · refine List.all_eq_true.2 fun q hq=>?_
      obtain ⟨p,hp,rfl⟩:=List.mem_map.1 hq
      unfold gV
      simp only
      rw [nC]
      exact List.all_eq_true.1 ha p hp
  · rw [if_neg ha] at h2;cases h2
def eQ (t v:List UInt8):Option (List UInt8):=jM (rR v) t v
theorem jv (t v:ByteArray) (ht:t.size≤9223372036854775807):Ev (fun k=>bB.f k t v) (iq (eQ t.data.toList v.data.toList)) :=
  zf t v _ ht (fun hv _=>AC v (by omega))
theorem jF {t v x:List UInt8} (h:eQ t v=some x):x≠[]∧x.length≤100:=by
  unfold eQ jM at h
  split at h
  · cases h
  · rename_i hv
    rw [not_or] at hv
    split at h
    · split at h
      · cases h
      · rename_i hf
        obtain rfl:=Option.some.inj h
        have:=lu v
        exact ⟨hf,by omega⟩
    · split at h
      · split at h
        · obtain rfl:=Option.some.inj h
          exact ⟨hv.1,by omega⟩
        · cases h
      · split at h
        · split at h
          · cases h
          · rename_i hk
            have:=zK h
            refine ⟨fun e=>hk (by rw [h,e]),by omega⟩
        · split at h
          · obtain rfl:=Option.some.inj h
            exact ⟨hv.1,by omega⟩
          · cases h
theorem vV {t v x:List UInt8} (h:eQ t v=some x):eQ t x=some x:=by
  have hs:=jF h
  have hx:¬ (x=[]∨100 < x.length):=by rw [not_or];exact ⟨hs.1,by omega⟩
  unfold eQ jM at h ⊢
  rw [if_neg hx]
  split at h
  · cases h
  · split at h
    · rename_i r1
      split at h
      · cases h
      · obtain rfl:=Option.some.inj h
        rw [if_pos r1,nC,if_neg hs.1]
    · rename_i r1
      rw [if_neg r1]
      split at h
      · rename_i r2
        rw [if_pos r2]
        split at h
        · rename_i hn
          obtain rfl:=Option.some.inj h
          rw [if_pos hn]
        · cases h
      · rename_i r2
        rw [if_neg r2]
        split at h
        · rename_i r3
          rw [if_pos r3]
          split at h
          · cases h
          · rw [xD h,if_neg (fun e=>hs.1 (Option.some.inj e))]
        · rename_i r3
          rw [if_neg r3]
          split at h
          · rename_i r4
            rw [if_pos r4]
          · cases h
end Go.Proofs.YthfpaoacjpjnfaaGreatDoor.P

namespace Go.Proofs.YthfpaoacjpjnfaaGreatDoor.P
open Go.RowKit Go.Proofs.YthfpaoacjpjnfaaGreatDoorW.PrintWords Go.Proofs.YthfpaoacjpjnfaaGreatDoorW.PrintLast Go.Proofs.YthfpaoacjpjnfaaGreatDoorW.PrintMore
attribute [local go_sem] dP dS eP eO dE dD dQ dR
end Go.Proofs.YthfpaoacjpjnfaaGreatDoor.P

namespace Go.Proofs.YthfpaoacjpjnfaaGreatDoor.P
open Go.RowKit Go.Proofs.YthfpaoacjpjnfaaGreatDoorW.PrintWords Go.Proofs.YthfpaoacjpjnfaaGreatDoorW.PrintLast Go.Proofs.YthfpaoacjpjnfaaGreatDoorW.PrintMore
theorem one_byte (w:World) (c:Int):(convert 34 9 (.slice (some ⟨w.heap.size,0,none⟩) 1 1)).run Tryz.prog (w.alloc (.cells #[.int .u8 c] 5))=.ok (.string (strOfNums [c])) (w.alloc (.cells #[.int .u8 c] 5)):=by
  refine run_convert_bytes_arg _ _ _ Tryz.underlying34 Tryz.underlying5 _ 0 1 1 [c] rfl (fun i hi=>?_) _ Tryz.underlying9
  obtain rfl:i=0:=by omega
  simp
theorem jL (n:Nat) (h:10≤n):Lib.decDigits n=Lib.decDigits (n / 10)++[UInt8.ofNat (48+n % 10)]:=by
  rw [Lib.decDigits,dif_neg (by omega)]
theorem gY (n:Nat) (h:n < 10):Lib.decDigits n=[UInt8.ofNat (48+n)]:=by
  rw [Lib.decDigits,dif_pos h]
theorem pY (n:Nat):n < 18446744073709551616→(Lib.decDigits n).length≤20:=by
  intro h
  have key:∀ d m:Nat,m < 10 ^ (d+1)→(Lib.decDigits m).length≤d+1:=by
    intro d
    induction d with
    | zero=>intro m hm;rw [gY m (by omega)];simp
    | succ d ih =>
      intro m hm
      by_cases h1:m < 10
      · rw [gY m h1];simp
      · rw [jL m (by omega),List.length_append]
        have:=ih (m / 10) (by rw [Nat.pow_succ] at hm;omega)
        simp;omega
  exact key 19 n (by omega)
theorem lq (d:Nat) (h:d < 10):strOfNums [48+(d:Int)]=mk [UInt8.ofNat (48+d)]:=by
  apply oD
  rw [strOfNums_data,mk_data]
  simp only [List.map_cons,List.map_nil]
  rw [show (48+(d:Int)).toNat=48+d from by omega]
theorem jg (a b:List UInt8):mk a++mk b=mk (a++b):=by apply oD;rw [iK,mk_data,mk_data,mk_data]
def bg.f (a0:Int):Option ByteArray:=if -9223372036854775808≤a0∧a0≤9223372036854775807 then some (mk (Lib.itoa a0)) else none
set_option maxHeartbeats 8000000 in
theorem bg.any (n:Int) (hn0:-9223372036854775808≤n) (hn1:n≤9223372036854775807) (w:World) :
    Calls Tryz.prog 23 #[.int .i64 n] w fun e w'=>e=.returned (.string (mk (Lib.itoa n)))∧Below w.heap.size w w':=by
  have hob:=one_byte
  obtain ⟨m,hm⟩:∃ m:Nat,n.natAbs=m:=⟨_,rfl⟩
  have hm2:m≤9223372036854775808:=by omega
  have hml:=pY m (by omega)
  by_cases hneg:n < 0
  · have d0:decide (n < 0)=true:=decide_eq_true hneg
    have hw:IntKind.u64.wrap (-IntKind.u64.wrap n)=(m:Int):=by rw [IntKind.wrap_u64,IntKind.wrap_u64];omega
    have hit:Lib.itoa n=45 :: Lib.decDigits m:=by unfold Lib.itoa;rw [if_pos hneg,hm]
    rw [hit]
    have HW:=Lib.hid hw
    clear hm hit
    go_enter Tryz.func23,Tryz.ntmps23
    go_wp2
    clear hw
    go_loopw [3,4] (fun x s wr=>∃ (u:Nat) (ui:Int) (t:List UInt8),0≤ui∧ui≤9223372036854775808∧aa (ui=(u:Int))∧x=.int .u64 ui∧s=.string (mk t)∧aa (Below w.heap.size w wr)∧aa (Lib.decDigits m=Lib.decDigits u++t)) (fun x _ _=>(intOf x).toNat)
    case atStart=>exact ⟨m,m,[],by omega,by omega,⟨rfl⟩,by first|rfl|(rw [HW.out]),rfl,⟨Below.refl _ _⟩,⟨by simp⟩⟩
    case round =>
      obtain ⟨u,ui,t,h0,h1,HU,rfl,rfl,HB,HE⟩:=hrel
      have htl:t.length≤20:=by have:=congrArg List.length HE.out;rw [List.length_append] at this;omega
      obtain ⟨T,hT⟩:∃ T,mk t=T:=⟨_,rfl⟩
      have hts:T.size≤20:=by rw [← hT,dZ];exact htl
      rw [hT]
      have HT:=Lib.hid hT
      clear hT htl
      by_cases hu:10≤ui
      · obtain ⟨d,hd⟩:∃ d:Int,ui % 10=d:=⟨_,rfl⟩
        have hd0:0≤d∧d≤9:=by omega
        have HD:=Lib.hid hd
        obtain ⟨D,hD⟩:∃ D,strOfNums [48+d]=D:=⟨_,rfl⟩
        have hDs:D.size=1:=by rw [← hD,strOfNums_size];rfl
        have hsz:D.size+T.size≤9223372036854775807:=by omega
        have hd1:0≤d:=hd0.1
        have hd2:d≤9:=hd0.2
        have HDD:=Lib.hid hD
        clear hd0 hDs
        go_wp2_with fail
        have hdu:d=((u % 10:Nat):Int):=by have:=HU.out;omega
        have hDm:D=mk [UInt8.ofNat (48+u % 10)]:=by rw [← HDD.out,hdu];exact lq _ (by omega)
        refine ⟨⟨u / 10,ui / 10,[UInt8.ofNat (48+u % 10)]++t,by omega,by omega,⟨by have:=HU.out;omega⟩,rfl,?_,⟨HB.out.alloc HB.out.size _⟩,⟨?_⟩⟩,by simp [intOf];omega⟩
        · rw [hDm,← HT.out,jg]
        · rw [HE.out,jL u (by have:=HU.out;omega),List.append_assoc]
      · obtain ⟨D,hD⟩:∃ D,strOfNums [48+ui]=D:=⟨_,rfl⟩
        have hDs:D.size=1:=by rw [← hD,strOfNums_size];rfl
        have hsz:D.size+T.size≤9223372036854775807:=by omega
        have hu9:ui≤9:=by omega
        have hDT:(D++T).size≤21:=by
          rw [bL,iK,List.length_append,← bL,← bL];omega
        obtain ⟨E,hE⟩:∃ E,D++T=E:=⟨_,rfl⟩
        rw [hE] at hDT
        have hfin:E=mk (Lib.decDigits m):=by
          have hu2:u < 10:=by have:=HU.out;omega
          rw [HE.out,gY u hu2,← hE,← hD,HU.out,lq u hu2,← HT.out,jg]
        have hsz2:(1:Nat)+E.size≤9223372036854775807:=by omega
        have hsz3:(⟨#[45]⟩:ByteArray).size+E.size≤9223372036854775807:=by
          rw [show (⟨#[45]⟩:ByteArray).size=1 from rfl];omega
        have HD:=Lib.hid hD
        have HFIN:=Lib.hid hfin
        clear hDs hfin
        go_wp2_with fail
        go_ret
        refine ⟨?_,HB.out.alloc HB.out.size _⟩
        have hF:=HFIN.out
        first
        | (rw [hF];done)
        | (show Ending.returned (.string _)=_;rw [hE,hF];rfl)
        | (show Ending.returned (.string _)=_;rw [hF];rfl)
        | (rw [hF,show (⟨#[45]⟩:ByteArray)=mk [45] from rfl,jg];rfl)
        | (show Ending.returned (.string E)=_;rw [hF])
  · have d0:decide (n < 0)=false:=decide_eq_false hneg
    have hw:IntKind.u64.wrap n=(m:Int):=by rw [IntKind.wrap_u64];omega
    have hit:Lib.itoa n=Lib.decDigits m:=by unfold Lib.itoa;rw [if_neg hneg,show n.toNat=m by omega]
    rw [hit]
    have HW:=Lib.hid hw
    clear hm hit
    go_enter Tryz.func23,Tryz.ntmps23
    go_wp2
    clear hw
    go_loopw [3,4] (fun x s wr=>∃ (u:Nat) (ui:Int) (t:List UInt8),0≤ui∧ui≤9223372036854775808∧aa (ui=(u:Int))∧x=.int .u64 ui∧s=.string (mk t)∧aa (Below w.heap.size w wr)∧aa (Lib.decDigits m=Lib.decDigits u++t)) (fun x _ _=>(intOf x).toNat)
    case atStart=>exact ⟨m,m,[],by omega,by omega,⟨rfl⟩,by first|rfl|(rw [HW.out]),rfl,⟨Below.refl _ _⟩,⟨by simp⟩⟩
    case round =>
      obtain ⟨u,ui,t,h0,h1,HU,rfl,rfl,HB,HE⟩:=hrel
      have htl:t.length≤20:=by have:=congrArg List.length HE.out;rw [List.length_append] at this;omega
      obtain ⟨T,hT⟩:∃ T,mk t=T:=⟨_,rfl⟩
      have hts:T.size≤20:=by rw [← hT,dZ];exact htl
      rw [hT]
      have HT:=Lib.hid hT
      clear hT htl
      by_cases hu:10≤ui
      · obtain ⟨d,hd⟩:∃ d:Int,ui % 10=d:=⟨_,rfl⟩
        have hd0:0≤d∧d≤9:=by omega
        have HD:=Lib.hid hd
        obtain ⟨D,hD⟩:∃ D,strOfNums [48+d]=D:=⟨_,rfl⟩
        have hDs:D.size=1:=by rw [← hD,strOfNums_size];rfl
        have hsz:D.size+T.size≤9223372036854775807:=by omega
        have hd1:0≤d:=hd0.1
        have hd2:d≤9:=hd0.2
        have HDD:=Lib.hid hD
        clear hd0 hDs
        go_wp2_with fail
        have hdu:d=((u % 10:Nat):Int):=by have:=HU.out;omega
        have hDm:D=mk [UInt8.ofNat (48+u % 10)]:=by rw [← HDD.out,hdu];exact lq _ (by omega)
        refine ⟨⟨u / 10,ui / 10,[UInt8.ofNat (48+u % 10)]++t,by omega,by omega,⟨by have:=HU.out;omega⟩,rfl,?_,⟨HB.out.alloc HB.out.size _⟩,⟨?_⟩⟩,by simp [intOf];omega⟩
        · rw [hDm,← HT.out,jg]
        · rw [HE.out,jL u (by have:=HU.out;omega),List.append_assoc]
      · obtain ⟨D,hD⟩:∃ D,strOfNums [48+ui]=D:=⟨_,rfl⟩
        have hDs:D.size=1:=by rw [← hD,strOfNums_size];rfl
        have hsz:D.size+T.size≤9223372036854775807:=by omega
        have hu9:ui≤9:=by omega
        have hDT:(D++T).size≤21:=by
          rw [bL,iK,List.length_append,← bL,← bL];omega
        obtain ⟨E,hE⟩:∃ E,D++T=E:=⟨_,rfl⟩
        rw [hE] at hDT
        have hfin:E=mk (Lib.decDigits m):=by
          have hu2:u < 10:=by have:=HU.out;omega
          rw [HE.out,gY u hu2,← hE,← hD,HU.out,lq u hu2,← HT.out,jg]
        have hsz2:(1:Nat)+E.size≤9223372036854775807:=by omega
        have hsz3:(⟨#[45]⟩:ByteArray).size+E.size≤9223372036854775807:=by
          rw [show (⟨#[45]⟩:ByteArray).size=1 from rfl];omega
        have HD:=Lib.hid hD
        have HFIN:=Lib.hid hfin
        clear hDs hfin
        go_wp2_with fail
        go_ret
        refine ⟨?_,HB.out.alloc HB.out.size _⟩
        have hF:=HFIN.out
        first
        | (rw [hF];done)
        | (show Ending.returned (.string _)=_;rw [hE,hF];rfl)
        | (show Ending.returned (.string _)=_;rw [hF];rfl)
        | (rw [hF,show (⟨#[45]⟩:ByteArray)=mk [45] from rfl,jg];rfl)
        | (show Ending.returned (.string E)=_;rw [hF])
theorem bg.calls (a0:Int) (r:ByteArray) (w:World) (h:bg.f a0=some r) :
    Calls Tryz.prog 23 #[.int .i64 a0] w fun e w'=>e=.returned (.string r)∧Below w.heap.size w w':=by
  unfold bg.f at h
  by_cases hs:-9223372036854775808≤a0∧a0≤9223372036854775807
  · rw [if_pos hs] at h
    obtain rfl:=Option.some.inj h
    exact bg.any a0 hs.1 hs.2 w
  · rw [if_neg hs] at h
    cases h
end Go.Proofs.YthfpaoacjpjnfaaGreatDoor.P

namespace Go.Proofs.YthfpaoacjpjnfaaGreatDoor.P
open Go.RowKit Go.Proofs.YthfpaoacjpjnfaaGreatDoorW.PrintWords Go.Proofs.YthfpaoacjpjnfaaGreatDoorW.PrintLast Go.Proofs.YthfpaoacjpjnfaaGreatDoorW.PrintMore
attribute [local go_sem] dP dS eP eO dE dD dQ dR
end Go.Proofs.YthfpaoacjpjnfaaGreatDoor.P


namespace Go.Proofs.YthfpaoacjpjnfaaGreatDoor.P
open Go.RowKit Go.Proofs.YthfpaoacjpjnfaaGreatDoorW.PrintWords Go.Proofs.YthfpaoacjpjnfaaGreatDoorW.PrintLast Go.Proofs.YthfpaoacjpjnfaaGreatDoorW.PrintMore
end Go.Proofs.YthfpaoacjpjnfaaGreatDoor.P

namespace Go.Proofs.YthfpaoacjpjnfaaGreatDoor.P
open Go.RowKit Go.Proofs.YthfpaoacjpjnfaaGreatDoorW.PrintWords Go.Proofs.YthfpaoacjpjnfaaGreatDoorW.PrintLast Go.Proofs.YthfpaoacjpjnfaaGreatDoorW.PrintMore
attribute [local go_sem] dP dS eP eO dE dD dQ dR
attribute [local go_sem high] zl
attribute [local go_sem high] zU
end Go.Proofs.YthfpaoacjpjnfaaGreatDoor.P


namespace Go.Proofs.YthfpaoacjpjnfaaGreatDoor.P
open Go.RowKit Go.Proofs.YthfpaoacjpjnfaaGreatDoorW.PrintWords Go.Proofs.YthfpaoacjpjnfaaGreatDoorW.PrintLast Go.Proofs.YthfpaoacjpjnfaaGreatDoorW.PrintMore
def xS (l:List UInt8):Int:=match Lib.atoiAll l with|.ok v=>v|_=>0
def Ac (r:Int) (x y:Option (List UInt8)):Bool × Bool :=
  match x,y with
  | some a,some b=>if r=1 then (Op.bytesLess a b,true) else if r=2 then (decide (xS a < xS b),true) else (false,false)
  | _,_=>(false,false)
theorem nZ {t v x:List UInt8} (h:eQ t v=some x) (hr:dI t=2):fV x=true:=by
  have h2:=vV h
  have hs:=jF h
  unfold eQ jM at h2
  rw [if_neg (by rw [not_or];exact ⟨hs.1,by omega⟩),hr,if_neg (by decide),if_pos rfl] at h2
  by_cases hn:fV x=true
  · exact hn
  · rw [if_neg hn] at h2;cases h2
theorem yE (t a b:ByteArray) (ht:t.size≤9223372036854775807):Ev (fun k=>gZ.f k t a b) (Ac (dI t.data.toList) (eQ t.data.toList a.data.toList) (eQ t.data.toList b.data.toList)):=by
  have ha:=jv t a ht
  have hb:=jv t b ht
  refine zH ht ha hb ?_
  cases hx:eQ t.data.toList a.data.toList with
  | none=>rfl
  | some x =>
    cases hy:eQ t.data.toList b.data.toList with
    | none=>rfl
    | some y =>
      have sx:=jF hx
      have sy:=jF hy
      show pE (dI t.data.toList) (mk x) (mk y)=some (if dI t.data.toList=1 then (Op.bytesLess x y,true) else if dI t.data.toList=2 then (decide (xS x < xS y),true) else (false,false))
      unfold pE
      by_cases r1:dI t.data.toList=1
      · rw [if_pos r1,if_pos r1,fw,fw]
      rw [if_neg r1,if_neg r1]
      by_cases r2:dI t.data.toList=2
      · rw [if_pos r2,if_pos r2,dZ,dZ,if_pos (by omega)]
        obtain ⟨vx,hvx,_,_⟩:=nJ (nZ hx r2)
        obtain ⟨vy,hvy,_,_⟩:=nJ (nZ hy r2)
        unfold rQ xS
        rw [mk_data,mk_data,hvx,hvy]
      · rw [if_neg r2,if_neg r2]
theorem o7 (t v:ByteArray) (w:World) (hG:Gl w) (ht:t.size≤9223372036854775807) :
    Calls Tryz.prog 39 #[.string t,.string v] w fun e w'=>e=.returned (.tuple #[.string (iq (eQ t.data.toList v.data.toList)).1,.bool (iq (eQ t.data.toList v.data.toList)).2])∧Below w.heap.size w w':=by
  obtain ⟨k,hk⟩:=Ev.rounds (jv t v ht)
  exact bB.calls k t v _ _ w hG hk
theorem uN (t a b:ByteArray) (w:World) (hG:Gl w) (ht:t.size≤9223372036854775807) :
    Calls Tryz.prog 68 #[.string t,.string a,.string b] w fun e w'=>e=.returned (.bool (yt (eQ t.data.toList a.data.toList) (eQ t.data.toList b.data.toList)))∧Below w.heap.size w w':=by
  obtain ⟨k,hk⟩:=Ev.rounds (zy (jv t a ht) (jv t b ht))
  exact jw.calls k t a b _ w hG hk
def iV (t a b:ByteArray):Bool × Bool:=Ac (dI t.data.toList) (eQ t.data.toList a.data.toList) (eQ t.data.toList b.data.toList)
theorem kv (t a b:ByteArray) (w:World) (hG:Gl w) (ht:t.size≤9223372036854775807) :
    Calls Tryz.prog 69 #[.string t,.string a,.string b] w fun e w'=>e=.returned (.tuple #[.bool (iV t a b).1,.bool (iV t a b).2])∧Below w.heap.size w w':=by
  obtain ⟨k,hk⟩:=Ev.rounds (yE t a b ht)
  exact gZ.calls k t a b _ _ w hG hk
theorem o9 (t:ByteArray) (w:World) (ht:t.size≤9223372036854775807) :
    Calls Tryz.prog 59 #[.string t] w fun e w'=>e=.returned (.int .i64 (dI t.data.toList))∧Below w.heap.size w w':=by
  refine (cB.calls t _ w (ru t ht)).mono ?_
  rintro e w' ⟨rfl,hb⟩
  exact ⟨rfl,hb⟩
def zY (t a b:ByteArray):Bool:=yt (eQ t.data.toList a.data.toList) (eQ t.data.toList b.data.toList)
theorem xW (B C:Nat) (v typ val:ByteArray) (W:World) (hG:Gl W) (hc:W.cell? ⟨B,0,none⟩=some (.string typ)) (hd:W.cell? ⟨C,0,none⟩=some (.string val)) (h2:typ.size≤9223372036854775807) :
    Calls Tryz.prog 67 (#[.string v]++#[.pointer (some ⟨B,0,none⟩),.pointer (some ⟨C,0,none⟩)]) W fun e w'=>e=.returned (.bool (zY typ v val))∧Below W.heap.size W w':=by
  have HG:=aa.mk hG
  have H2:=aa.mk h2
  clear hG h2
  show Calls Tryz.prog 67 #[.string v,.pointer (some ⟨B,0,none⟩),.pointer (some ⟨C,0,none⟩)] W _
  go_enter Tryz.func67,Tryz.ntmps67
  go_wp2_with (go_at_call 68;refine (uN typ v val _ HG.out H2.out).mono ?_;rintro e w' ⟨rfl,hb⟩)
  go_ret
  exact ⟨rfl,hb⟩
def qo (vs:List ByteArray) (typ val:ByteArray) (i:Nat):Bool:=zY typ (bU ByteArray.empty vs (i:Int)) val
def fJ.f (a0:ByteArray) (l:List S45) (typ val:ByteArray):Option Bool :=
  (dF.f a0 l typ).bind fun vs=>if vs.length≤1000000000∧typ.size≤9223372036854775807 then some (gD (qo vs typ val) vs.length) else none
set_option maxHeartbeats 2000000 in
set_option maxRecDepth 100000 in
theorem fJ.calls (a0:ByteArray) (A1:Option Addr) (c1:Nat) (l1:List S45) (typ val:ByteArray) (r:Bool) (w:World) (hr:Kd.C k45 w A1 l1.length l1) (hc:l1.length≤c1) (hG:Gl w) (h:fJ.f a0 l1 typ val=some r) :
    Calls Tryz.prog 40 #[.agg #[.string a0,.slice A1 l1.length c1],.string typ,.string val] w fun e w'=>e=.returned (.bool r)∧Below w.heap.size w w':=by
  obtain ⟨vs,hv,h⟩:=Option.bind_eq_some_iff.1 h
  by_cases hs:vs.length≤1000000000∧typ.size≤9223372036854775807
  · rw [if_pos hs] at h
    obtain rfl:=Option.some.inj h
    have hu2:=Tryz.underlying28
    have eg:∀ args w,(callFunc 67 args).run Tryz.prog w=.ok (.enter 67 args) w:=enters_of Tryz.func67 (by kernel_rfl) rfl
    have HR:=aa.mk hr
    have HC:=aa.mk hc
    have HG:=aa.mk hG
    have HV:=aa.mk hv
    have HS:=aa.mk hs
    clear hr hc hG hv hs h
    have ct:∀ (W:World) (A:Option Addr) (c:Nat),Below w.heap.size w W→W.cell? ⟨w.heap.size+1,0,none⟩=some (.string typ)→W.cell? ⟨w.heap.size+2,0,none⟩=some (.string val)→Kd.string.C W A vs.length vs →
        Calls Tryz.prog 61 #[.slice A vs.length c,.func (.func 67) #[] #[.pointer (some ⟨w.heap.size+1,0,none⟩),.pointer (some ⟨w.heap.size+2,0,none⟩)]] W fun e w'=>e=.returned (.bool (gD (qo vs typ val) vs.length))∧Below W.heap.size W w':=by
      intro W A c hb hc1 hc2 hcs
      refine iQ A c vs 67 _ (qo vs typ val) W eg hcs (fun i hi W' hb'=>?_)
      refine (xW (w.heap.size+1) (w.heap.size+2) _ typ val W' ((HG.out.below hb).below hb') (bC (W0:=w) hc1 hb') (bC (W0:=w) hc2 hb') HS.out.2).mono ?_
      rintro e w' ⟨rfl,hb2⟩
      exact ⟨rfl,aA hb' hb2⟩
    have CT:=aa.mk ct
    clear ct eg
    go_enter Tryz.func40,Tryz.ntmps40
    go_upto_region 1 with (fail)
    obtain ⟨w0,hw0⟩:∃ w0,((w.alloc (.cells #[.string a0,.slice A1 l1.length c1] 28)).alloc (.cells #[.string typ] 9)).alloc (.cells #[.string val] 9)=w0:=⟨_,rfl⟩
    have kD:w0.cell? ⟨w.heap.size,0,none⟩=some (.string a0):=by rw [← hw0];simp [go_sem]
    have kE:w0.cell? ⟨w.heap.size,1,none⟩=some (.slice A1 l1.length c1):=by rw [← hw0];simp [go_sem]
    have kT:w0.cell? ⟨w.heap.size+1,0,none⟩=some (.string typ):=by rw [← hw0];simp [go_sem]
    have kV:w0.cell? ⟨w.heap.size+2,0,none⟩=some (.string val):=by rw [← hw0];simp [go_sem]
    have kB:Below w.heap.size w w0:=by rw [← hw0];exact af (af (af (Below.refl _ _) _) _) _
    rw [hw0]
    clear hw0
    have KB:=aa.mk kB
    clear kB
    go_wp2_with (first|(go_at_call 37;refine (dF.calls a0 A1 c1 l1 typ vs w0 (Kd.bP HR.out KB.out) HC.out HV.out).mono ?_;rintro e w1 ⟨v,rfl,ho,hb⟩;obtain ⟨Ao,co,eo⟩:=Kd.cu ho;subst eo;have kT1:=bC (W0:=w) kT hb;have kV1:=bC (W0:=w) kV hb;have KB1:=aa.mk (aA KB.out hb);have HO:=aa.mk ho;clear hb ho kT kV kD kE)|(go_at_call 61;refine (CT.out _ _ _ KB1.out kT1 kV1 (Kd.bn HO.out).2.2).mono ?_;rintro e w2 ⟨rfl,hb2⟩))
    go_ret
    exact ⟨rfl,aA KB1.out hb2⟩
  · rw [if_neg hs] at h
    cases h
def Ar (kind:Int) (typ val v:ByteArray):Bool:=if kind=7 then ((iV typ val v).2 && !(iV typ val v).1) else ((iV typ v val).2 && !(iV typ v val).1)
set_option maxHeartbeats 2000000 in
set_option maxRecDepth 100000 in
theorem xE (B:Nat) (kind:Int) (v typ val:ByteArray) (W:World) (hG:Gl W) (hk:W.cell? ⟨B,0,none⟩=some (.int .i64 kind)) (hc:W.cell? ⟨B,1,none⟩=some (.string typ)) (hd:W.cell? ⟨B,2,none⟩=some (.string val)) (h2:typ.size≤9223372036854775807) :
    Calls Tryz.prog 70 (#[.string v]++#[.pointer (some ⟨B,0,none⟩)]) W fun e w'=>e=.returned (.bool (Ar kind typ val v))∧Below W.heap.size W w':=by
  have HG:=aa.mk hG
  have H2:=aa.mk h2
  have hu:=Tryz.underlying25
  clear hG h2
  show Calls Tryz.prog 70 #[.string v,.pointer (some ⟨B,0,none⟩)] W _
  unfold Ar
  by_cases h7:kind=7
  · rw [if_pos h7]
    have b7:(kind == 7)=true:=beq_iff_eq.2 h7
    clear h7
    obtain ⟨p,hp⟩:∃ p,iV typ val v=p:=⟨_,rfl⟩
    rw [hp]
    obtain ⟨p1,p2⟩:=p
    have HL:=aa.mk hp
    clear hp
    go_enter Tryz.func70,Tryz.ntmps70
    go_upto_region 1 with (fail)
    go_quiet (fail)
    go_wp2_with (go_at_call 69;refine (kv typ val v _ (Gl.drewN HG.out _) H2.out).mono ?_;rintro e w' ⟨rfl,hb⟩;rw [HL.out])
    all_goals (go_ret;exact ⟨by first|rfl|(simp [*];done),jT (ae (Below.refl _ _) _) (by simp) hb⟩)
  · rw [if_neg h7]
    have b7:(kind == 7)=false:=beq_eq_false_iff_ne.2 h7
    clear h7
    obtain ⟨p,hp⟩:∃ p,iV typ v val=p:=⟨_,rfl⟩
    rw [hp]
    obtain ⟨p1,p2⟩:=p
    have HL:=aa.mk hp
    clear hp
    go_enter Tryz.func70,Tryz.ntmps70
    go_upto_region 1 with (fail)
    go_quiet (fail)
    go_wp2_with (go_at_call 69;refine (kv typ v val _ (Gl.drewN HG.out _) H2.out).mono ?_;rintro e w' ⟨rfl,hb⟩;rw [HL.out])
    all_goals (go_ret;exact ⟨by first|rfl|(simp [*];done),jT (ae (Below.refl _ _) _) (by simp) hb⟩)
def oU (kind:Int) (vs:List ByteArray) (typ val:ByteArray) (i:Nat):Bool:=Ar kind typ val (bU ByteArray.empty vs (i:Int))
def fB.f (a0_0:Int) (a0_1 a0_2:ByteArray) (l0_3:List ByteArray) (l0_4:List S25) (a1_0:ByteArray) (l1_1:List S45):Option Int :=
  if a0_1.size≤9223372036854775807 then (if (iV a0_1 a0_2 a0_2).2=false then some 2 else
    (dF.f a1_0 l1_1 a0_1).bind fun vs=>if vs.length≤1000000000 then some (if gD (oU a0_0 vs a0_1 a0_2) vs.length=true then 1 else 0) else none) else none
theorem kU (b:Bool):dw.f b=some (if b=true then 1 else 0):=by cases b <;> rfl
set_option maxHeartbeats 4000000 in
set_option maxRecDepth 100000 in
theorem fB.calls (a0_0:Int) (a0_1:ByteArray) (a0_2:ByteArray) (A0_3:Option Addr) (c0_3:Nat) (l0_3:List ByteArray) (A0_4:Option Addr) (c0_4:Nat) (l0_4:List S25) (a1_0:ByteArray) (A1_1:Option Addr) (c1_1:Nat) (l1_1:List S45) (r:Int) (w:World) (hr0_3:Kd.C Kd.string w A0_3 l0_3.length l0_3) (hc0_3:l0_3.length≤c0_3) (hr0_4:Kd.C k25 w A0_4 l0_4.length l0_4) (hc0_4:l0_4.length≤c0_4) (hr1_1:Kd.C k45 w A1_1 l1_1.length l1_1) (hc1_1:l1_1.length≤c1_1) (hG:Gl w) (h:fB.f a0_0 a0_1 a0_2 l0_3 l0_4 a1_0 l1_1=some r) :
    Calls Tryz.prog 41 #[.agg #[.int .i64 a0_0,.string a0_1,.string a0_2,.slice A0_3 l0_3.length c0_3,.slice A0_4 l0_4.length c0_4],.agg #[.string a1_0,.slice A1_1 l1_1.length c1_1]] w fun e w'=>e=.returned (.int .i64 r)∧Below w.heap.size w w':=by
  unfold fB.f at h
  by_cases hs:a0_1.size≤9223372036854775807
  · rw [if_pos hs] at h
    have hu1:=Tryz.underlying25
    have hu2:=Tryz.underlying28
    have eg:∀ args w,(callFunc 70 args).run Tryz.prog w=.ok (.enter 70 args) w:=enters_of Tryz.func70 (by kernel_rfl) rfl
    have HS:=aa.mk hs
    have HR:=aa.mk hr1_1
    have HC:=aa.mk hc1_1
    have HG:=aa.mk hG
    clear hr0_3 hc0_3 hr0_4 hc0_4 hr1_1 hc1_1 hG hs
    obtain ⟨p,hp⟩:∃ p,iV a0_1 a0_2 a0_2=p:=⟨_,rfl⟩
    rw [hp] at h
    obtain ⟨p1,p2⟩:=p
    have HL:=aa.mk hp
    clear hp
    have HH:=aa.mk h
    clear h
    have cells:∀ W:World,Below (w.alloc (.cells #[.int .i64 a0_0,.string a0_1,.string a0_2,.slice A0_3 l0_3.length c0_3,.slice A0_4 l0_4.length c0_4] 25)).heap.size (w.alloc (.cells #[.int .i64 a0_0,.string a0_1,.string a0_2,.slice A0_3 l0_3.length c0_3,.slice A0_4 l0_4.length c0_4] 25)) W→W.cell? ⟨w.heap.size,0,none⟩=some (.int .i64 a0_0)∧W.cell? ⟨w.heap.size,1,none⟩=some (.string a0_1)∧W.cell? ⟨w.heap.size,2,none⟩=some (.string a0_2):=by
      intro W hb
      exact ⟨bC (W0:=w) (by simp [go_sem]) hb,bC (W0:=w) (by simp [go_sem]) hb,bC (W0:=w) (by simp [go_sem]) hb⟩
    have ct:∀ (vs:List ByteArray) (W:World) (A:Option Addr) (c:Nat),Below w.heap.size w W→(W.cell? ⟨w.heap.size,0,none⟩=some (.int .i64 a0_0)∧W.cell? ⟨w.heap.size,1,none⟩=some (.string a0_1)∧W.cell? ⟨w.heap.size,2,none⟩=some (.string a0_2))→Kd.string.C W A vs.length vs →
        Calls Tryz.prog 61 #[.slice A vs.length c,.func (.func 70) #[] #[.pointer (some ⟨w.heap.size,0,none⟩)]] W fun e w'=>e=.returned (.bool (gD (oU a0_0 vs a0_1 a0_2) vs.length))∧Below W.heap.size W w':=by
      intro vs W A c hb hcs hv
      refine iQ A c vs 70 _ (oU a0_0 vs a0_1 a0_2) W eg hv (fun i hi W' hb'=>?_)
      refine (xE w.heap.size a0_0 _ a0_1 a0_2 W' ((HG.out.below hb).below hb') (bC (W0:=w) hcs.1 hb') (bC (W0:=w) hcs.2.1 hb') (bC (W0:=w) hcs.2.2 hb') HS.out).mono ?_
      rintro e w' ⟨rfl,hb2⟩
      exact ⟨rfl,aA hb' hb2⟩
    have CT:=aa.mk ct
    clear ct eg
    go_enter Tryz.func41,Tryz.ntmps41
    go_upto_region 1 with (fail)
    obtain ⟨w0,hw0⟩:∃ w0,(w.alloc (.cells #[.int .i64 a0_0,.string a0_1,.string a0_2,.slice A0_3 l0_3.length c0_3,.slice A0_4 l0_4.length c0_4] 25)).alloc (.cells #[.string a1_0,.slice A1_1 l1_1.length c1_1] 28)=w0:=⟨_,rfl⟩
    have kq:=cells w0 (by rw [← hw0];exact af (Below.refl _ _) _)
    have k0:=kq.1
    have k1:=kq.2.1
    have k2:=kq.2.2
    have kD:w0.cell? ⟨w.heap.size+1,0,none⟩=some (.string a1_0):=by rw [← hw0];simp [go_sem]
    have kE:w0.cell? ⟨w.heap.size+1,1,none⟩=some (.slice A1_1 l1_1.length c1_1):=by rw [← hw0];simp [go_sem]
    have kB:Below w.heap.size w w0:=by rw [← hw0];exact af (af (Below.refl _ _) _) _
    rw [hw0]
    clear hw0 kq cells
    have KB:=aa.mk kB
    clear kB
    cases p2 with
    | false =>
      have hr2:(2:Int)=r:=Option.some.inj HH.out
      subst hr2
      clear HH
      go_wp2_with (go_at_call 69;refine (kv a0_1 a0_2 a0_2 _ (HG.out.below KB.out) HS.out).mono ?_;rintro e w1 ⟨rfl,hb⟩;rw [HL.out])
      go_ret
      exact ⟨rfl,aA KB.out hb⟩
    | true =>
      obtain ⟨vs,hv,h⟩:=Option.bind_eq_some_iff.1 HH.out
      by_cases hl:vs.length≤1000000000
      · rw [if_pos hl] at h
        have hr2:=Option.some.inj h
        obtain ⟨b,hb0⟩:∃ b,gD (oU a0_0 vs a0_1 a0_2) vs.length=b:=⟨_,rfl⟩
        rw [hb0] at hr2
        have CT2:=aa.mk (CT.out vs)
        rw [hb0] at CT2
        have HV:=aa.mk hv
        have HT:=aa.mk (kU b)
        subst hr2
        clear HH CT hv h hl hb0
        go_wp2_with (first|(go_at_call 69;refine (kv a0_1 a0_2 a0_2 _ (HG.out.below KB.out) HS.out).mono ?_;rintro e w1 ⟨rfl,hb⟩;rw [HL.out];have j0:=bC (W0:=w) k0 hb;have j1:=bC (W0:=w) k1 hb;have j2:=bC (W0:=w) k2 hb;have jD:=bC (W0:=w) kD hb;have jE:=bC (W0:=w) kE hb;have KB1:=aa.mk (aA KB.out hb);clear hb k0 k1 k2 kD kE)|(go_at_call 37;refine (dF.calls a1_0 A1_1 c1_1 l1_1 a0_1 vs _ (Kd.bP HR.out KB1.out) HC.out HV.out).mono ?_;rintro e w2 ⟨v,rfl,ho,hb⟩;obtain ⟨Ao,co,eo⟩:=Kd.cu ho;subst eo;have KQ:=aa.mk (And.intro (bC (W0:=w) j0 hb) (And.intro (bC (W0:=w) j1 hb) (bC (W0:=w) j2 hb)));have KB2:=aa.mk (aA KB1.out hb);have HO:=aa.mk ho;clear hb ho j0 j1 j2 jD jE)|(go_at_call 61;refine (CT2.out _ _ _ KB2.out KQ.out (Kd.bn HO.out).2.2).mono ?_;rintro e w3 ⟨rfl,hb⟩;have KB3:=aa.mk (aA KB2.out hb);clear hb)|(go_at_call 36;refine (dw.calls _ _ _ HT.out).mono ?_;rintro e w4 ⟨rfl,⟨nq,rfl⟩⟩))
        all_goals (go_ret;exact ⟨by first|rfl|(simp [*];done),ae KB3.out _⟩)
      · rw [if_neg hl] at h
        cases h
  · rw [if_neg hs] at h
    cases h
def strings_CutPrefix.f (a0 a1:ByteArray):Option (ByteArray × Bool):=some (mk (Lib.trimPrefix a0.data.toList a1.data.toList),Lib.hasPrefix a0.data.toList a1.data.toList)
theorem strings_CutPrefix.calls (a0 a1:ByteArray) (r1:ByteArray) (r2:Bool) (w:World) (h:strings_CutPrefix.f a0 a1=some (r1,r2)) :
    Calls Tryz.prog 82 #[.string a0,.string a1] w fun e w'=>e=.returned (.tuple #[.string r1,.bool r2])∧aJ w w':=by
  obtain ⟨rfl,rfl⟩:=Prod.mk.inj (Option.some.inj h)
  refine (Tryz.strings_CutPrefix a0 a1 w).mono ?_
  rintro e w' ⟨rfl,rfl⟩
  exact ⟨rfl,aJ.refl _⟩
def strings_HasSuffix.f (a0 a1:ByteArray):Option Bool:=if a0.size≤9223372036854775807 then some (Lib.hasSuffix a0.data.toList a1.data.toList) else none
theorem strings_HasSuffix.calls (a0 a1:ByteArray) (r:Bool) (w:World) (h:strings_HasSuffix.f a0 a1=some r) :
    Calls Tryz.prog 84 #[.string a0,.string a1] w fun e w'=>e=.returned (.bool r)∧aJ w w':=by
  unfold strings_HasSuffix.f at h
  by_cases hs:a0.size≤9223372036854775807
  · rw [if_pos hs] at h
    obtain rfl:=Option.some.inj h
    refine (Tryz.strings_HasSuffix a0 a1 w hs).mono ?_
    rintro e w' ⟨rfl,rfl⟩
    exact ⟨rfl,aJ.refl _⟩
  · rw [if_neg hs] at h
    cases h
end Go.Proofs.YthfpaoacjpjnfaaGreatDoor.P

namespace Go.Proofs.YthfpaoacjpjnfaaGreatDoor.P
open Go.RowKit Go.Proofs.YthfpaoacjpjnfaaGreatDoorW.PrintWords Go.Proofs.YthfpaoacjpjnfaaGreatDoorW.PrintLast Go.Proofs.YthfpaoacjpjnfaaGreatDoorW.PrintMore
attribute [local go_sem] dP dS eP eO dE dD dQ dR
def bW.l0:Nat→List ByteArray→Int→ByteArray→Bool→List ByteArray→Int→Int→Option (Bool)
 | 0,_,_,_,_,_,_,_=>none
 | k+1,x1,x5,x6,x7,x23,x24,x25=>if x25 < x24 then (if 0≤x25 then (if x25 < (x23.length:Int) then (if x7=true then ((strings_Cut.f x6 (bU ByteArray.empty x23 x25)).bind fun bt126=>(bW.l0 k x1 x5 bt126.2.1 bt126.2.2 x23 x24 (wrap64 (x25+1)))) else (bW.l0 k x1 x5 x6 x7 x23 x24 (wrap64 (x25+1)))) else (none)) else (none)) else (if x7=true then (if 0≤x5 then (if x5 < (x1.length:Int) then ((strings_HasSuffix.f x6 (bU ByteArray.empty x1 x5)).bind fun t130=>(some t130)) else (none)) else (none)) else (some false))
def bW.f (k:Nat) (a0:ByteArray) (l1:List ByteArray):Option (Bool):=if 0 < (l1.length:Int) then ((strings_CutPrefix.f a0 (bU ByteArray.empty l1 0)).bind fun bt122=>(if 1≤(wrap64 ((l1.length:Int) - 1)) then (if (wrap64 ((l1.length:Int) - 1))≤(l1.length:Int) then (bW.l0 k l1 (wrap64 ((l1.length:Int) - 1)) bt122.1 bt122.2 ((l1.take ((wrap64 ((l1.length:Int) - 1)):Int).toNat).drop 1) (((l1.take ((wrap64 ((l1.length:Int) - 1)):Int).toNat).drop 1).length:Int) 0) else (none)) else (none))) else (none)
set_option maxHeartbeats 8000000 in
set_option maxRecDepth 100000 in
theorem bW.calls (k:Nat) (a0:ByteArray) (A1:Option Addr) (c1:Nat) (l1:List ByteArray) (r:Bool) (w:World) (hr1:Kd.C Kd.string w A1 l1.length l1) (hc1:l1.length≤c1) (hG:Gl w) (h:bW.f k a0 l1=some r) :
  Calls Tryz.prog 63 #[.string a0,.slice A1 l1.length c1] w fun e w'=>e=.returned (.bool r)∧aJ w w':=by
 have HR1:=aa.mk hr1
 have HC1:=aa.mk hc1
 clear hr1 hc1
 have HG:=aa.mk hG
 clear hG
 have H:(if 0 < (l1.length:Int) then ((strings_CutPrefix.f a0 (bU ByteArray.empty l1 0)).bind fun bt122=>(if 1≤(wrap64 ((l1.length:Int) - 1)) then (if (wrap64 ((l1.length:Int) - 1))≤(l1.length:Int) then (bW.l0 k l1 (wrap64 ((l1.length:Int) - 1)) bt122.1 bt122.2 ((l1.take ((wrap64 ((l1.length:Int) - 1)):Int).toNat).drop 1) (((l1.take ((wrap64 ((l1.length:Int) - 1)):Int).toNat).drop 1).length:Int) 0) else (none)) else (none))) else (none))=some r:=h
 clear h
 by_cases c3:0 < (l1.length:Int)
 ·rw [if_pos c3] at H
  have c3b0:decide (0 < (l1.length:Int))=true:=decide_eq_true c3
  have c3b1:decide (0 < l1.length)=true:=decide_eq_true (by omega)
  clear c3
  replace H:=Option.bind_eq_some_iff.mp H
  obtain ⟨⟨t122,t123⟩,A40,H⟩:=H
  replace H:(if 1≤(wrap64 ((l1.length:Int) - 1)) then (if (wrap64 ((l1.length:Int) - 1))≤(l1.length:Int) then (bW.l0 k l1 (wrap64 ((l1.length:Int) - 1)) t122 t123 ((l1.take ((wrap64 ((l1.length:Int) - 1)):Int).toNat).drop 1) (((l1.take ((wrap64 ((l1.length:Int) - 1)):Int).toNat).drop 1).length:Int) 0) else (none)) else (none))=some r:=H
  have A4:=aa.mk A40
  clear A40
  by_cases c5:1≤(wrap64 ((l1.length:Int) - 1))
  ·rw [if_pos c5] at H
   have c5b0:=eq_true c5
   have c5b1:decide (1≤(wrap64 ((l1.length:Int) - 1)))=true:=decide_eq_true c5
   clear c5
   by_cases c6:(wrap64 ((l1.length:Int) - 1))≤(l1.length:Int)
   ·rw [if_pos c6] at H
    have c6b0:=eq_true c6
    have HLE:=aa.mk c6
    have c6b1:decide ((wrap64 ((l1.length:Int) - 1))≤(l1.length:Int))=true:=decide_eq_true c6
    clear c6
    have H':=aa.mk H
    clear H
    have p121:0≤(0:Int):=(by omega)
    have q121:0 < (l1.length:Int):=of_decide_eq_true (by first|(with_reducible assumption)|assumption)
    obtain ⟨ad121,e121,hx121_0⟩:=Kd.fA HR1.out 0 p121 q121
    cases e121
    have qi121:(0 < l1.length)=True:=eq_true (by omega)
    (try rw [show ((0:Int)).toNat=0 from rfl] at hx121_0)
    (try rw [Addr.add_zero'] at hx121_0)
    replace p121:=eq_true p121
    replace q121:=eq_true q121
    go_enter Tryz.func63,Tryz.ntmps63
    go_wp2_with (first|((with_reducible refine aH (f:=82) rfl ?_);refine bq (some 18) rfl rfl Tryz.func82 (by kernel_rfl) rfl #[.string a0,.string (bU ByteArray.empty l1 0)] rfl (by (try simp only [List.map_toArray,List.map_cons,List.map_nil]);first|done|rfl|(simp only [List.length_drop,List.length_take];rfl)) ?_;(with_reducible refine (strings_CutPrefix.calls a0 (bU ByteArray.empty l1 0) t122 t123 _ A4.out).mono ?_);rintro e w' ⟨rfl,⟨nd,rfl⟩⟩;refine ⟨_,rfl,?_⟩;obtain ⟨i07,hi07,_,hsz7,_⟩:=info_parts yz;obtain ⟨A7,hcut7,hA7,hC7⟩:=rJ (P:=Tryz.prog) Value.string (⟨#[]⟩:ByteArray) 22 9 .i64 .i64 Tryz.underlying22 hi07 hsz7 (some ad121) c1 l1 1 (wrap64 ((l1.length:Int) - 1)) (by omega) (by first|omega|exact of_decide_eq_true (by first|(with_reducible assumption)|assumption)) (of_decide_eq_true (by first|(with_reducible assumption)|assumption)) HC1.out;have HR124:=aa.mk (Kd.uu (h1:=fun _=>rfl) (hA7 _ (Kd.jY HR1.out)));have HC124:=aa.mk hC7;clear hA7 hC7 hi07 hsz7))
    go_loopg [6,7,25] k (fun kq v6 v7 v25 w'=>∃ (x6_1:ByteArray) (x7_1:Bool) (x25_1:Int),v6=.string x6_1∧v7=.bool x7_1∧v25=.int .i64 x25_1∧aa (bW.l0 kq l1 (wrap64 ((l1.length:Int) - 1)) x6_1 x7_1 ((l1.take ((wrap64 ((l1.length:Int) - 1)):Int).toNat).drop 1) (((l1.take ((wrap64 ((l1.length:Int) - 1)):Int).toNat).drop 1).length:Int) x25_1=some r)∧aa (kq≤k)∧aJ w w')
    case atStart=>exact ⟨(t122),(t123),(0),(by first|rfl|(simp;done)|(simp [*];done)|(simp [*,aK,aM,bX];done)|(simp only [au,ak];done)|(simp only [au,ak];simp;done)|(simp only [au,ak];simp [*];done)),(by first|rfl|(simp;done)|(simp [*];done)|(simp [*,aK,aM,bX];done)|(simp only [au,ak];done)|(simp only [au,ak];simp;done)|(simp only [au,ak];simp [*];done)),(by first|rfl|(simp;done)|(simp [*];done)|(simp [*,aK,aM,bX];done)|(simp only [au,ak];done)|(simp only [au,ak];simp;done)|(simp only [au,ak];simp [*];done)),H',⟨Nat.le_refl _⟩,by repeat (first|exact aJ.refl _|apply aJ.step)⟩
    case round =>
     clear H'
     try clear c1
     try clear p1
     try clear q1
     try clear hx1
     try clear qi1
     try clear p2
     try clear c3
     try clear c3b0
     try clear c3b1
     try clear c5
     try clear c5b0
     try clear c5b1
     try clear c6
     try clear c6b0
     try clear c6b1
     try clear p6
     try clear hx121_0
     try clear p121
     try clear q121
     obtain ⟨x6_1,x7_1,x25_1,rfl,rfl,rfl,HA,HK1,⟨m1,rfl⟩⟩:=hrel
     cases gk with
     | zero=>exact absurd HA.out (by simp [bW.l0])
     | succ k1 =>
      have H:=HA.out
      clear HA
      simp only [bW.l0] at H
      by_cases c8:x25_1 < (((l1.take ((wrap64 ((l1.length:Int) - 1)):Int).toNat).drop 1).length:Int)
      ·rw [if_pos c8] at H
       have c8b0:decide (x25_1 < (((l1.take ((wrap64 ((l1.length:Int) - 1)):Int).toNat).drop 1).length:Int))=true:=decide_eq_true c8
       have c8e0:=c8b0
       rw [show ((l1.take ((wrap64 ((l1.length:Int) - 1)):Int).toNat).drop 1).length=((wrap64 ((l1.length:Int) - 1)):Int).toNat - 1 by rw [List.length_drop,List.length_take];have:=HLE.out;omega] at c8e0
       clear c8
       by_cases c9:0≤x25_1
       ·rw [if_pos c9] at H
        have c9b0:decide (0≤x25_1)=true:=decide_eq_true c9
        clear c9
        by_cases c10:x25_1 < (((l1.take ((wrap64 ((l1.length:Int) - 1)):Int).toNat).drop 1).length:Int)
        ·rw [if_pos c10] at H
         have c10b0:decide (x25_1 < (((l1.take ((wrap64 ((l1.length:Int) - 1)):Int).toNat).drop 1).length:Int))=true:=decide_eq_true c10
         have c10e0:=c10b0
         rw [show ((l1.take ((wrap64 ((l1.length:Int) - 1)):Int).toNat).drop 1).length=((wrap64 ((l1.length:Int) - 1)):Int).toNat - 1 by rw [List.length_drop,List.length_take];have:=HLE.out;omega] at c10e0
         clear c10
         by_cases c11:x7_1=true
         ·subst c11
          have H1:((strings_Cut.f x6_1 (bU ByteArray.empty ((l1.take ((wrap64 ((l1.length:Int) - 1)):Int).toNat).drop 1) x25_1)).bind fun bt126=>(bW.l0 k1 l1 (wrap64 ((l1.length:Int) - 1)) bt126.2.1 bt126.2.2 ((l1.take ((wrap64 ((l1.length:Int) - 1)):Int).toNat).drop 1) (((l1.take ((wrap64 ((l1.length:Int) - 1)):Int).toNat).drop 1).length:Int) (wrap64 (x25_1+1))))=some r:=by rw [if_pos rfl] at H;exact H
          clear H
          have H:=H1
          clear H1
          replace H:=Option.bind_eq_some_iff.mp H
          obtain ⟨⟨t126,t127,t128⟩,A120,H⟩:=H
          replace H:(bW.l0 k1 l1 (wrap64 ((l1.length:Int) - 1)) t127 t128 ((l1.take ((wrap64 ((l1.length:Int) - 1)):Int).toNat).drop 1) (((l1.take ((wrap64 ((l1.length:Int) - 1)):Int).toNat).drop 1).length:Int) (wrap64 (x25_1+1)))=some r:=H
          have A12:=aa.mk A120
          clear A120
          have H':=aa.mk H
          clear H
          have p125:0≤(x25_1:Int):=of_decide_eq_true (by first|(with_reducible assumption)|assumption)
          have q125:x25_1 < (((l1.take ((wrap64 ((l1.length:Int) - 1)):Int).toNat).drop 1).length:Int):=of_decide_eq_true (by first|(with_reducible assumption)|assumption)
          obtain ⟨ad125,e125,hx125_0⟩:=Kd.fA HR124.out x25_1 p125 q125
          cases e125
          replace p125:=eq_true p125
          replace q125:=eq_true q125
          have q125e:=q125
          rw [show ((l1.take ((wrap64 ((l1.length:Int) - 1)):Int).toNat).drop 1).length=((wrap64 ((l1.length:Int) - 1)):Int).toNat - 1 by rw [List.length_drop,List.length_take];have:=HLE.out;omega] at q125e
          have A12t:=A12
          rw [List.drop_one] at A12t
          go_wp2_with (first|((with_reducible refine aH (f:=83) rfl ?_);refine bq (some 33) rfl rfl Tryz.func83 (by kernel_rfl) rfl #[.string x6_1,.string (bU ByteArray.empty ((l1.take ((wrap64 ((l1.length:Int) - 1)):Int).toNat).tail) x25_1)] rfl (by (try simp only [List.map_toArray,List.map_cons,List.map_nil]);first|done|rfl|(simp only [List.length_drop,List.length_take];rfl)) ?_;(with_reducible refine (strings_Cut.calls x6_1 (bU ByteArray.empty ((l1.take ((wrap64 ((l1.length:Int) - 1)):Int).toNat).tail) x25_1) t126 t127 t128 _ ?side1 A12t.out).mono ?_);(case side1=>first|exact HG.out|exact Gl.drewN HG.out _);rintro e w' ⟨rfl,⟨nd,rfl⟩⟩;refine ⟨_,rfl,?_⟩))
          go_roundg k1
          case measure=>have:=HK1.out;omega
          case rel=>exact ⟨(t127),(t128),(wrap64 (x25_1+1)),(by first|rfl|(simp;done)|(simp [*];done)|(simp [*,aK,aM,bX];done)|(simp only [au,ak];done)|(simp only [au,ak];simp;done)|(simp only [au,ak];simp [*];done)),(by first|rfl|(simp;done)|(simp [*];done)|(simp [*,aK,aM,bX];done)|(simp only [au,ak];done)|(simp only [au,ak];simp;done)|(simp only [au,ak];simp [*];done)),(by first|rfl|(simp;done)|(simp [*];done)|(simp [*,aK,aM,bX];done)|(simp only [au,ak];done)|(simp only [au,ak];simp;done)|(simp only [au,ak];simp [*];done)),H',⟨by have:=HK1.out;omega⟩,by repeat (first|exact aJ.refl _|apply aJ.step)⟩
         ·replace c11:=Bool.eq_false_iff.mpr c11
          subst c11
          have H1:(bW.l0 k1 l1 (wrap64 ((l1.length:Int) - 1)) x6_1 false ((l1.take ((wrap64 ((l1.length:Int) - 1)):Int).toNat).drop 1) (((l1.take ((wrap64 ((l1.length:Int) - 1)):Int).toNat).drop 1).length:Int) (wrap64 (x25_1+1)))=some r:=by rw [if_neg (show ¬ (false=true) by decide)] at H;exact H
          clear H
          have H:=H1
          clear H1
          have H':=aa.mk H
          clear H
          have p125:0≤(x25_1:Int):=of_decide_eq_true (by first|(with_reducible assumption)|assumption)
          have q125:x25_1 < (((l1.take ((wrap64 ((l1.length:Int) - 1)):Int).toNat).drop 1).length:Int):=of_decide_eq_true (by first|(with_reducible assumption)|assumption)
          obtain ⟨ad125,e125,hx125_0⟩:=Kd.fA HR124.out x25_1 p125 q125
          cases e125
          replace p125:=eq_true p125
          replace q125:=eq_true q125
          have q125e:=q125
          rw [show ((l1.take ((wrap64 ((l1.length:Int) - 1)):Int).toNat).drop 1).length=((wrap64 ((l1.length:Int) - 1)):Int).toNat - 1 by rw [List.length_drop,List.length_take];have:=HLE.out;omega] at q125e
          go_wp2
          go_roundg k1
          case measure=>have:=HK1.out;omega
          case rel=>exact ⟨(x6_1),(false),(wrap64 (x25_1+1)),(by first|rfl|(simp;done)|(simp [*];done)|(simp [*,aK,aM,bX];done)|(simp only [au,ak];done)|(simp only [au,ak];simp;done)|(simp only [au,ak];simp [*];done)),(by first|rfl|(simp;done)|(simp [*];done)|(simp [*,aK,aM,bX];done)|(simp only [au,ak];done)|(simp only [au,ak];simp;done)|(simp only [au,ak];simp [*];done)),(by first|rfl|(simp;done)|(simp [*];done)|(simp [*,aK,aM,bX];done)|(simp only [au,ak];done)|(simp only [au,ak];simp;done)|(simp only [au,ak];simp [*];done)),H',⟨by have:=HK1.out;omega⟩,by repeat (first|exact aJ.refl _|apply aJ.step)⟩
        ·rw [if_neg c10] at H
         exact absurd H (by simp)
       ·rw [if_neg c9] at H
        exact absurd H (by simp)
      ·rw [if_neg c8] at H
       have c8b0:decide (x25_1 < (((l1.take ((wrap64 ((l1.length:Int) - 1)):Int).toNat).drop 1).length:Int))=false:=decide_eq_false c8
       have c8e0:=c8b0
       rw [show ((l1.take ((wrap64 ((l1.length:Int) - 1)):Int).toNat).drop 1).length=((wrap64 ((l1.length:Int) - 1)):Int).toNat - 1 by rw [List.length_drop,List.length_take];have:=HLE.out;omega] at c8e0
       clear c8
       by_cases c13:x7_1=true
       ·subst c13
        have H1:(if 0≤(wrap64 ((l1.length:Int) - 1)) then (if (wrap64 ((l1.length:Int) - 1)) < (l1.length:Int) then ((strings_HasSuffix.f x6_1 (bU ByteArray.empty l1 (wrap64 ((l1.length:Int) - 1)))).bind fun t130=>(some t130)) else (none)) else (none))=some r:=by rw [if_pos rfl] at H;exact H
        clear H
        have H:=H1
        clear H1
        obtain ⟨ji14,hji14⟩:∃ j_:Int,(wrap64 ((l1.length:Int) - 1))=j_:=⟨_,rfl⟩
        replace H:(if 0≤(ji14) then (if (ji14) < (l1.length:Int) then ((strings_HasSuffix.f x6_1 (bU ByteArray.empty l1 (ji14))).bind fun t130=>(some t130)) else (none)) else (none))=some r:=by first|(rw [hji14] at H;exact H)|(simp only [hji14] at H ⊢;exact H)
        (try rw [hji14] at c5b0)
        (try rw [hji14] at c5b1)
        (try rw [hji14] at c6b0)
        (try rw [hji14] at c6b1)
        (try rw [hji14] at c8b0)
        (try rw [hji14] at c8e0)
        have hji14w:(IntKind.i64.wrap ((l1.length:Int) - 1))=ji14:=(aK _).trans hji14
        by_cases c15:0≤(ji14)
        ·rw [if_pos c15] at H
         have c15b0:decide (0≤(ji14))=true:=decide_eq_true c15
         clear c15
         by_cases c16:(ji14) < (l1.length:Int)
         ·rw [if_pos c16] at H
          have c16b0:decide ((ji14) < (l1.length:Int))=true:=decide_eq_true c16
          clear c16
          replace H:=Option.bind_eq_some_iff.mp H
          obtain ⟨t130,A170,H⟩:=H
          replace H:(some t130)=some r:=H
          have A17:=aa.mk A170
          clear A170
          obtain rfl:=Option.some.inj H
          have p129:0≤((ji14):Int):=of_decide_eq_true (by first|(with_reducible assumption)|assumption)
          have q129:(ji14) < (l1.length:Int):=of_decide_eq_true (by first|(with_reducible assumption)|assumption)
          obtain ⟨ad129,e129,hx129_0⟩:=Kd.fA HR1.out (ji14) p129 q129
          obtain rfl:ad121=ad129:=(by injection e129)
          replace p129:=eq_true p129
          replace q129:=eq_true q129
          go_wp2_with (first|(go_at_call 84;(with_reducible refine (strings_HasSuffix.calls x6_1 (bU ByteArray.empty l1 (ji14)) t130 _ A17.out).mono ?_);rintro e w' ⟨rfl,⟨nd,rfl⟩⟩))
          go_ret
          exact ⟨by first|rfl|(simp;done)|(simp only [← hji14] <;> (first|rfl|simp))|(simp [*];done),by repeat (first|exact aJ.refl _|apply aJ.step)⟩
         ·rw [if_neg c16] at H
          exact absurd H (by simp)
        ·rw [if_neg c15] at H
         exact absurd H (by simp)
       ·replace c13:=Bool.eq_false_iff.mpr c13
        subst c13
        have H1:(some false)=some r:=by rw [if_neg (show ¬ (false=true) by decide)] at H;exact H
        clear H
        have H:=H1
        clear H1
        obtain rfl:=Option.some.inj H
        go_wp2
        go_ret
        exact ⟨by first|rfl|(simp;done)|(simp [*];done)|(simp [*,aK,aM,bX];done)|(simp only [au,ak];done)|(simp only [au,ak];simp;done)|(simp only [au,ak];simp [*];done),by repeat (first|exact aJ.refl _|apply aJ.step)⟩
   ·rw [if_neg c6] at H
    exact absurd H (by simp)
  ·rw [if_neg c5] at H
   exact absurd H (by simp)
 ·rw [if_neg c3] at H
  exact absurd H (by simp)
end Go.Proofs.YthfpaoacjpjnfaaGreatDoor.P


namespace Go.Proofs.YthfpaoacjpjnfaaGreatDoor.P
open Go.RowKit Go.Proofs.YthfpaoacjpjnfaaGreatDoorW.PrintWords Go.Proofs.YthfpaoacjpjnfaaGreatDoorW.PrintLast Go.Proofs.YthfpaoacjpjnfaaGreatDoorW.PrintMore
def sZ:List ByteArray→ByteArray→Bool→ByteArray × Bool
  | [],s,b=>(s,b)
  | p :: r,s,b=>if b=true then sZ r ⟨(Lib.cut s.data.toList p.data.toList).2.1.toArray⟩ (Lib.cut s.data.toList p.data.toList).2.2 else sZ r s b
def AY (l:List ByteArray) (q:ByteArray × Bool):Bool:=q.2 && Lib.hasSuffix q.1.data.toList (bU ByteArray.empty l ((l.length - 1:Nat):Int)).data.toList
def mR (s:ByteArray) (l:List ByteArray):Bool :=
  AY l (sZ ((l.take (l.length - 1)).drop 1) ⟨(Lib.trimPrefix s.data.toList (bU ByteArray.empty l 0).data.toList).toArray⟩ (Lib.hasPrefix s.data.toList (bU ByteArray.empty l 0).data.toList))
theorem yA (s p:List UInt8):(Lib.cut s p).2.1.length≤s.length:=by
  unfold Lib.cut
  split
  · show (s.drop _).length≤_
    rw [List.length_drop];omega
  · exact Nat.zero_le _
theorem wQ (s p:List UInt8):(Lib.trimPrefix s p).length≤s.length:=by
  unfold Lib.trimPrefix
  split
  · rw [List.length_drop];omega
  · exact Nat.le_refl _
theorem vO (l:List UInt8):(⟨l.toArray⟩:ByteArray).size=l.length:=rfl
theorem xQ (s:ByteArray):s.data.toList.length=s.size:=rfl
theorem zk (m:List ByteArray) (i:Nat) (h:i < m.length):m.drop i=bU ByteArray.empty m (i:Int) :: m.drop (i+1):=by
  rw [List.drop_eq_getElem_cons h]
  congr 1
  unfold bU
  rw [Int.toNat_natCast,List.getD_eq_getElem?_getD,List.getElem?_eq_getElem h]
  rfl
theorem tJ (l m:List ByteArray) (h1:1≤l.length) (hl:l.length≤1000000000) (hm:m.length≤1000000000):∀ (n i:Nat) (s:ByteArray) (b:Bool),m.length - i=n→i≤m.length→s.size < 4294967281 →
    Ev (fun k=>bW.l0 k l ((l.length - 1:Nat):Int) s b m (m.length:Int) (i:Int)) (AY l (sZ (m.drop i) s b)):=by
  intro n
  induction n with
  | zero =>
    intro i s b hn hi hs
    have hd:m.drop i=[]:=List.drop_eq_nil_of_le (by omega)
    rw [hd]
    have c1:¬ ((i:Int) < (m.length:Int)):=by omega
    cases b with
    | false=>exact Ev.step (fun k=>by rw [bW.l0]) (Ev.ifn (c:=(i:Int) < (m.length:Int)) c1 (Ev.ifn (c:=false=true) Bool.false_ne_true (Ev.now false)))
    | true =>
      have e:(strings_HasSuffix.f s (bU ByteArray.empty l ((l.length - 1:Nat):Int)))=some (AY l (sZ [] s true)):=by
        unfold strings_HasSuffix.f
        rw [if_pos (by omega)]
        rfl
      exact Ev.step (fun k=>by rw [bW.l0]) (Ev.ifn (c:=(i:Int) < (m.length:Int)) c1 (Ev.ifp (c:=true=true) rfl (Ev.ifp (c:=0≤((l.length - 1:Nat):Int)) (by omega) (Ev.ifp (c:=((l.length - 1:Nat):Int) < (l.length:Int)) (by omega) (Ev.congr (fun k=>by rw [e];rfl) (Ev.now _))))))
  | succ n ih =>
    intro i s b hn hi hs
    have c1:(i:Int) < (m.length:Int):=by omega
    have hw:wrap64 ((i:Int)+1)=((i+1:Nat):Int):=by unfold wrap64;omega
    rw [zk m i (by omega)]
    cases b with
    | false =>
      have:=ih (i+1) s false (by omega) (by omega) hs
      rw [← hw] at this
      exact Ev.step (fun k=>by rw [bW.l0]) (Ev.ifp (c:=(i:Int) < (m.length:Int)) c1 (Ev.ifp (c:=0≤(i:Int)) (by omega) (Ev.ifp (c:=(i:Int) < (m.length:Int)) c1 (Ev.ifn (c:=false=true) Bool.false_ne_true this))))
    | true =>
      have:=ih (i+1) ⟨(Lib.cut s.data.toList (bU ByteArray.empty m (i:Int)).data.toList).2.1.toArray⟩ (Lib.cut s.data.toList (bU ByteArray.empty m (i:Int)).data.toList).2.2 (by omega) (by omega) (by
        have:=yA s.data.toList (bU ByteArray.empty m (i:Int)).data.toList
        rw [vO];rw [xQ] at this;omega)
      rw [← hw] at this
      have e:strings_Cut.f s (bU ByteArray.empty m (i:Int))=some (⟨(Lib.cut s.data.toList (bU ByteArray.empty m (i:Int)).data.toList).1.toArray⟩,⟨(Lib.cut s.data.toList (bU ByteArray.empty m (i:Int)).data.toList).2.1.toArray⟩,(Lib.cut s.data.toList (bU ByteArray.empty m (i:Int)).data.toList).2.2):=by
        unfold strings_Cut.f
        rw [if_pos hs]
      exact Ev.step (fun k=>by rw [bW.l0]) (Ev.ifp (c:=(i:Int) < (m.length:Int)) c1 (Ev.ifp (c:=0≤(i:Int)) (by omega) (Ev.ifp (c:=(i:Int) < (m.length:Int)) c1 (Ev.ifp (c:=true=true) rfl (Ev.congr (fun k=>by rw [e];rfl) this)))))
theorem vZ (s:ByteArray) (l:List ByteArray) (h2:2≤l.length) (hl:l.length≤1000000000) (hs:s.size < 4294967281):Ev (fun k=>bW.f k s l) (mR s l):=by
  have hw:wrap64 ((l.length:Int) - 1)=((l.length - 1:Nat):Int):=by unfold wrap64;omega
  have hm:((l.take (l.length - 1)).drop 1).length≤1000000000:=by rw [List.length_drop,List.length_take];omega
  have:=tJ l ((l.take (l.length - 1)).drop 1) (by omega) hl hm _ 0 ⟨(Lib.trimPrefix s.data.toList (bU ByteArray.empty l 0).data.toList).toArray⟩ (Lib.hasPrefix s.data.toList (bU ByteArray.empty l 0).data.toList) rfl (by omega) (by
    have:=wQ s.data.toList (bU ByteArray.empty l 0).data.toList
    rw [vO];rw [xQ] at this;omega)
  rw [List.drop_zero] at this
  unfold bW.f mR
  rw [hw,Int.toNat_natCast]
  exact Ev.ifp (c:=0 < (l.length:Int)) (by omega) (Ev.congr (fun k=>rfl) (Ev.ifp (c:=1≤((l.length - 1:Nat):Int)) (by omega) (Ev.ifp (c:=((l.length - 1:Nat):Int)≤(l.length:Int)) (by omega) this)))
theorem rE.any (a0:ByteArray) (w:World) (hs:a0.size≤9223372036854775807) :
    Calls Tryz.prog 60 #[.string a0] w fun e w'=>e=.returned (.string (gm a0))∧Below w.heap.size w w':=by
  have hcv:=fun W=>Lib.run_convert_string_bytes (P:=Tryz.prog) W 9 34 5 a0 (u:=.string) Tryz.underlying9 Tryz.underlying34 Tryz.underlying5
  go_enter Tryz.func60,Tryz.ntmps60
  go_wp2
  go_loopw [10] (fun i wr=>∃ k:Nat,k≤a0.size∧i=.int .i64 k∧aa (Below w.heap.size w wr)∧aa (iR wr w.heap.size a0.size (iW a0 k))) (fun i _=>a0.size - (intOf i).toNat)
  case atStart=>exact ⟨0,Nat.zero_le _,rfl,⟨Lib.bytesWorld_below _ _ _⟩,⟨by rw [jW];exact jm w a0⟩⟩
  case round =>
    obtain ⟨k,hk,rfl,HB,HR⟩:=hrel
    by_cases hlt:k < a0.size
    · have hc:=HR.out.cell k hlt
      have hz:=HR.out.free k hlt
      rw [j6] at hc
      obtain ⟨c,hcc⟩:∃ c:Int,((a0.data.toList.getD k 0).toNat:Int)=c:=⟨_,rfl⟩
      rw [hcc] at hc
      have hcr:0≤c∧c≤255:=by have:=(a0.data.toList.getD k 0).toNat_lt;omega
      have hc0:0≤c:=hcr.1
      have hc1:c≤255:=hcr.2
      clear hcr
      have HC:=Lib.hid hcc
      clear hcc
      by_cases h1:65≤c
      · by_cases h2:c≤90
        · have HL:=Lib.hid (qY h1 h2)
          go_wp2
          refine ⟨⟨k+1,by omega,by go_num,⟨?_⟩,⟨?_⟩⟩,by simp [intOf];omega⟩
          · exact (HB.out).setCell (Nat.le_refl _) _
          · have:=ll HR.out hlt HC.out
            rw [HL.out] at this
            first
            | exact this
            | (rw [show c+97 - 65=c+32 from by omega];exact this)
            | (rw [show ((c+97) - 65) % 256=c+32 from by omega];exact this)
            | (rw [show ((c+97) % 256 - 65) % 256=c+32 from by omega];exact this)
        · have HL:=Lib.hid (jR (c:=c) (by omega))
          have d2:decide (c≤90)=false:=by simpa using h2
          go_wp2
          refine ⟨⟨k+1,by omega,by go_num,HB,⟨iF HR.out HC.out HL.out⟩⟩,by simp [intOf];omega⟩
      · have HL:=Lib.hid (jR (c:=c) (by omega))
        have d1:decide (65≤c)=false:=by simpa using h1
        go_wp2
        refine ⟨⟨k+1,by omega,by go_num,HB,⟨iF HR.out HC.out HL.out⟩⟩,by simp [intOf];omega⟩
    · have hge:¬ (k:Int) < (a0.size:Int):=by omega
      have hst:=fun cap=>jA (P:=Tryz.prog) HR.out cap 34 5 9 Tryz.underlying34 Tryz.underlying5 Tryz.underlying9
      rw [lG a0 k hlt] at hst
      go_wp2
      go_ret
      exact ⟨rfl,HB.out⟩
def Aj (typ:ByteArray) (l:List ByteArray) (v:ByteArray):Bool :=
  (iq (eQ typ.data.toList v.data.toList)).2 && mR (iq (eQ typ.data.toList v.data.toList)).1 l
set_option maxHeartbeats 2000000 in
set_option maxRecDepth 100000 in
theorem yF (B C:Nat) (v typ:ByteArray) (l:List ByteArray) (A:Option Addr) (c:Nat) (W:World) (hG:Gl W) (hc:W.cell? ⟨B,1,none⟩=some (.string typ)) (hd:W.cell? ⟨C,0,none⟩=some (.slice A l.length c)) (hv:Kd.C Kd.string W A l.length l) (hlc:l.length≤c)
    (h2:typ.size≤9223372036854775807) (h3:2≤l.length) (h4:l.length≤1000000000) (h5:(iq (eQ typ.data.toList v.data.toList)).1.size < 4294967281) :
    Calls Tryz.prog 62 (#[.string v]++#[.pointer (some ⟨B,0,none⟩),.pointer (some ⟨C,0,none⟩)]) W fun e w'=>e=.returned (.bool (Aj typ l v))∧Below W.heap.size W w':=by
  have hu:=Tryz.underlying25
  have HG:=aa.mk hG
  have H2:=aa.mk h2
  have HV:=aa.mk hv
  have HC:=aa.mk hlc
  obtain ⟨k,hk⟩:=Ev.rounds (vZ (iq (eQ typ.data.toList v.data.toList)).1 l h3 h4 h5)
  have HK:=aa.mk hk
  have HS:=aa.mk (show Aj typ l v=((iq (eQ typ.data.toList v.data.toList)).2 && mR (iq (eQ typ.data.toList v.data.toList)).1 l) from rfl)
  obtain ⟨q,hq⟩:∃ q,iq (eQ typ.data.toList v.data.toList)=q:=⟨_,rfl⟩
  rw [hq] at HK HS
  have HQ:=aa.mk hq
  clear hG h2 hv hlc hk hq h3 h4 h5
  obtain ⟨q1,q2⟩:=q
  show Calls Tryz.prog 62 #[.string v,.pointer (some ⟨B,0,none⟩),.pointer (some ⟨C,0,none⟩)] W _
  cases q2
  · go_enter Tryz.func62,Tryz.ntmps62
    go_wp2_with (go_at_call 39;refine (o7 typ v _ HG.out H2.out).mono ?_;rintro e w1 ⟨rfl,hb⟩;rw [HQ.out];have HB:=aa.mk hb;clear hb)
    go_ret
    exact ⟨congrArg (fun b=>Ending.returned (.bool b)) (by rw [HS.out];rfl),HB.out⟩
  · go_enter Tryz.func62,Tryz.ntmps62
    go_wp2_with (first|(go_at_call 39;refine (o7 typ v _ HG.out H2.out).mono ?_;rintro e w1 ⟨rfl,hb⟩;rw [HQ.out];have HB:=aa.mk hb;have hd1:=bC (W0:=W) hd hb;clear hb hc hd)|(go_at_call 63;refine (bW.calls k q1 A c l (mR q1 l) _ (Kd.bP HV.out HB.out) HC.out (HG.out.below HB.out) HK.out).mono ?_;rintro e w2 ⟨rfl,⟨nq,rfl⟩⟩))
    go_ret
    exact ⟨congrArg (fun b=>Ending.returned (.bool b)) (by rw [HS.out];rfl),ae HB.out nq⟩
structure gL (w W:World) (P:Nat) (o1 o2:Array Value) (v:Value) (xs:List ByteArray):Prop where
  b1:W.heap[w.heap.size]?=some (.cells o1 25 (0,0))
  b2:W.heap[w.heap.size+1]?=some (.cells o2 28 (0,0))
  bp:W.heap[P]?=some (.cells #[v] 22 (0,0))
  row:Kd.R Kd.string 9 W w.heap.size (fun _=>True) v xs
  bl:Below w.heap.size w W
section
variable {w W W':World} {P:Nat} {o1 o2:Array Value} {v:Value} {xs:List ByteArray}
theorem gL.below (h:gL w W P o1 o2 v xs) (hb:Below W.heap.size W W'):gL w W' P o1 o2 v xs :=
  ⟨aI h.b1 hb,aI h.b2 hb,aI h.bp hb,Kd.bE h.row hb,aA h.bl hb⟩
theorem gL.drew (h:gL w W P o1 o2 v xs):gL w W.drew P o1 o2 v xs:=h.below (ag (Below.refl _ _))
theorem gL.cellP (h:gL w W P o1 o2 v xs):W.cell? ⟨P,0,none⟩=some v:=(az h.bp 0).trans rfl
theorem gL.put {W1:World} {v1:Value} {p:ByteArray} (h:gL w W P o1 o2 v xs) (hr:Kd.R Kd.string 9 W1 w.heap.size (fun _=>True) v1 (xs++[p])) (hb:Below w.heap.size w W1) (hg:W.grownBy W1 v.ownBlock) (hP:w.heap.size+1 < P):gL w (W1.setCell ⟨P,0,none⟩ v1) P o1 o2 v1 (xs++[p]):=by
  have g1:=dm h.b1 hg (Kd.oo h.row h.b1 (by decide))
  have g2:=dm h.b2 hg (Kd.oo h.row h.b2 (by decide))
  have g3:=dm h.bp hg (Kd.oo h.row h.bp (by decide))
  refine ⟨eB g1 (by show w.heap.size≠P;omega) _,eB g2 (by show w.heap.size+1≠P;omega) _,bT g3 0 v1 rfl,Kd.Bd hr g3 (by decide) 0 v1,ah hb (by omega)⟩
end
theorem yf {w:World} {P:Nat} {o1 o2:Array Value} {v:Value} {xs:List ByteArray} (s:ByteArray) (W:World) (hs:s.size≤9223372036854775807) (h:gL w W P o1 o2 v xs) :
    Calls Tryz.prog 60 #[.string s] W fun e w'=>e=.returned (.string (gm s))∧w'.cell? ⟨P,0,none⟩=some v∧gL w w' P o1 o2 v xs:=by
  refine (rE.any s W hs).mono ?_
  rintro e w' ⟨rfl,hb⟩
  exact ⟨rfl,(h.below hb).cellP,h.below hb⟩
def pU (typ:ByteArray) (l vs:List ByteArray) (i:Nat):Bool:=Aj typ l (bU ByteArray.empty vs (i:Int))
def qF (typ:ByteArray) (l vs:List ByteArray):Prop :=
  2≤l.length∧l.length≤1000000000∧(∀ i:Nat,i < l.length→(bU ByteArray.empty l (i:Int)).size≤9223372036854775807)∧vs.length≤1000000000∧∀ i:Nat,i < vs.length→(iq (eQ typ.data.toList (bU ByteArray.empty vs (i:Int)).data.toList)).1.size < 4294967281
instance qF.dec (typ:ByteArray) (l vs:List ByteArray):Decidable (qF typ l vs):=by unfold qF;infer_instance
def iA.f (a0_0:Int) (a0_1 a0_2:ByteArray) (l0_3:List ByteArray) (l0_4:List S25) (a1_0:ByteArray) (l1_1:List S45):Option Int :=
  if a0_1.size≤9223372036854775807 then (if dI a0_1.data.toList≠1 then some 2 else
    (dF.f a1_0 l1_1 a0_1).bind fun vs=>if qF a0_1 l0_3 vs then some (if gD (pU a0_1 (l0_3.map gm) vs) vs.length=true then 1 else 0) else none) else none
set_option maxHeartbeats 4000000 in
set_option maxRecDepth 100000 in
theorem iA.calls (a0_0:Int) (a0_1:ByteArray) (a0_2:ByteArray) (A0_3:Option Addr) (c0_3:Nat) (l0_3:List ByteArray) (A0_4:Option Addr) (c0_4:Nat) (l0_4:List S25) (a1_0:ByteArray) (A1_1:Option Addr) (c1_1:Nat) (l1_1:List S45) (r:Int) (w:World) (hr0_3:Kd.C Kd.string w A0_3 l0_3.length l0_3) (hc0_3:l0_3.length≤c0_3) (hr0_4:Kd.C k25 w A0_4 l0_4.length l0_4) (hc0_4:l0_4.length≤c0_4) (hr1_1:Kd.C k45 w A1_1 l1_1.length l1_1) (hc1_1:l1_1.length≤c1_1) (hG:Gl w) (h:iA.f a0_0 a0_1 a0_2 l0_3 l0_4 a1_0 l1_1=some r) :
    Calls Tryz.prog 38 #[.agg #[.int .i64 a0_0,.string a0_1,.string a0_2,.slice A0_3 l0_3.length c0_3,.slice A0_4 l0_4.length c0_4],.agg #[.string a1_0,.slice A1_1 l1_1.length c1_1]] w fun e w'=>e=.returned (.int .i64 r)∧Below w.heap.size w w':=by
  unfold iA.f at h
  by_cases hs:a0_1.size≤9223372036854775807
  · rw [if_pos hs] at h
    have hu1:=Tryz.underlying25
    have hu2:=Tryz.underlying28
    have eg:∀ args w,(callFunc 62 args).run Tryz.prog w=.ok (.enter 62 args) w:=enters_of Tryz.func62 (by kernel_rfl) rfl
    obtain ⟨rl,hrl⟩:∃ x,dI a0_1.data.toList=x:=⟨_,rfl⟩
    rw [hrl] at h
    have HS:=aa.mk hs
    have HR:=aa.mk hr1_1
    have HC:=aa.mk hc1_1
    have HP3:=aa.mk hr0_3
    have HG:=aa.mk hG
    have HRL:=aa.mk hrl
    have HH:=aa.mk h
    clear hr0_3 hc0_3 hr0_4 hc0_4 hr1_1 hc1_1 hG hs hrl h
    obtain ⟨o1,ho1⟩:∃ o:Array Value,#[.int .i64 a0_0,.string a0_1,.string a0_2,.slice A0_3 l0_3.length c0_3,.slice A0_4 l0_4.length c0_4]=o:=⟨_,rfl⟩
    obtain ⟨o2,ho2⟩:∃ o:Array Value,#[.string a1_0,.slice A1_1 l1_1.length c1_1]=o:=⟨_,rfl⟩
    have HO1:=aa.mk ho1
    have HO2:=aa.mk ho2
    clear ho1 ho2
    go_enter Tryz.func38,Tryz.ntmps38
    go_upto_region 1 with (fail)
    obtain ⟨w0,hw0⟩:∃ w0,(w.alloc (.cells #[.int .i64 a0_0,.string a0_1,.string a0_2,.slice A0_3 l0_3.length c0_3,.slice A0_4 l0_4.length c0_4] 25)).alloc (.cells #[.string a1_0,.slice A1_1 l1_1.length c1_1] 28)=w0:=⟨_,rfl⟩
    have k1:w0.cell? ⟨w.heap.size,1,none⟩=some (.string a0_1):=by rw [← hw0];simp [go_sem]
    have B1:=aa.mk (show w0.heap[w.heap.size]?=some (.cells o1 25 (0,0)) by rw [← hw0,← HO1.out];exact ai (jb _ _) _)
    have B2:=aa.mk (show w0.heap[w.heap.size+1]?=some (.cells o2 28 (0,0)) by rw [← hw0,← HO2.out];exact (by have:=jb (w.alloc (.cells #[.int .i64 a0_0,.string a0_1,.string a0_2,.slice A0_3 l0_3.length c0_3,.slice A0_4 l0_4.length c0_4] 25)) (.cells #[.string a1_0,.slice A1_1 l1_1.length c1_1] 28);simpa using this))
    have kB:Below w.heap.size w w0:=by rw [← hw0];exact af (af (Below.refl _ _) _) _
    have klt:w.heap.size+1 < w0.heap.size:=by rw [← hw0];simp
    rw [hw0]
    clear hw0
    have KB:=aa.mk kB
    have KL:=aa.mk klt
    clear kB klt
    by_cases h1:rl=1
    · subst h1
      obtain ⟨vs,hv,h⟩:=Option.bind_eq_some_iff.1 (show (dF.f a1_0 l1_1 a0_1).bind _=some r by have:=HH.out;rw [if_neg (fun hne=>hne rfl)] at this;exact this)
      by_cases hok:qF a0_1 l0_3 vs
      · rw [if_pos hok] at h
        have hrr:=Option.some.inj h
        have HV:=aa.mk hv
        have HK:=aa.mk hok
        have HRR:=aa.mk hrr
        clear HH hv h hok hrr
        go_upto_region 3 with (go_at_call 59;refine (o9 a0_1 _ HS.out).mono ?_;rintro e w1 ⟨rfl,hb⟩;rw [HRL.out];have KB1:=aa.mk (aA KB.out hb);have KL1:=aa.mk (Nat.lt_of_lt_of_le KL.out (aC hb));have B11:=aa.mk (aI B1.out hb);have B21:=aa.mk (aI B2.out hb);clear hb B1 B2 KB KL k1)
        go_upto_region 4 with (fail)
        obtain ⟨w2,hw2⟩:∃ w2,w1.alloc (.cells #[.slice none 0 0] 22)=w2:=⟨_,rfl⟩
        have I2:=aa.mk (show gL w w2 w1.heap.size o1 o2 (.slice none 0 0) [] by
          rw [← hw2]
          exact ⟨ai B11.out _,ai B21.out _,jb _ _,Kd.kH _ _ _ _ _,af KB1.out _⟩)
        rw [hw2]
        clear hw2
        obtain ⟨P,hP⟩:∃ P,w1.heap.size=P:=⟨_,rfl⟩
        rw [hP] at I2 KL1
        rw [hP]
        clear hP B11 B21 KB1
        have k3:w2.cell? ⟨w.heap.size,3,none⟩=some (.slice A0_3 l0_3.length c0_3):=(az I2.out.b1 3).trans (by rw [← HO1.out];rfl)
        go_wp2_with (fail)
        clear k3
        go_loopg [7,15] l0_3.length (fun gg s7 s15 wr=>∃ (kk:Nat) (v:Value),kk≤l0_3.length∧l0_3.length - kk≤gg∧s15=.int .i64 kk∧aa (gL w wr P o1 o2 v ((l0_3.take kk).map gm)))
        case atStart=>exact ⟨0,.slice none 0 0,Nat.zero_le _,by omega,rfl,I2⟩
        case round =>
          obtain ⟨kk,v,hkk,hg,rfl,IV⟩:=hrel
          clear I2
          by_cases hlt:kk < l0_3.length
          · have hltz:(kk:Int) < (l0_3.length:Int):=by omega
            obtain ⟨ad,ea,x0⟩:=Kd.fA (Kd.bP HP3.out IV.out.bl) (kk:Int) (by omega) (by omega)
            subst ea
            rw [Int.toNat_natCast] at x0
            have hsz:=HK.out.2.2.1 kk hlt
            obtain ⟨xs,hxs⟩:∃ xs,(l0_3.take kk).map gm=xs:=⟨_,rfl⟩
            rw [hxs] at IV
            have HXS:=aa.mk hxs
            clear hxs
            obtain ⟨p,hp⟩:∃ p,bU ByteArray.empty l0_3 (kk:Int)=p:=⟨_,rfl⟩
            rw [hp] at x0 hsz
            have HPP:=aa.mk hp
            clear hp
            go_upto_region 7 with (fail)
            have iv:=IV.out
            have kP:=iv.cellP
            clear IV
            have hPlt:=KL1.out
            have hn1:(xs.length+1) * 16≤140737488355328:=by
              have:=HK.out.2.1
              rw [← HXS.out,List.length_map,List.length_take]
              omega
            go_region_law (first|(refine Kd.lT Kd.string (w0:=w) w.heap.size (by rfl) (.tmp 19) (.tmp 22) 22 9 (.string ⟨#[]⟩) 16 (by rfl) Tryz.underlying22 yz rfl (by decide) (by omega) v xs (gm p) [.string (gm p)] (fun _=>True) (fun _=>False) (by rfl) (by rfl) (by rfl) (fun _ hk=>hk.elim) (fun _ _=>trivial) q2.row q2.bl (aC q2.bl) hn1 ?_;intro v1 w4 r1 b1 g1 t1;obtain ⟨A4,c4,e4⟩:=Kd.cu r1;subst e4;have kP4:w4.cell? ⟨P,0,none⟩=some v:=(az (dm q2.bp g1 (Kd.oo q2.row q2.bp (by decide))) 0).trans rfl;have fP4:w4.frozen? ⟨P,0,none⟩=false:=ay (dm q2.bp g1 (Kd.oo q2.row q2.bp (by decide))) 0)|(go_simp;go_at_call 60;refine (yf _ _ hsz (by first|assumption|exact gL.drew (by assumption))).mono ?_;rintro e w' ⟨rfl,q1,q2⟩;have kQ:(w'.alloc (.cells #[.string (gm p)] 9)).cell? ⟨P,0,none⟩=some v:=(az (ai q2.bp _) 0).trans rfl))
            all_goals
              have inv:=q2.put r1 b1 g1 hPlt
              rw [show (xs++[gm p]).length=xs.length+1 by simp] at inv
              have INV:=aa.mk inv
              clear inv iv kP q1 q2 r1 b1 g1 t1 kP4 fP4 kQ x0
              generalize hW5:w4.setCell ⟨P,0,none⟩ (.slice A4 (xs.length+1) c4)=w5 at INV ⊢
              clear hW5
              go_wp2
              go_roundg (l0_3.length - (kk+1))
              case measure=>omega
              case rel =>
                have hbd:=HK.out.2.1
                refine ⟨kk+1,.slice A4 (xs.length+1) c4,by omega,by omega,congrArg (Value.int IntKind.i64) (by unfold wrap64;omega),⟨?_⟩⟩
                have e:(l0_3.take (kk+1)).map gm=xs++[gm p]:=by
                  rw [← HXS.out,← HPP.out,List.take_add_one,List.map_append]
                  congr 1
                  unfold bU
                  rw [Int.toNat_natCast,List.getD_eq_getElem?_getD,List.getElem?_eq_getElem hlt]
                  rfl
                rw [e]
                exact INV.out
          · have hltz:¬ (kk:Int) < (l0_3.length:Int):=by omega
            have hkn:kk=l0_3.length:=by omega
            subst hkn
            rw [List.take_length] at IV
            clear hlt hkk hg
            obtain ⟨A5,c5,e5⟩:=Kd.cu IV.out.row
            subst e5
            obtain ⟨ls,hls⟩:∃ ls,l0_3.map gm=ls:=⟨_,rfl⟩
            rw [hls] at IV
            have HRR2:=aa.mk (show (if gD (pU a0_1 ls vs) vs.length=true then (1:Int) else 0)=r by rw [← hls];exact HRR.out)
            have hn3:2≤ls.length:=by rw [← hls,List.length_map];exact HK.out.1
            have hn4:ls.length≤1000000000:=by rw [← hls,List.length_map];exact HK.out.2.1
            have hlen:l0_3.length=ls.length:=by rw [← hls,List.length_map]
            have HLN:=aa.mk hlen
            clear hls hlen
            have ct:∀ (W:World) (A:Option Addr) (c:Nat),gL w W P o1 o2 (.slice A5 ls.length c5) ls→Kd.string.C W A vs.length vs →
                Calls Tryz.prog 61 #[.slice A vs.length c,.func (.func 62) #[] #[.pointer (some ⟨w.heap.size,0,none⟩),.pointer (some ⟨P,0,none⟩)]] W fun e w'=>e=.returned (.bool (gD (pU a0_1 ls vs) vs.length))∧Below W.heap.size W w':=by
              intro W A c hi hvc
              refine iQ A c vs 62 _ (pU a0_1 ls vs) W eg hvc (fun i hi2 W' hb'=>?_)
              have iv:=hi.below hb'
              have hrd:=Kd.bn iv.row
              refine (yF w.heap.size P _ a0_1 ls A5 c5 W' (HG.out.below iv.bl) ((az iv.b1 1).trans (by rw [← HO1.out];rfl)) iv.cellP hrd.2.2 hrd.2.1 HS.out hn3 hn4 (HK.out.2.2.2.2 i hi2)).mono ?_
              rintro e w' ⟨rfl,hb2⟩
              exact ⟨rfl,aA hb' hb2⟩
            obtain ⟨b,hb0⟩:∃ b,gD (pU a0_1 ls vs) vs.length=b:=⟨_,rfl⟩
            rw [hb0] at HRR2
            have CT:=aa.mk ct
            rw [hb0] at CT
            have HT:=aa.mk (kU b)
            have hrr:=HRR2.out
            subst hrr
            have j1:wr.cell? ⟨w.heap.size,1,none⟩=some (.string a0_1):=(az IV.out.b1 1).trans (by rw [← HO1.out];rfl)
            have jD:wr.cell? ⟨w.heap.size+1,0,none⟩=some (.string a1_0):=(az IV.out.b2 0).trans (by rw [← HO2.out];rfl)
            have jE:wr.cell? ⟨w.heap.size+1,1,none⟩=some (.slice A1_1 l1_1.length c1_1):=(az IV.out.b2 1).trans (by rw [← HO2.out];rfl)
            clear ct eg hb0 hn3 hn4 HRR HRR2
            go_wp2_with (first|(go_at_call 37;refine (dF.calls a1_0 A1_1 c1_1 l1_1 a0_1 vs _ (Kd.bP HR.out IV.out.bl) HC.out HV.out).mono ?_;rintro e w2 ⟨v,rfl,ho,hb⟩;obtain ⟨Ao,co,eo⟩:=Kd.cu ho;subst eo;have IV2:=aa.mk (IV.out.below hb);have HO:=aa.mk ho;clear hb ho j1 jD jE)|(go_at_call 61;refine (CT.out _ _ _ IV2.out (Kd.bn HO.out).2.2).mono ?_;rintro e w3 ⟨rfl,hb⟩;have KB3:=aa.mk (aA IV2.out.bl hb);clear hb)|(go_at_call 36;refine (dw.calls _ _ _ HT.out).mono ?_;rintro e w4 ⟨rfl,⟨nq,rfl⟩⟩))
            all_goals (go_ret;exact ⟨by first|rfl|(simp [*];done),ae KB3.out _⟩)
      · rw [if_neg hok] at h
        cases h
    · have hr2:(2:Int)=r:=by
        have:=HH.out
        rw [if_pos h1] at this
        exact Option.some.inj this
      subst hr2
      have e1:(rl == 1)=false:=beq_eq_false_iff_ne.2 h1
      clear HH h1
      go_wp2_with (go_at_call 59;refine (o9 a0_1 _ HS.out).mono ?_;rintro e w1 ⟨rfl,hb⟩;rw [HRL.out];have KB1:=aa.mk (aA KB.out hb);clear hb)
      go_ret
      exact ⟨rfl,KB1.out⟩
  · rw [if_neg hs] at h
    cases h
end Go.Proofs.YthfpaoacjpjnfaaGreatDoor.P
