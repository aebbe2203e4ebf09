/- The card of EvalLogic: and is the least, or the greatest of its parts, and order does not matter; its conditions are those of the card's own row. -/
import Derived.Test.YthfpaoacjpjnfaaGreatDoorMELogic2
import Derived.Test.YthfpaoacjpjnfaaGreatDoorMELogic4
import Derived.Test.YthfpaoacjpjnfaaGreatDoorMELogic6
import Derived.Test.YthfpaoacjpjnfaaGreatDoorMELogic5
import Derived.Test.YthfpaoacjpjnfaaGreatDoorCards
import Derived.Test.YthfpaoacjpjnfaaGreatDoorTie
import Derived.WalkKit
import Derived.ProofKit
import Derived.OpenShut
import Derived.ShutString
import Derived.ChangeOld
import Derived.ChangeSame
import Derived.Below
import Derived.SizedLaws
import Derived.Deep.DeepHandedRow
import Derived.JoinedCond
import Derived.SevenTiedAt
import Derived.Lay
set_option linter.unusedVariables false
set_option linter.unusedSimpArgs false
namespace Go.Proofs.YthfpaoacjpjnfaaGreatDoor.P
open Go.RowKit Go.Proofs.YthfpaoacjpjnfaaGreatDoorW.PrintWords Go.Proofs.YthfpaoacjpjnfaaGreatDoorW.PrintLast Go.Proofs.YthfpaoacjpjnfaaGreatDoorW.PrintMore
attribute [local go_sem] dW dZ eP eQ dL dM dY dX
mutual
def aC.j0:Nat→List Int→List Int→List Int→List Int→ByteArray→Bool→Option (Bool)
 | 0,_,_,_,_,_,_=>none
 | k+1,x0,x1,x2,x3,x4,x38=>if x38=true then ((bW.f k).bind fun t640=>(some t640)) else ((aA.f k x3).bind fun bt641=>((aH.f k x0 x4).bind fun bt646=>((aH.f k x1 x4).bind fun bt655=>((aH.f k x2 x4).bind fun bt664=>((some (([(⟨bt646.1,bt646.2.1,bt646.2.2.1,bt646.2.2.2.1,bt646.2.2.2.2⟩:S25),(⟨bt655.1,bt655.2.1,bt655.2.2.1,bt655.2.2.2.1,bt655.2.2.2.2⟩:S25),(⟨bt664.1,bt664.2.1,bt664.2.2.1,bt664.2.2.2.1,bt664.2.2.2.2⟩:S25)]:List (S25)):List (S25))).bind fun y673=>(if 2 < (y673.length:Int) then (if 0 < (y673.length:Int) then (if 1 < (y673.length:Int) then (aC.l0 k y673 (([(⟨(az y673 2).f0,(az y673 2).f1,(az y673 2).f2,(az y673 2).f3,(az y673 2).f4⟩:S25),(⟨(az y673 0).f0,(az y673 0).f1,(az y673 0).f2,(az y673 0).f3,(az y673 0).f4⟩:S25),(⟨(az y673 1).f0,(az y673 1).f1,(az y673 1).f2,(az y673 1).f3,(az y673 1).f4⟩:S25)]:List (S25))) (([0,2,1]:List Int)) 2 0 0 bt641.1 bt641.2) else (none)) else (none)) else (none)))))))
def aC.l0:Nat→List (S25)→List (S25)→List Int→Int→Int→Int→ByteArray→List (S45)→Option (Bool)
 | 0,_,_,_,_,_,_,_,_=>none
 | k+1,x12,x13,x14,x15,x16,x17,x646000,x646001=>if x17 < 3 then (if 0≤x17 then (if x17 < (x12.length:Int) then ((dG.f k 1 (⟨#[]⟩:ByteArray) (⟨#[]⟩:ByteArray) ([]:List ByteArray) (([(⟨(az x12 x17).f0,(az x12 x17).f1,(az x12 x17).f2,(az x12 x17).f3,(az x12 x17).f4⟩:S25)]:List (S25)))).bind fun t689=>(if t689=true then ((bT.f k ((az x12 x17).f0) ((az x12 x17).f1) ((az x12 x17).f2) ((az x12 x17).f3) ((az x12 x17).f4) x646000 x646001).bind fun t691=>(if t691 < 0 then (some false) else (if t691 > 2 then (some false) else (if 0≤t691 then (if t691 < (x14.length:Int) then (aC.l0 k x12 x13 x14 (mn x15 (rd x14 t691)) (mx x16 (rd x14 t691)) (wrap64 (x17+1)) x646000 x646001) else (none)) else (none))))) else ((bW.f k).bind fun t694=>(some t694)))) else (none)) else (none)) else ((bT.f k 1 (⟨#[]⟩:ByteArray) (⟨#[]⟩:ByteArray) ([]:List ByteArray) x12 x646000 x646001).bind fun t695=>((bT.f k 2 (⟨#[]⟩:ByteArray) (⟨#[]⟩:ByteArray) ([]:List ByteArray) x12 x646000 x646001).bind fun t696=>(if t695 < 0 then (aC.j2 k x13 x14 x15 x16 t695 t696 true x646000 x646001) else (if t695 > 2 then (aC.j2 k x13 x14 x15 x16 t695 t696 true x646000 x646001) else (if t696 < 0 then (aC.j2 k x13 x14 x15 x16 t695 t696 true x646000 x646001) else (aC.j2 k x13 x14 x15 x16 t695 t696 (decide (t696 > 2)) x646000 x646001))))))
def aC.j2:Nat→List (S25)→List Int→Int→Int→Int→Int→Bool→ByteArray→List (S45)→Option (Bool)
 | 0,_,_,_,_,_,_,_,_,_=>none
 | k+1,x13,x14,x15,x16,x19,x20,x121,x646000,x646001=>if x121=true then (some false) else (if 0≤x19 then (if x19 < (x14.length:Int) then (if (rd x14 x19)=x15 then (if 0≤x20 then (if x20 < (x14.length:Int) then (if (rd x14 x20)=x16 then ((bT.f k 1 (⟨#[]⟩:ByteArray) (⟨#[]⟩:ByteArray) ([]:List ByteArray) x13 x646000 x646001).bind fun t699=>(if t699=x19 then ((bT.f k 2 (⟨#[]⟩:ByteArray) (⟨#[]⟩:ByteArray) ([]:List ByteArray) x13 x646000 x646001).bind fun t700=>(if t700=x20 then ((bW.f k).bind fun t701=>(some t701)) else (some false))) else (some false))) else (some false)) else (none)) else (none)) else (some false)) else (none)) else (none))
end
def aC.f (k:Nat) (l0:List Int) (l1:List Int) (l2:List Int) (l3:List Int) (a4:ByteArray):Option (Bool):=if (l0.length:Int) > 8 then (aC.j0 k l0 l1 l2 l3 a4 true) else (if (l1.length:Int) > 8 then (aC.j0 k l0 l1 l2 l3 a4 true) else (if (l2.length:Int) > 8 then (aC.j0 k l0 l1 l2 l3 a4 true) else (aC.j0 k l0 l1 l2 l3 a4 (decide ((a4.size:Int) > 20)))))
def aC.T5:Bool × List (List Nat × List Nat):=(true,[([],[]),([0],[0]),([1],[1]),([],[]),([3],[3]),([4],[4]),([],[]),([6],[6]),([7],[7]),([2,5,8],[2,5,8]),([9,0,1,2,3,4,5,6,7,8,9],[9])])
def aC.B5:List Nat:=[0,1,3,0,8,24,0,64,192,511,1023]
theorem aC.tab5:ik .any (opsOf Tryz.f6 5)=aC.T5:=by kernel_rfl
theorem aC.bits5:gW aC.T5.2 aC.B5=true:=by kernel_rfl
def aC.T18:Bool × List (List Nat × List Nat):=(true,[([],[]),([0],[0]),([],[]),([1,2],[1,2]),([],[]),([4],[4]),([],[]),([5,6,3],[5,6]),([3,7,0,1,2,3],[3]),([7,8,0,1,2,3,4,5,6,7,8],[7])])
def aC.B18:List Nat:=[0,1,0,7,0,16,0,127,255,511]
theorem aC.tab18:ik .any (opsOf Tryz.f6 18)=aC.T18:=by kernel_rfl
theorem aC.bits18:gW aC.T18.2 aC.B18=true:=by kernel_rfl
theorem wR {P:Program} {f:FuncId} {W:World} {Q:Ending→World→Prop} (n:Int) {a b c d e:Value} (h:Calls P f #[.agg #[.int .i64 n,a,b,c,d],e] W Q):Calls P f #[.agg #[.int .i64 n,a,b,c,d],e] W Q:=h
set_option maxHeartbeats 8000000 in
set_option maxRecDepth 100000 in
theorem aC.calls (k:Nat) (A0:Option Addr) (c0:Nat) (l0:List Int) (A1:Option Addr) (c1:Nat) (l1:List Int) (A2:Option Addr) (c2:Nat) (l2:List Int) (A3:Option Addr) (c3:Nat) (l3:List Int) (a4:ByteArray) (r:Bool) (w:World) (hr0:Kd.C (Kd.int .u8) w A0 l0.length l0) (hc0:l0.length≤c0) (hr1:Kd.C (Kd.int .u8) w A1 l1.length l1) (hc1:l1.length≤c1) (hr2:Kd.C (Kd.int .u8) w A2 l2.length l2) (hc2:l2.length≤c2) (hr3:Kd.C (Kd.int .u8) w A3 l3.length l3) (hc3:l3.length≤c3) (hG:Gl w) (h:aC.f k l0 l1 l2 l3 a4=some r) (hr:r=true:=by rfl) :
  Calls Tryz.prog 6 #[.slice A0 l0.length c0,.slice A1 l1.length c1,.slice A2 l2.length c2,.slice A3 l3.length c3,.string a4] w fun e w'=>e=.returned (.bool r)∧Below w.heap.size w w':=by
 have HRT:=aa.mk hr
 clear hr
 have hu28:=Tryz.underlying28
 have hu25:=Tryz.underlying25
 have HR0:=aa.mk hr0
 have HC0:=aa.mk hc0
 clear hr0 hc0
 have HR1:=aa.mk hr1
 have HC1:=aa.mk hc1
 clear hr1 hc1
 have HR2:=aa.mk hr2
 have HC2:=aa.mk hc2
 clear hr2 hc2
 have HR3:=aa.mk hr3
 have HC3:=aa.mk hc3
 clear hr3 hc3
 have HB:=aa.mk (Below.refl w.heap.size w)
 have HG:=aa.mk hG
 clear hG
 have H:(if (l0.length:Int) > 8 then (aC.j0 k l0 l1 l2 l3 a4 true) else (if (l1.length:Int) > 8 then (aC.j0 k l0 l1 l2 l3 a4 true) else (if (l2.length:Int) > 8 then (aC.j0 k l0 l1 l2 l3 a4 true) else (aC.j0 k l0 l1 l2 l3 a4 (decide ((a4.size:Int) > 20))))))=some r:=h
 clear h
 have HC6:=aa.mk H
 clear H
 go_enter Tryz.func6,Tryz.ntmps6
 go_upto_region 1 with (fail)
 go_cut [38] (fun v38 wc=>∃ (kq:Nat) (x38_5:Bool),v38=.bool x38_5∧aa (aC.j0 kq l0 l1 l2 l3 a4 x38_5=some r)∧aa (kq≤k)∧aa (Below w.heap.size w wc))
 case first =>
  have H:=HC6.out
  clear HC6
  by_cases c7:(l0.length:Int) > 8
  ·rw [if_pos c7] at H
   have c7b0:decide (8 < (l0.length:Int))=true:=decide_eq_true c7
   have c7b1:decide (8 < l0.length)=true:=decide_eq_true (by omega)
   clear c7
   (first|rw [c7b0]|(simp only [aT,aU];rw [c7b0])|skip)
   have H':=aa.mk H
   clear H
   go_wp2
   go_meet
   case rel=>exact ⟨_,(true),(by first|rfl|(simp;done)|(simp [*];done)|(simp [*,aT,aU,bU];done)|(simp only [ay,ax];done)|(simp only [ay,ax];simp;done)|(simp only [ay,ax];simp [*];done)),H',⟨by first|omega|exact Nat.le_refl _⟩,⟨by repeat (first|(with_reducible first|exact HB.out|apply af|apply ae|apply ag)|exact HB.out)⟩⟩
  ·rw [if_neg c7] at H
   have c7b0:decide (8 < (l0.length:Int))=false:=decide_eq_false c7
   have c7b1:decide (8 < l0.length)=false:=decide_eq_false (by omega)
   clear c7
   (first|rw [c7b0]|(simp only [aT,aU];rw [c7b0])|skip)
   by_cases c8:(l1.length:Int) > 8
   ·rw [if_pos c8] at H
    have c8b0:decide (8 < (l1.length:Int))=true:=decide_eq_true c8
    have c8b1:decide (8 < l1.length)=true:=decide_eq_true (by omega)
    clear c8
    have H':=aa.mk H
    clear H
    go_wp2
    go_meet
    case rel=>exact ⟨_,(true),(by first|rfl|(simp;done)|(simp [*];done)|(simp [*,aT,aU,bU];done)|(simp only [ay,ax];done)|(simp only [ay,ax];simp;done)|(simp only [ay,ax];simp [*];done)),H',⟨by first|omega|exact Nat.le_refl _⟩,⟨by repeat (first|(with_reducible first|exact HB.out|apply af|apply ae|apply ag)|exact HB.out)⟩⟩
   ·rw [if_neg c8] at H
    have c8b0:decide (8 < (l1.length:Int))=false:=decide_eq_false c8
    have c8b1:decide (8 < l1.length)=false:=decide_eq_false (by omega)
    clear c8
    by_cases c9:(l2.length:Int) > 8
    ·rw [if_pos c9] at H
     have c9b0:decide (8 < (l2.length:Int))=true:=decide_eq_true c9
     have c9b1:decide (8 < l2.length)=true:=decide_eq_true (by omega)
     clear c9
     have H':=aa.mk H
     clear H
     go_wp2
     go_meet
     case rel=>exact ⟨_,(true),(by first|rfl|(simp;done)|(simp [*];done)|(simp [*,aT,aU,bU];done)|(simp only [ay,ax];done)|(simp only [ay,ax];simp;done)|(simp only [ay,ax];simp [*];done)),H',⟨by first|omega|exact Nat.le_refl _⟩,⟨by repeat (first|(with_reducible first|exact HB.out|apply af|apply ae|apply ag)|exact HB.out)⟩⟩
    ·rw [if_neg c9] at H
     have c9b0:decide (8 < (l2.length:Int))=false:=decide_eq_false c9
     have c9b1:decide (8 < l2.length)=false:=decide_eq_false (by omega)
     clear c9
     have H':=aa.mk H
     clear H
     go_wp2
     go_meet
     case rel=>exact ⟨_,(decide ((a4.size:Int) > 20)),(by first|rfl|(simp;done)|(simp [*];done)|(simp [*,aT,aU,bU];done)|(simp only [ay,ax];done)|(simp only [ay,ax];simp;done)|(simp only [ay,ax];simp [*];done)),H',⟨by first|omega|exact Nat.le_refl _⟩,⟨by repeat (first|(with_reducible first|exact HB.out|apply af|apply ae|apply ag)|exact HB.out)⟩⟩
 case rest =>
  clear HC6
  try clear c1
  try clear c2
  try clear p2
  try clear c3
  try clear c6
  try clear c7
  try clear c7b0
  try clear c7b1
  try clear c8
  try clear c8b0
  try clear c8b1
  try clear c9
  try clear c9b0
  try clear c9b1
  obtain ⟨kq,x38_5,rfl,HA,HJ5,HB⟩:=hcut
  cases kq with
  | zero=>exact absurd HA.out (by simp [aC.j0])
  | succ kj5 =>
   have H:=HA.out
   clear HA
   simp only [aC.j0] at H
   by_cases c10:x38_5=true
   ·subst c10
    have H1:((bW.f kj5).bind fun t640=>(some t640))=some r:=by rw [if_pos rfl] at H;exact H
    clear H
    have H:=H1
    clear H1
    replace H:=Option.bind_eq_some_iff.mp H
    obtain ⟨t640,A110,H⟩:=H
    replace H:(some t640)=some r:=H
    have A11:=aa.mk A110
    clear A110
    obtain rfl:=Option.some.inj H
    go_wp2_with (first|((with_reducible refine aV (f:=15) rfl ?_);refine bJ (some 39) rfl rfl Tryz.func15 (by kernel_rfl) rfl #[] rfl (by (try simp only [List.map_toArray,List.map_cons,List.map_nil]);first|done|rfl|(simp only [List.length_drop,List.length_take];rfl)) ?_;(with_reducible refine (bW.calls kj5  t640 _ ?side1 A11.out).mono ?_);(case side1=>first|exact HG.out|exact Gl.drewN HG.out _|exact Gl.below HG.out (by repeat (first|(with_reducible first|exact HB.out|apply af|apply ae|apply ag)|exact HB.out)));rintro e w12 ⟨rfl,hb⟩;refine ⟨_,rfl,?_⟩;have n0_:=aa.mk (aD (by repeat (first|(with_reducible first|exact HB.out|apply af|apply ae|apply ag)|exact HB.out)) hb);clear HB;have HB:=n0_;clear n0_;(try clear hb);(try clear hb2);(try clear hk);(try clear hi)))
    go_ret
    exact ⟨by first|rfl|(simp [aM,aK] <;> rfl)|(simp [*,aM,aK] <;> rfl),by repeat (first|(with_reducible first|exact HB.out|apply af|apply ae|apply ag)|exact HB.out)⟩
   ·replace c10:=Bool.eq_false_iff.mpr c10
    subst c10
    have H1:((aA.f kj5 l3).bind fun bt641=>((aH.f kj5 l0 a4).bind fun bt646=>((aH.f kj5 l1 a4).bind fun bt655=>((aH.f kj5 l2 a4).bind fun bt664=>((some (([(⟨bt646.1,bt646.2.1,bt646.2.2.1,bt646.2.2.2.1,bt646.2.2.2.2⟩:S25),(⟨bt655.1,bt655.2.1,bt655.2.2.1,bt655.2.2.2.1,bt655.2.2.2.2⟩:S25),(⟨bt664.1,bt664.2.1,bt664.2.2.1,bt664.2.2.2.1,bt664.2.2.2.2⟩:S25)]:List (S25)):List (S25))).bind fun y673=>(if 2 < (y673.length:Int) then (if 0 < (y673.length:Int) then (if 1 < (y673.length:Int) then (aC.l0 kj5 y673 (([(⟨(az y673 2).f0,(az y673 2).f1,(az y673 2).f2,(az y673 2).f3,(az y673 2).f4⟩:S25),(⟨(az y673 0).f0,(az y673 0).f1,(az y673 0).f2,(az y673 0).f3,(az y673 0).f4⟩:S25),(⟨(az y673 1).f0,(az y673 1).f1,(az y673 1).f2,(az y673 1).f3,(az y673 1).f4⟩:S25)]:List (S25))) (([0,2,1]:List Int)) 2 0 0 bt641.1 bt641.2) else (none)) else (none)) else (none)))))))=some r:=by rw [if_neg (show ¬ (false=true) by decide)] at H;exact H
    clear H
    have H:=H1
    clear H1
    replace H:=Option.bind_eq_some_iff.mp H
    obtain ⟨⟨t641,t642⟩,A130,H⟩:=H
    replace H:((aH.f kj5 l0 a4).bind fun bt646=>((aH.f kj5 l1 a4).bind fun bt655=>((aH.f kj5 l2 a4).bind fun bt664=>((some (([(⟨bt646.1,bt646.2.1,bt646.2.2.1,bt646.2.2.2.1,bt646.2.2.2.2⟩:S25),(⟨bt655.1,bt655.2.1,bt655.2.2.1,bt655.2.2.2.1,bt655.2.2.2.2⟩:S25),(⟨bt664.1,bt664.2.1,bt664.2.2.1,bt664.2.2.2.1,bt664.2.2.2.2⟩:S25)]:List (S25)):List (S25))).bind fun y673=>(if 2 < (y673.length:Int) then (if 0 < (y673.length:Int) then (if 1 < (y673.length:Int) then (aC.l0 kj5 y673 (([(⟨(az y673 2).f0,(az y673 2).f1,(az y673 2).f2,(az y673 2).f3,(az y673 2).f4⟩:S25),(⟨(az y673 0).f0,(az y673 0).f1,(az y673 0).f2,(az y673 0).f3,(az y673 0).f4⟩:S25),(⟨(az y673 1).f0,(az y673 1).f1,(az y673 1).f2,(az y673 1).f3,(az y673 1).f4⟩:S25)]:List (S25))) (([0,2,1]:List Int)) 2 0 0 t641 t642) else (none)) else (none)) else (none))))))=some r:=H
    have A13:=aa.mk A130
    clear A130
    replace H:=Option.bind_eq_some_iff.mp H
    obtain ⟨⟨t646,t647,t648,t649,t652⟩,A140,H⟩:=H
    replace H:((aH.f kj5 l1 a4).bind fun bt655=>((aH.f kj5 l2 a4).bind fun bt664=>((some (([(⟨t646,t647,t648,t649,t652⟩:S25),(⟨bt655.1,bt655.2.1,bt655.2.2.1,bt655.2.2.2.1,bt655.2.2.2.2⟩:S25),(⟨bt664.1,bt664.2.1,bt664.2.2.1,bt664.2.2.2.1,bt664.2.2.2.2⟩:S25)]:List (S25)):List (S25))).bind fun y673=>(if 2 < (y673.length:Int) then (if 0 < (y673.length:Int) then (if 1 < (y673.length:Int) then (aC.l0 kj5 y673 (([(⟨(az y673 2).f0,(az y673 2).f1,(az y673 2).f2,(az y673 2).f3,(az y673 2).f4⟩:S25),(⟨(az y673 0).f0,(az y673 0).f1,(az y673 0).f2,(az y673 0).f3,(az y673 0).f4⟩:S25),(⟨(az y673 1).f0,(az y673 1).f1,(az y673 1).f2,(az y673 1).f3,(az y673 1).f4⟩:S25)]:List (S25))) (([0,2,1]:List Int)) 2 0 0 t641 t642) else (none)) else (none)) else (none)))))=some r:=H
    have A14:=aa.mk A140
    clear A140
    replace H:=Option.bind_eq_some_iff.mp H
    obtain ⟨⟨t655,t656,t657,t658,t661⟩,A150,H⟩:=H
    replace H:((aH.f kj5 l2 a4).bind fun bt664=>((some (([(⟨t646,t647,t648,t649,t652⟩:S25),(⟨t655,t656,t657,t658,t661⟩:S25),(⟨bt664.1,bt664.2.1,bt664.2.2.1,bt664.2.2.2.1,bt664.2.2.2.2⟩:S25)]:List (S25)):List (S25))).bind fun y673=>(if 2 < (y673.length:Int) then (if 0 < (y673.length:Int) then (if 1 < (y673.length:Int) then (aC.l0 kj5 y673 (([(⟨(az y673 2).f0,(az y673 2).f1,(az y673 2).f2,(az y673 2).f3,(az y673 2).f4⟩:S25),(⟨(az y673 0).f0,(az y673 0).f1,(az y673 0).f2,(az y673 0).f3,(az y673 0).f4⟩:S25),(⟨(az y673 1).f0,(az y673 1).f1,(az y673 1).f2,(az y673 1).f3,(az y673 1).f4⟩:S25)]:List (S25))) (([0,2,1]:List Int)) 2 0 0 t641 t642) else (none)) else (none)) else (none))))=some r:=H
    have A15:=aa.mk A150
    clear A150
    replace H:=Option.bind_eq_some_iff.mp H
    obtain ⟨⟨t664,t665,t666,t667,t670⟩,A160,H⟩:=H
    replace H:((some (([(⟨t646,t647,t648,t649,t652⟩:S25),(⟨t655,t656,t657,t658,t661⟩:S25),(⟨t664,t665,t666,t667,t670⟩:S25)]:List (S25)):List (S25))).bind fun y673=>(if 2 < (y673.length:Int) then (if 0 < (y673.length:Int) then (if 1 < (y673.length:Int) then (aC.l0 kj5 y673 (([(⟨(az y673 2).f0,(az y673 2).f1,(az y673 2).f2,(az y673 2).f3,(az y673 2).f4⟩:S25),(⟨(az y673 0).f0,(az y673 0).f1,(az y673 0).f2,(az y673 0).f3,(az y673 0).f4⟩:S25),(⟨(az y673 1).f0,(az y673 1).f1,(az y673 1).f2,(az y673 1).f3,(az y673 1).f4⟩:S25)]:List (S25))) (([0,2,1]:List Int)) 2 0 0 t641 t642) else (none)) else (none)) else (none)))=some r:=H
    have A16:=aa.mk A160
    clear A160
    obtain ⟨y673,hy673⟩:∃ y_:List (S25),y_=(([(⟨t646,t647,t648,t649,t652⟩:S25),(⟨t655,t656,t657,t658,t661⟩:S25),(⟨t664,t665,t666,t667,t670⟩:S25)]:List (S25))):=⟨_,rfl⟩
    replace H:(if 2 < (y673.length:Int) then (if 0 < (y673.length:Int) then (if 1 < (y673.length:Int) then (aC.l0 kj5 y673 (([(⟨(az y673 2).f0,(az y673 2).f1,(az y673 2).f2,(az y673 2).f3,(az y673 2).f4⟩:S25),(⟨(az y673 0).f0,(az y673 0).f1,(az y673 0).f2,(az y673 0).f3,(az y673 0).f4⟩:S25),(⟨(az y673 1).f0,(az y673 1).f1,(az y673 1).f2,(az y673 1).f3,(az y673 1).f4⟩:S25)]:List (S25))) (([0,2,1]:List Int)) 2 0 0 t641 t642) else (none)) else (none)) else (none))=some r:=by first|(rw [hy673];with_reducible exact H)|(have H2_:=(Option.bind_some _ _).symm.trans H;rw [hy673];with_reducible exact H2_)|(have H2_:=(Option.bind_some _ _).symm.trans H;with_reducible exact H2_)|with_reducible exact H|(rw [hy673];exact H)|exact H
    have Ny673:=aa.mk hy673
    clear hy673
    by_cases c17:2 < (y673.length:Int)
    ·rw [if_pos c17] at H
     have c17b0:decide (2 < (y673.length:Int))=true:=decide_eq_true c17
     have c17b1:decide (2 < y673.length)=true:=decide_eq_true (by omega)
     clear c17
     by_cases c18:0 < (y673.length:Int)
     ·rw [if_pos c18] at H
      have c18b0:decide (0 < (y673.length:Int))=true:=decide_eq_true c18
      have c18b1:decide (0 < y673.length)=true:=decide_eq_true (by omega)
      clear c18
      by_cases c19:1 < (y673.length:Int)
      ·rw [if_pos c19] at H
       have c19b0:decide (1 < (y673.length:Int))=true:=decide_eq_true c19
       have c19b1:decide (1 < y673.length)=true:=decide_eq_true (by omega)
       clear c19
       obtain ⟨y679,hy679⟩:∃ y_:List (S25),y_=(([(⟨(az y673 2).f0,(az y673 2).f1,(az y673 2).f2,(az y673 2).f3,(az y673 2).f4⟩:S25),(⟨(az y673 0).f0,(az y673 0).f1,(az y673 0).f2,(az y673 0).f3,(az y673 0).f4⟩:S25),(⟨(az y673 1).f0,(az y673 1).f1,(az y673 1).f2,(az y673 1).f3,(az y673 1).f4⟩:S25)]:List (S25))):=⟨_,rfl⟩
       replace H:(aC.l0 kj5 y673 y679 (([0,2,1]:List Int)) 2 0 0 t641 t642)=some r:=by first|(rw [hy679];with_reducible exact H)|(have H2_:=(Option.bind_some _ _).symm.trans H;rw [hy679];with_reducible exact H2_)|(have H2_:=(Option.bind_some _ _).symm.trans H;with_reducible exact H2_)|with_reducible exact H|(rw [hy679];exact H)|exact H
       have Ny679:=aa.mk hy679
       clear hy679
       obtain ⟨y682,hy682⟩:∃ y_:List Int,y_=(([0,2,1]:List Int)):=⟨_,rfl⟩
       replace H:(aC.l0 kj5 y673 y679 y682 2 0 0 t641 t642)=some r:=by first|(rw [hy682];with_reducible exact H)|(have H2_:=(Option.bind_some _ _).symm.trans H;rw [hy682];with_reducible exact H2_)|(have H2_:=(Option.bind_some _ _).symm.trans H;with_reducible exact H2_)|with_reducible exact H|(rw [hy682];exact H)|exact H
       have Ny682:=aa.mk hy682
       clear hy682
       have H':=aa.mk H
       clear H
       try go_wp2_with (first|((with_reducible refine aV (f:=17) rfl ?_);refine bJ (some 41) rfl rfl Tryz.func17 (by kernel_rfl) rfl #[.slice A3 l3.length c3] rfl (by (try simp only [List.map_toArray,List.map_cons,List.map_nil]);first|done|rfl|(simp only [List.length_drop,List.length_take];rfl)) ?_;(with_reducible refine (aA.calls kj5 _ _ l3 t641 t642 _ ?side1 ?side2 A13.out).mono ?_);(case side1=>repeat (first|exact (Kd.bf HR3.out HB.out)|(with_reducible refine Kd.aN ?_ _)|(with_reducible refine Kd.aQ ?_ _)|(with_reducible refine Kd.aW ?_)));(case side2=>exact HC3.out);rintro e w20 ⟨v643,rfl,ho0,hb⟩;refine ⟨_,rfl,?_⟩;have n0_:=aa.mk (Kd.fw (Kd.bH (ok':=fun k_=>True) (ho0) (fun k_ hk_=>trivial)) (aG (by repeat (first|(with_reducible first|exact HB.out|apply af|apply ae|apply ag)|exact HB.out))));have n1_:=aa.mk (aD (by repeat (first|(with_reducible first|exact HB.out|apply af|apply ae|apply ag)|exact HB.out)) hb);clear HB;have HO644:=n0_;have HB:=n1_;clear n0_ n1_;(try clear hb);(try clear hb2);(try clear hk);(try clear hi);(try clear ho0))|((with_reducible refine bS (N:=11) rfl ?_);(try (refine eU (by rfl) ?_;dsimp only));refine eu ?hg (N:=11) ?hd (cs:=#[.string (⟨#[]⟩:ByteArray),.slice none 0 0]) (t:=28) ?hr ?_;(case hd=>rfl);(case hg=>rfl);(case hr=>first|(go_simp;done)|(go_simp;rfl));intro gb645 hg w21 hbox hb;have n0_:=aa.mk (Kd.df (Kd.qc (by (with_reducible repeat (first|apply Kd.aZ|apply Kd.aY|apply Kd.bn));exact HO644.out) gb645 (Nat.le_of_eq hg.symm)) hb);have n1_:=aa.mk (aD (by repeat (first|(with_reducible first|exact HB.out|apply af|apply ae|apply ag)|exact HB.out)) hb);have n2_:=aa.mk (hbox);have n3_:=aa.mk ((by rw [hg];exact (aG (by repeat (first|(with_reducible first|exact HB.out|apply af|apply ae|apply ag)|exact HB.out))):w.heap.size≤gb645));have n4_:=aa.mk ((by rw [hg];exact (aG (by repeat (first|(with_reducible first|exact HB.out|apply af|apply ae|apply ag)|exact HB.out))):w.heap.size≤gb645));clear HO644;clear HB;have HO644:=n0_;have HB:=n1_;have BK645:=n2_;have GW645:=n3_;have GE645:=n4_;clear n0_ n1_ n2_ n3_ n4_;clear hb hbox hg;have hcz22_0:w21.cell? ⟨gb645,0,none⟩=some (.string (⟨#[]⟩:ByteArray)):=(aj BK645.out 0).trans rfl;have hcz22_1:w21.cell? ⟨gb645,1,none⟩=some (.slice none 0 0):=(aj BK645.out 1).trans rfl;have hfz22_0:=ai BK645.out 0;have hfz22_1:=ai BK645.out 1;obtain ⟨Ao23,co23,eo23⟩:=Kd.dR HO644.out;subst eo23)|((with_reducible refine aV (f:=16) rfl ?_);refine bJ (some 44) rfl rfl Tryz.func16 (by kernel_rfl) rfl #[.slice A0 l0.length c0,.string a4] rfl (by (try simp only [List.map_toArray,List.map_cons,List.map_nil]);first|done|rfl|(simp only [List.length_drop,List.length_take];rfl)) ?_;(with_reducible refine (aH.calls kj5 _ _ l0 a4 t646 t647 t648 t649 t652 _ ?side1 ?side2 A14.out).mono ?_);(case side1=>exact Kd.bf HR0.out (by repeat (first|(with_reducible first|exact HB.out|apply af|apply ae|apply ag|refine ah ?_ GE645.out)|exact HB.out)));(case side2=>exact HC0.out);rintro e w24 ⟨v650,v653,rfl,ho0,ho1,hb⟩;refine ⟨_,rfl,?_⟩;have n0_:=aa.mk (Kd.cu (by (with_reducible repeat (first|apply Kd.aZ|apply Kd.aY|apply Kd.bn));exact (Kd.bH (Kd.dQ (p:=⟨gb645,1,none⟩) (Kd.dQ (p:=⟨gb645,0,none⟩) (Kd.bH HO644.out (fun k_ hk=>(⟨hk,hk.2⟩:_∧k_≠gb645))) (fun _ hk=>hk.2) (.string t641)) (fun _ hk=>hk.2) (.slice Ao23 t642.length co23)) (fun _ h_=>h_.1))) (Kd.dE ho1) hb);have n1_:=aa.mk (Kd.kR (Kd.dF (ok':=fun k_=>some k_≠(v653:Value).ownBlock∧some k_≠(.slice Ao23 t642.length co23:Value).ownBlock∧k_≠gb645) ho0 (fun k_ hk_=>⟨hk_.2,(Kd.fresh' (Kd.gM (by (with_reducible repeat (first|apply Kd.aZ|apply Kd.aY|apply Kd.bn));exact (Kd.bH (Kd.dQ (p:=⟨gb645,1,none⟩) (Kd.dQ (p:=⟨gb645,0,none⟩) (Kd.bH HO644.out (fun k_ hk=>(⟨hk,hk.2⟩:_∧k_≠gb645))) (fun _ hk=>hk.2) (.string t641)) (fun _ hk=>hk.2) (.slice Ao23 t642.length co23)) (fun _ h_=>h_.1)))) k_ hk_.1),(Kd.dC (g:=gb645) (o:=.cells #[.string t641,.slice Ao23 t642.length co23] 28 (0,0)) (by (with_reducible repeat (first|refine au ?_ _|refine av ?_|refine ak ?_ _));refine bG (cs:=#[.string t641,.slice none 0 0]) ?_ 1 _ (by first|rfl|(simp only [ay,ax];rfl)|simp [ay,ax]);(with_reducible repeat (first|refine au ?_ _|refine av ?_|refine ak ?_ _));refine bG (cs:=#[.string (⟨#[]⟩:ByteArray),.slice none 0 0]) ?_ 0 _ (by first|rfl|(simp only [ay,ax];rfl)|simp [ay,ax]);(with_reducible repeat (first|refine au ?_ _|refine av ?_|refine ak ?_ _));exact BK645.out) k_ hk_.1)⟩)) (aG (by repeat (first|(with_reducible first|exact HB.out|apply af|apply ae|apply ag|refine ah ?_ GE645.out)|exact HB.out))));have n2_:=aa.mk (Kd.fw (Kd.bH (ok':=fun k_=>some k_≠(.slice Ao23 t642.length co23:Value).ownBlock∧k_≠gb645) ho1 (fun k_ hk_=>⟨(Kd.fresh' (Kd.gM (by (with_reducible repeat (first|apply Kd.aZ|apply Kd.aY|apply Kd.bn));exact (Kd.bH (Kd.dQ (p:=⟨gb645,1,none⟩) (Kd.dQ (p:=⟨gb645,0,none⟩) (Kd.bH HO644.out (fun k_ hk=>(⟨hk,hk.2⟩:_∧k_≠gb645))) (fun _ hk=>hk.2) (.string t641)) (fun _ hk=>hk.2) (.slice Ao23 t642.length co23)) (fun _ h_=>h_.1)))) k_ hk_),(Kd.dC (g:=gb645) (o:=.cells #[.string t641,.slice Ao23 t642.length co23] 28 (0,0)) (by (with_reducible repeat (first|refine au ?_ _|refine av ?_|refine ak ?_ _));refine bG (cs:=#[.string t641,.slice none 0 0]) ?_ 1 _ (by first|rfl|(simp only [ay,ax];rfl)|simp [ay,ax]);(with_reducible repeat (first|refine au ?_ _|refine av ?_|refine ak ?_ _));refine bG (cs:=#[.string (⟨#[]⟩:ByteArray),.slice none 0 0]) ?_ 0 _ (by first|rfl|(simp only [ay,ax];rfl)|simp [ay,ax]);(with_reducible repeat (first|refine au ?_ _|refine av ?_|refine ak ?_ _));exact BK645.out) k_ hk_)⟩)) (aG (by repeat (first|(with_reducible first|exact HB.out|apply af|apply ae|apply ag|refine ah ?_ GE645.out)|exact HB.out))));have n3_:=aa.mk (aI (g:=gb645) (o:=.cells #[.string t641,.slice Ao23 t642.length co23] 28 (0,0)) (by (with_reducible repeat (first|refine au ?_ _|refine av ?_|refine ak ?_ _));refine bG (cs:=#[.string t641,.slice none 0 0]) ?_ 1 _ (by first|rfl|(simp only [ay,ax];rfl)|simp [ay,ax]);(with_reducible repeat (first|refine au ?_ _|refine av ?_|refine ak ?_ _));refine bG (cs:=#[.string (⟨#[]⟩:ByteArray),.slice none 0 0]) ?_ 0 _ (by first|rfl|(simp only [ay,ax];rfl)|simp [ay,ax]);(with_reducible repeat (first|refine au ?_ _|refine av ?_|refine ak ?_ _));exact BK645.out) hb);have n4_:=aa.mk (aD (by repeat (first|(with_reducible first|exact HB.out|apply af|apply ae|apply ag|refine ah ?_ GE645.out)|exact HB.out)) hb);clear HO644;clear BK645;clear HB;have HO644:=n0_;have HO651:=n1_;have HO654:=n2_;have BK645:=n3_;have HB:=n4_;clear n0_ n1_ n2_ n3_ n4_;(try clear hb);(try clear hb2);(try clear hk);(try clear hi);(try clear ho0);(try clear ho1))|((with_reducible refine aV (f:=16) rfl ?_);refine bJ (some 47) rfl rfl Tryz.func16 (by kernel_rfl) rfl #[.slice A1 l1.length c1,.string a4] rfl (by (try simp only [List.map_toArray,List.map_cons,List.map_nil]);first|done|rfl|(simp only [List.length_drop,List.length_take];rfl)) ?_;(with_reducible refine (aH.calls kj5 _ _ l1 a4 t655 t656 t657 t658 t661 _ ?side1 ?side2 A15.out).mono ?_);(case side1=>repeat (first|exact (Kd.bf HR1.out HB.out)|(with_reducible refine Kd.aN ?_ _)|(with_reducible refine Kd.aQ ?_ _)|(with_reducible refine Kd.aW ?_)));(case side2=>exact HC1.out);rintro e w25 ⟨v659,v662,rfl,ho0,ho1,hb⟩;refine ⟨_,rfl,?_⟩;have n0_:=aa.mk (Kd.cu (by (with_reducible repeat (first|apply Kd.aZ|apply Kd.aY|apply Kd.bn));exact HO644.out) (Kd.dE ho1) hb);have n1_:=aa.mk (Kd.dw (by (with_reducible repeat (first|apply Kd.cB|apply Kd.cz|apply Kd.dm));exact HO651.out) (Kd.dE ho1) hb);have n2_:=aa.mk (Kd.cu (by (with_reducible repeat (first|apply Kd.aZ|apply Kd.aY|apply Kd.bn));exact HO654.out) (Kd.dE ho1) hb);have n3_:=aa.mk (Kd.kR (Kd.dF (ok':=fun k_=>some k_≠(v662:Value).ownBlock∧some k_≠(.slice Ao23 t642.length co23:Value).ownBlock∧some k_≠(v653:Value).ownBlock∧k_≠gb645) ho0 (fun k_ hk_=>⟨hk_.2,(Kd.fresh' (Kd.gM (by (with_reducible repeat (first|apply Kd.aZ|apply Kd.aY|apply Kd.bn));exact HO644.out)) k_ hk_.1),(Kd.fresh' (Kd.gM (by (with_reducible repeat (first|apply Kd.aZ|apply Kd.aY|apply Kd.bn));exact HO654.out)) k_ hk_.1),(Kd.dC (g:=gb645) (o:=.cells #[.string t641,.slice Ao23 t642.length co23] 28 (0,0)) (by (with_reducible repeat (first|refine au ?_ _|refine av ?_|refine ak ?_ _));exact BK645.out) k_ hk_.1)⟩)) (aG (by repeat (first|(with_reducible first|exact HB.out|apply af|apply ae|apply ag|refine ah ?_ GE645.out)|exact HB.out))));have n4_:=aa.mk (Kd.fw (Kd.bH (ok':=fun k_=>some k_≠(.slice Ao23 t642.length co23:Value).ownBlock∧some k_≠(v653:Value).ownBlock∧k_≠gb645) ho1 (fun k_ hk_=>⟨(Kd.fresh' (Kd.gM (by (with_reducible repeat (first|apply Kd.aZ|apply Kd.aY|apply Kd.bn));exact HO644.out)) k_ hk_),(Kd.fresh' (Kd.gM (by (with_reducible repeat (first|apply Kd.aZ|apply Kd.aY|apply Kd.bn));exact HO654.out)) k_ hk_),(Kd.dC (g:=gb645) (o:=.cells #[.string t641,.slice Ao23 t642.length co23] 28 (0,0)) (by (with_reducible repeat (first|refine au ?_ _|refine av ?_|refine ak ?_ _));exact BK645.out) k_ hk_)⟩)) (aG (by repeat (first|(with_reducible first|exact HB.out|apply af|apply ae|apply ag|refine ah ?_ GE645.out)|exact HB.out))));have n5_:=aa.mk (aI (g:=gb645) (o:=.cells #[.string t641,.slice Ao23 t642.length co23] 28 (0,0)) (by (with_reducible repeat (first|refine au ?_ _|refine av ?_|refine ak ?_ _));exact BK645.out) hb);have n6_:=aa.mk (aD (by repeat (first|(with_reducible first|exact HB.out|apply af|apply ae|apply ag|refine ah ?_ GE645.out)|exact HB.out)) hb);clear HO644;clear HO651;clear HO654;clear BK645;clear HB;have HO644:=n0_;have HO651:=n1_;have HO654:=n2_;have HO660:=n3_;have HO663:=n4_;have BK645:=n5_;have HB:=n6_;clear n0_ n1_ n2_ n3_ n4_ n5_ n6_;(try clear hb);(try clear hb2);(try clear hk);(try clear hi);(try clear ho0);(try clear ho1))|((with_reducible refine aV (f:=16) rfl ?_);refine bJ (some 50) rfl rfl Tryz.func16 (by kernel_rfl) rfl #[.slice A2 l2.length c2,.string a4] rfl (by (try simp only [List.map_toArray,List.map_cons,List.map_nil]);first|done|rfl|(simp only [List.length_drop,List.length_take];rfl)) ?_;(with_reducible refine (aH.calls kj5 _ _ l2 a4 t664 t665 t666 t667 t670 _ ?side1 ?side2 A16.out).mono ?_);(case side1=>repeat (first|exact (Kd.bf HR2.out HB.out)|(with_reducible refine Kd.aN ?_ _)|(with_reducible refine Kd.aQ ?_ _)|(with_reducible refine Kd.aW ?_)));(case side2=>exact HC2.out);rintro e w26 ⟨v668,v671,rfl,ho0,ho1,hb⟩;refine ⟨_,rfl,?_⟩;have n0_:=aa.mk (Kd.cu (by (with_reducible repeat (first|apply Kd.aZ|apply Kd.aY|apply Kd.bn));exact HO644.out) (Kd.dE ho1) hb);have n1_:=aa.mk (Kd.dw (by (with_reducible repeat (first|apply Kd.cB|apply Kd.cz|apply Kd.dm));exact HO651.out) (Kd.dE ho1) hb);have n2_:=aa.mk (Kd.cu (by (with_reducible repeat (first|apply Kd.aZ|apply Kd.aY|apply Kd.bn));exact HO654.out) (Kd.dE ho1) hb);have n3_:=aa.mk (Kd.dw (by (with_reducible repeat (first|apply Kd.cB|apply Kd.cz|apply Kd.dm));exact HO660.out) (Kd.dE ho1) hb);have n4_:=aa.mk (Kd.cu (by (with_reducible repeat (first|apply Kd.aZ|apply Kd.aY|apply Kd.bn));exact HO663.out) (Kd.dE ho1) hb);have n5_:=aa.mk (Kd.kR (Kd.dF (ok':=fun k_=>some k_≠(v671:Value).ownBlock∧some k_≠(.slice Ao23 t642.length co23:Value).ownBlock∧some k_≠(v653:Value).ownBlock∧some k_≠(v662:Value).ownBlock∧k_≠gb645) ho0 (fun k_ hk_=>⟨hk_.2,(Kd.fresh' (Kd.gM (by (with_reducible repeat (first|apply Kd.aZ|apply Kd.aY|apply Kd.bn));exact HO644.out)) k_ hk_.1),(Kd.fresh' (Kd.gM (by (with_reducible repeat (first|apply Kd.aZ|apply Kd.aY|apply Kd.bn));exact HO654.out)) k_ hk_.1),(Kd.fresh' (Kd.gM (by (with_reducible repeat (first|apply Kd.aZ|apply Kd.aY|apply Kd.bn));exact HO663.out)) k_ hk_.1),(Kd.dC (g:=gb645) (o:=.cells #[.string t641,.slice Ao23 t642.length co23] 28 (0,0)) (by (with_reducible repeat (first|refine au ?_ _|refine av ?_|refine ak ?_ _));exact BK645.out) k_ hk_.1)⟩)) (aG (by repeat (first|(with_reducible first|exact HB.out|apply af|apply ae|apply ag|refine ah ?_ GE645.out)|exact HB.out))));have n6_:=aa.mk (Kd.fw (Kd.bH (ok':=fun k_=>some k_≠(.slice Ao23 t642.length co23:Value).ownBlock∧some k_≠(v653:Value).ownBlock∧some k_≠(v662:Value).ownBlock∧k_≠gb645) ho1 (fun k_ hk_=>⟨(Kd.fresh' (Kd.gM (by (with_reducible repeat (first|apply Kd.aZ|apply Kd.aY|apply Kd.bn));exact HO644.out)) k_ hk_),(Kd.fresh' (Kd.gM (by (with_reducible repeat (first|apply Kd.aZ|apply Kd.aY|apply Kd.bn));exact HO654.out)) k_ hk_),(Kd.fresh' (Kd.gM (by (with_reducible repeat (first|apply Kd.aZ|apply Kd.aY|apply Kd.bn));exact HO663.out)) k_ hk_),(Kd.dC (g:=gb645) (o:=.cells #[.string t641,.slice Ao23 t642.length co23] 28 (0,0)) (by (with_reducible repeat (first|refine au ?_ _|refine av ?_|refine ak ?_ _));exact BK645.out) k_ hk_)⟩)) (aG (by repeat (first|(with_reducible first|exact HB.out|apply af|apply ae|apply ag|refine ah ?_ GE645.out)|exact HB.out))));have n7_:=aa.mk (aI (g:=gb645) (o:=.cells #[.string t641,.slice Ao23 t642.length co23] 28 (0,0)) (by (with_reducible repeat (first|refine au ?_ _|refine av ?_|refine ak ?_ _));exact BK645.out) hb);have n8_:=aa.mk (aD (by repeat (first|(with_reducible first|exact HB.out|apply af|apply ae|apply ag|refine ah ?_ GE645.out)|exact HB.out)) hb);clear HO644;clear HO651;clear HO654;clear HO660;clear HO663;clear BK645;clear HB;have HO644:=n0_;have HO651:=n1_;have HO654:=n2_;have HO660:=n3_;have HO663:=n4_;have HO669:=n5_;have HO672:=n6_;have BK645:=n7_;have HB:=n8_;clear n0_ n1_ n2_ n3_ n4_ n5_ n6_ n7_ n8_;(try clear hb);(try clear hb2);(try clear hk);(try clear hi);(try clear ho0);(try clear ho1);obtain ⟨Ao27,co27,eo27⟩:=Kd.kJ HO651.out;subst eo27;obtain ⟨Ao28,co28,eo28⟩:=Kd.dR HO654.out;subst eo28;obtain ⟨Ao29,co29,eo29⟩:=Kd.kJ HO660.out;subst eo29;obtain ⟨Ao30,co30,eo30⟩:=Kd.dR HO663.out;subst eo30;obtain ⟨Ao31,co31,eo31⟩:=Kd.kJ HO669.out;subst eo31;obtain ⟨Ao32,co32,eo32⟩:=Kd.dR HO672.out;subst eo32)|((with_reducible refine bS (N:=51) rfl ?_);(try (refine eU (by rfl) ?_;dsimp only));refine Kd.mD k25 _ 25 ?hg (N':=51) ?hd (xs:=([(⟨t646,t647,t648,t649,t652⟩:S25),(⟨t655,t656,t657,t658,t661⟩:S25),(⟨t664,t665,t666,t667,t670⟩:S25)]:List (S25))) (inner:=[.int .i64 t646,.string t647,.string t648,.slice Ao27 t649.length co27,.slice Ao28 t652.length co28,.int .i64 t655,.string t656,.string t657,.slice Ao29 t658.length co29,.slice Ao30 t661.length co30,.int .i64 t664,.string t665,.string t666,.slice Ao31 t667.length co31,.slice Ao32 t670.length co32]) (ok:=(fun k_=>some k_≠(.slice Ao23 t642.length co23:Value).ownBlock∧k_≠gb645)) (okp:=(fun k_=>some k_≠(.slice Ao23 t642.length co23:Value).ownBlock∧k_≠gb645)) ?hr ?hp (fun _ hk=>hk) ((show ∀ k_,w26.heap.size≤k_→(fun k_=>some k_≠(.slice Ao23 t642.length co23:Value).ownBlock∧k_≠gb645) k_ from fun k_ hk=>⟨Kd.fresh' (Kd.gM (by (with_reducible repeat (first|apply Kd.aZ|apply Kd.aY|apply Kd.bn));exact HO644.out)) k_ hk,Kd.dC (g:=gb645) (o:=.cells #[.string t641,.slice Ao23 t642.length co23] 28 (0,0)) (by (with_reducible repeat (first|refine au ?_ _|refine av ?_|refine ak ?_ _));exact BK645.out) k_ hk⟩) _ (Nat.le_refl _)) (Below.refl _ _) (Nat.le_refl _) (by simp) ?_;(case hd=>rfl);(case hg=>rfl);(case hr=>first|(go_simp;done)|(go_simp;rfl));(case hp=>exact (bI.c5 (show Kd.FK k25 _ _ (⟨t646,t647,t648,t649,t652⟩:S25) [.int .i64 t646,.string t647,.string t648,.slice Ao27 t649.length co27,.slice Ao28 t652.length co28] from (gX _ _ (⟨t646,t647,t648,t649,t652⟩:S25) (Kd.fo (Kd.dF (ok':=(fun k_=>some k_≠(.slice Ao23 t642.length co23:Value).ownBlock∧k_≠gb645)) (HO651.out) (fun k_ hk=>⟨hk.1.1.2.1,hk.1.1.2.2⟩))).2.1 (Kd.V_F (Kd.dF (ok':=(fun k_=>some k_≠(.slice Ao23 t642.length co23:Value).ownBlock∧k_≠gb645)) (HO651.out) (fun k_ hk=>⟨hk.1.1.2.1,hk.1.1.2.2⟩))) (Kd.bO (Kd.bH (ok':=(fun k_=>some k_≠(.slice Ao23 t642.length co23:Value).ownBlock∧k_≠gb645)) (HO654.out) (fun k_ hk=>⟨hk.1.1.1,hk.1.1.2⟩))).2.1 (Kd.N_F (Kd.bH (ok':=(fun k_=>some k_≠(.slice Ao23 t642.length co23:Value).ownBlock∧k_≠gb645)) (HO654.out) (fun k_ hk=>⟨hk.1.1.1,hk.1.1.2⟩))))) (bI.c5 (show Kd.FK k25 _ _ (⟨t655,t656,t657,t658,t661⟩:S25) [.int .i64 t655,.string t656,.string t657,.slice Ao29 t658.length co29,.slice Ao30 t661.length co30] from (gX _ _ (⟨t655,t656,t657,t658,t661⟩:S25) (Kd.fo (Kd.dF (ok':=(fun k_=>some k_≠(.slice Ao23 t642.length co23:Value).ownBlock∧k_≠gb645)) (HO660.out) (fun k_ hk=>⟨hk.1.2.1,hk.1.2.2.2⟩))).2.1 (Kd.V_F (Kd.dF (ok':=(fun k_=>some k_≠(.slice Ao23 t642.length co23:Value).ownBlock∧k_≠gb645)) (HO660.out) (fun k_ hk=>⟨hk.1.2.1,hk.1.2.2.2⟩))) (Kd.bO (Kd.bH (ok':=(fun k_=>some k_≠(.slice Ao23 t642.length co23:Value).ownBlock∧k_≠gb645)) (HO663.out) (fun k_ hk=>⟨hk.1.1,hk.1.2.2⟩))).2.1 (Kd.N_F (Kd.bH (ok':=(fun k_=>some k_≠(.slice Ao23 t642.length co23:Value).ownBlock∧k_≠gb645)) (HO663.out) (fun k_ hk=>⟨hk.1.1,hk.1.2.2⟩))))) (bI.c5 (show Kd.FK k25 _ _ (⟨t664,t665,t666,t667,t670⟩:S25) [.int .i64 t664,.string t665,.string t666,.slice Ao31 t667.length co31,.slice Ao32 t670.length co32] from (gX _ _ (⟨t664,t665,t666,t667,t670⟩:S25) (Kd.fo (Kd.dF (ok':=(fun k_=>some k_≠(.slice Ao23 t642.length co23:Value).ownBlock∧k_≠gb645)) (HO669.out) (fun k_ hk=>⟨hk.2.1,hk.2.2.2.2⟩))).2.1 (Kd.V_F (Kd.dF (ok':=(fun k_=>some k_≠(.slice Ao23 t642.length co23:Value).ownBlock∧k_≠gb645)) (HO669.out) (fun k_ hk=>⟨hk.2.1,hk.2.2.2.2⟩))) (Kd.bO (Kd.bH (ok':=(fun k_=>some k_≠(.slice Ao23 t642.length co23:Value).ownBlock∧k_≠gb645)) (HO672.out) (fun k_ hk=>⟨hk.1,hk.2.2.2⟩))).2.1 (Kd.N_F (Kd.bH (ok':=(fun k_=>some k_≠(.slice Ao23 t642.length co23:Value).ownBlock∧k_≠gb645)) (HO672.out) (fun k_ hk=>⟨hk.1,hk.2.2.2⟩))))) (bI.none _ _)))));intro v674 w33 ho34 hb hg_ hnew_;clear hg_ hnew_;(first|rw [← Ny673.out] at ho34|(simp only [Int.reduceToNat] at ho34;rw [← Ny673.out] at ho34));have n0_:=aa.mk (Kd.cu (by (with_reducible repeat (first|apply Kd.aZ|apply Kd.aY|apply Kd.bn));exact HO644.out) (Kd.dE ho34) hb);have n1_:=aa.mk (Kd.dw (by (with_reducible repeat (first|apply Kd.cB|apply Kd.cz|apply Kd.dm));exact HO651.out) (Kd.dE ho34) hb);have n2_:=aa.mk (Kd.dw (by (with_reducible repeat (first|apply Kd.cB|apply Kd.cz|apply Kd.dm));exact HO660.out) (Kd.dE ho34) hb);have n3_:=aa.mk (Kd.dw (by (with_reducible repeat (first|apply Kd.cB|apply Kd.cz|apply Kd.dm));exact HO669.out) (Kd.dE ho34) hb);have n4_:=aa.mk (Kd.fw ho34 (aG (by repeat (first|(with_reducible first|exact HB.out|apply af|apply ae|apply ag|refine ah ?_ GE645.out)|exact HB.out))));have n5_:=aa.mk (aI (g:=gb645) (o:=.cells #[.string t641,.slice Ao23 t642.length co23] 28 (0,0)) (by (with_reducible repeat (first|refine au ?_ _|refine av ?_|refine ak ?_ _));exact BK645.out) hb);have n6_:=aa.mk (aD (by repeat (first|(with_reducible first|exact HB.out|apply af|apply ae|apply ag|refine ah ?_ GE645.out)|exact HB.out)) hb);clear HO644;clear HO651;clear HO660;clear HO669;clear BK645;clear HB;clear HO654;clear HO663;clear HO672;have HO644:=n0_;have HO651:=n1_;have HO660:=n2_;have HO669:=n3_;have HO675:=n4_;have BK645:=n5_;have HB:=n6_;clear n0_ n1_ n2_ n3_ n4_ n5_ n6_;clear hb ho34))
       have n0_:=aa.mk (Kd.bn HO644.out)
       have n1_:=aa.mk (Kd.dm HO651.out)
       have n2_:=aa.mk (Kd.dm HO660.out)
       have n3_:=aa.mk (Kd.dm HO669.out)
       have n4_:=aa.mk (Kd.bn HO675.out)
       have n5_:=aa.mk (av BK645.out)
       have n6_:=aa.mk (ag HB.out)
       clear HO644
       clear HO651
       clear HO660
       clear HO669
       clear HO675
       clear BK645
       clear HB
       have HO644:=n0_
       have HO651:=n1_
       have HO660:=n2_
       have HO669:=n3_
       have HO675:=n4_
       have BK645:=n5_
       have HB:=n6_
       clear n0_ n1_ n2_ n3_ n4_ n5_ n6_
       obtain ⟨Ao36,co36,eo36⟩:=Kd.dR HO675.out
       (first|subst eo36|(injection eo36 with f1_ f2_ f3_;have f4_:=f1_.symm;have f5_:=f3_.symm;clear f1_ f2_ f3_;subst f4_;subst f5_))
       have p676:0≤(2:Int):=(by omega)
       have q676:2 < (y673.length:Int):=of_decide_eq_true (by first|(with_reducible assumption)|assumption)
       obtain ⟨ad676,A676_3,c676_3,A676_4,c676_4,e676,hx676_0,hx676_1,hx676_2,hx676_3,hx676_4,hl676_3,hi676_3,hl676_4,hi676_4⟩:=jo (Kd.bO HO675.out).2.2 2 p676 q676
       cases e676
       obtain ⟨ce676,hce676,hMe676,hcc676⟩:=Kd.nW HO675.out z25 2 p676 (by first|exact q676|exact of_decide_eq_true (by first|(with_reducible assumption)|assumption)|(have e_:=(Kd.bO HO675.out).1;omega))
       obtain ⟨ua676_3,uc676_3,ua676_4,uc676_4,rfl,ul676_3,ge676_3,ul676_4,ge676_4⟩:=iO hMe676
       have hv676_3:=hcc676 3 _ rfl
       rw [eD _ _ 3 (by omega)] at hv676_3
       replace hv676_3:=Option.some.inj (hv676_3.symm.trans hx676_3)
       injection hv676_3 with hva_ hvn_ hvc_
       rw [hva_] at ge676_3
       rw [hvc_] at ul676_3
       have HL676_3:=aa.mk (show Kd.V Kd.string 9 _ w.heap.size _ _ ((az y673 2).f3) from Kd.mi ul676_3 ge676_3)
       clear hva_ hvn_ hvc_ ge676_3 ul676_3
       have hv676_4:=hcc676 4 _ rfl
       rw [eD _ _ 4 (by omega)] at hv676_4
       replace hv676_4:=Option.some.inj (hv676_4.symm.trans hx676_4)
       injection hv676_4 with hva_ hvn_ hvc_
       rw [hva_] at ge676_4
       rw [hvc_] at ul676_4
       have HL676_4:=aa.mk (show Kd.V k25 25 _ w.heap.size _ _ ((az y673 2).f4) from Kd.mi ul676_4 ge676_4)
       clear hva_ hvn_ hvc_ ge676_4 ul676_4
       clear hcc676 hce676
       (try simp only [show (2:Int).toNat=2 from rfl,Nat.reduceMul,Nat.reduceEqDiff,Go.Addr.add,↓reduceIte] at hx676_0)
       (try simp only [show (2:Int).toNat=2 from rfl,Nat.reduceMul,Nat.reduceEqDiff,Go.Addr.add,↓reduceIte] at hx676_1)
       (try simp only [show (2:Int).toNat=2 from rfl,Nat.reduceMul,Nat.reduceEqDiff,Go.Addr.add,↓reduceIte] at hx676_2)
       (try simp only [show (2:Int).toNat=2 from rfl,Nat.reduceMul,Nat.reduceEqDiff,Go.Addr.add,↓reduceIte] at hx676_3)
       (try simp only [show (2:Int).toNat=2 from rfl,Nat.reduceMul,Nat.reduceEqDiff,Go.Addr.add,↓reduceIte] at hx676_4)
       have qi676:(2 < y673.length)=True:=eq_true (by omega)
       (try rw [show ((2:Int)).toNat=2 from rfl] at hx676_0)
       (try rw [show 2 * 5=10 from rfl] at hx676_0)
       (try rw [show ((2:Int)).toNat=2 from rfl] at hx676_1)
       (try rw [show 2 * 5=10 from rfl] at hx676_1)
       (try rw [show ((2:Int)).toNat=2 from rfl] at hx676_2)
       (try rw [show 2 * 5=10 from rfl] at hx676_2)
       (try rw [show ((2:Int)).toNat=2 from rfl] at hx676_3)
       (try rw [show 2 * 5=10 from rfl] at hx676_3)
       (try rw [show ((2:Int)).toNat=2 from rfl] at hx676_4)
       (try rw [show 2 * 5=10 from rfl] at hx676_4)
       have HR676_3:=aa.mk hi676_3
       have HC676_3:=aa.mk hl676_3
       clear hi676_3 hl676_3
       have HR676_4:=aa.mk hi676_4
       have HC676_4:=aa.mk hl676_4
       clear hi676_4 hl676_4
       replace p676:=eq_true p676
       replace q676:=eq_true q676
       have p677:0≤(0:Int):=(by omega)
       have q677:0 < (y673.length:Int):=of_decide_eq_true (by first|(with_reducible assumption)|assumption)
       obtain ⟨ad677,A677_3,c677_3,A677_4,c677_4,e677,hx677_0,hx677_1,hx677_2,hx677_3,hx677_4,hl677_3,hi677_3,hl677_4,hi677_4⟩:=jo (Kd.bO HO675.out).2.2 0 p677 q677
       obtain rfl:ad676=ad677:=(by injection e677)
       obtain ⟨ce677,hce677,hMe677,hcc677⟩:=Kd.nW HO675.out z25 0 p677 (by first|exact q677|exact of_decide_eq_true (by first|(with_reducible assumption)|assumption)|(have e_:=(Kd.bO HO675.out).1;omega))
       obtain ⟨ua677_3,uc677_3,ua677_4,uc677_4,rfl,ul677_3,ge677_3,ul677_4,ge677_4⟩:=iO hMe677
       have hv677_3:=hcc677 3 _ rfl
       rw [eD _ _ 3 (by omega)] at hv677_3
       replace hv677_3:=Option.some.inj (hv677_3.symm.trans hx677_3)
       injection hv677_3 with hva_ hvn_ hvc_
       rw [hva_] at ge677_3
       rw [hvc_] at ul677_3
       have HL677_3:=aa.mk (show Kd.V Kd.string 9 _ w.heap.size _ _ ((az y673 0).f3) from Kd.mi ul677_3 ge677_3)
       clear hva_ hvn_ hvc_ ge677_3 ul677_3
       have hv677_4:=hcc677 4 _ rfl
       rw [eD _ _ 4 (by omega)] at hv677_4
       replace hv677_4:=Option.some.inj (hv677_4.symm.trans hx677_4)
       injection hv677_4 with hva_ hvn_ hvc_
       rw [hva_] at ge677_4
       rw [hvc_] at ul677_4
       have HL677_4:=aa.mk (show Kd.V k25 25 _ w.heap.size _ _ ((az y673 0).f4) from Kd.mi ul677_4 ge677_4)
       clear hva_ hvn_ hvc_ ge677_4 ul677_4
       clear hcc677 hce677
       have qi677:(0 < y673.length)=True:=eq_true (by omega)
       (try rw [show ((0:Int)).toNat=0 from rfl] at hx677_0)
       (try rw [show 0 * 5=0 from rfl] at hx677_0)
       (try rw [Addr.add_zero'] at hx677_0)
       (try rw [show ((0:Int)).toNat=0 from rfl] at hx677_1)
       (try rw [show 0 * 5=0 from rfl] at hx677_1)
       (try rw [Addr.add_zero'] at hx677_1)
       (try rw [show ((0:Int)).toNat=0 from rfl] at hx677_2)
       (try rw [show 0 * 5=0 from rfl] at hx677_2)
       (try rw [Addr.add_zero'] at hx677_2)
       (try rw [show ((0:Int)).toNat=0 from rfl] at hx677_3)
       (try rw [show 0 * 5=0 from rfl] at hx677_3)
       (try rw [Addr.add_zero'] at hx677_3)
       (try rw [show ((0:Int)).toNat=0 from rfl] at hx677_4)
       (try rw [show 0 * 5=0 from rfl] at hx677_4)
       (try rw [Addr.add_zero'] at hx677_4)
       have HR677_3:=aa.mk hi677_3
       have HC677_3:=aa.mk hl677_3
       clear hi677_3 hl677_3
       have HR677_4:=aa.mk hi677_4
       have HC677_4:=aa.mk hl677_4
       clear hi677_4 hl677_4
       replace p677:=eq_true p677
       replace q677:=eq_true q677
       have p678:0≤(1:Int):=(by omega)
       have q678:1 < (y673.length:Int):=of_decide_eq_true (by first|(with_reducible assumption)|assumption)
       obtain ⟨ad678,A678_3,c678_3,A678_4,c678_4,e678,hx678_0,hx678_1,hx678_2,hx678_3,hx678_4,hl678_3,hi678_3,hl678_4,hi678_4⟩:=jo (Kd.bO HO675.out).2.2 1 p678 q678
       obtain rfl:ad676=ad678:=(by injection e678)
       obtain ⟨ce678,hce678,hMe678,hcc678⟩:=Kd.nW HO675.out z25 1 p678 (by first|exact q678|exact of_decide_eq_true (by first|(with_reducible assumption)|assumption)|(have e_:=(Kd.bO HO675.out).1;omega))
       obtain ⟨ua678_3,uc678_3,ua678_4,uc678_4,rfl,ul678_3,ge678_3,ul678_4,ge678_4⟩:=iO hMe678
       have hv678_3:=hcc678 3 _ rfl
       rw [eD _ _ 3 (by omega)] at hv678_3
       replace hv678_3:=Option.some.inj (hv678_3.symm.trans hx678_3)
       injection hv678_3 with hva_ hvn_ hvc_
       rw [hva_] at ge678_3
       rw [hvc_] at ul678_3
       have HL678_3:=aa.mk (show Kd.V Kd.string 9 _ w.heap.size _ _ ((az y673 1).f3) from Kd.mi ul678_3 ge678_3)
       clear hva_ hvn_ hvc_ ge678_3 ul678_3
       have hv678_4:=hcc678 4 _ rfl
       rw [eD _ _ 4 (by omega)] at hv678_4
       replace hv678_4:=Option.some.inj (hv678_4.symm.trans hx678_4)
       injection hv678_4 with hva_ hvn_ hvc_
       rw [hva_] at ge678_4
       rw [hvc_] at ul678_4
       have HL678_4:=aa.mk (show Kd.V k25 25 _ w.heap.size _ _ ((az y673 1).f4) from Kd.mi ul678_4 ge678_4)
       clear hva_ hvn_ hvc_ ge678_4 ul678_4
       clear hcc678 hce678
       (try simp only [show (1:Int).toNat=1 from rfl,Nat.reduceMul,Nat.reduceEqDiff,Go.Addr.add,↓reduceIte] at hx678_0)
       (try simp only [show (1:Int).toNat=1 from rfl,Nat.reduceMul,Nat.reduceEqDiff,Go.Addr.add,↓reduceIte] at hx678_1)
       (try simp only [show (1:Int).toNat=1 from rfl,Nat.reduceMul,Nat.reduceEqDiff,Go.Addr.add,↓reduceIte] at hx678_2)
       (try simp only [show (1:Int).toNat=1 from rfl,Nat.reduceMul,Nat.reduceEqDiff,Go.Addr.add,↓reduceIte] at hx678_3)
       (try simp only [show (1:Int).toNat=1 from rfl,Nat.reduceMul,Nat.reduceEqDiff,Go.Addr.add,↓reduceIte] at hx678_4)
       have qi678:(1 < y673.length)=True:=eq_true (by omega)
       (try rw [show ((1:Int)).toNat=1 from rfl] at hx678_0)
       (try rw [show 1 * 5=5 from rfl] at hx678_0)
       (try rw [show ((1:Int)).toNat=1 from rfl] at hx678_1)
       (try rw [show 1 * 5=5 from rfl] at hx678_1)
       (try rw [show ((1:Int)).toNat=1 from rfl] at hx678_2)
       (try rw [show 1 * 5=5 from rfl] at hx678_2)
       (try rw [show ((1:Int)).toNat=1 from rfl] at hx678_3)
       (try rw [show 1 * 5=5 from rfl] at hx678_3)
       (try rw [show ((1:Int)).toNat=1 from rfl] at hx678_4)
       (try rw [show 1 * 5=5 from rfl] at hx678_4)
       have HR678_3:=aa.mk hi678_3
       have HC678_3:=aa.mk hl678_3
       clear hi678_3 hl678_3
       have HR678_4:=aa.mk hi678_4
       have HC678_4:=aa.mk hl678_4
       clear hi678_4 hl678_4
       replace p678:=eq_true p678
       replace q678:=eq_true q678
       refine jS (n:=11) (S:=fun w'=>w'.cell? ⟨ad676.block,ad676.off+10,none⟩=some (.int .i64 ((az y673 2).f0))∧w'.cell? ⟨ad676.block,ad676.off+10+1,none⟩=some (.string ((az y673 2).f1))∧w'.cell? ⟨ad676.block,ad676.off+10+2,none⟩=some (.string ((az y673 2).f2))∧w'.cell? ⟨ad676.block,ad676.off+10+3,none⟩=some (.slice A676_3 ((az y673 2).f3).length c676_3)∧w'.cell? ⟨ad676.block,ad676.off+10+4,none⟩=some (.slice A676_4 ((az y673 2).f4).length c676_4)∧w'.cell? ad676=some (.int .i64 ((az y673 0).f0))∧w'.cell? ⟨ad676.block,ad676.off+1,none⟩=some (.string ((az y673 0).f1))∧w'.cell? ⟨ad676.block,ad676.off+2,none⟩=some (.string ((az y673 0).f2))∧w'.cell? ⟨ad676.block,ad676.off+3,none⟩=some (.slice A677_3 ((az y673 0).f3).length c677_3)∧w'.cell? ⟨ad676.block,ad676.off+4,none⟩=some (.slice A677_4 ((az y673 0).f4).length c677_4)∧w'.cell? ⟨ad676.block,ad676.off+5,none⟩=some (.int .i64 ((az y673 1).f0))∧w'.cell? ⟨ad676.block,ad676.off+5+1,none⟩=some (.string ((az y673 1).f1))∧w'.cell? ⟨ad676.block,ad676.off+5+2,none⟩=some (.string ((az y673 1).f2))∧w'.cell? ⟨ad676.block,ad676.off+5+3,none⟩=some (.slice A678_3 ((az y673 1).f3).length c678_3)∧w'.cell? ⟨ad676.block,ad676.off+5+4,none⟩=some (.slice A678_4 ((az y673 1).f4).length c678_4)) (ds:=[]) #[false,false,false,false,false,false,false,false,false,false,false] (by kernel_rfl) rfl rfl ⟨hx676_0,hx676_1,hx676_2,hx676_3,hx676_4,hx677_0,hx677_1,hx677_2,hx677_3,hx677_4,hx678_0,hx678_1,hx678_2,hx678_3,hx678_4⟩ (fun hHeld=>?_);refine iy aC.tab5 aC.bits5 (fun HT_ HW_=>?_)
       generalize w33.drew=w35 at HO644 HO651 HO660 HO669 HO675 BK645 HB HL676_3 HL676_4 HL677_3 HL677_4 HL678_3 HL678_4 HR676_3 HR676_4 HR677_3 HR677_4 HR678_3 HR678_4 hx676_0 hx676_1 hx676_2 hx676_3 hx676_4 hx677_0 hx677_1 hx677_2 hx677_3 hx677_4 hx678_0 hx678_1 hx678_2 hx678_3 hx678_4 hHeld ⊢
       refine di (i:=0) (N:=some 52) (v:=?_) (a':=?_) #[true,false,false,false,false,false,false,false,false,false,false] rfl rfl (bV HT_.out (by kernel_rfl)) (fun _ _ _ h=>h) (Or.inl ⟨by rfl,?_⟩) ?_ ?_
       rotate_left
       ·intro w'
        go_simp
        with_reducible rfl
       rotate_left
       ·simp only [Act.put,List.setIfInBounds_toArray,List.set_cons_zero,List.set_cons_succ,aT,aU]
        rfl
       refine di (i:=1) (N:=some 53) (v:=?_) (a':=?_) #[true,true,false,false,false,false,false,false,false,false,false] rfl rfl (bV HT_.out (by kernel_rfl)) (fun _ _ _ h=>h) (Or.inl ⟨by rfl,?_⟩) ?_ ?_
       rotate_left
       ·intro w'
        go_simp
        with_reducible rfl
       rotate_left
       ·simp only [Act.put,List.setIfInBounds_toArray,List.set_cons_zero,List.set_cons_succ,aT,aU]
        rfl
       refine di (i:=3) (N:=some 55) (v:=?_) (a':=?_) #[true,true,false,true,false,false,false,false,false,false,false] rfl rfl (bV HT_.out (by kernel_rfl)) (fun _ _ _ h=>h) (Or.inl ⟨by rfl,?_⟩) ?_ ?_
       rotate_left
       ·intro w'
        go_simp
        with_reducible rfl
       rotate_left
       ·simp only [Act.put,List.setIfInBounds_toArray,List.set_cons_zero,List.set_cons_succ,aT,aU]
        rfl
       refine di (i:=4) (N:=some 56) (v:=?_) (a':=?_) #[true,true,false,true,true,false,false,false,false,false,false] rfl rfl (bV HT_.out (by kernel_rfl)) (fun _ _ _ h=>h) (Or.inl ⟨by rfl,?_⟩) ?_ ?_
       rotate_left
       ·intro w'
        go_simp
        with_reducible rfl
       rotate_left
       ·simp only [Act.put,List.setIfInBounds_toArray,List.set_cons_zero,List.set_cons_succ,aT,aU]
        rfl
       refine di (i:=6) (N:=some 58) (v:=?_) (a':=?_) #[true,true,false,true,true,false,true,false,false,false,false] rfl rfl (bV HT_.out (by kernel_rfl)) (fun _ _ _ h=>h) (Or.inl ⟨by rfl,?_⟩) ?_ ?_
       rotate_left
       ·intro w'
        go_simp
        with_reducible rfl
       rotate_left
       ·simp only [Act.put,List.setIfInBounds_toArray,List.set_cons_zero,List.set_cons_succ,aT,aU]
        rfl
       refine di (i:=7) (N:=some 59) (v:=?_) (a':=?_) #[true,true,false,true,true,false,true,true,false,false,false] rfl rfl (bV HT_.out (by kernel_rfl)) (fun _ _ _ h=>h) (Or.inl ⟨by rfl,?_⟩) ?_ ?_
       rotate_left
       ·intro w'
        go_simp
        with_reducible rfl
       rotate_left
       ·simp only [Act.put,List.setIfInBounds_toArray,List.set_cons_zero,List.set_cons_succ,aT,aU]
        rfl
       refine take_ (i:=2) (N:=some 54) (v:=?_) (a':=?_) #[true,true,true,true,true,false,true,true,false,false,false] rfl rfl (fq HT_.out HW_.out (by kernel_rfl)) (fun _ _ _ h=>h) (Or.inl ⟨by rfl,?_⟩) hHeld ?_ ?_
       rotate_left
       ·rintro w' ⟨s0,s1,s2,s3,s4,s5,s6,s7,s8,s9,s10,s11,s12,s13,s14⟩
        go_simp
        with_reducible rfl
       rotate_left
       ·simp only [Act.put,List.setIfInBounds_toArray,List.set_cons_zero,List.set_cons_succ,aT,aU]
        rfl
       refine take_ (i:=5) (N:=some 57) (v:=?_) (a':=?_) #[true,true,true,true,true,true,true,true,false,false,false] rfl rfl (fq HT_.out HW_.out (by kernel_rfl)) (fun _ _ _ h=>h) (Or.inl ⟨by rfl,?_⟩) hHeld ?_ ?_
       rotate_left
       ·rintro w' ⟨s0,s1,s2,s3,s4,s5,s6,s7,s8,s9,s10,s11,s12,s13,s14⟩
        go_simp
        with_reducible rfl
       rotate_left
       ·simp only [Act.put,List.setIfInBounds_toArray,List.set_cons_zero,List.set_cons_succ,aT,aU]
        rfl
       refine take_ (i:=8) (N:=some 60) (v:=?_) (a':=?_) #[true,true,true,true,true,true,true,true,true,false,false] rfl rfl (fq HT_.out HW_.out (by kernel_rfl)) (fun _ _ _ h=>h) (Or.inl ⟨by rfl,?_⟩) hHeld ?_ ?_
       rotate_left
       ·rintro w' ⟨s0,s1,s2,s3,s4,s5,s6,s7,s8,s9,s10,s11,s12,s13,s14⟩
        go_simp
        with_reducible rfl
       rotate_left
       ·simp only [Act.put,List.setIfInBounds_toArray,List.set_cons_zero,List.set_cons_succ,aT,aU]
        rfl
       refine ji (i:=9) (N:=some 61) #[true,true,true,true,true,true,true,true,true,true,false] rfl rfl (eO HT_.out (by kernel_rfl)) (by decide) (fun K hK=>?_)
       refine Kd.nR k25 _ 25 ?hg (N':=61) ?hd (xs:=([(⟨(az y673 2).f0,(az y673 2).f1,(az y673 2).f2,(az y673 2).f3,(az y673 2).f4⟩:S25),(⟨(az y673 0).f0,(az y673 0).f1,(az y673 0).f2,(az y673 0).f3,(az y673 0).f4⟩:S25),(⟨(az y673 1).f0,(az y673 1).f1,(az y673 1).f2,(az y673 1).f3,(az y673 1).f4⟩:S25)]:List (S25))) (inner:=[.int .i64 ((az y673 2).f0),.string ((az y673 2).f1),.string ((az y673 2).f2),.slice A676_3 ((az y673 2).f3).length c676_3,.slice A676_4 ((az y673 2).f4).length c676_4,.int .i64 ((az y673 0).f0),.string ((az y673 0).f1),.string ((az y673 0).f2),.slice A677_3 ((az y673 0).f3).length c677_3,.slice A677_4 ((az y673 0).f4).length c677_4,.int .i64 ((az y673 1).f0),.string ((az y673 1).f1),.string ((az y673 1).f2),.slice A678_3 ((az y673 1).f3).length c678_3,.slice A678_4 ((az y673 1).f4).length c678_4]) (ok:=(fun k_=>some k_≠(.slice Ao23 t642.length co23:Value).ownBlock∧some k_≠(.slice (some ad676) y673.length co36:Value).ownBlock∧k_≠gb645)) (okp:=(fun k_=>some k_≠(.slice Ao23 t642.length co23:Value).ownBlock∧some k_≠(.slice (some ad676) y673.length co36:Value).ownBlock∧k_≠gb645)) ?hr ?hp (fun _ hk=>hk) ((show ∀ k_,w35.heap.size≤k_→(fun k_=>some k_≠(.slice Ao23 t642.length co23:Value).ownBlock∧some k_≠(.slice (some ad676) y673.length co36:Value).ownBlock∧k_≠gb645) k_ from fun k_ hk=>⟨Kd.fresh' (Kd.gM (by (with_reducible repeat (first|apply Kd.aZ|apply Kd.aY|apply Kd.bn));exact HO644.out)) k_ hk,Kd.fresh' (Kd.gM (by (with_reducible repeat (first|apply Kd.aZ|apply Kd.aY|apply Kd.bn));exact HO675.out)) k_ hk,Kd.dC (g:=gb645) (o:=.cells #[.string t641,.slice Ao23 t642.length co23] 28 (0,0)) (by (with_reducible repeat (first|refine au ?_ _|refine av ?_|refine ak ?_ _));exact BK645.out) k_ hk⟩) _ (Nat.le_refl _)) (Below.refl _ _) (Nat.le_refl _) (by simp) ?_;(case hd=>rfl);(case hg=>rfl);(case hr=>first|(go_simp;done)|(go_simp;rfl));(case hp=>exact (bI.c5 (show Kd.FK k25 _ _ (⟨(az y673 2).f0,(az y673 2).f1,(az y673 2).f2,(az y673 2).f3,(az y673 2).f4⟩:S25) [.int .i64 ((az y673 2).f0),.string ((az y673 2).f1),.string ((az y673 2).f2),.slice A676_3 ((az y673 2).f3).length c676_3,.slice A676_4 ((az y673 2).f4).length c676_4] from (gX _ _ (⟨(az y673 2).f0,(az y673 2).f1,(az y673 2).f2,(az y673 2).f3,(az y673 2).f4⟩:S25) (Kd.fo (Kd.dF (ok':=(fun k_=>some k_≠(.slice Ao23 t642.length co23:Value).ownBlock∧some k_≠(.slice (some ad676) y673.length co36:Value).ownBlock∧k_≠gb645)) (HL676_3.out) (fun k_ hk=>⟨hk.1.1,⟨hk.2,hk.1.2⟩⟩))).2.1 (Kd.V_F (Kd.dF (ok':=(fun k_=>some k_≠(.slice Ao23 t642.length co23:Value).ownBlock∧some k_≠(.slice (some ad676) y673.length co36:Value).ownBlock∧k_≠gb645)) (HL676_3.out) (fun k_ hk=>⟨hk.1.1,⟨hk.2,hk.1.2⟩⟩))) (Kd.fo (Kd.dF (ok':=(fun k_=>some k_≠(.slice Ao23 t642.length co23:Value).ownBlock∧some k_≠(.slice (some ad676) y673.length co36:Value).ownBlock∧k_≠gb645)) (HL676_4.out) (fun k_ hk=>⟨hk.1.1,⟨hk.2,hk.1.2⟩⟩))).2.1 (Kd.V_F (Kd.dF (ok':=(fun k_=>some k_≠(.slice Ao23 t642.length co23:Value).ownBlock∧some k_≠(.slice (some ad676) y673.length co36:Value).ownBlock∧k_≠gb645)) (HL676_4.out) (fun k_ hk=>⟨hk.1.1,⟨hk.2,hk.1.2⟩⟩))))) (bI.c5 (show Kd.FK k25 _ _ (⟨(az y673 0).f0,(az y673 0).f1,(az y673 0).f2,(az y673 0).f3,(az y673 0).f4⟩:S25) [.int .i64 ((az y673 0).f0),.string ((az y673 0).f1),.string ((az y673 0).f2),.slice A677_3 ((az y673 0).f3).length c677_3,.slice A677_4 ((az y673 0).f4).length c677_4] from (gX _ _ (⟨(az y673 0).f0,(az y673 0).f1,(az y673 0).f2,(az y673 0).f3,(az y673 0).f4⟩:S25) (Kd.fo (Kd.dF (ok':=(fun k_=>some k_≠(.slice Ao23 t642.length co23:Value).ownBlock∧some k_≠(.slice (some ad676) y673.length co36:Value).ownBlock∧k_≠gb645)) (HL677_3.out) (fun k_ hk=>⟨hk.1.1,⟨hk.2,hk.1.2⟩⟩))).2.1 (Kd.V_F (Kd.dF (ok':=(fun k_=>some k_≠(.slice Ao23 t642.length co23:Value).ownBlock∧some k_≠(.slice (some ad676) y673.length co36:Value).ownBlock∧k_≠gb645)) (HL677_3.out) (fun k_ hk=>⟨hk.1.1,⟨hk.2,hk.1.2⟩⟩))) (Kd.fo (Kd.dF (ok':=(fun k_=>some k_≠(.slice Ao23 t642.length co23:Value).ownBlock∧some k_≠(.slice (some ad676) y673.length co36:Value).ownBlock∧k_≠gb645)) (HL677_4.out) (fun k_ hk=>⟨hk.1.1,⟨hk.2,hk.1.2⟩⟩))).2.1 (Kd.V_F (Kd.dF (ok':=(fun k_=>some k_≠(.slice Ao23 t642.length co23:Value).ownBlock∧some k_≠(.slice (some ad676) y673.length co36:Value).ownBlock∧k_≠gb645)) (HL677_4.out) (fun k_ hk=>⟨hk.1.1,⟨hk.2,hk.1.2⟩⟩))))) (bI.c5 (show Kd.FK k25 _ _ (⟨(az y673 1).f0,(az y673 1).f1,(az y673 1).f2,(az y673 1).f3,(az y673 1).f4⟩:S25) [.int .i64 ((az y673 1).f0),.string ((az y673 1).f1),.string ((az y673 1).f2),.slice A678_3 ((az y673 1).f3).length c678_3,.slice A678_4 ((az y673 1).f4).length c678_4] from (gX _ _ (⟨(az y673 1).f0,(az y673 1).f1,(az y673 1).f2,(az y673 1).f3,(az y673 1).f4⟩:S25) (Kd.fo (Kd.dF (ok':=(fun k_=>some k_≠(.slice Ao23 t642.length co23:Value).ownBlock∧some k_≠(.slice (some ad676) y673.length co36:Value).ownBlock∧k_≠gb645)) (HL678_3.out) (fun k_ hk=>⟨hk.1.1,⟨hk.2,hk.1.2⟩⟩))).2.1 (Kd.V_F (Kd.dF (ok':=(fun k_=>some k_≠(.slice Ao23 t642.length co23:Value).ownBlock∧some k_≠(.slice (some ad676) y673.length co36:Value).ownBlock∧k_≠gb645)) (HL678_3.out) (fun k_ hk=>⟨hk.1.1,⟨hk.2,hk.1.2⟩⟩))) (Kd.fo (Kd.dF (ok':=(fun k_=>some k_≠(.slice Ao23 t642.length co23:Value).ownBlock∧some k_≠(.slice (some ad676) y673.length co36:Value).ownBlock∧k_≠gb645)) (HL678_4.out) (fun k_ hk=>⟨hk.1.1,⟨hk.2,hk.1.2⟩⟩))).2.1 (Kd.V_F (Kd.dF (ok':=(fun k_=>some k_≠(.slice Ao23 t642.length co23:Value).ownBlock∧some k_≠(.slice (some ad676) y673.length co36:Value).ownBlock∧k_≠gb645)) (HL678_4.out) (fun k_ hk=>⟨hk.1.1,⟨hk.2,hk.1.2⟩⟩))))) (bI.none _ _)))))
       intro v680 w37 ho38 hb hg_ hnew_
       have HS0_:=(hb.cell (World.block_lt_of_cell? _ _ (hHeld.1))).trans (hHeld.1)
       have HS1_:=(hb.cell (World.block_lt_of_cell? _ _ (hHeld.2.1))).trans (hHeld.2.1)
       have HS2_:=(hb.cell (World.block_lt_of_cell? _ _ (hHeld.2.2.1))).trans (hHeld.2.2.1)
       have HS3_:=(hb.cell (World.block_lt_of_cell? _ _ (hHeld.2.2.2.1))).trans (hHeld.2.2.2.1)
       have HS4_:=(hb.cell (World.block_lt_of_cell? _ _ (hHeld.2.2.2.2.1))).trans (hHeld.2.2.2.2.1)
       have HS5_:=(hb.cell (World.block_lt_of_cell? _ _ (hHeld.2.2.2.2.2.1))).trans (hHeld.2.2.2.2.2.1)
       have HS6_:=(hb.cell (World.block_lt_of_cell? _ _ (hHeld.2.2.2.2.2.2.1))).trans (hHeld.2.2.2.2.2.2.1)
       have HS7_:=(hb.cell (World.block_lt_of_cell? _ _ (hHeld.2.2.2.2.2.2.2.1))).trans (hHeld.2.2.2.2.2.2.2.1)
       have HS8_:=(hb.cell (World.block_lt_of_cell? _ _ (hHeld.2.2.2.2.2.2.2.2.1))).trans (hHeld.2.2.2.2.2.2.2.2.1)
       have HS9_:=(hb.cell (World.block_lt_of_cell? _ _ (hHeld.2.2.2.2.2.2.2.2.2.1))).trans (hHeld.2.2.2.2.2.2.2.2.2.1)
       have HS10_:=(hb.cell (World.block_lt_of_cell? _ _ (hHeld.2.2.2.2.2.2.2.2.2.2.1))).trans (hHeld.2.2.2.2.2.2.2.2.2.2.1)
       have HS11_:=(hb.cell (World.block_lt_of_cell? _ _ (hHeld.2.2.2.2.2.2.2.2.2.2.2.1))).trans (hHeld.2.2.2.2.2.2.2.2.2.2.2.1)
       have HS12_:=(hb.cell (World.block_lt_of_cell? _ _ (hHeld.2.2.2.2.2.2.2.2.2.2.2.2.1))).trans (hHeld.2.2.2.2.2.2.2.2.2.2.2.2.1)
       have HS13_:=(hb.cell (World.block_lt_of_cell? _ _ (hHeld.2.2.2.2.2.2.2.2.2.2.2.2.2.1))).trans (hHeld.2.2.2.2.2.2.2.2.2.2.2.2.2.1)
       have HS14_:=(hb.cell (World.block_lt_of_cell? _ _ (hHeld.2.2.2.2.2.2.2.2.2.2.2.2.2.2))).trans (hHeld.2.2.2.2.2.2.2.2.2.2.2.2.2.2)
       clear hg_ hnew_
       (first|rw [← Ny679.out] at ho38|(simp only [Int.reduceToNat] at ho38;rw [← Ny679.out] at ho38))
       have n0_:=aa.mk (Kd.cu (by (with_reducible repeat (first|apply Kd.aZ|apply Kd.aY|apply Kd.bn));exact HO644.out) (Kd.dE ho38) hb)
       have n1_:=aa.mk (Kd.dw (by (with_reducible repeat (first|apply Kd.cB|apply Kd.cz|apply Kd.dm));exact HO651.out) (Kd.dE ho38) hb)
       have n2_:=aa.mk (Kd.dw (by (with_reducible repeat (first|apply Kd.cB|apply Kd.cz|apply Kd.dm));exact HO660.out) (Kd.dE ho38) hb)
       have n3_:=aa.mk (Kd.dw (by (with_reducible repeat (first|apply Kd.cB|apply Kd.cz|apply Kd.dm));exact HO669.out) (Kd.dE ho38) hb)
       have n4_:=aa.mk (Kd.cu (by (with_reducible repeat (first|apply Kd.aZ|apply Kd.aY|apply Kd.bn));exact HO675.out) (Kd.dE ho38) hb)
       have n5_:=aa.mk (Kd.dw (by (with_reducible repeat (first|apply Kd.cB|apply Kd.cz|apply Kd.dm));exact HL676_3.out) (Kd.dE ho38) hb)
       have n6_:=aa.mk (Kd.dw (by (with_reducible repeat (first|apply Kd.cB|apply Kd.cz|apply Kd.dm));exact HL676_4.out) (Kd.dE ho38) hb)
       have n7_:=aa.mk (Kd.dw (by (with_reducible repeat (first|apply Kd.cB|apply Kd.cz|apply Kd.dm));exact HL677_3.out) (Kd.dE ho38) hb)
       have n8_:=aa.mk (Kd.dw (by (with_reducible repeat (first|apply Kd.cB|apply Kd.cz|apply Kd.dm));exact HL677_4.out) (Kd.dE ho38) hb)
       have n9_:=aa.mk (Kd.dw (by (with_reducible repeat (first|apply Kd.cB|apply Kd.cz|apply Kd.dm));exact HL678_3.out) (Kd.dE ho38) hb)
       have n10_:=aa.mk (Kd.dw (by (with_reducible repeat (first|apply Kd.cB|apply Kd.cz|apply Kd.dm));exact HL678_4.out) (Kd.dE ho38) hb)
       have n11_:=aa.mk (Kd.fw ho38 (aG (by repeat (first|(with_reducible first|exact HB.out|apply af|apply ae|apply ag|refine ah ?_ GE645.out)|exact HB.out))))
       have n12_:=aa.mk (aI (g:=gb645) (o:=.cells #[.string t641,.slice Ao23 t642.length co23] 28 (0,0)) (by (with_reducible repeat (first|refine au ?_ _|refine av ?_|refine ak ?_ _));exact BK645.out) hb)
       have n13_:=aa.mk (Kd.bf (by repeat (first|(with_reducible exact HR676_3.out)|(with_reducible refine Kd.aN ?_ _)|(with_reducible refine Kd.aQ ?_ _)|(with_reducible refine Kd.aW ?_)|exact HR676_3.out)) hb)
       have n14_:=aa.mk (Kd.bf (by repeat (first|(with_reducible exact HR676_4.out)|(with_reducible refine Kd.aN ?_ _)|(with_reducible refine Kd.aQ ?_ _)|(with_reducible refine Kd.aW ?_)|exact HR676_4.out)) hb)
       have n15_:=aa.mk (Kd.bf (by repeat (first|(with_reducible exact HR677_3.out)|(with_reducible refine Kd.aN ?_ _)|(with_reducible refine Kd.aQ ?_ _)|(with_reducible refine Kd.aW ?_)|exact HR677_3.out)) hb)
       have n16_:=aa.mk (Kd.bf (by repeat (first|(with_reducible exact HR677_4.out)|(with_reducible refine Kd.aN ?_ _)|(with_reducible refine Kd.aQ ?_ _)|(with_reducible refine Kd.aW ?_)|exact HR677_4.out)) hb)
       have n17_:=aa.mk (Kd.bf (by repeat (first|(with_reducible exact HR678_3.out)|(with_reducible refine Kd.aN ?_ _)|(with_reducible refine Kd.aQ ?_ _)|(with_reducible refine Kd.aW ?_)|exact HR678_3.out)) hb)
       have n18_:=aa.mk (Kd.bf (by repeat (first|(with_reducible exact HR678_4.out)|(with_reducible refine Kd.aN ?_ _)|(with_reducible refine Kd.aQ ?_ _)|(with_reducible refine Kd.aW ?_)|exact HR678_4.out)) hb)
       have n19_:=aa.mk (aD (by repeat (first|(with_reducible first|exact HB.out|apply af|apply ae|apply ag|refine ah ?_ GE645.out)|exact HB.out)) hb)
       clear HO644
       clear HO651
       clear HO660
       clear HO669
       clear HO675
       clear HL676_3
       clear HL676_4
       clear HL677_3
       clear HL677_4
       clear HL678_3
       clear HL678_4
       clear BK645
       clear HR676_3
       clear HR676_4
       clear HR677_3
       clear HR677_4
       clear HR678_3
       clear HR678_4
       clear HB
       have HO644:=n0_
       have HO651:=n1_
       have HO660:=n2_
       have HO669:=n3_
       have HO675:=n4_
       have HL676_3:=n5_
       have HL676_4:=n6_
       have HL677_3:=n7_
       have HL677_4:=n8_
       have HL678_3:=n9_
       have HL678_4:=n10_
       have HO681:=n11_
       have BK645:=n12_
       have HR676_3:=n13_
       have HR676_4:=n14_
       have HR677_3:=n15_
       have HR677_4:=n16_
       have HR678_3:=n17_
       have HR678_4:=n18_
       have HB:=n19_
       clear n0_ n1_ n2_ n3_ n4_ n5_ n6_ n7_ n8_ n9_ n10_ n11_ n12_ n13_ n14_ n15_ n16_ n17_ n18_ n19_
       clear hb ho38
       refine hK.out _ _ ⟨HS0_,HS1_,HS2_,HS3_,HS4_,HS5_,HS6_,HS7_,HS8_,HS9_,HS10_,HS11_,HS12_,HS13_,HS14_⟩ (fun hHeld=>?_)
       clear hK K
       refine fB (a':=?_) ?_ ?_
       rotate_left
       ·show Act.put _ (some 61) _=_
        simp only [Act.put,List.setIfInBounds_toArray,List.set_cons_zero,List.set_cons_succ,aT,aU]
        rfl
       refine di (i:=10) (N:=some 13) (v:=?_) (a':=?_) #[true,true,true,true,true,true,true,true,true,true,true] rfl rfl (bV HT_.out (by kernel_rfl)) (fun _ _ _ h=>h) (Or.inl ⟨by rfl,?_⟩) ?_ ?_
       rotate_left
       ·intro w'
        go_simp
        with_reducible rfl
       rotate_left
       ·simp only [Act.put,List.setIfInBounds_toArray,List.set_cons_zero,List.set_cons_succ,aT,aU]
        rfl
       refine mH (jH HT_.out (by kernel_rfl)) ?_
       try go_wp2_with (first|((with_reducible refine bS (N:=62) rfl ?_);(try (refine eU (by rfl) ?_;dsimp only));refine Kd.jb (Kd.int .i64) _ 3 ?hg (N:=62) ?hd (xs:=([0,2,1]:List Int)) (inner:=[.int .i64 0,.int .i64 2,.int .i64 1]) (ok:=fun _=>True) (okp:=fun _=>True) ?hr ?hp (fun _ hk=>hk) trivial (Below.refl _ _) (Nat.le_refl _) (by simp) ?_;(case hd=>rfl);(case hg=>rfl);(case hr=>first|(go_simp;done)|(go_simp;rfl));(case hp=>exact (bI.one (show Kd.M (Kd.int .i64) _ _ _ 0 [.int .i64 0] from rfl) (bI.one (show Kd.M (Kd.int .i64) _ _ _ 2 [.int .i64 2] from rfl) (bI.one (show Kd.M (Kd.int .i64) _ _ _ 1 [.int .i64 1] from rfl) (bI.none _ _)))));intro v683 w39 ho40 hb hg_ hnew_;clear hg_ hnew_;(first|rw [← Ny682.out] at ho40|(simp only [Int.reduceToNat] at ho40;rw [← Ny682.out] at ho40));have n0_:=aa.mk (Kd.cu (by (with_reducible repeat (first|apply Kd.aZ|apply Kd.aY|apply Kd.bn));exact HO644.out) (Kd.dI ho40) hb);have n1_:=aa.mk (Kd.dw (by (with_reducible repeat (first|apply Kd.cB|apply Kd.cz|apply Kd.dm));exact HO651.out) (Kd.dI ho40) hb);have n2_:=aa.mk (Kd.dw (by (with_reducible repeat (first|apply Kd.cB|apply Kd.cz|apply Kd.dm));exact HO660.out) (Kd.dI ho40) hb);have n3_:=aa.mk (Kd.dw (by (with_reducible repeat (first|apply Kd.cB|apply Kd.cz|apply Kd.dm));exact HO669.out) (Kd.dI ho40) hb);have n4_:=aa.mk (Kd.cu (by (with_reducible repeat (first|apply Kd.aZ|apply Kd.aY|apply Kd.bn));exact HO675.out) (Kd.dI ho40) hb);have n5_:=aa.mk (Kd.dw (by (with_reducible repeat (first|apply Kd.cB|apply Kd.cz|apply Kd.dm));exact HL676_3.out) (Kd.dI ho40) hb);have n6_:=aa.mk (Kd.dw (by (with_reducible repeat (first|apply Kd.cB|apply Kd.cz|apply Kd.dm));exact HL676_4.out) (Kd.dI ho40) hb);have n7_:=aa.mk (Kd.dw (by (with_reducible repeat (first|apply Kd.cB|apply Kd.cz|apply Kd.dm));exact HL677_3.out) (Kd.dI ho40) hb);have n8_:=aa.mk (Kd.dw (by (with_reducible repeat (first|apply Kd.cB|apply Kd.cz|apply Kd.dm));exact HL677_4.out) (Kd.dI ho40) hb);have n9_:=aa.mk (Kd.dw (by (with_reducible repeat (first|apply Kd.cB|apply Kd.cz|apply Kd.dm));exact HL678_3.out) (Kd.dI ho40) hb);have n10_:=aa.mk (Kd.dw (by (with_reducible repeat (first|apply Kd.cB|apply Kd.cz|apply Kd.dm));exact HL678_4.out) (Kd.dI ho40) hb);have n11_:=aa.mk (Kd.cu (by (with_reducible repeat (first|apply Kd.aZ|apply Kd.aY|apply Kd.bn));exact HO681.out) (Kd.dI ho40) hb);have n12_:=aa.mk (Kd.dN ho40 (aG (by repeat (first|(with_reducible first|exact HB.out|apply af|apply ae|apply ag|refine ah ?_ GE645.out)|exact HB.out))));have n13_:=aa.mk (aI (g:=gb645) (o:=.cells #[.string t641,.slice Ao23 t642.length co23] 28 (0,0)) (by (with_reducible repeat (first|refine au ?_ _|refine av ?_|refine ak ?_ _));exact BK645.out) hb);have n14_:=aa.mk (Kd.bf (by repeat (first|(with_reducible exact HR676_3.out)|(with_reducible refine Kd.aN ?_ _)|(with_reducible refine Kd.aQ ?_ _)|(with_reducible refine Kd.aW ?_)|exact HR676_3.out)) hb);have n15_:=aa.mk (Kd.bf (by repeat (first|(with_reducible exact HR676_4.out)|(with_reducible refine Kd.aN ?_ _)|(with_reducible refine Kd.aQ ?_ _)|(with_reducible refine Kd.aW ?_)|exact HR676_4.out)) hb);have n16_:=aa.mk (Kd.bf (by repeat (first|(with_reducible exact HR677_3.out)|(with_reducible refine Kd.aN ?_ _)|(with_reducible refine Kd.aQ ?_ _)|(with_reducible refine Kd.aW ?_)|exact HR677_3.out)) hb);have n17_:=aa.mk (Kd.bf (by repeat (first|(with_reducible exact HR677_4.out)|(with_reducible refine Kd.aN ?_ _)|(with_reducible refine Kd.aQ ?_ _)|(with_reducible refine Kd.aW ?_)|exact HR677_4.out)) hb);have n18_:=aa.mk (Kd.bf (by repeat (first|(with_reducible exact HR678_3.out)|(with_reducible refine Kd.aN ?_ _)|(with_reducible refine Kd.aQ ?_ _)|(with_reducible refine Kd.aW ?_)|exact HR678_3.out)) hb);have n19_:=aa.mk (Kd.bf (by repeat (first|(with_reducible exact HR678_4.out)|(with_reducible refine Kd.aN ?_ _)|(with_reducible refine Kd.aQ ?_ _)|(with_reducible refine Kd.aW ?_)|exact HR678_4.out)) hb);have n20_:=aa.mk (aD (by repeat (first|(with_reducible first|exact HB.out|apply af|apply ae|apply ag|refine ah ?_ GE645.out)|exact HB.out)) hb);clear HO644;clear HO651;clear HO660;clear HO669;clear HO675;clear HL676_3;clear HL676_4;clear HL677_3;clear HL677_4;clear HL678_3;clear HL678_4;clear HO681;clear BK645;clear HR676_3;clear HR676_4;clear HR677_3;clear HR677_4;clear HR678_3;clear HR678_4;clear HB;have HO644:=n0_;have HO651:=n1_;have HO660:=n2_;have HO669:=n3_;have HO675:=n4_;have HL676_3:=n5_;have HL676_4:=n6_;have HL677_3:=n7_;have HL677_4:=n8_;have HL678_3:=n9_;have HL678_4:=n10_;have HO681:=n11_;have HO684:=n12_;have BK645:=n13_;have HR676_3:=n14_;have HR676_4:=n15_;have HR677_3:=n16_;have HR677_4:=n17_;have HR678_3:=n18_;have HR678_4:=n19_;have HB:=n20_;clear n0_ n1_ n2_ n3_ n4_ n5_ n6_ n7_ n8_ n9_ n10_ n11_ n12_ n13_ n14_ n15_ n16_ n17_ n18_ n19_ n20_;clear hb ho40))
       go_loopg [15,16,17] kj5 (fun kq v15 v16 v17 w'=>∃ (x15_2:Int) (x16_2:Int) (x17_2:Int),v15=.int .i64 x15_2∧v16=.int .i64 x16_2∧v17=.int .i64 x17_2∧aa (aC.l0 kq y673 y679 y682 x15_2 x16_2 x17_2 t641 t642=some r)∧aa (kq≤kj5)∧aa (Kd.N k25 25 w' w.heap.size (fun k_=>some k_≠(v680:Value).ownBlock∧some k_≠(v683:Value).ownBlock∧some k_≠((.slice Ao23 t642.length co23):Value).ownBlock∧k_≠gb645) (.slice (some ad676) y673.length co36) y673)∧aa (Kd.N k25 25 w' w.heap.size (fun k_=>some k_≠((.slice (some ad676) y673.length co36):Value).ownBlock∧some k_≠(v683:Value).ownBlock∧some k_≠((.slice Ao23 t642.length co23):Value).ownBlock∧k_≠gb645) v680 y679)∧aa (Kd.R (Kd.int .i64) 3 w' w.heap.size (fun _=>True) v683 y682)∧aa (Kd.N k45 45 w' w.heap.size (fun k_=>some k_≠((.slice (some ad676) y673.length co36):Value).ownBlock∧some k_≠(v680:Value).ownBlock∧some k_≠(v683:Value).ownBlock∧k_≠gb645) (.slice Ao23 t642.length co23) t642)∧aa (w'.heap[gb645]?=some (.cells #[.string t641,(.slice Ao23 t642.length co23)] 28 (0,0)))∧aa (Kd.C Kd.string w' A676_3 ((az y673 2).f3).length ((az y673 2).f3))∧aa (Kd.C k25 w' A676_4 ((az y673 2).f4).length ((az y673 2).f4))∧aa (Kd.C Kd.string w' A677_3 ((az y673 0).f3).length ((az y673 0).f3))∧aa (Kd.C k25 w' A677_4 ((az y673 0).f4).length ((az y673 0).f4))∧aa (Kd.C Kd.string w' A678_3 ((az y673 1).f3).length ((az y673 1).f3))∧aa (Kd.C k25 w' A678_4 ((az y673 1).f4).length ((az y673 1).f4))∧aa (Below w.heap.size w w'))
       case atStart=>exact ⟨(2),(0),(0),(by first|rfl|(simp;done)|(simp [*];done)|(simp [*,aT,aU,bU];done)|(simp only [ay,ax];done)|(simp only [ay,ax];simp;done)|(simp only [ay,ax];simp [*];done)),(by first|rfl|(simp;done)|(simp [*];done)|(simp [*,aT,aU,bU];done)|(simp only [ay,ax];done)|(simp only [ay,ax];simp;done)|(simp only [ay,ax];simp [*];done)),(by first|rfl|(simp;done)|(simp [*];done)|(simp [*,aT,aU,bU];done)|(simp only [ay,ax];done)|(simp only [ay,ax];simp;done)|(simp only [ay,ax];simp [*];done)),H',⟨Nat.le_refl _⟩,⟨by (with_reducible repeat (first|apply Kd.aZ|apply Kd.aY|apply Kd.bn));exact Kd.bH HO675.out (fun _ hk=>⟨hk.1.2,⟨hk.2,⟨hk.1.1.1,hk.1.1.2⟩⟩⟩)⟩,⟨by (with_reducible repeat (first|apply Kd.aZ|apply Kd.aY|apply Kd.bn));exact Kd.bH HO681.out (fun _ hk=>⟨hk.1.2.1,⟨hk.2,⟨hk.1.1,hk.1.2.2⟩⟩⟩)⟩,⟨by (with_reducible repeat (first|apply Kd.bz|apply Kd.bq|apply Kd.bB));exact HO684.out⟩,⟨by (with_reducible repeat (first|apply Kd.aZ|apply Kd.aY|apply Kd.bn));exact Kd.bH HO644.out (fun _ hk=>⟨hk.1.1.2,⟨hk.1.2,⟨hk.2,hk.1.1.1.1.1.1.2⟩⟩⟩)⟩,⟨by (with_reducible repeat (first|refine au ?_ _|refine av ?_|refine ak ?_ _));exact BK645.out⟩,⟨by repeat (first|(with_reducible exact HR676_3.out)|(with_reducible refine Kd.aN ?_ _)|(with_reducible refine Kd.aQ ?_ _)|(with_reducible refine Kd.aW ?_)|exact HR676_3.out)⟩,⟨by repeat (first|(with_reducible exact HR676_4.out)|(with_reducible refine Kd.aN ?_ _)|(with_reducible refine Kd.aQ ?_ _)|(with_reducible refine Kd.aW ?_)|exact HR676_4.out)⟩,⟨by repeat (first|(with_reducible exact HR677_3.out)|(with_reducible refine Kd.aN ?_ _)|(with_reducible refine Kd.aQ ?_ _)|(with_reducible refine Kd.aW ?_)|exact HR677_3.out)⟩,⟨by repeat (first|(with_reducible exact HR677_4.out)|(with_reducible refine Kd.aN ?_ _)|(with_reducible refine Kd.aQ ?_ _)|(with_reducible refine Kd.aW ?_)|exact HR677_4.out)⟩,⟨by repeat (first|(with_reducible exact HR678_3.out)|(with_reducible refine Kd.aN ?_ _)|(with_reducible refine Kd.aQ ?_ _)|(with_reducible refine Kd.aW ?_)|exact HR678_3.out)⟩,⟨by repeat (first|(with_reducible exact HR678_4.out)|(with_reducible refine Kd.aN ?_ _)|(with_reducible refine Kd.aQ ?_ _)|(with_reducible refine Kd.aW ?_)|exact HR678_4.out)⟩,⟨by repeat (first|(with_reducible first|exact HB.out|apply af|apply ae|apply ag|refine ah ?_ GE645.out)|exact HB.out)⟩⟩
       case round =>
        clear H'
        try clear c1
        try clear c2
        try clear p2
        try clear c3
        try clear c5
        try clear c6
        try clear p6
        try clear q6
        try clear hx6
        try clear qi6
        try clear c7
        try clear c7b0
        try clear c7b1
        try clear c8
        try clear c8b0
        try clear c8b1
        try clear c9
        try clear c9b0
        try clear c9b1
        try clear c10
        try clear c15
        try clear c16
        try clear c17
        try clear c17b0
        try clear c17b1
        try clear c18
        try clear c18b0
        try clear c18b1
        try clear c19
        try clear c19b0
        try clear c19b1
        try clear hcz22_0
        try clear hcz22_1
        try clear hfz22_0
        try clear hfz22_1
        try clear hx676_0
        try clear hx676_1
        try clear hx676_2
        try clear hx676_3
        try clear hx676_4
        try clear hx677_0
        try clear hx677_1
        try clear hx677_2
        try clear hx677_3
        try clear hx677_4
        try clear hx678_0
        try clear hx678_1
        try clear hx678_2
        try clear hx678_3
        try clear hx678_4
        try clear p2
        try clear p676
        try clear p677
        try clear p678
        try clear q676
        try clear q677
        try clear q678
        obtain ⟨x15_2,x16_2,x17_2,rfl,rfl,rfl,HA,HK2,HO_12,HO_13,HO_14,HO_646001,BK645,HR676_3,HR676_4,HR677_3,HR677_4,HR678_3,HR678_4,HB⟩:=hrel
        cases gk with
        | zero=>exact absurd HA.out (by simp [aC.l0])
        | succ k2 =>
         have H:=HA.out
         clear HA
         simp only [aC.l0] at H
         by_cases c41:x17_2 < 3
         ·rw [if_pos c41] at H
          have c41b0:decide (x17_2 < 3)=true:=decide_eq_true c41
          clear c41
          by_cases c42:0≤x17_2
          ·rw [if_pos c42] at H
           have c42b0:decide (0≤x17_2)=true:=decide_eq_true c42
           clear c42
           by_cases c43:x17_2 < (y673.length:Int)
           ·rw [if_pos c43] at H
            have c43b0:decide (x17_2 < (y673.length:Int))=true:=decide_eq_true c43
            clear c43
            obtain ⟨y686,hy686⟩:∃ y_:List (S25),y_=(([(⟨(az y673 x17_2).f0,(az y673 x17_2).f1,(az y673 x17_2).f2,(az y673 x17_2).f3,(az y673 x17_2).f4⟩:S25)]:List (S25))):=⟨_,rfl⟩
            replace H:((dG.f k2 1 (⟨#[]⟩:ByteArray) (⟨#[]⟩:ByteArray) ([]:List ByteArray) y686).bind fun t689=>(if t689=true then ((bT.f k2 ((az y673 x17_2).f0) ((az y673 x17_2).f1) ((az y673 x17_2).f2) ((az y673 x17_2).f3) ((az y673 x17_2).f4) t641 t642).bind fun t691=>(if t691 < 0 then (some false) else (if t691 > 2 then (some false) else (if 0≤t691 then (if t691 < (y682.length:Int) then (aC.l0 k2 y673 y679 y682 (mn x15_2 (rd y682 t691)) (mx x16_2 (rd y682 t691)) (wrap64 (x17_2+1)) t641 t642) else (none)) else (none))))) else ((bW.f k2).bind fun t694=>(some t694))))=some r:=by first|(rw [hy686];with_reducible exact H)|(have H2_:=(Option.bind_some _ _).symm.trans H;rw [hy686];with_reducible exact H2_)|(have H2_:=(Option.bind_some _ _).symm.trans H;with_reducible exact H2_)|with_reducible exact H|(rw [hy686];exact H)|exact H
            have Ny686:=aa.mk hy686
            clear hy686
            replace H:=Option.bind_eq_some_iff.mp H
            obtain ⟨t689,A440,H⟩:=H
            replace H:(if t689=true then ((bT.f k2 ((az y673 x17_2).f0) ((az y673 x17_2).f1) ((az y673 x17_2).f2) ((az y673 x17_2).f3) ((az y673 x17_2).f4) t641 t642).bind fun t691=>(if t691 < 0 then (some false) else (if t691 > 2 then (some false) else (if 0≤t691 then (if t691 < (y682.length:Int) then (aC.l0 k2 y673 y679 y682 (mn x15_2 (rd y682 t691)) (mx x16_2 (rd y682 t691)) (wrap64 (x17_2+1)) t641 t642) else (none)) else (none))))) else ((bW.f k2).bind fun t694=>(some t694)))=some r:=H
            have A44:=aa.mk A440
            clear A440
            by_cases c45:t689=true
            ·subst c45
             have H1:((bT.f k2 ((az y673 x17_2).f0) ((az y673 x17_2).f1) ((az y673 x17_2).f2) ((az y673 x17_2).f3) ((az y673 x17_2).f4) t641 t642).bind fun t691=>(if t691 < 0 then (some false) else (if t691 > 2 then (some false) else (if 0≤t691 then (if t691 < (y682.length:Int) then (aC.l0 k2 y673 y679 y682 (mn x15_2 (rd y682 t691)) (mx x16_2 (rd y682 t691)) (wrap64 (x17_2+1)) t641 t642) else (none)) else (none)))))=some r:=by rw [if_pos rfl] at H;exact H
             clear H
             have H:=H1
             clear H1
             replace H:=Option.bind_eq_some_iff.mp H
             obtain ⟨t691,A460,H⟩:=H
             replace H:(if t691 < 0 then (some false) else (if t691 > 2 then (some false) else (if 0≤t691 then (if t691 < (y682.length:Int) then (aC.l0 k2 y673 y679 y682 (mn x15_2 (rd y682 t691)) (mx x16_2 (rd y682 t691)) (wrap64 (x17_2+1)) t641 t642) else (none)) else (none))))=some r:=H
             have A46:=aa.mk A460
             clear A460
             by_cases c47:t691 < 0
             ·rw [if_pos c47] at H
              have c47b0:decide (t691 < 0)=true:=decide_eq_true c47
              clear c47
              exact absurd ((Option.some.inj H).trans HRT.out) Bool.false_ne_true
             ·rw [if_neg c47] at H
              have c47b0:decide (t691 < 0)=false:=decide_eq_false c47
              clear c47
              by_cases c48:t691 > 2
              ·rw [if_pos c48] at H
               have c48b0:decide (2 < t691)=true:=decide_eq_true c48
               clear c48
               exact absurd ((Option.some.inj H).trans HRT.out) Bool.false_ne_true
              ·rw [if_neg c48] at H
               have c48b0:decide (2 < t691)=false:=decide_eq_false c48
               clear c48
               by_cases c49:0≤t691
               ·rw [if_pos c49] at H
                have c49b0:decide (0≤t691)=true:=decide_eq_true c49
                clear c49
                by_cases c50:t691 < (y682.length:Int)
                ·rw [if_pos c50] at H
                 have c50b0:decide (t691 < (y682.length:Int))=true:=decide_eq_true c50
                 clear c50
                 obtain ⟨ji51,hji51⟩:∃ j_:Int,(mn x15_2 (rd y682 t691))=j_:=⟨_,rfl⟩
                 replace H:(aC.l0 k2 y673 y679 y682 ji51 (mx x16_2 (rd y682 t691)) (wrap64 (x17_2+1)) t641 t642)=some r:=by first|(rw [hji51] at H;exact H)|(simp only [hji51] at H ⊢;exact H)
                 (try rw [hji51] at A44)
                 (try rw [hji51] at A46)
                 have hji51_:(if (rd y682 t691) < x15_2 then (rd y682 t691) else x15_2)=ji51:=hji51
                 obtain ⟨ji52,hji52⟩:∃ j_:Int,(mx x16_2 (rd y682 t691))=j_:=⟨_,rfl⟩
                 replace H:(aC.l0 k2 y673 y679 y682 ji51 ji52 (wrap64 (x17_2+1)) t641 t642)=some r:=by first|(rw [hji52] at H;exact H)|(simp only [hji52] at H ⊢;exact H)
                 (try rw [hji52] at A44)
                 (try rw [hji52] at A46)
                 have hji52_:(if x16_2 < (rd y682 t691) then (rd y682 t691) else x16_2)=ji52:=hji52
                 have H':=aa.mk H
                 clear H
                 have p685:0≤(x17_2:Int):=of_decide_eq_true (by first|(with_reducible assumption)|assumption)
                 have q685:x17_2 < (y673.length:Int):=of_decide_eq_true (by first|(with_reducible assumption)|assumption)
                 obtain ⟨ad685,A685_3,c685_3,A685_4,c685_4,e685,hx685_0,hx685_1,hx685_2,hx685_3,hx685_4,hl685_3,hi685_3,hl685_4,hi685_4⟩:=jo (Kd.bO HO_12.out).2.2 x17_2 p685 q685
                 obtain rfl:ad676=ad685:=(by injection e685)
                 obtain ⟨ce685,hce685,hMe685,hcc685⟩:=Kd.nW HO_12.out z25 x17_2 p685 (by first|exact q685|exact of_decide_eq_true (by first|(with_reducible assumption)|assumption)|(have e_:=(Kd.bO HO_12.out).1;omega))
                 obtain ⟨ua685_3,uc685_3,ua685_4,uc685_4,rfl,ul685_3,ge685_3,ul685_4,ge685_4⟩:=iO hMe685
                 have hv685_3:=hcc685 3 _ rfl
                 rw [eD _ _ 3 (by omega)] at hv685_3
                 replace hv685_3:=Option.some.inj (hv685_3.symm.trans hx685_3)
                 injection hv685_3 with hva_ hvn_ hvc_
                 rw [hva_] at ge685_3
                 rw [hvc_] at ul685_3
                 have HL685_3:=aa.mk (show Kd.V Kd.string 9 _ w.heap.size _ _ ((az y673 x17_2).f3) from Kd.mi ul685_3 ge685_3)
                 clear hva_ hvn_ hvc_ ge685_3 ul685_3
                 have hv685_4:=hcc685 4 _ rfl
                 rw [eD _ _ 4 (by omega)] at hv685_4
                 replace hv685_4:=Option.some.inj (hv685_4.symm.trans hx685_4)
                 injection hv685_4 with hva_ hvn_ hvc_
                 rw [hva_] at ge685_4
                 rw [hvc_] at ul685_4
                 have HL685_4:=aa.mk (show Kd.V k25 25 _ w.heap.size _ _ ((az y673 x17_2).f4) from Kd.mi ul685_4 ge685_4)
                 clear hva_ hvn_ hvc_ ge685_4 ul685_4
                 clear hcc685 hce685
                 have HR685_3:=aa.mk hi685_3
                 have HC685_3:=aa.mk hl685_3
                 clear hi685_3 hl685_3
                 have HR685_4:=aa.mk hi685_4
                 have HC685_4:=aa.mk hl685_4
                 clear hi685_4 hl685_4
                 replace p685:=eq_true p685
                 replace q685:=eq_true q685
                 try go_wp2_with (first|((with_reducible refine bS (N:=71) rfl ?_);(try (refine eU (by rfl) ?_;dsimp only));refine Kd.mD k25 _ 25 ?hg (N':=71) ?hd (xs:=([(⟨(az y673 x17_2).f0,(az y673 x17_2).f1,(az y673 x17_2).f2,(az y673 x17_2).f3,(az y673 x17_2).f4⟩:S25)]:List (S25))) (inner:=[.int .i64 ((az y673 x17_2).f0),.string ((az y673 x17_2).f1),.string ((az y673 x17_2).f2),.slice A685_3 ((az y673 x17_2).f3).length c685_3,.slice A685_4 ((az y673 x17_2).f4).length c685_4]) (ok:=(fun k_=>some k_≠(.slice (some ad676) y673.length co36:Value).ownBlock∧some k_≠(v680:Value).ownBlock∧some k_≠(v683:Value).ownBlock∧some k_≠(.slice Ao23 t642.length co23:Value).ownBlock∧k_≠gb645)) (okp:=(fun k_=>some k_≠(.slice (some ad676) y673.length co36:Value).ownBlock∧some k_≠(v680:Value).ownBlock∧some k_≠(v683:Value).ownBlock∧some k_≠(.slice Ao23 t642.length co23:Value).ownBlock∧k_≠gb645)) ?hr ?hp (fun _ hk=>hk) ((show ∀ k_,wr.heap.size≤k_→(fun k_=>some k_≠(.slice (some ad676) y673.length co36:Value).ownBlock∧some k_≠(v680:Value).ownBlock∧some k_≠(v683:Value).ownBlock∧some k_≠(.slice Ao23 t642.length co23:Value).ownBlock∧k_≠gb645) k_ from fun k_ hk=>⟨Kd.fresh' (Kd.gM (by (with_reducible repeat (first|apply Kd.aZ|apply Kd.aY|apply Kd.bn));exact HO_12.out)) k_ hk,Kd.fresh' (Kd.gM (by (with_reducible repeat (first|apply Kd.aZ|apply Kd.aY|apply Kd.bn));exact HO_13.out)) k_ hk,Kd.fresh' (Kd.iD (by (with_reducible repeat (first|apply Kd.bz|apply Kd.bq|apply Kd.bB));exact HO_14.out)) k_ hk,Kd.fresh' (Kd.gM (by (with_reducible repeat (first|apply Kd.aZ|apply Kd.aY|apply Kd.bn));exact HO_646001.out)) k_ hk,Kd.dC (g:=gb645) (o:=.cells #[.string t641,.slice Ao23 t642.length co23] 28 (0,0)) (by (with_reducible repeat (first|refine au ?_ _|refine av ?_|refine ak ?_ _));exact BK645.out) k_ hk⟩) _ (Nat.le_refl _)) (Below.refl _ _) (Nat.le_refl _) (by simp) ?_;(case hd=>rfl);(case hg=>rfl);(case hr=>first|(go_simp;done)|(go_simp;rfl));(case hp=>exact (bI.c5 (show Kd.FK k25 _ _ (⟨(az y673 x17_2).f0,(az y673 x17_2).f1,(az y673 x17_2).f2,(az y673 x17_2).f3,(az y673 x17_2).f4⟩:S25) [.int .i64 ((az y673 x17_2).f0),.string ((az y673 x17_2).f1),.string ((az y673 x17_2).f2),.slice A685_3 ((az y673 x17_2).f3).length c685_3,.slice A685_4 ((az y673 x17_2).f4).length c685_4] from (gX _ _ (⟨(az y673 x17_2).f0,(az y673 x17_2).f1,(az y673 x17_2).f2,(az y673 x17_2).f3,(az y673 x17_2).f4⟩:S25) (Kd.fo (Kd.dF (ok':=(fun k_=>some k_≠(.slice (some ad676) y673.length co36:Value).ownBlock∧some k_≠(v680:Value).ownBlock∧some k_≠(v683:Value).ownBlock∧some k_≠(.slice Ao23 t642.length co23:Value).ownBlock∧k_≠gb645)) (HL685_3.out) (fun k_ hk=>⟨hk.2,⟨hk.1.1,⟨hk.1.2.1,⟨hk.1.2.2.1,hk.1.2.2.2⟩⟩⟩⟩))).2.1 (Kd.V_F (Kd.dF (ok':=(fun k_=>some k_≠(.slice (some ad676) y673.length co36:Value).ownBlock∧some k_≠(v680:Value).ownBlock∧some k_≠(v683:Value).ownBlock∧some k_≠(.slice Ao23 t642.length co23:Value).ownBlock∧k_≠gb645)) (HL685_3.out) (fun k_ hk=>⟨hk.2,⟨hk.1.1,⟨hk.1.2.1,⟨hk.1.2.2.1,hk.1.2.2.2⟩⟩⟩⟩))) (Kd.fo (Kd.dF (ok':=(fun k_=>some k_≠(.slice (some ad676) y673.length co36:Value).ownBlock∧some k_≠(v680:Value).ownBlock∧some k_≠(v683:Value).ownBlock∧some k_≠(.slice Ao23 t642.length co23:Value).ownBlock∧k_≠gb645)) (HL685_4.out) (fun k_ hk=>⟨hk.2,⟨hk.1.1,⟨hk.1.2.1,⟨hk.1.2.2.1,hk.1.2.2.2⟩⟩⟩⟩))).2.1 (Kd.V_F (Kd.dF (ok':=(fun k_=>some k_≠(.slice (some ad676) y673.length co36:Value).ownBlock∧some k_≠(v680:Value).ownBlock∧some k_≠(v683:Value).ownBlock∧some k_≠(.slice Ao23 t642.length co23:Value).ownBlock∧k_≠gb645)) (HL685_4.out) (fun k_ hk=>⟨hk.2,⟨hk.1.1,⟨hk.1.2.1,⟨hk.1.2.2.1,hk.1.2.2.2⟩⟩⟩⟩))))) (bI.none _ _)));intro v687 w53 ho54 hb hg_ hnew_;clear hg_ hnew_;(first|rw [← Ny686.out] at ho54|(simp only [Int.reduceToNat] at ho54;rw [← Ny686.out] at ho54));have n0_:=aa.mk (Kd.cu (by (with_reducible repeat (first|apply Kd.aZ|apply Kd.aY|apply Kd.bn));exact HO_12.out) (Kd.dE ho54) hb);have n1_:=aa.mk (Kd.cu (by (with_reducible repeat (first|apply Kd.aZ|apply Kd.aY|apply Kd.bn));exact HO_13.out) (Kd.dE ho54) hb);have n2_:=aa.mk (Kd.bR (by (with_reducible repeat (first|apply Kd.bz|apply Kd.bq|apply Kd.bB));exact HO_14.out) hb);have n3_:=aa.mk (Kd.cu (by (with_reducible repeat (first|apply Kd.aZ|apply Kd.aY|apply Kd.bn));exact HO_646001.out) (Kd.dE ho54) hb);have n4_:=aa.mk (Kd.dw (by (with_reducible repeat (first|apply Kd.cB|apply Kd.cz|apply Kd.dm));exact HL685_3.out) (Kd.dE ho54) hb);have n5_:=aa.mk (Kd.dw (by (with_reducible repeat (first|apply Kd.cB|apply Kd.cz|apply Kd.dm));exact HL685_4.out) (Kd.dE ho54) hb);have n6_:=aa.mk (Kd.fw ho54 (aG (by repeat (first|(with_reducible first|exact HB.out|apply af|apply ae|apply ag|refine ah ?_ GE645.out)|exact HB.out))));have n7_:=aa.mk (aI (g:=gb645) (o:=.cells #[.string t641,.slice Ao23 t642.length co23] 28 (0,0)) (by (with_reducible repeat (first|refine au ?_ _|refine av ?_|refine ak ?_ _));exact BK645.out) hb);have n8_:=aa.mk (Kd.bf (by repeat (first|(with_reducible exact HR676_3.out)|(with_reducible refine Kd.aN ?_ _)|(with_reducible refine Kd.aQ ?_ _)|(with_reducible refine Kd.aW ?_)|exact HR676_3.out)) hb);have n9_:=aa.mk (Kd.bf (by repeat (first|(with_reducible exact HR676_4.out)|(with_reducible refine Kd.aN ?_ _)|(with_reducible refine Kd.aQ ?_ _)|(with_reducible refine Kd.aW ?_)|exact HR676_4.out)) hb);have n10_:=aa.mk (Kd.bf (by repeat (first|(with_reducible exact HR677_3.out)|(with_reducible refine Kd.aN ?_ _)|(with_reducible refine Kd.aQ ?_ _)|(with_reducible refine Kd.aW ?_)|exact HR677_3.out)) hb);have n11_:=aa.mk (Kd.bf (by repeat (first|(with_reducible exact HR677_4.out)|(with_reducible refine Kd.aN ?_ _)|(with_reducible refine Kd.aQ ?_ _)|(with_reducible refine Kd.aW ?_)|exact HR677_4.out)) hb);have n12_:=aa.mk (Kd.bf (by repeat (first|(with_reducible exact HR678_3.out)|(with_reducible refine Kd.aN ?_ _)|(with_reducible refine Kd.aQ ?_ _)|(with_reducible refine Kd.aW ?_)|exact HR678_3.out)) hb);have n13_:=aa.mk (Kd.bf (by repeat (first|(with_reducible exact HR678_4.out)|(with_reducible refine Kd.aN ?_ _)|(with_reducible refine Kd.aQ ?_ _)|(with_reducible refine Kd.aW ?_)|exact HR678_4.out)) hb);have n14_:=aa.mk (Kd.bf (by repeat (first|(with_reducible exact HR685_3.out)|(with_reducible refine Kd.aN ?_ _)|(with_reducible refine Kd.aQ ?_ _)|(with_reducible refine Kd.aW ?_)|exact HR685_3.out)) hb);have n15_:=aa.mk (Kd.bf (by repeat (first|(with_reducible exact HR685_4.out)|(with_reducible refine Kd.aN ?_ _)|(with_reducible refine Kd.aQ ?_ _)|(with_reducible refine Kd.aW ?_)|exact HR685_4.out)) hb);have n16_:=aa.mk (aD (by repeat (first|(with_reducible first|exact HB.out|apply af|apply ae|apply ag|refine ah ?_ GE645.out)|exact HB.out)) hb);clear HO_12;clear HO_13;clear HO_14;clear HO_646001;clear HL685_3;clear HL685_4;clear BK645;clear HR676_3;clear HR676_4;clear HR677_3;clear HR677_4;clear HR678_3;clear HR678_4;clear HR685_3;clear HR685_4;clear HB;have HO_12:=n0_;have HO_13:=n1_;have HO_14:=n2_;have HO_646001:=n3_;have HL685_3:=n4_;have HL685_4:=n5_;have HO688:=n6_;have BK645:=n7_;have HR676_3:=n8_;have HR676_4:=n9_;have HR677_3:=n10_;have HR677_4:=n11_;have HR678_3:=n12_;have HR678_4:=n13_;have HR685_3:=n14_;have HR685_4:=n15_;have HB:=n16_;clear n0_ n1_ n2_ n3_ n4_ n5_ n6_ n7_ n8_ n9_ n10_ n11_ n12_ n13_ n14_ n15_ n16_;clear hb ho54;obtain ⟨Ao55,co55,eo55⟩:=Kd.dR HO688.out;subst eo55)|((with_reducible refine aV (f:=19) rfl ?_);refine bJ (some 73) rfl rfl Tryz.func19 (by kernel_rfl) rfl #[.agg #[.int .i64 1,.string (⟨#[]⟩:ByteArray),.string (⟨#[]⟩:ByteArray),.slice none 0 0,.slice Ao55 y686.length co55]] rfl (by (try simp only [List.map_toArray,List.map_cons,List.map_nil]);first|done|rfl|(simp only [List.length_drop,List.length_take];rfl)) ?_;(refine (dG.calls k2 1 (⟨#[]⟩:ByteArray) (⟨#[]⟩:ByteArray) _ _ ([]:List ByteArray) _ _ y686 true _ ?side1 ?side2 ?side3 ?side4 A44.out).mono ?_);(case side1=>exact Kd.iJ _ _);(case side2=>exact Nat.le_refl _);(case side3=>repeat (first|exact (Kd.bO HO688.out).2.2|(with_reducible refine Kd.aN ?_ _)|(with_reducible refine Kd.aQ ?_ _)|(with_reducible refine Kd.aW ?_)));(case side4=>exact (Kd.bO HO688.out).2.1);rintro e w56 ⟨rfl,hb⟩;refine ⟨_,rfl,?_⟩;have n0_:=aa.mk (Kd.df (by (with_reducible repeat (first|apply Kd.aZ|apply Kd.aY|apply Kd.bn));exact HO_12.out) hb);have n1_:=aa.mk (Kd.df (by (with_reducible repeat (first|apply Kd.aZ|apply Kd.aY|apply Kd.bn));exact HO_13.out) hb);have n2_:=aa.mk (Kd.bR (by (with_reducible repeat (first|apply Kd.bz|apply Kd.bq|apply Kd.bB));exact HO_14.out) hb);have n3_:=aa.mk (Kd.df (by (with_reducible repeat (first|apply Kd.aZ|apply Kd.aY|apply Kd.bn));exact HO_646001.out) hb);have n4_:=aa.mk (Kd.iB (by (with_reducible repeat (first|apply Kd.cB|apply Kd.cz|apply Kd.dm));exact HL685_3.out) hb);have n5_:=aa.mk (Kd.iB (by (with_reducible repeat (first|apply Kd.cB|apply Kd.cz|apply Kd.dm));exact HL685_4.out) hb);have n6_:=aa.mk (Kd.df (by (with_reducible repeat (first|apply Kd.aZ|apply Kd.aY|apply Kd.bn));exact HO688.out) hb);have n7_:=aa.mk (aI (g:=gb645) (o:=.cells #[.string t641,.slice Ao23 t642.length co23] 28 (0,0)) (by (with_reducible repeat (first|refine au ?_ _|refine av ?_|refine ak ?_ _));exact BK645.out) hb);have n8_:=aa.mk (Kd.bf (by repeat (first|(with_reducible exact HR676_3.out)|(with_reducible refine Kd.aN ?_ _)|(with_reducible refine Kd.aQ ?_ _)|(with_reducible refine Kd.aW ?_)|exact HR676_3.out)) hb);have n9_:=aa.mk (Kd.bf (by repeat (first|(with_reducible exact HR676_4.out)|(with_reducible refine Kd.aN ?_ _)|(with_reducible refine Kd.aQ ?_ _)|(with_reducible refine Kd.aW ?_)|exact HR676_4.out)) hb);have n10_:=aa.mk (Kd.bf (by repeat (first|(with_reducible exact HR677_3.out)|(with_reducible refine Kd.aN ?_ _)|(with_reducible refine Kd.aQ ?_ _)|(with_reducible refine Kd.aW ?_)|exact HR677_3.out)) hb);have n11_:=aa.mk (Kd.bf (by repeat (first|(with_reducible exact HR677_4.out)|(with_reducible refine Kd.aN ?_ _)|(with_reducible refine Kd.aQ ?_ _)|(with_reducible refine Kd.aW ?_)|exact HR677_4.out)) hb);have n12_:=aa.mk (Kd.bf (by repeat (first|(with_reducible exact HR678_3.out)|(with_reducible refine Kd.aN ?_ _)|(with_reducible refine Kd.aQ ?_ _)|(with_reducible refine Kd.aW ?_)|exact HR678_3.out)) hb);have n13_:=aa.mk (Kd.bf (by repeat (first|(with_reducible exact HR678_4.out)|(with_reducible refine Kd.aN ?_ _)|(with_reducible refine Kd.aQ ?_ _)|(with_reducible refine Kd.aW ?_)|exact HR678_4.out)) hb);have n14_:=aa.mk (Kd.bf (by repeat (first|(with_reducible exact HR685_3.out)|(with_reducible refine Kd.aN ?_ _)|(with_reducible refine Kd.aQ ?_ _)|(with_reducible refine Kd.aW ?_)|exact HR685_3.out)) hb);have n15_:=aa.mk (Kd.bf (by repeat (first|(with_reducible exact HR685_4.out)|(with_reducible refine Kd.aN ?_ _)|(with_reducible refine Kd.aQ ?_ _)|(with_reducible refine Kd.aW ?_)|exact HR685_4.out)) hb);have n16_:=aa.mk (aD (by repeat (first|(with_reducible first|exact HB.out|apply af|apply ae|apply ag|refine ah ?_ GE645.out)|exact HB.out)) hb);clear HO_12;clear HO_13;clear HO_14;clear HO_646001;clear HL685_3;clear HL685_4;clear HO688;clear BK645;clear HR676_3;clear HR676_4;clear HR677_3;clear HR677_4;clear HR678_3;clear HR678_4;clear HR685_3;clear HR685_4;clear HB;have HO_12:=n0_;have HO_13:=n1_;have HO_14:=n2_;have HO_646001:=n3_;have HL685_3:=n4_;have HL685_4:=n5_;have HO688:=n6_;have BK645:=n7_;have HR676_3:=n8_;have HR676_4:=n9_;have HR677_3:=n10_;have HR677_4:=n11_;have HR678_3:=n12_;have HR678_4:=n13_;have HR685_3:=n14_;have HR685_4:=n15_;have HB:=n16_;clear n0_ n1_ n2_ n3_ n4_ n5_ n6_ n7_ n8_ n9_ n10_ n11_ n12_ n13_ n14_ n15_ n16_;(try clear hb);(try clear hb2);(try clear hk);(try clear hi)))
                 have n0_:=aa.mk (Kd.bn HO_12.out)
                 have n1_:=aa.mk (Kd.bn HO_13.out)
                 have n2_:=aa.mk (Kd.bB HO_14.out)
                 have n3_:=aa.mk (Kd.bn HO_646001.out)
                 have n4_:=aa.mk (Kd.dm HL685_3.out)
                 have n5_:=aa.mk (Kd.dm HL685_4.out)
                 have n6_:=aa.mk (Kd.bn HO688.out)
                 have n7_:=aa.mk (av BK645.out)
                 have n8_:=aa.mk (Kd.aW HR676_3.out)
                 have n9_:=aa.mk (Kd.aW HR676_4.out)
                 have n10_:=aa.mk (Kd.aW HR677_3.out)
                 have n11_:=aa.mk (Kd.aW HR677_4.out)
                 have n12_:=aa.mk (Kd.aW HR678_3.out)
                 have n13_:=aa.mk (Kd.aW HR678_4.out)
                 have n14_:=aa.mk (Kd.aW HR685_3.out)
                 have n15_:=aa.mk (Kd.aW HR685_4.out)
                 have n16_:=aa.mk (ag HB.out)
                 clear HO_12
                 clear HO_13
                 clear HO_14
                 clear HO_646001
                 clear HL685_3
                 clear HL685_4
                 clear HO688
                 clear BK645
                 clear HR676_3
                 clear HR676_4
                 clear HR677_3
                 clear HR677_4
                 clear HR678_3
                 clear HR678_4
                 clear HR685_3
                 clear HR685_4
                 clear HB
                 have HO_12:=n0_
                 have HO_13:=n1_
                 have HO_14:=n2_
                 have HO_646001:=n3_
                 have HL685_3:=n4_
                 have HL685_4:=n5_
                 have HO688:=n6_
                 have BK645:=n7_
                 have HR676_3:=n8_
                 have HR676_4:=n9_
                 have HR677_3:=n10_
                 have HR677_4:=n11_
                 have HR678_3:=n12_
                 have HR678_4:=n13_
                 have HR685_3:=n14_
                 have HR685_4:=n15_
                 have HB:=n16_
                 clear n0_ n1_ n2_ n3_ n4_ n5_ n6_ n7_ n8_ n9_ n10_ n11_ n12_ n13_ n14_ n15_ n16_
                 have p690:0≤(x17_2:Int):=of_decide_eq_true (by first|(with_reducible assumption)|assumption)
                 have q690:x17_2 < (y673.length:Int):=of_decide_eq_true (by first|(with_reducible assumption)|assumption)
                 obtain ⟨ad690,A690_3,c690_3,A690_4,c690_4,e690,hx690_0,hx690_1,hx690_2,hx690_3,hx690_4,hl690_3,hi690_3,hl690_4,hi690_4⟩:=jo (Kd.bO HO_12.out).2.2 x17_2 p690 q690
                 obtain rfl:ad676=ad690:=(by injection e690)
                 obtain ⟨ce690,hce690,hMe690,hcc690⟩:=Kd.nW HO_12.out z25 x17_2 p690 (by first|exact q690|exact of_decide_eq_true (by first|(with_reducible assumption)|assumption)|(have e_:=(Kd.bO HO_12.out).1;omega))
                 obtain ⟨ua690_3,uc690_3,ua690_4,uc690_4,rfl,ul690_3,ge690_3,ul690_4,ge690_4⟩:=iO hMe690
                 have hv690_3:=hcc690 3 _ rfl
                 rw [eD _ _ 3 (by omega)] at hv690_3
                 replace hv690_3:=Option.some.inj (hv690_3.symm.trans hx690_3)
                 injection hv690_3 with hva_ hvn_ hvc_
                 rw [hva_] at ge690_3
                 rw [hvc_] at ul690_3
                 have HL690_3:=aa.mk (show Kd.V Kd.string 9 _ w.heap.size _ _ ((az y673 x17_2).f3) from Kd.mi ul690_3 ge690_3)
                 clear hva_ hvn_ hvc_ ge690_3 ul690_3
                 have hv690_4:=hcc690 4 _ rfl
                 rw [eD _ _ 4 (by omega)] at hv690_4
                 replace hv690_4:=Option.some.inj (hv690_4.symm.trans hx690_4)
                 injection hv690_4 with hva_ hvn_ hvc_
                 rw [hva_] at ge690_4
                 rw [hvc_] at ul690_4
                 have HL690_4:=aa.mk (show Kd.V k25 25 _ w.heap.size _ _ ((az y673 x17_2).f4) from Kd.mi ul690_4 ge690_4)
                 clear hva_ hvn_ hvc_ ge690_4 ul690_4
                 clear hcc690 hce690
                 have HR690_3:=aa.mk hi690_3
                 have HC690_3:=aa.mk hl690_3
                 clear hi690_3 hl690_3
                 have HR690_4:=aa.mk hi690_4
                 have HC690_4:=aa.mk hl690_4
                 clear hi690_4 hl690_4
                 replace p690:=eq_true p690
                 replace q690:=eq_true q690
                 refine jS (n:=7) (S:=fun w'=>w'.cell? ⟨gb645,0,none⟩=some (.string t641)∧w'.cell? ⟨gb645,1,none⟩=some (.slice Ao23 t642.length co23)∧w'.cell? (ad676.add ((x17_2).toNat * 5))=some (.int .i64 ((az y673 x17_2).f0))∧w'.cell? ⟨(ad676.add ((x17_2).toNat * 5)).block,(ad676.add ((x17_2).toNat * 5)).off+1,none⟩=some (.string ((az y673 x17_2).f1))∧w'.cell? ⟨(ad676.add ((x17_2).toNat * 5)).block,(ad676.add ((x17_2).toNat * 5)).off+2,none⟩=some (.string ((az y673 x17_2).f2))∧w'.cell? ⟨(ad676.add ((x17_2).toNat * 5)).block,(ad676.add ((x17_2).toNat * 5)).off+3,none⟩=some (.slice A690_3 ((az y673 x17_2).f3).length c690_3)∧w'.cell? ⟨(ad676.add ((x17_2).toNat * 5)).block,(ad676.add ((x17_2).toNat * 5)).off+4,none⟩=some (.slice A690_4 ((az y673 x17_2).f4).length c690_4)) (ds:=[]) #[false,false,false,false,false,false,false] (by kernel_rfl) rfl rfl ⟨(aj BK645.out 0).trans rfl,(aj BK645.out 1).trans rfl,hx690_0,hx690_1,hx690_2,hx690_3,hx690_4⟩ (fun hHeld=>?_)
                 generalize w56.drew=w57 at HO_12 HO_13 HO_14 HO_646001 HL685_3 HL685_4 HO688 BK645 HR676_3 HR676_4 HR677_3 HR677_4 HR678_3 HR678_4 HR685_3 HR685_4 HB HL690_3 HL690_4 HR690_3 HR690_4 hx690_0 hx690_1 hx690_2 hx690_3 hx690_4 hHeld ⊢
                 refine di (i:=0) (N:=some 76) (v:=?_) (a':=?_) #[true,false,false,false,false,false,false] rfl rfl (by kernel_rfl) (fun _ _ _ h=>h) (Or.inl ⟨by rfl,?_⟩) ?_ ?_
                 rotate_left
                 ·intro w'
                  go_simp
                  with_reducible rfl
                 rotate_left
                 ·simp only [Act.put,List.setIfInBounds_toArray,List.set_cons_zero,List.set_cons_succ,aT,aU]
                  rfl
                 refine di (i:=1) (N:=some 77) (v:=?_) (a':=?_) #[true,true,false,false,false,false,false] rfl rfl (by kernel_rfl) (fun _ _ _ h=>h) (Or.inl ⟨by rfl,?_⟩) ?_ ?_
                 rotate_left
                 ·intro w'
                  go_simp
                  with_reducible rfl
                 rotate_left
                 ·simp only [Act.put,List.setIfInBounds_toArray,List.set_cons_zero,List.set_cons_succ,aT,aU]
                  rfl
                 refine di (i:=2) (N:=some 78) (v:=?_) (a':=?_) #[true,true,true,false,false,false,false] rfl rfl (by kernel_rfl) (fun _ _ _ h=>h) (Or.inl ⟨by rfl,?_⟩) ?_ ?_
                 rotate_left
                 ·intro w'
                  go_simp
                  with_reducible rfl
                 rotate_left
                 ·simp only [Act.put,List.setIfInBounds_toArray,List.set_cons_zero,List.set_cons_succ,aT,aU]
                  rfl
                 refine take_ (i:=3) (N:=some 79) (v:=?_) (a':=?_) #[true,true,true,true,false,false,false] rfl rfl (by kernel_rfl) (fun _ _ _ h=>h) (Or.inl ⟨by rfl,?_⟩) hHeld ?_ ?_
                 rotate_left
                 ·rintro w' ⟨s0,s1,s2,s3,s4,s5,s6⟩
                  go_simp
                  with_reducible rfl
                 rotate_left
                 ·simp only [Act.put,List.setIfInBounds_toArray,List.set_cons_zero,List.set_cons_succ,aT,aU]
                  rfl
                 refine take_ (i:=4) (N:=some 80) (v:=?_) (a':=?_) #[true,true,true,true,true,false,false] rfl rfl (by kernel_rfl) (fun _ _ _ h=>h) (Or.inl ⟨by rfl,?_⟩) hHeld ?_ ?_
                 rotate_left
                 ·rintro w' ⟨s0,s1,s2,s3,s4,s5,s6⟩
                  go_simp
                  with_reducible rfl
                 rotate_left
                 ·simp only [Act.put,List.setIfInBounds_toArray,List.set_cons_zero,List.set_cons_succ,aT,aU]
                  rfl
                 refine ji (i:=5) (N:=some 81) #[true,true,true,true,true,true,false] rfl rfl (by kernel_rfl) (by decide) (fun K hK=>?_)
                 refine lN Tryz.func13 (by kernel_rfl) rfl #[.agg #[.int .i64 ((az y673 x17_2).f0),.string ((az y673 x17_2).f1),.string ((az y673 x17_2).f2),.slice A690_3 ((az y673 x17_2).f3).length c690_3,.slice A690_4 ((az y673 x17_2).f4).length c690_4],.agg #[.string t641,.slice Ao23 t642.length co23]] (by rfl) rfl rfl (by (try simp only [List.map_toArray,List.map_cons,List.map_nil]);first|done|rfl|(simp only [List.length_drop,List.length_take];rfl)) ?_
                 with_reducible refine (bT.calls k2 ((az y673 x17_2).f0) ((az y673 x17_2).f1) ((az y673 x17_2).f2) _ _ ((az y673 x17_2).f3) _ _ ((az y673 x17_2).f4) t641 _ _ t642 t691 _ ?side1 ?side2 ?side3 ?side4 ?side5 ?side6 ?side7 A46.out).mono ?_
                 (case side1=>repeat (first|exact (by repeat (first|(with_reducible exact HR690_3.out)|(with_reducible refine Kd.aN ?_ _)|(with_reducible refine Kd.aQ ?_ _)|(with_reducible refine Kd.aW ?_)|exact HR690_3.out))|(with_reducible refine Kd.aN ?_ _)|(with_reducible refine Kd.aQ ?_ _)|(with_reducible refine Kd.aW ?_)))
                 (case side2=>exact HC690_3.out)
                 (case side3=>repeat (first|exact (by repeat (first|(with_reducible exact HR690_4.out)|(with_reducible refine Kd.aN ?_ _)|(with_reducible refine Kd.aQ ?_ _)|(with_reducible refine Kd.aW ?_)|exact HR690_4.out))|(with_reducible refine Kd.aN ?_ _)|(with_reducible refine Kd.aQ ?_ _)|(with_reducible refine Kd.aW ?_)))
                 (case side4=>exact HC690_4.out)
                 (case side5=>repeat (first|exact (Kd.bO HO_646001.out).2.2|(with_reducible refine Kd.aN ?_ _)|(with_reducible refine Kd.aQ ?_ _)|(with_reducible refine Kd.aW ?_)))
                 (case side6=>exact (Kd.bO HO_646001.out).2.1)
                 (case side7=>first|exact HG.out|exact Gl.drewN HG.out _|exact Gl.below HG.out (by repeat (first|(with_reducible first|exact HB.out|apply af|apply ae|apply ag|refine ah ?_ GE645.out)|exact HB.out)))
                 rintro e w58 ⟨rfl,hb⟩
                 have HS2_:=(hb.cell (World.block_lt_of_cell? _ _ (hHeld.2.2.1))).trans (hHeld.2.2.1)
                 have HS3_:=(hb.cell (World.block_lt_of_cell? _ _ (hHeld.2.2.2.1))).trans (hHeld.2.2.2.1)
                 have HS4_:=(hb.cell (World.block_lt_of_cell? _ _ (hHeld.2.2.2.2.1))).trans (hHeld.2.2.2.2.1)
                 have HS5_:=(hb.cell (World.block_lt_of_cell? _ _ (hHeld.2.2.2.2.2.1))).trans (hHeld.2.2.2.2.2.1)
                 have HS6_:=(hb.cell (World.block_lt_of_cell? _ _ (hHeld.2.2.2.2.2.2))).trans (hHeld.2.2.2.2.2.2)
                 refine ⟨_,rfl,?_⟩
                 have n0_:=aa.mk (Kd.df (by (with_reducible repeat (first|apply Kd.aZ|apply Kd.aY|apply Kd.bn));exact HO_12.out) hb)
                 have n1_:=aa.mk (Kd.df (by (with_reducible repeat (first|apply Kd.aZ|apply Kd.aY|apply Kd.bn));exact HO_13.out) hb)
                 have n2_:=aa.mk (Kd.bR (by (with_reducible repeat (first|apply Kd.bz|apply Kd.bq|apply Kd.bB));exact HO_14.out) hb)
                 have n3_:=aa.mk (Kd.df (by (with_reducible repeat (first|apply Kd.aZ|apply Kd.aY|apply Kd.bn));exact HO_646001.out) hb)
                 have n4_:=aa.mk (Kd.iB (by (with_reducible repeat (first|apply Kd.cB|apply Kd.cz|apply Kd.dm));exact HL685_3.out) hb)
                 have n5_:=aa.mk (Kd.iB (by (with_reducible repeat (first|apply Kd.cB|apply Kd.cz|apply Kd.dm));exact HL685_4.out) hb)
                 have n6_:=aa.mk (Kd.df (by (with_reducible repeat (first|apply Kd.aZ|apply Kd.aY|apply Kd.bn));exact HO688.out) hb)
                 have n7_:=aa.mk (Kd.iB (by (with_reducible repeat (first|apply Kd.cB|apply Kd.cz|apply Kd.dm));exact HL690_3.out) hb)
                 have n8_:=aa.mk (Kd.iB (by (with_reducible repeat (first|apply Kd.cB|apply Kd.cz|apply Kd.dm));exact HL690_4.out) hb)
                 have n9_:=aa.mk (aI (g:=gb645) (o:=.cells #[.string t641,.slice Ao23 t642.length co23] 28 (0,0)) (by (with_reducible repeat (first|refine au ?_ _|refine av ?_|refine ak ?_ _));exact BK645.out) hb)
                 have n10_:=aa.mk (Kd.bf (by repeat (first|(with_reducible exact HR676_3.out)|(with_reducible refine Kd.aN ?_ _)|(with_reducible refine Kd.aQ ?_ _)|(with_reducible refine Kd.aW ?_)|exact HR676_3.out)) hb)
                 have n11_:=aa.mk (Kd.bf (by repeat (first|(with_reducible exact HR676_4.out)|(with_reducible refine Kd.aN ?_ _)|(with_reducible refine Kd.aQ ?_ _)|(with_reducible refine Kd.aW ?_)|exact HR676_4.out)) hb)
                 have n12_:=aa.mk (Kd.bf (by repeat (first|(with_reducible exact HR677_3.out)|(with_reducible refine Kd.aN ?_ _)|(with_reducible refine Kd.aQ ?_ _)|(with_reducible refine Kd.aW ?_)|exact HR677_3.out)) hb)
                 have n13_:=aa.mk (Kd.bf (by repeat (first|(with_reducible exact HR677_4.out)|(with_reducible refine Kd.aN ?_ _)|(with_reducible refine Kd.aQ ?_ _)|(with_reducible refine Kd.aW ?_)|exact HR677_4.out)) hb)
                 have n14_:=aa.mk (Kd.bf (by repeat (first|(with_reducible exact HR678_3.out)|(with_reducible refine Kd.aN ?_ _)|(with_reducible refine Kd.aQ ?_ _)|(with_reducible refine Kd.aW ?_)|exact HR678_3.out)) hb)
                 have n15_:=aa.mk (Kd.bf (by repeat (first|(with_reducible exact HR678_4.out)|(with_reducible refine Kd.aN ?_ _)|(with_reducible refine Kd.aQ ?_ _)|(with_reducible refine Kd.aW ?_)|exact HR678_4.out)) hb)
                 have n16_:=aa.mk (Kd.bf (by repeat (first|(with_reducible exact HR685_3.out)|(with_reducible refine Kd.aN ?_ _)|(with_reducible refine Kd.aQ ?_ _)|(with_reducible refine Kd.aW ?_)|exact HR685_3.out)) hb)
                 have n17_:=aa.mk (Kd.bf (by repeat (first|(with_reducible exact HR685_4.out)|(with_reducible refine Kd.aN ?_ _)|(with_reducible refine Kd.aQ ?_ _)|(with_reducible refine Kd.aW ?_)|exact HR685_4.out)) hb)
                 have n18_:=aa.mk (Kd.bf (by repeat (first|(with_reducible exact HR690_3.out)|(with_reducible refine Kd.aN ?_ _)|(with_reducible refine Kd.aQ ?_ _)|(with_reducible refine Kd.aW ?_)|exact HR690_3.out)) hb)
                 have n19_:=aa.mk (Kd.bf (by repeat (first|(with_reducible exact HR690_4.out)|(with_reducible refine Kd.aN ?_ _)|(with_reducible refine Kd.aQ ?_ _)|(with_reducible refine Kd.aW ?_)|exact HR690_4.out)) hb)
                 have n20_:=aa.mk (aD (by repeat (first|(with_reducible first|exact HB.out|apply af|apply ae|apply ag|refine ah ?_ GE645.out)|exact HB.out)) hb)
                 clear HO_12
                 clear HO_13
                 clear HO_14
                 clear HO_646001
                 clear HL685_3
                 clear HL685_4
                 clear HO688
                 clear HL690_3
                 clear HL690_4
                 clear BK645
                 clear HR676_3
                 clear HR676_4
                 clear HR677_3
                 clear HR677_4
                 clear HR678_3
                 clear HR678_4
                 clear HR685_3
                 clear HR685_4
                 clear HR690_3
                 clear HR690_4
                 clear HB
                 have HO_12:=n0_
                 have HO_13:=n1_
                 have HO_14:=n2_
                 have HO_646001:=n3_
                 have HL685_3:=n4_
                 have HL685_4:=n5_
                 have HO688:=n6_
                 have HL690_3:=n7_
                 have HL690_4:=n8_
                 have BK645:=n9_
                 have HR676_3:=n10_
                 have HR676_4:=n11_
                 have HR677_3:=n12_
                 have HR677_4:=n13_
                 have HR678_3:=n14_
                 have HR678_4:=n15_
                 have HR685_3:=n16_
                 have HR685_4:=n17_
                 have HR690_3:=n18_
                 have HR690_4:=n19_
                 have HB:=n20_
                 clear n0_ n1_ n2_ n3_ n4_ n5_ n6_ n7_ n8_ n9_ n10_ n11_ n12_ n13_ n14_ n15_ n16_ n17_ n18_ n19_ n20_
                 (try clear hb)
                 (try clear hb2)
                 (try clear hk)
                 (try clear hi)
                 refine hK.out _ _ ⟨(aj BK645.out 0).trans rfl,(aj BK645.out 1).trans rfl,HS2_,HS3_,HS4_,HS5_,HS6_⟩ (fun hHeld=>?_)
                 clear hK K
                 refine fB (a':=?_) ?_ ?_
                 rotate_left
                 ·show Act.put _ (some 81) _=_
                  simp only [Act.put,List.setIfInBounds_toArray,List.set_cons_zero,List.set_cons_succ,aT,aU]
                  rfl
                 refine di (i:=6) (N:=some 18) (v:=?_) (a':=?_) #[true,true,true,true,true,true,true] rfl rfl (by kernel_rfl) (fun _ _ _ h=>h) (Or.inl ⟨by rfl,?_⟩) ?_ ?_
                 rotate_left
                 ·intro w'
                  go_simp
                  with_reducible rfl
                 rotate_left
                 ·simp only [Act.put,List.setIfInBounds_toArray,List.set_cons_zero,List.set_cons_succ,aT,aU]
                  rfl
                 refine mH (by kernel_rfl) ?_
                 obtain ⟨Ao59,co59,eo59⟩:=Kd.cO HO_14.out
                 subst eo59
                 have p692:0≤(t691:Int):=of_decide_eq_true (by first|(with_reducible assumption)|assumption)
                 have q692:t691 < (y682.length:Int):=of_decide_eq_true (by first|(with_reducible assumption)|assumption)
                 obtain ⟨ad692,e692,hx692_0⟩:=Kd.fD (Kd.bL HO_14.out).2.2 t691 p692 q692
                 cases e692
                 replace p692:=eq_true p692
                 replace q692:=eq_true q692
                 have p693:0≤(t691:Int):=of_decide_eq_true (by first|(with_reducible assumption)|assumption)
                 have q693:t691 < (y682.length:Int):=of_decide_eq_true (by first|(with_reducible assumption)|assumption)
                 obtain ⟨ad693,e693,hx693_0⟩:=Kd.fD (Kd.bL HO_14.out).2.2 t691 p693 q693
                 obtain rfl:ad692=ad693:=(by injection e693)
                 replace p693:=eq_true p693
                 replace q693:=eq_true q693
                 try go_wp2
                 go_roundg k2
                 case measure=>have:=HJ5.out;have:=HK2.out;omega
                 case rel=>exact ⟨(ji51),(ji52),(wrap64 (x17_2+1)),(by first|rfl|(simp;done)|(simp only [← hji51] <;> (first|rfl|simp))|(simp [*];done)),(by first|rfl|(simp;done)|(simp only [← hji52] <;> (first|rfl|simp))|(simp [*];done)),(by first|rfl|(simp;done)|(simp [*];done)|(simp [*,aT,aU,bU];done)|(simp only [ay,ax];done)|(simp only [ay,ax];simp;done)|(simp only [ay,ax];simp [*];done)),H',⟨by have:=HJ5.out;have:=HK2.out;omega⟩,⟨by (with_reducible repeat (first|apply Kd.aZ|apply Kd.aY|apply Kd.bn));exact Kd.bH HO_12.out (fun _ hk=>⟨hk.1.1,⟨hk.1.2.1,⟨hk.1.2.2.1,hk.1.2.2.2⟩⟩⟩)⟩,⟨by (with_reducible repeat (first|apply Kd.aZ|apply Kd.aY|apply Kd.bn));exact Kd.bH HO_13.out (fun _ hk=>⟨hk.1.1,⟨hk.1.2.1,⟨hk.1.2.2.1,hk.1.2.2.2⟩⟩⟩)⟩,⟨by (with_reducible repeat (first|apply Kd.bz|apply Kd.bq|apply Kd.bB));exact HO_14.out⟩,⟨by (with_reducible repeat (first|apply Kd.aZ|apply Kd.aY|apply Kd.bn));exact Kd.bH HO_646001.out (fun _ hk=>⟨hk.1.1,⟨hk.1.2.1,⟨hk.1.2.2.1,hk.1.2.2.2⟩⟩⟩)⟩,⟨by (with_reducible repeat (first|refine au ?_ _|refine av ?_|refine ak ?_ _));exact BK645.out⟩,⟨by repeat (first|(with_reducible exact HR676_3.out)|(with_reducible refine Kd.aN ?_ _)|(with_reducible refine Kd.aQ ?_ _)|(with_reducible refine Kd.aW ?_)|exact HR676_3.out)⟩,⟨by repeat (first|(with_reducible exact HR676_4.out)|(with_reducible refine Kd.aN ?_ _)|(with_reducible refine Kd.aQ ?_ _)|(with_reducible refine Kd.aW ?_)|exact HR676_4.out)⟩,⟨by repeat (first|(with_reducible exact HR677_3.out)|(with_reducible refine Kd.aN ?_ _)|(with_reducible refine Kd.aQ ?_ _)|(with_reducible refine Kd.aW ?_)|exact HR677_3.out)⟩,⟨by repeat (first|(with_reducible exact HR677_4.out)|(with_reducible refine Kd.aN ?_ _)|(with_reducible refine Kd.aQ ?_ _)|(with_reducible refine Kd.aW ?_)|exact HR677_4.out)⟩,⟨by repeat (first|(with_reducible exact HR678_3.out)|(with_reducible refine Kd.aN ?_ _)|(with_reducible refine Kd.aQ ?_ _)|(with_reducible refine Kd.aW ?_)|exact HR678_3.out)⟩,⟨by repeat (first|(with_reducible exact HR678_4.out)|(with_reducible refine Kd.aN ?_ _)|(with_reducible refine Kd.aQ ?_ _)|(with_reducible refine Kd.aW ?_)|exact HR678_4.out)⟩,⟨by repeat (first|(with_reducible first|exact HB.out|apply af|apply ae|apply ag|refine ah ?_ GE645.out)|exact HB.out)⟩⟩
                ·rw [if_neg c50] at H
                 exact absurd H (by simp)
               ·rw [if_neg c49] at H
                exact absurd H (by simp)
            ·replace c45:=Bool.eq_false_iff.mpr c45
             subst c45
             have H1:((bW.f k2).bind fun t694=>(some t694))=some r:=by rw [if_neg (show ¬ (false=true) by decide)] at H;exact H
             clear H
             have H:=H1
             clear H1
             replace H:=Option.bind_eq_some_iff.mp H
             obtain ⟨t694,A600,H⟩:=H
             replace H:(some t694)=some r:=H
             have A60:=aa.mk A600
             clear A600
             obtain rfl:=Option.some.inj H
             have p685:0≤(x17_2:Int):=of_decide_eq_true (by first|(with_reducible assumption)|assumption)
             have q685:x17_2 < (y673.length:Int):=of_decide_eq_true (by first|(with_reducible assumption)|assumption)
             obtain ⟨ad685,A685_3,c685_3,A685_4,c685_4,e685,hx685_0,hx685_1,hx685_2,hx685_3,hx685_4,hl685_3,hi685_3,hl685_4,hi685_4⟩:=jo (Kd.bO HO_12.out).2.2 x17_2 p685 q685
             obtain rfl:ad676=ad685:=(by injection e685)
             obtain ⟨ce685,hce685,hMe685,hcc685⟩:=Kd.nW HO_12.out z25 x17_2 p685 (by first|exact q685|exact of_decide_eq_true (by first|(with_reducible assumption)|assumption)|(have e_:=(Kd.bO HO_12.out).1;omega))
             obtain ⟨ua685_3,uc685_3,ua685_4,uc685_4,rfl,ul685_3,ge685_3,ul685_4,ge685_4⟩:=iO hMe685
             have hv685_3:=hcc685 3 _ rfl
             rw [eD _ _ 3 (by omega)] at hv685_3
             replace hv685_3:=Option.some.inj (hv685_3.symm.trans hx685_3)
             injection hv685_3 with hva_ hvn_ hvc_
             rw [hva_] at ge685_3
             rw [hvc_] at ul685_3
             have HL685_3:=aa.mk (show Kd.V Kd.string 9 _ w.heap.size _ _ ((az y673 x17_2).f3) from Kd.mi ul685_3 ge685_3)
             clear hva_ hvn_ hvc_ ge685_3 ul685_3
             have hv685_4:=hcc685 4 _ rfl
             rw [eD _ _ 4 (by omega)] at hv685_4
             replace hv685_4:=Option.some.inj (hv685_4.symm.trans hx685_4)
             injection hv685_4 with hva_ hvn_ hvc_
             rw [hva_] at ge685_4
             rw [hvc_] at ul685_4
             have HL685_4:=aa.mk (show Kd.V k25 25 _ w.heap.size _ _ ((az y673 x17_2).f4) from Kd.mi ul685_4 ge685_4)
             clear hva_ hvn_ hvc_ ge685_4 ul685_4
             clear hcc685 hce685
             have HR685_3:=aa.mk hi685_3
             have HC685_3:=aa.mk hl685_3
             clear hi685_3 hl685_3
             have HR685_4:=aa.mk hi685_4
             have HC685_4:=aa.mk hl685_4
             clear hi685_4 hl685_4
             replace p685:=eq_true p685
             replace q685:=eq_true q685
             go_wp2_with (first|((with_reducible refine bS (N:=71) rfl ?_);(try (refine eU (by rfl) ?_;dsimp only));refine Kd.mD k25 _ 25 ?hg (N':=71) ?hd (xs:=([(⟨(az y673 x17_2).f0,(az y673 x17_2).f1,(az y673 x17_2).f2,(az y673 x17_2).f3,(az y673 x17_2).f4⟩:S25)]:List (S25))) (inner:=[.int .i64 ((az y673 x17_2).f0),.string ((az y673 x17_2).f1),.string ((az y673 x17_2).f2),.slice A685_3 ((az y673 x17_2).f3).length c685_3,.slice A685_4 ((az y673 x17_2).f4).length c685_4]) (ok:=(fun k_=>some k_≠(.slice (some ad676) y673.length co36:Value).ownBlock∧some k_≠(v680:Value).ownBlock∧some k_≠(v683:Value).ownBlock∧some k_≠(.slice Ao23 t642.length co23:Value).ownBlock∧k_≠gb645)) (okp:=(fun k_=>some k_≠(.slice (some ad676) y673.length co36:Value).ownBlock∧some k_≠(v680:Value).ownBlock∧some k_≠(v683:Value).ownBlock∧some k_≠(.slice Ao23 t642.length co23:Value).ownBlock∧k_≠gb645)) ?hr ?hp (fun _ hk=>hk) ((show ∀ k_,wr.heap.size≤k_→(fun k_=>some k_≠(.slice (some ad676) y673.length co36:Value).ownBlock∧some k_≠(v680:Value).ownBlock∧some k_≠(v683:Value).ownBlock∧some k_≠(.slice Ao23 t642.length co23:Value).ownBlock∧k_≠gb645) k_ from fun k_ hk=>⟨Kd.fresh' (Kd.gM (by (with_reducible repeat (first|apply Kd.aZ|apply Kd.aY|apply Kd.bn));exact HO_12.out)) k_ hk,Kd.fresh' (Kd.gM (by (with_reducible repeat (first|apply Kd.aZ|apply Kd.aY|apply Kd.bn));exact HO_13.out)) k_ hk,Kd.fresh' (Kd.iD (by (with_reducible repeat (first|apply Kd.bz|apply Kd.bq|apply Kd.bB));exact HO_14.out)) k_ hk,Kd.fresh' (Kd.gM (by (with_reducible repeat (first|apply Kd.aZ|apply Kd.aY|apply Kd.bn));exact HO_646001.out)) k_ hk,Kd.dC (g:=gb645) (o:=.cells #[.string t641,.slice Ao23 t642.length co23] 28 (0,0)) (by (with_reducible repeat (first|refine au ?_ _|refine av ?_|refine ak ?_ _));exact BK645.out) k_ hk⟩) _ (Nat.le_refl _)) (Below.refl _ _) (Nat.le_refl _) (by simp) ?_;(case hd=>rfl);(case hg=>rfl);(case hr=>first|(go_simp;done)|(go_simp;rfl));(case hp=>exact (bI.c5 (show Kd.FK k25 _ _ (⟨(az y673 x17_2).f0,(az y673 x17_2).f1,(az y673 x17_2).f2,(az y673 x17_2).f3,(az y673 x17_2).f4⟩:S25) [.int .i64 ((az y673 x17_2).f0),.string ((az y673 x17_2).f1),.string ((az y673 x17_2).f2),.slice A685_3 ((az y673 x17_2).f3).length c685_3,.slice A685_4 ((az y673 x17_2).f4).length c685_4] from (gX _ _ (⟨(az y673 x17_2).f0,(az y673 x17_2).f1,(az y673 x17_2).f2,(az y673 x17_2).f3,(az y673 x17_2).f4⟩:S25) (Kd.fo (Kd.dF (ok':=(fun k_=>some k_≠(.slice (some ad676) y673.length co36:Value).ownBlock∧some k_≠(v680:Value).ownBlock∧some k_≠(v683:Value).ownBlock∧some k_≠(.slice Ao23 t642.length co23:Value).ownBlock∧k_≠gb645)) (HL685_3.out) (fun k_ hk=>⟨hk.2,⟨hk.1.1,⟨hk.1.2.1,⟨hk.1.2.2.1,hk.1.2.2.2⟩⟩⟩⟩))).2.1 (Kd.V_F (Kd.dF (ok':=(fun k_=>some k_≠(.slice (some ad676) y673.length co36:Value).ownBlock∧some k_≠(v680:Value).ownBlock∧some k_≠(v683:Value).ownBlock∧some k_≠(.slice Ao23 t642.length co23:Value).ownBlock∧k_≠gb645)) (HL685_3.out) (fun k_ hk=>⟨hk.2,⟨hk.1.1,⟨hk.1.2.1,⟨hk.1.2.2.1,hk.1.2.2.2⟩⟩⟩⟩))) (Kd.fo (Kd.dF (ok':=(fun k_=>some k_≠(.slice (some ad676) y673.length co36:Value).ownBlock∧some k_≠(v680:Value).ownBlock∧some k_≠(v683:Value).ownBlock∧some k_≠(.slice Ao23 t642.length co23:Value).ownBlock∧k_≠gb645)) (HL685_4.out) (fun k_ hk=>⟨hk.2,⟨hk.1.1,⟨hk.1.2.1,⟨hk.1.2.2.1,hk.1.2.2.2⟩⟩⟩⟩))).2.1 (Kd.V_F (Kd.dF (ok':=(fun k_=>some k_≠(.slice (some ad676) y673.length co36:Value).ownBlock∧some k_≠(v680:Value).ownBlock∧some k_≠(v683:Value).ownBlock∧some k_≠(.slice Ao23 t642.length co23:Value).ownBlock∧k_≠gb645)) (HL685_4.out) (fun k_ hk=>⟨hk.2,⟨hk.1.1,⟨hk.1.2.1,⟨hk.1.2.2.1,hk.1.2.2.2⟩⟩⟩⟩))))) (bI.none _ _)));intro v687 w61 ho62 hb hg_ hnew_;clear hg_ hnew_;(first|rw [← Ny686.out] at ho62|(simp only [Int.reduceToNat] at ho62;rw [← Ny686.out] at ho62));have n0_:=aa.mk (Kd.cu (by (with_reducible repeat (first|apply Kd.aZ|apply Kd.aY|apply Kd.bn));exact HO_12.out) (Kd.dE ho62) hb);have n1_:=aa.mk (Kd.cu (by (with_reducible repeat (first|apply Kd.aZ|apply Kd.aY|apply Kd.bn));exact HO_13.out) (Kd.dE ho62) hb);have n2_:=aa.mk (Kd.bR (by (with_reducible repeat (first|apply Kd.bz|apply Kd.bq|apply Kd.bB));exact HO_14.out) hb);have n3_:=aa.mk (Kd.cu (by (with_reducible repeat (first|apply Kd.aZ|apply Kd.aY|apply Kd.bn));exact HO_646001.out) (Kd.dE ho62) hb);have n4_:=aa.mk (Kd.dw (by (with_reducible repeat (first|apply Kd.cB|apply Kd.cz|apply Kd.dm));exact HL685_3.out) (Kd.dE ho62) hb);have n5_:=aa.mk (Kd.dw (by (with_reducible repeat (first|apply Kd.cB|apply Kd.cz|apply Kd.dm));exact HL685_4.out) (Kd.dE ho62) hb);have n6_:=aa.mk (Kd.fw ho62 (aG (by repeat (first|(with_reducible first|exact HB.out|apply af|apply ae|apply ag|refine ah ?_ GE645.out)|exact HB.out))));have n7_:=aa.mk (aI (g:=gb645) (o:=.cells #[.string t641,.slice Ao23 t642.length co23] 28 (0,0)) (by (with_reducible repeat (first|refine au ?_ _|refine av ?_|refine ak ?_ _));exact BK645.out) hb);have n8_:=aa.mk (Kd.bf (by repeat (first|(with_reducible exact HR676_3.out)|(with_reducible refine Kd.aN ?_ _)|(with_reducible refine Kd.aQ ?_ _)|(with_reducible refine Kd.aW ?_)|exact HR676_3.out)) hb);have n9_:=aa.mk (Kd.bf (by repeat (first|(with_reducible exact HR676_4.out)|(with_reducible refine Kd.aN ?_ _)|(with_reducible refine Kd.aQ ?_ _)|(with_reducible refine Kd.aW ?_)|exact HR676_4.out)) hb);have n10_:=aa.mk (Kd.bf (by repeat (first|(with_reducible exact HR677_3.out)|(with_reducible refine Kd.aN ?_ _)|(with_reducible refine Kd.aQ ?_ _)|(with_reducible refine Kd.aW ?_)|exact HR677_3.out)) hb);have n11_:=aa.mk (Kd.bf (by repeat (first|(with_reducible exact HR677_4.out)|(with_reducible refine Kd.aN ?_ _)|(with_reducible refine Kd.aQ ?_ _)|(with_reducible refine Kd.aW ?_)|exact HR677_4.out)) hb);have n12_:=aa.mk (Kd.bf (by repeat (first|(with_reducible exact HR678_3.out)|(with_reducible refine Kd.aN ?_ _)|(with_reducible refine Kd.aQ ?_ _)|(with_reducible refine Kd.aW ?_)|exact HR678_3.out)) hb);have n13_:=aa.mk (Kd.bf (by repeat (first|(with_reducible exact HR678_4.out)|(with_reducible refine Kd.aN ?_ _)|(with_reducible refine Kd.aQ ?_ _)|(with_reducible refine Kd.aW ?_)|exact HR678_4.out)) hb);have n14_:=aa.mk (Kd.bf (by repeat (first|(with_reducible exact HR685_3.out)|(with_reducible refine Kd.aN ?_ _)|(with_reducible refine Kd.aQ ?_ _)|(with_reducible refine Kd.aW ?_)|exact HR685_3.out)) hb);have n15_:=aa.mk (Kd.bf (by repeat (first|(with_reducible exact HR685_4.out)|(with_reducible refine Kd.aN ?_ _)|(with_reducible refine Kd.aQ ?_ _)|(with_reducible refine Kd.aW ?_)|exact HR685_4.out)) hb);have n16_:=aa.mk (aD (by repeat (first|(with_reducible first|exact HB.out|apply af|apply ae|apply ag|refine ah ?_ GE645.out)|exact HB.out)) hb);clear HO_12;clear HO_13;clear HO_14;clear HO_646001;clear HL685_3;clear HL685_4;clear BK645;clear HR676_3;clear HR676_4;clear HR677_3;clear HR677_4;clear HR678_3;clear HR678_4;clear HR685_3;clear HR685_4;clear HB;have HO_12:=n0_;have HO_13:=n1_;have HO_14:=n2_;have HO_646001:=n3_;have HL685_3:=n4_;have HL685_4:=n5_;have HO688:=n6_;have BK645:=n7_;have HR676_3:=n8_;have HR676_4:=n9_;have HR677_3:=n10_;have HR677_4:=n11_;have HR678_3:=n12_;have HR678_4:=n13_;have HR685_3:=n14_;have HR685_4:=n15_;have HB:=n16_;clear n0_ n1_ n2_ n3_ n4_ n5_ n6_ n7_ n8_ n9_ n10_ n11_ n12_ n13_ n14_ n15_ n16_;clear hb ho62;obtain ⟨Ao63,co63,eo63⟩:=Kd.dR HO688.out;subst eo63)|((with_reducible refine aV (f:=19) rfl ?_);refine bJ (some 73) rfl rfl Tryz.func19 (by kernel_rfl) rfl #[.agg #[.int .i64 1,.string (⟨#[]⟩:ByteArray),.string (⟨#[]⟩:ByteArray),.slice none 0 0,.slice Ao63 y686.length co63]] rfl (by (try simp only [List.map_toArray,List.map_cons,List.map_nil]);first|done|rfl|(simp only [List.length_drop,List.length_take];rfl)) ?_;(refine (dG.calls k2 1 (⟨#[]⟩:ByteArray) (⟨#[]⟩:ByteArray) _ _ ([]:List ByteArray) _ _ y686 false _ ?side1 ?side2 ?side3 ?side4 A44.out).mono ?_);(case side1=>exact Kd.iJ _ _);(case side2=>exact Nat.le_refl _);(case side3=>repeat (first|exact (Kd.bO HO688.out).2.2|(with_reducible refine Kd.aN ?_ _)|(with_reducible refine Kd.aQ ?_ _)|(with_reducible refine Kd.aW ?_)));(case side4=>exact (Kd.bO HO688.out).2.1);rintro e w64 ⟨rfl,hb⟩;refine ⟨_,rfl,?_⟩;have n0_:=aa.mk (Kd.df (by (with_reducible repeat (first|apply Kd.aZ|apply Kd.aY|apply Kd.bn));exact HO_12.out) hb);have n1_:=aa.mk (Kd.df (by (with_reducible repeat (first|apply Kd.aZ|apply Kd.aY|apply Kd.bn));exact HO_13.out) hb);have n2_:=aa.mk (Kd.bR (by (with_reducible repeat (first|apply Kd.bz|apply Kd.bq|apply Kd.bB));exact HO_14.out) hb);have n3_:=aa.mk (Kd.df (by (with_reducible repeat (first|apply Kd.aZ|apply Kd.aY|apply Kd.bn));exact HO_646001.out) hb);have n4_:=aa.mk (Kd.iB (by (with_reducible repeat (first|apply Kd.cB|apply Kd.cz|apply Kd.dm));exact HL685_3.out) hb);have n5_:=aa.mk (Kd.iB (by (with_reducible repeat (first|apply Kd.cB|apply Kd.cz|apply Kd.dm));exact HL685_4.out) hb);have n6_:=aa.mk (Kd.df (by (with_reducible repeat (first|apply Kd.aZ|apply Kd.aY|apply Kd.bn));exact HO688.out) hb);have n7_:=aa.mk (aI (g:=gb645) (o:=.cells #[.string t641,.slice Ao23 t642.length co23] 28 (0,0)) (by (with_reducible repeat (first|refine au ?_ _|refine av ?_|refine ak ?_ _));exact BK645.out) hb);have n8_:=aa.mk (Kd.bf (by repeat (first|(with_reducible exact HR676_3.out)|(with_reducible refine Kd.aN ?_ _)|(with_reducible refine Kd.aQ ?_ _)|(with_reducible refine Kd.aW ?_)|exact HR676_3.out)) hb);have n9_:=aa.mk (Kd.bf (by repeat (first|(with_reducible exact HR676_4.out)|(with_reducible refine Kd.aN ?_ _)|(with_reducible refine Kd.aQ ?_ _)|(with_reducible refine Kd.aW ?_)|exact HR676_4.out)) hb);have n10_:=aa.mk (Kd.bf (by repeat (first|(with_reducible exact HR677_3.out)|(with_reducible refine Kd.aN ?_ _)|(with_reducible refine Kd.aQ ?_ _)|(with_reducible refine Kd.aW ?_)|exact HR677_3.out)) hb);have n11_:=aa.mk (Kd.bf (by repeat (first|(with_reducible exact HR677_4.out)|(with_reducible refine Kd.aN ?_ _)|(with_reducible refine Kd.aQ ?_ _)|(with_reducible refine Kd.aW ?_)|exact HR677_4.out)) hb);have n12_:=aa.mk (Kd.bf (by repeat (first|(with_reducible exact HR678_3.out)|(with_reducible refine Kd.aN ?_ _)|(with_reducible refine Kd.aQ ?_ _)|(with_reducible refine Kd.aW ?_)|exact HR678_3.out)) hb);have n13_:=aa.mk (Kd.bf (by repeat (first|(with_reducible exact HR678_4.out)|(with_reducible refine Kd.aN ?_ _)|(with_reducible refine Kd.aQ ?_ _)|(with_reducible refine Kd.aW ?_)|exact HR678_4.out)) hb);have n14_:=aa.mk (Kd.bf (by repeat (first|(with_reducible exact HR685_3.out)|(with_reducible refine Kd.aN ?_ _)|(with_reducible refine Kd.aQ ?_ _)|(with_reducible refine Kd.aW ?_)|exact HR685_3.out)) hb);have n15_:=aa.mk (Kd.bf (by repeat (first|(with_reducible exact HR685_4.out)|(with_reducible refine Kd.aN ?_ _)|(with_reducible refine Kd.aQ ?_ _)|(with_reducible refine Kd.aW ?_)|exact HR685_4.out)) hb);have n16_:=aa.mk (aD (by repeat (first|(with_reducible first|exact HB.out|apply af|apply ae|apply ag|refine ah ?_ GE645.out)|exact HB.out)) hb);clear HO_12;clear HO_13;clear HO_14;clear HO_646001;clear HL685_3;clear HL685_4;clear HO688;clear BK645;clear HR676_3;clear HR676_4;clear HR677_3;clear HR677_4;clear HR678_3;clear HR678_4;clear HR685_3;clear HR685_4;clear HB;have HO_12:=n0_;have HO_13:=n1_;have HO_14:=n2_;have HO_646001:=n3_;have HL685_3:=n4_;have HL685_4:=n5_;have HO688:=n6_;have BK645:=n7_;have HR676_3:=n8_;have HR676_4:=n9_;have HR677_3:=n10_;have HR677_4:=n11_;have HR678_3:=n12_;have HR678_4:=n13_;have HR685_3:=n14_;have HR685_4:=n15_;have HB:=n16_;clear n0_ n1_ n2_ n3_ n4_ n5_ n6_ n7_ n8_ n9_ n10_ n11_ n12_ n13_ n14_ n15_ n16_;(try clear hb);(try clear hb2);(try clear hk);(try clear hi))|((with_reducible refine aV (f:=15) rfl ?_);refine bJ (some 75) rfl rfl Tryz.func15 (by kernel_rfl) rfl #[] rfl (by (try simp only [List.map_toArray,List.map_cons,List.map_nil]);first|done|rfl|(simp only [List.length_drop,List.length_take];rfl)) ?_;(with_reducible refine (bW.calls k2  t694 _ ?side1 A60.out).mono ?_);(case side1=>first|exact HG.out|exact Gl.drewN HG.out _|exact Gl.below HG.out (by repeat (first|(with_reducible first|exact HB.out|apply af|apply ae|apply ag|refine ah ?_ GE645.out)|exact HB.out)));rintro e w65 ⟨rfl,hb⟩;refine ⟨_,rfl,?_⟩;have n0_:=aa.mk (Kd.df (by (with_reducible repeat (first|apply Kd.aZ|apply Kd.aY|apply Kd.bn));exact HO_12.out) hb);have n1_:=aa.mk (Kd.df (by (with_reducible repeat (first|apply Kd.aZ|apply Kd.aY|apply Kd.bn));exact HO_13.out) hb);have n2_:=aa.mk (Kd.bR (by (with_reducible repeat (first|apply Kd.bz|apply Kd.bq|apply Kd.bB));exact HO_14.out) hb);have n3_:=aa.mk (Kd.df (by (with_reducible repeat (first|apply Kd.aZ|apply Kd.aY|apply Kd.bn));exact HO_646001.out) hb);have n4_:=aa.mk (Kd.iB (by (with_reducible repeat (first|apply Kd.cB|apply Kd.cz|apply Kd.dm));exact HL685_3.out) hb);have n5_:=aa.mk (Kd.iB (by (with_reducible repeat (first|apply Kd.cB|apply Kd.cz|apply Kd.dm));exact HL685_4.out) hb);have n6_:=aa.mk (Kd.df (by (with_reducible repeat (first|apply Kd.aZ|apply Kd.aY|apply Kd.bn));exact HO688.out) hb);have n7_:=aa.mk (aI (g:=gb645) (o:=.cells #[.string t641,.slice Ao23 t642.length co23] 28 (0,0)) (by (with_reducible repeat (first|refine au ?_ _|refine av ?_|refine ak ?_ _));exact BK645.out) hb);have n8_:=aa.mk (Kd.bf (by repeat (first|(with_reducible exact HR676_3.out)|(with_reducible refine Kd.aN ?_ _)|(with_reducible refine Kd.aQ ?_ _)|(with_reducible refine Kd.aW ?_)|exact HR676_3.out)) hb);have n9_:=aa.mk (Kd.bf (by repeat (first|(with_reducible exact HR676_4.out)|(with_reducible refine Kd.aN ?_ _)|(with_reducible refine Kd.aQ ?_ _)|(with_reducible refine Kd.aW ?_)|exact HR676_4.out)) hb);have n10_:=aa.mk (Kd.bf (by repeat (first|(with_reducible exact HR677_3.out)|(with_reducible refine Kd.aN ?_ _)|(with_reducible refine Kd.aQ ?_ _)|(with_reducible refine Kd.aW ?_)|exact HR677_3.out)) hb);have n11_:=aa.mk (Kd.bf (by repeat (first|(with_reducible exact HR677_4.out)|(with_reducible refine Kd.aN ?_ _)|(with_reducible refine Kd.aQ ?_ _)|(with_reducible refine Kd.aW ?_)|exact HR677_4.out)) hb);have n12_:=aa.mk (Kd.bf (by repeat (first|(with_reducible exact HR678_3.out)|(with_reducible refine Kd.aN ?_ _)|(with_reducible refine Kd.aQ ?_ _)|(with_reducible refine Kd.aW ?_)|exact HR678_3.out)) hb);have n13_:=aa.mk (Kd.bf (by repeat (first|(with_reducible exact HR678_4.out)|(with_reducible refine Kd.aN ?_ _)|(with_reducible refine Kd.aQ ?_ _)|(with_reducible refine Kd.aW ?_)|exact HR678_4.out)) hb);have n14_:=aa.mk (Kd.bf (by repeat (first|(with_reducible exact HR685_3.out)|(with_reducible refine Kd.aN ?_ _)|(with_reducible refine Kd.aQ ?_ _)|(with_reducible refine Kd.aW ?_)|exact HR685_3.out)) hb);have n15_:=aa.mk (Kd.bf (by repeat (first|(with_reducible exact HR685_4.out)|(with_reducible refine Kd.aN ?_ _)|(with_reducible refine Kd.aQ ?_ _)|(with_reducible refine Kd.aW ?_)|exact HR685_4.out)) hb);have n16_:=aa.mk (aD (by repeat (first|(with_reducible first|exact HB.out|apply af|apply ae|apply ag|refine ah ?_ GE645.out)|exact HB.out)) hb);clear HO_12;clear HO_13;clear HO_14;clear HO_646001;clear HL685_3;clear HL685_4;clear HO688;clear BK645;clear HR676_3;clear HR676_4;clear HR677_3;clear HR677_4;clear HR678_3;clear HR678_4;clear HR685_3;clear HR685_4;clear HB;have HO_12:=n0_;have HO_13:=n1_;have HO_14:=n2_;have HO_646001:=n3_;have HL685_3:=n4_;have HL685_4:=n5_;have HO688:=n6_;have BK645:=n7_;have HR676_3:=n8_;have HR676_4:=n9_;have HR677_3:=n10_;have HR677_4:=n11_;have HR678_3:=n12_;have HR678_4:=n13_;have HR685_3:=n14_;have HR685_4:=n15_;have HB:=n16_;clear n0_ n1_ n2_ n3_ n4_ n5_ n6_ n7_ n8_ n9_ n10_ n11_ n12_ n13_ n14_ n15_ n16_;(try clear hb);(try clear hb2);(try clear hk);(try clear hi)))
             go_ret
             exact ⟨by first|rfl|(simp [aM,aK] <;> rfl)|(simp [*,aM,aK] <;> rfl),by repeat (first|(with_reducible first|exact HB.out|apply af|apply ae|apply ag|refine ah ?_ GE645.out)|exact HB.out)⟩
           ·rw [if_neg c43] at H
            exact absurd H (by simp)
          ·rw [if_neg c42] at H
           exact absurd H (by simp)
         ·rw [if_neg c41] at H
          have c41b0:decide (x17_2 < 3)=false:=decide_eq_false c41
          clear c41
          replace H:=Option.bind_eq_some_iff.mp H
          obtain ⟨t695,A660,H⟩:=H
          replace H:((bT.f k2 2 (⟨#[]⟩:ByteArray) (⟨#[]⟩:ByteArray) ([]:List ByteArray) y673 t641 t642).bind fun t696=>(if t695 < 0 then (aC.j2 k2 y679 y682 x15_2 x16_2 t695 t696 true t641 t642) else (if t695 > 2 then (aC.j2 k2 y679 y682 x15_2 x16_2 t695 t696 true t641 t642) else (if t696 < 0 then (aC.j2 k2 y679 y682 x15_2 x16_2 t695 t696 true t641 t642) else (aC.j2 k2 y679 y682 x15_2 x16_2 t695 t696 (decide (t696 > 2)) t641 t642)))))=some r:=H
          have A66:=aa.mk A660
          clear A660
          replace H:=Option.bind_eq_some_iff.mp H
          obtain ⟨t696,A670,H⟩:=H
          replace H:(if t695 < 0 then (aC.j2 k2 y679 y682 x15_2 x16_2 t695 t696 true t641 t642) else (if t695 > 2 then (aC.j2 k2 y679 y682 x15_2 x16_2 t695 t696 true t641 t642) else (if t696 < 0 then (aC.j2 k2 y679 y682 x15_2 x16_2 t695 t696 true t641 t642) else (aC.j2 k2 y679 y682 x15_2 x16_2 t695 t696 (decide (t696 > 2)) t641 t642))))=some r:=H
          have A67:=aa.mk A670
          clear A670
          have HC68:=aa.mk H
          clear H
          try go_wp2
          have n0_:=aa.mk (Kd.bn HO_12.out)
          have n1_:=aa.mk (Kd.bn HO_13.out)
          have n2_:=aa.mk (Kd.bB HO_14.out)
          have n3_:=aa.mk (Kd.bn HO_646001.out)
          have n4_:=aa.mk (av BK645.out)
          have n5_:=aa.mk (Kd.aW HR676_3.out)
          have n6_:=aa.mk (Kd.aW HR676_4.out)
          have n7_:=aa.mk (Kd.aW HR677_3.out)
          have n8_:=aa.mk (Kd.aW HR677_4.out)
          have n9_:=aa.mk (Kd.aW HR678_3.out)
          have n10_:=aa.mk (Kd.aW HR678_4.out)
          have n11_:=aa.mk (ag HB.out)
          clear HO_12
          clear HO_13
          clear HO_14
          clear HO_646001
          clear BK645
          clear HR676_3
          clear HR676_4
          clear HR677_3
          clear HR677_4
          clear HR678_3
          clear HR678_4
          clear HB
          have HO_12:=n0_
          have HO_13:=n1_
          have HO_14:=n2_
          have HO_646001:=n3_
          have BK645:=n4_
          have HR676_3:=n5_
          have HR676_4:=n6_
          have HR677_3:=n7_
          have HR677_4:=n8_
          have HR678_3:=n9_
          have HR678_4:=n10_
          have HB:=n11_
          clear n0_ n1_ n2_ n3_ n4_ n5_ n6_ n7_ n8_ n9_ n10_ n11_
          refine jS (n:=10) (S:=fun w'=>w'.cell? ⟨gb645,0,none⟩=some (.string t641)∧w'.cell? ⟨gb645,1,none⟩=some (.slice Ao23 t642.length co23)) (ds:=[]) #[false,false,false,false,false,false,false,false,false,false] (by kernel_rfl) rfl rfl ⟨(aj BK645.out 0).trans rfl,(aj BK645.out 1).trans rfl⟩ (fun hHeld=>?_);refine iy aC.tab18 aC.bits18 (fun HT_ HW_=>?_)
          generalize wr.drew=w69 at HO_12 HO_13 HO_14 HO_646001 BK645 HR676_3 HR676_4 HR677_3 HR677_4 HR678_3 HR678_4 HB hHeld ⊢
          refine di (i:=0) (N:=some 100) (v:=?_) (a':=?_) #[true,false,false,false,false,false,false,false,false,false] rfl rfl (bV HT_.out (by kernel_rfl)) (fun _ _ _ h=>h) (Or.inl ⟨by rfl,?_⟩) ?_ ?_
          rotate_left
          ·intro w'
           go_simp
           with_reducible rfl
          rotate_left
          ·simp only [Act.put,List.setIfInBounds_toArray,List.set_cons_zero,List.set_cons_succ,aT,aU]
           rfl
          refine di (i:=1) (N:=some 101) (v:=?_) (a':=?_) #[true,true,false,false,false,false,false,false,false,false] rfl rfl (bV HT_.out (by kernel_rfl)) (fun _ _ _ h=>h) (Or.inl ⟨by rfl,?_⟩) ?_ ?_
          rotate_left
          ·intro w'
           go_simp
           with_reducible rfl
          rotate_left
          ·simp only [Act.put,List.setIfInBounds_toArray,List.set_cons_zero,List.set_cons_succ,aT,aU]
           rfl
          refine di (i:=4) (N:=some 104) (v:=?_) (a':=?_) #[true,true,false,false,true,false,false,false,false,false] rfl rfl (bV HT_.out (by kernel_rfl)) (fun _ _ _ h=>h) (Or.inl ⟨by rfl,?_⟩) ?_ ?_
          rotate_left
          ·intro w'
           go_simp
           with_reducible rfl
          rotate_left
          ·simp only [Act.put,List.setIfInBounds_toArray,List.set_cons_zero,List.set_cons_succ,aT,aU]
           rfl
          refine di (i:=5) (N:=some 105) (v:=?_) (a':=?_) #[true,true,false,false,true,true,false,false,false,false] rfl rfl (bV HT_.out (by kernel_rfl)) (fun _ _ _ h=>h) (Or.inl ⟨by rfl,?_⟩) ?_ ?_
          rotate_left
          ·intro w'
           go_simp
           with_reducible rfl
          rotate_left
          ·simp only [Act.put,List.setIfInBounds_toArray,List.set_cons_zero,List.set_cons_succ,aT,aU]
           rfl
          refine take_ (i:=2) (N:=some 102) (v:=?_) (a':=?_) #[true,true,true,false,true,true,false,false,false,false] rfl rfl (fq HT_.out HW_.out (by kernel_rfl)) (fun _ _ _ h=>h) (Or.inl ⟨by rfl,?_⟩) hHeld ?_ ?_
          rotate_left
          ·rintro w' ⟨s0,s1⟩
           go_simp
           with_reducible rfl
          rotate_left
          ·simp only [Act.put,List.setIfInBounds_toArray,List.set_cons_zero,List.set_cons_succ,aT,aU]
           rfl
          refine take_ (i:=6) (N:=some 106) (v:=?_) (a':=?_) #[true,true,true,false,true,true,true,false,false,false] rfl rfl (fq HT_.out HW_.out (by kernel_rfl)) (fun _ _ _ h=>h) (Or.inl ⟨by rfl,?_⟩) hHeld ?_ ?_
          rotate_left
          ·rintro w' ⟨s0,s1⟩
           go_simp
           with_reducible rfl
          rotate_left
          ·simp only [Act.put,List.setIfInBounds_toArray,List.set_cons_zero,List.set_cons_succ,aT,aU]
           rfl
          refine ji (i:=3) (N:=some 103) #[true,true,true,true,true,true,true,false,false,false] rfl rfl (eO HT_.out (by kernel_rfl)) (by decide) (fun K hK=>?_)
          refine lN Tryz.func13 (by kernel_rfl) rfl #[.agg #[.int .i64 1,.string (⟨#[]⟩:ByteArray),.string (⟨#[]⟩:ByteArray),.slice none 0 0,.slice (some ad676) y673.length co36],.agg #[.string t641,.slice Ao23 t642.length co23]] (by rfl) rfl rfl (by (try simp only [List.map_toArray,List.map_cons,List.map_nil]);first|done|rfl|(simp only [List.length_drop,List.length_take];rfl)) ?_
          refine (bT.calls k2 1 (⟨#[]⟩:ByteArray) (⟨#[]⟩:ByteArray) _ _ ([]:List ByteArray) _ _ y673 t641 _ _ t642 t695 _ ?side1 ?side2 ?side3 ?side4 ?side5 ?side6 ?side7 A66.out).mono ?_
          (case side1=>exact Kd.iJ _ _)
          (case side2=>exact Nat.le_refl _)
          (case side3=>repeat (first|exact (Kd.bO HO_12.out).2.2|(with_reducible refine Kd.aN ?_ _)|(with_reducible refine Kd.aQ ?_ _)|(with_reducible refine Kd.aW ?_)))
          (case side4=>exact (Kd.bO HO_12.out).2.1)
          (case side5=>repeat (first|exact (Kd.bO HO_646001.out).2.2|(with_reducible refine Kd.aN ?_ _)|(with_reducible refine Kd.aQ ?_ _)|(with_reducible refine Kd.aW ?_)))
          (case side6=>exact (Kd.bO HO_646001.out).2.1)
          (case side7=>first|exact HG.out|exact Gl.drewN HG.out _|exact Gl.below HG.out (by repeat (first|(with_reducible first|exact HB.out|apply af|apply ae|apply ag|refine ah ?_ GE645.out)|exact HB.out)))
          rintro e w70 ⟨rfl,hb⟩
          refine ⟨_,rfl,?_⟩
          have n0_:=aa.mk (Kd.df (by (with_reducible repeat (first|apply Kd.aZ|apply Kd.aY|apply Kd.bn));exact HO_12.out) hb)
          have n1_:=aa.mk (Kd.df (by (with_reducible repeat (first|apply Kd.aZ|apply Kd.aY|apply Kd.bn));exact HO_13.out) hb)
          have n2_:=aa.mk (Kd.bR (by (with_reducible repeat (first|apply Kd.bz|apply Kd.bq|apply Kd.bB));exact HO_14.out) hb)
          have n3_:=aa.mk (Kd.df (by (with_reducible repeat (first|apply Kd.aZ|apply Kd.aY|apply Kd.bn));exact HO_646001.out) hb)
          have n4_:=aa.mk (aI (g:=gb645) (o:=.cells #[.string t641,.slice Ao23 t642.length co23] 28 (0,0)) (by (with_reducible repeat (first|refine au ?_ _|refine av ?_|refine ak ?_ _));exact BK645.out) hb)
          have n5_:=aa.mk (Kd.bf (by repeat (first|(with_reducible exact HR676_3.out)|(with_reducible refine Kd.aN ?_ _)|(with_reducible refine Kd.aQ ?_ _)|(with_reducible refine Kd.aW ?_)|exact HR676_3.out)) hb)
          have n6_:=aa.mk (Kd.bf (by repeat (first|(with_reducible exact HR676_4.out)|(with_reducible refine Kd.aN ?_ _)|(with_reducible refine Kd.aQ ?_ _)|(with_reducible refine Kd.aW ?_)|exact HR676_4.out)) hb)
          have n7_:=aa.mk (Kd.bf (by repeat (first|(with_reducible exact HR677_3.out)|(with_reducible refine Kd.aN ?_ _)|(with_reducible refine Kd.aQ ?_ _)|(with_reducible refine Kd.aW ?_)|exact HR677_3.out)) hb)
          have n8_:=aa.mk (Kd.bf (by repeat (first|(with_reducible exact HR677_4.out)|(with_reducible refine Kd.aN ?_ _)|(with_reducible refine Kd.aQ ?_ _)|(with_reducible refine Kd.aW ?_)|exact HR677_4.out)) hb)
          have n9_:=aa.mk (Kd.bf (by repeat (first|(with_reducible exact HR678_3.out)|(with_reducible refine Kd.aN ?_ _)|(with_reducible refine Kd.aQ ?_ _)|(with_reducible refine Kd.aW ?_)|exact HR678_3.out)) hb)
          have n10_:=aa.mk (Kd.bf (by repeat (first|(with_reducible exact HR678_4.out)|(with_reducible refine Kd.aN ?_ _)|(with_reducible refine Kd.aQ ?_ _)|(with_reducible refine Kd.aW ?_)|exact HR678_4.out)) hb)
          have n11_:=aa.mk (aD (by repeat (first|(with_reducible first|exact HB.out|apply af|apply ae|apply ag|refine ah ?_ GE645.out)|exact HB.out)) hb)
          clear HO_12
          clear HO_13
          clear HO_14
          clear HO_646001
          clear BK645
          clear HR676_3
          clear HR676_4
          clear HR677_3
          clear HR677_4
          clear HR678_3
          clear HR678_4
          clear HB
          have HO_12:=n0_
          have HO_13:=n1_
          have HO_14:=n2_
          have HO_646001:=n3_
          have BK645:=n4_
          have HR676_3:=n5_
          have HR676_4:=n6_
          have HR677_3:=n7_
          have HR677_4:=n8_
          have HR678_3:=n9_
          have HR678_4:=n10_
          have HB:=n11_
          clear n0_ n1_ n2_ n3_ n4_ n5_ n6_ n7_ n8_ n9_ n10_ n11_
          (try clear hb)
          (try clear hb2)
          (try clear hk)
          (try clear hi)
          refine hK.out _ _ ⟨(aj BK645.out 0).trans rfl,(aj BK645.out 1).trans rfl⟩ (fun hHeld=>?_)
          clear hK K
          refine fB (a':=?_) ?_ ?_
          rotate_left
          ·show Act.put _ (some 103) _=_
           simp only [Act.put,List.setIfInBounds_toArray,List.set_cons_zero,List.set_cons_succ,aT,aU]
           rfl
          refine ji (i:=7) (N:=some 107) #[true,true,true,true,true,true,true,true,false,false] rfl rfl (eO HT_.out (by kernel_rfl)) (by decide) (fun K hK=>?_)
          refine lN Tryz.func13 (by kernel_rfl) rfl #[.agg #[.int .i64 2,.string (⟨#[]⟩:ByteArray),.string (⟨#[]⟩:ByteArray),.slice none 0 0,.slice (some ad676) y673.length co36],.agg #[.string t641,.slice Ao23 t642.length co23]] (by rfl) rfl rfl (by (try simp only [List.map_toArray,List.map_cons,List.map_nil]);first|done|rfl|(simp only [List.length_drop,List.length_take];rfl)) ?_
          refine (bT.calls k2 2 (⟨#[]⟩:ByteArray) (⟨#[]⟩:ByteArray) _ _ ([]:List ByteArray) _ _ y673 t641 _ _ t642 t696 _ ?side1 ?side2 ?side3 ?side4 ?side5 ?side6 ?side7 A67.out).mono ?_
          (case side1=>exact Kd.iJ _ _)
          (case side2=>exact Nat.le_refl _)
          (case side3=>repeat (first|exact (Kd.bO HO_12.out).2.2|(with_reducible refine Kd.aN ?_ _)|(with_reducible refine Kd.aQ ?_ _)|(with_reducible refine Kd.aW ?_)))
          (case side4=>exact (Kd.bO HO_12.out).2.1)
          (case side5=>repeat (first|exact (Kd.bO HO_646001.out).2.2|(with_reducible refine Kd.aN ?_ _)|(with_reducible refine Kd.aQ ?_ _)|(with_reducible refine Kd.aW ?_)))
          (case side6=>exact (Kd.bO HO_646001.out).2.1)
          (case side7=>first|exact HG.out|exact Gl.drewN HG.out _|exact Gl.below HG.out (by repeat (first|(with_reducible first|exact HB.out|apply af|apply ae|apply ag|refine ah ?_ GE645.out)|exact HB.out)))
          rintro e w71 ⟨rfl,hb⟩
          refine ⟨_,rfl,?_⟩
          have n0_:=aa.mk (Kd.df (by (with_reducible repeat (first|apply Kd.aZ|apply Kd.aY|apply Kd.bn));exact HO_12.out) hb)
          have n1_:=aa.mk (Kd.df (by (with_reducible repeat (first|apply Kd.aZ|apply Kd.aY|apply Kd.bn));exact HO_13.out) hb)
          have n2_:=aa.mk (Kd.bR (by (with_reducible repeat (first|apply Kd.bz|apply Kd.bq|apply Kd.bB));exact HO_14.out) hb)
          have n3_:=aa.mk (Kd.df (by (with_reducible repeat (first|apply Kd.aZ|apply Kd.aY|apply Kd.bn));exact HO_646001.out) hb)
          have n4_:=aa.mk (aI (g:=gb645) (o:=.cells #[.string t641,.slice Ao23 t642.length co23] 28 (0,0)) (by (with_reducible repeat (first|refine au ?_ _|refine av ?_|refine ak ?_ _));exact BK645.out) hb)
          have n5_:=aa.mk (Kd.bf (by repeat (first|(with_reducible exact HR676_3.out)|(with_reducible refine Kd.aN ?_ _)|(with_reducible refine Kd.aQ ?_ _)|(with_reducible refine Kd.aW ?_)|exact HR676_3.out)) hb)
          have n6_:=aa.mk (Kd.bf (by repeat (first|(with_reducible exact HR676_4.out)|(with_reducible refine Kd.aN ?_ _)|(with_reducible refine Kd.aQ ?_ _)|(with_reducible refine Kd.aW ?_)|exact HR676_4.out)) hb)
          have n7_:=aa.mk (Kd.bf (by repeat (first|(with_reducible exact HR677_3.out)|(with_reducible refine Kd.aN ?_ _)|(with_reducible refine Kd.aQ ?_ _)|(with_reducible refine Kd.aW ?_)|exact HR677_3.out)) hb)
          have n8_:=aa.mk (Kd.bf (by repeat (first|(with_reducible exact HR677_4.out)|(with_reducible refine Kd.aN ?_ _)|(with_reducible refine Kd.aQ ?_ _)|(with_reducible refine Kd.aW ?_)|exact HR677_4.out)) hb)
          have n9_:=aa.mk (Kd.bf (by repeat (first|(with_reducible exact HR678_3.out)|(with_reducible refine Kd.aN ?_ _)|(with_reducible refine Kd.aQ ?_ _)|(with_reducible refine Kd.aW ?_)|exact HR678_3.out)) hb)
          have n10_:=aa.mk (Kd.bf (by repeat (first|(with_reducible exact HR678_4.out)|(with_reducible refine Kd.aN ?_ _)|(with_reducible refine Kd.aQ ?_ _)|(with_reducible refine Kd.aW ?_)|exact HR678_4.out)) hb)
          have n11_:=aa.mk (aD (by repeat (first|(with_reducible first|exact HB.out|apply af|apply ae|apply ag|refine ah ?_ GE645.out)|exact HB.out)) hb)
          clear HO_12
          clear HO_13
          clear HO_14
          clear HO_646001
          clear BK645
          clear HR676_3
          clear HR676_4
          clear HR677_3
          clear HR677_4
          clear HR678_3
          clear HR678_4
          clear HB
          have HO_12:=n0_
          have HO_13:=n1_
          have HO_14:=n2_
          have HO_646001:=n3_
          have BK645:=n4_
          have HR676_3:=n5_
          have HR676_4:=n6_
          have HR677_3:=n7_
          have HR677_4:=n8_
          have HR678_3:=n9_
          have HR678_4:=n10_
          have HB:=n11_
          clear n0_ n1_ n2_ n3_ n4_ n5_ n6_ n7_ n8_ n9_ n10_ n11_
          (try clear hb)
          (try clear hb2)
          (try clear hk)
          (try clear hi)
          refine hK.out _ _ ⟨(aj BK645.out 0).trans rfl,(aj BK645.out 1).trans rfl⟩ (fun hHeld=>?_)
          clear hK K
          refine fB (a':=?_) ?_ ?_
          rotate_left
          ·show Act.put _ (some 107) _=_
           simp only [Act.put,List.setIfInBounds_toArray,List.set_cons_zero,List.set_cons_succ,aT,aU]
           rfl
          refine di (i:=8) (N:=some 19) (v:=?_) (a':=?_) #[true,true,true,true,true,true,true,true,true,false] rfl rfl (bV HT_.out (by kernel_rfl)) (fun _ _ _ h=>h) (Or.inl ⟨by rfl,?_⟩) ?_ ?_
          rotate_left
          ·intro w'
           go_simp
           with_reducible rfl
          rotate_left
          ·simp only [Act.put,List.setIfInBounds_toArray,List.set_cons_zero,List.set_cons_succ,aT,aU]
           rfl
          refine di (i:=9) (N:=some 20) (v:=?_) (a':=?_) #[true,true,true,true,true,true,true,true,true,true] rfl rfl (bV HT_.out (by kernel_rfl)) (fun _ _ _ h=>h) (Or.inl ⟨by rfl,?_⟩) ?_ ?_
          rotate_left
          ·intro w'
           go_simp
           with_reducible rfl
          rotate_left
          ·simp only [Act.put,List.setIfInBounds_toArray,List.set_cons_zero,List.set_cons_succ,aT,aU]
           rfl
          refine mH (jH HT_.out (by kernel_rfl)) ?_
          go_upto_region 19 with (fail)
          go_cut [121] (fun v121 wc=>∃ (kq:Nat) (x121_67:Bool),v121=.bool x121_67∧aa (aC.j2 kq y679 y682 x15_2 x16_2 t695 t696 x121_67 t641 t642=some r)∧aa (kq≤k2)∧aa (Kd.N k25 25 wc w.heap.size (fun k_=>some k_≠(v683:Value).ownBlock∧some k_≠((.slice Ao23 t642.length co23):Value).ownBlock∧k_≠gb645) v680 y679)∧aa (Kd.R (Kd.int .i64) 3 wc w.heap.size (fun _=>True) v683 y682)∧aa (Kd.N k45 45 wc w.heap.size (fun k_=>some k_≠(v680:Value).ownBlock∧some k_≠(v683:Value).ownBlock∧k_≠gb645) (.slice Ao23 t642.length co23) t642)∧aa (wc.heap[gb645]?=some (.cells #[.string t641,(.slice Ao23 t642.length co23)] 28 (0,0)))∧aa (Kd.C Kd.string wc A676_3 ((az y673 2).f3).length ((az y673 2).f3))∧aa (Kd.C k25 wc A676_4 ((az y673 2).f4).length ((az y673 2).f4))∧aa (Kd.C Kd.string wc A677_3 ((az y673 0).f3).length ((az y673 0).f3))∧aa (Kd.C k25 wc A677_4 ((az y673 0).f4).length ((az y673 0).f4))∧aa (Kd.C Kd.string wc A678_3 ((az y673 1).f3).length ((az y673 1).f3))∧aa (Kd.C k25 wc A678_4 ((az y673 1).f4).length ((az y673 1).f4))∧aa (Below w.heap.size w wc))
          case first =>
           have H:=HC68.out
           clear HC68
           by_cases c72:t695 < 0
           ·rw [if_pos c72] at H
            have c72b0:decide (t695 < 0)=true:=decide_eq_true c72
            clear c72
            (first|rw [c72b0]|(simp only [aT,aU];rw [c72b0])|skip)
            have H':=aa.mk H
            clear H
            go_wp2
            go_meet
            case rel=>exact ⟨_,(true),(by first|rfl|(simp;done)|(simp [*];done)|(simp [*,aT,aU,bU];done)|(simp only [ay,ax];done)|(simp only [ay,ax];simp;done)|(simp only [ay,ax];simp [*];done)),H',⟨by have:=HJ5.out;have:=HK2.out;first|omega|exact Nat.le_refl _⟩,⟨by (with_reducible repeat (first|apply Kd.aZ|apply Kd.aY|apply Kd.bn));exact Kd.bH HO_13.out (fun _ hk=>⟨hk.2.1,⟨hk.2.2.1,hk.2.2.2⟩⟩)⟩,⟨by (with_reducible repeat (first|apply Kd.bz|apply Kd.bq|apply Kd.bB));exact HO_14.out⟩,⟨by (with_reducible repeat (first|apply Kd.aZ|apply Kd.aY|apply Kd.bn));exact Kd.bH HO_646001.out (fun _ hk=>⟨hk.2.1,⟨hk.2.2.1,hk.2.2.2⟩⟩)⟩,⟨by (with_reducible repeat (first|refine au ?_ _|refine av ?_|refine ak ?_ _));exact BK645.out⟩,⟨by repeat (first|(with_reducible exact HR676_3.out)|(with_reducible refine Kd.aN ?_ _)|(with_reducible refine Kd.aQ ?_ _)|(with_reducible refine Kd.aW ?_)|exact HR676_3.out)⟩,⟨by repeat (first|(with_reducible exact HR676_4.out)|(with_reducible refine Kd.aN ?_ _)|(with_reducible refine Kd.aQ ?_ _)|(with_reducible refine Kd.aW ?_)|exact HR676_4.out)⟩,⟨by repeat (first|(with_reducible exact HR677_3.out)|(with_reducible refine Kd.aN ?_ _)|(with_reducible refine Kd.aQ ?_ _)|(with_reducible refine Kd.aW ?_)|exact HR677_3.out)⟩,⟨by repeat (first|(with_reducible exact HR677_4.out)|(with_reducible refine Kd.aN ?_ _)|(with_reducible refine Kd.aQ ?_ _)|(with_reducible refine Kd.aW ?_)|exact HR677_4.out)⟩,⟨by repeat (first|(with_reducible exact HR678_3.out)|(with_reducible refine Kd.aN ?_ _)|(with_reducible refine Kd.aQ ?_ _)|(with_reducible refine Kd.aW ?_)|exact HR678_3.out)⟩,⟨by repeat (first|(with_reducible exact HR678_4.out)|(with_reducible refine Kd.aN ?_ _)|(with_reducible refine Kd.aQ ?_ _)|(with_reducible refine Kd.aW ?_)|exact HR678_4.out)⟩,⟨by repeat (first|(with_reducible first|exact HB.out|apply af|apply ae|apply ag|refine ah ?_ GE645.out)|exact HB.out)⟩⟩
           ·rw [if_neg c72] at H
            have c72b0:decide (t695 < 0)=false:=decide_eq_false c72
            clear c72
            (first|rw [c72b0]|(simp only [aT,aU];rw [c72b0])|skip)
            by_cases c73:t695 > 2
            ·rw [if_pos c73] at H
             have c73b0:decide (2 < t695)=true:=decide_eq_true c73
             clear c73
             have H':=aa.mk H
             clear H
             go_wp2
             go_meet
             case rel=>exact ⟨_,(true),(by first|rfl|(simp;done)|(simp [*];done)|(simp [*,aT,aU,bU];done)|(simp only [ay,ax];done)|(simp only [ay,ax];simp;done)|(simp only [ay,ax];simp [*];done)),H',⟨by have:=HJ5.out;have:=HK2.out;first|omega|exact Nat.le_refl _⟩,⟨by (with_reducible repeat (first|apply Kd.aZ|apply Kd.aY|apply Kd.bn));exact Kd.bH HO_13.out (fun _ hk=>⟨hk.2.1,⟨hk.2.2.1,hk.2.2.2⟩⟩)⟩,⟨by (with_reducible repeat (first|apply Kd.bz|apply Kd.bq|apply Kd.bB));exact HO_14.out⟩,⟨by (with_reducible repeat (first|apply Kd.aZ|apply Kd.aY|apply Kd.bn));exact Kd.bH HO_646001.out (fun _ hk=>⟨hk.2.1,⟨hk.2.2.1,hk.2.2.2⟩⟩)⟩,⟨by (with_reducible repeat (first|refine au ?_ _|refine av ?_|refine ak ?_ _));exact BK645.out⟩,⟨by repeat (first|(with_reducible exact HR676_3.out)|(with_reducible refine Kd.aN ?_ _)|(with_reducible refine Kd.aQ ?_ _)|(with_reducible refine Kd.aW ?_)|exact HR676_3.out)⟩,⟨by repeat (first|(with_reducible exact HR676_4.out)|(with_reducible refine Kd.aN ?_ _)|(with_reducible refine Kd.aQ ?_ _)|(with_reducible refine Kd.aW ?_)|exact HR676_4.out)⟩,⟨by repeat (first|(with_reducible exact HR677_3.out)|(with_reducible refine Kd.aN ?_ _)|(with_reducible refine Kd.aQ ?_ _)|(with_reducible refine Kd.aW ?_)|exact HR677_3.out)⟩,⟨by repeat (first|(with_reducible exact HR677_4.out)|(with_reducible refine Kd.aN ?_ _)|(with_reducible refine Kd.aQ ?_ _)|(with_reducible refine Kd.aW ?_)|exact HR677_4.out)⟩,⟨by repeat (first|(with_reducible exact HR678_3.out)|(with_reducible refine Kd.aN ?_ _)|(with_reducible refine Kd.aQ ?_ _)|(with_reducible refine Kd.aW ?_)|exact HR678_3.out)⟩,⟨by repeat (first|(with_reducible exact HR678_4.out)|(with_reducible refine Kd.aN ?_ _)|(with_reducible refine Kd.aQ ?_ _)|(with_reducible refine Kd.aW ?_)|exact HR678_4.out)⟩,⟨by repeat (first|(with_reducible first|exact HB.out|apply af|apply ae|apply ag|refine ah ?_ GE645.out)|exact HB.out)⟩⟩
            ·rw [if_neg c73] at H
             have c73b0:decide (2 < t695)=false:=decide_eq_false c73
             clear c73
             by_cases c74:t696 < 0
             ·rw [if_pos c74] at H
              have c74b0:decide (t696 < 0)=true:=decide_eq_true c74
              clear c74
              have H':=aa.mk H
              clear H
              go_wp2
              go_meet
              case rel=>exact ⟨_,(true),(by first|rfl|(simp;done)|(simp [*];done)|(simp [*,aT,aU,bU];done)|(simp only [ay,ax];done)|(simp only [ay,ax];simp;done)|(simp only [ay,ax];simp [*];done)),H',⟨by have:=HJ5.out;have:=HK2.out;first|omega|exact Nat.le_refl _⟩,⟨by (with_reducible repeat (first|apply Kd.aZ|apply Kd.aY|apply Kd.bn));exact Kd.bH HO_13.out (fun _ hk=>⟨hk.2.1,⟨hk.2.2.1,hk.2.2.2⟩⟩)⟩,⟨by (with_reducible repeat (first|apply Kd.bz|apply Kd.bq|apply Kd.bB));exact HO_14.out⟩,⟨by (with_reducible repeat (first|apply Kd.aZ|apply Kd.aY|apply Kd.bn));exact Kd.bH HO_646001.out (fun _ hk=>⟨hk.2.1,⟨hk.2.2.1,hk.2.2.2⟩⟩)⟩,⟨by (with_reducible repeat (first|refine au ?_ _|refine av ?_|refine ak ?_ _));exact BK645.out⟩,⟨by repeat (first|(with_reducible exact HR676_3.out)|(with_reducible refine Kd.aN ?_ _)|(with_reducible refine Kd.aQ ?_ _)|(with_reducible refine Kd.aW ?_)|exact HR676_3.out)⟩,⟨by repeat (first|(with_reducible exact HR676_4.out)|(with_reducible refine Kd.aN ?_ _)|(with_reducible refine Kd.aQ ?_ _)|(with_reducible refine Kd.aW ?_)|exact HR676_4.out)⟩,⟨by repeat (first|(with_reducible exact HR677_3.out)|(with_reducible refine Kd.aN ?_ _)|(with_reducible refine Kd.aQ ?_ _)|(with_reducible refine Kd.aW ?_)|exact HR677_3.out)⟩,⟨by repeat (first|(with_reducible exact HR677_4.out)|(with_reducible refine Kd.aN ?_ _)|(with_reducible refine Kd.aQ ?_ _)|(with_reducible refine Kd.aW ?_)|exact HR677_4.out)⟩,⟨by repeat (first|(with_reducible exact HR678_3.out)|(with_reducible refine Kd.aN ?_ _)|(with_reducible refine Kd.aQ ?_ _)|(with_reducible refine Kd.aW ?_)|exact HR678_3.out)⟩,⟨by repeat (first|(with_reducible exact HR678_4.out)|(with_reducible refine Kd.aN ?_ _)|(with_reducible refine Kd.aQ ?_ _)|(with_reducible refine Kd.aW ?_)|exact HR678_4.out)⟩,⟨by repeat (first|(with_reducible first|exact HB.out|apply af|apply ae|apply ag|refine ah ?_ GE645.out)|exact HB.out)⟩⟩
             ·rw [if_neg c74] at H
              have c74b0:decide (t696 < 0)=false:=decide_eq_false c74
              clear c74
              have H':=aa.mk H
              clear H
              go_wp2
              go_meet
              case rel=>exact ⟨_,(decide (t696 > 2)),(by first|rfl|(simp;done)|(simp [*];done)|(simp [*,aT,aU,bU];done)|(simp only [ay,ax];done)|(simp only [ay,ax];simp;done)|(simp only [ay,ax];simp [*];done)),H',⟨by have:=HJ5.out;have:=HK2.out;first|omega|exact Nat.le_refl _⟩,⟨by (with_reducible repeat (first|apply Kd.aZ|apply Kd.aY|apply Kd.bn));exact Kd.bH HO_13.out (fun _ hk=>⟨hk.2.1,⟨hk.2.2.1,hk.2.2.2⟩⟩)⟩,⟨by (with_reducible repeat (first|apply Kd.bz|apply Kd.bq|apply Kd.bB));exact HO_14.out⟩,⟨by (with_reducible repeat (first|apply Kd.aZ|apply Kd.aY|apply Kd.bn));exact Kd.bH HO_646001.out (fun _ hk=>⟨hk.2.1,⟨hk.2.2.1,hk.2.2.2⟩⟩)⟩,⟨by (with_reducible repeat (first|refine au ?_ _|refine av ?_|refine ak ?_ _));exact BK645.out⟩,⟨by repeat (first|(with_reducible exact HR676_3.out)|(with_reducible refine Kd.aN ?_ _)|(with_reducible refine Kd.aQ ?_ _)|(with_reducible refine Kd.aW ?_)|exact HR676_3.out)⟩,⟨by repeat (first|(with_reducible exact HR676_4.out)|(with_reducible refine Kd.aN ?_ _)|(with_reducible refine Kd.aQ ?_ _)|(with_reducible refine Kd.aW ?_)|exact HR676_4.out)⟩,⟨by repeat (first|(with_reducible exact HR677_3.out)|(with_reducible refine Kd.aN ?_ _)|(with_reducible refine Kd.aQ ?_ _)|(with_reducible refine Kd.aW ?_)|exact HR677_3.out)⟩,⟨by repeat (first|(with_reducible exact HR677_4.out)|(with_reducible refine Kd.aN ?_ _)|(with_reducible refine Kd.aQ ?_ _)|(with_reducible refine Kd.aW ?_)|exact HR677_4.out)⟩,⟨by repeat (first|(with_reducible exact HR678_3.out)|(with_reducible refine Kd.aN ?_ _)|(with_reducible refine Kd.aQ ?_ _)|(with_reducible refine Kd.aW ?_)|exact HR678_3.out)⟩,⟨by repeat (first|(with_reducible exact HR678_4.out)|(with_reducible refine Kd.aN ?_ _)|(with_reducible refine Kd.aQ ?_ _)|(with_reducible refine Kd.aW ?_)|exact HR678_4.out)⟩,⟨by repeat (first|(with_reducible first|exact HB.out|apply af|apply ae|apply ag|refine ah ?_ GE645.out)|exact HB.out)⟩⟩
          case rest =>
           clear HC68
           try clear c1
           try clear p2
           try clear c4
           try clear c5
           try clear c6
           try clear p6
           try clear q6
           try clear hx6
           try clear c7
           try clear c13
           try clear c15
           try clear c19
           try clear c41
           try clear c41b0
           try clear c42
           try clear c43
           try clear c45
           try clear c49
           try clear c50
           try clear p64
           try clear c68
           try clear p68
           try clear q68
           try clear hx68
           try clear c69
           try clear p69
           try clear q69
           try clear hx69
           try clear c72
           try clear c72b0
           try clear c73
           try clear c73b0
           try clear c74
           try clear c74b0
           try clear hx685_0
           try clear hx685_1
           try clear hx685_2
           try clear hx685_3
           try clear hx685_4
           try clear hx690_0
           try clear hx690_1
           try clear hx690_2
           try clear hx690_3
           try clear hx690_4
           try clear hx692_0
           try clear hx693_0
           try clear p685
           try clear p690
           try clear p692
           try clear p693
           try clear q685
           try clear q690
           try clear q692
           try clear q693
           obtain ⟨kq,x121_67,rfl,HA,HJ67,HO_13,HO_14,HO_646001,BK645,HR676_3,HR676_4,HR677_3,HR677_4,HR678_3,HR678_4,HB⟩:=hcut
           cases kq with
           | zero=>exact absurd HA.out (by simp [aC.j2])
           | succ kj67 =>
            have H:=HA.out
            clear HA
            simp only [aC.j2] at H
            by_cases c75:x121_67=true
            ·subst c75
             have H1:(some false)=some r:=by rw [if_pos rfl] at H;exact H
             clear H
             have H:=H1
             clear H1
             exact absurd ((Option.some.inj H).trans HRT.out) Bool.false_ne_true
            ·replace c75:=Bool.eq_false_iff.mpr c75
             subst c75
             have H1:(if 0≤t695 then (if t695 < (y682.length:Int) then (if (rd y682 t695)=x15_2 then (if 0≤t696 then (if t696 < (y682.length:Int) then (if (rd y682 t696)=x16_2 then ((bT.f kj67 1 (⟨#[]⟩:ByteArray) (⟨#[]⟩:ByteArray) ([]:List ByteArray) y679 t641 t642).bind fun t699=>(if t699=t695 then ((bT.f kj67 2 (⟨#[]⟩:ByteArray) (⟨#[]⟩:ByteArray) ([]:List ByteArray) y679 t641 t642).bind fun t700=>(if t700=t696 then ((bW.f kj67).bind fun t701=>(some t701)) else (some false))) else (some false))) else (some false)) else (none)) else (none)) else (some false)) else (none)) else (none))=some r:=by rw [if_neg (show ¬ (false=true) by decide)] at H;exact H
             clear H
             have H:=H1
             clear H1
             by_cases c76:0≤t695
             ·rw [if_pos c76] at H
              have c76b0:decide (0≤t695)=true:=decide_eq_true c76
              clear c76
              by_cases c77:t695 < (y682.length:Int)
              ·rw [if_pos c77] at H
               have c77b0:decide (t695 < (y682.length:Int))=true:=decide_eq_true c77
               clear c77
               by_cases c78:(rd y682 t695)=x15_2
               ·rw [if_pos c78] at H
                have c78b0:((rd y682 t695) == x15_2)=true:=beq_iff_eq.mpr c78
                have c78b1:((rd y682 t695) != x15_2)=false:=bne_eq_false_iff_eq.mpr c78
                clear c78
                by_cases c79:0≤t696
                ·rw [if_pos c79] at H
                 have c79b0:decide (0≤t696)=true:=decide_eq_true c79
                 clear c79
                 by_cases c80:t696 < (y682.length:Int)
                 ·rw [if_pos c80] at H
                  have c80b0:decide (t696 < (y682.length:Int))=true:=decide_eq_true c80
                  clear c80
                  by_cases c81:(rd y682 t696)=x16_2
                  ·rw [if_pos c81] at H
                   have c81b0:((rd y682 t696) == x16_2)=true:=beq_iff_eq.mpr c81
                   have c81b1:((rd y682 t696) != x16_2)=false:=bne_eq_false_iff_eq.mpr c81
                   clear c81
                   replace H:=Option.bind_eq_some_iff.mp H
                   obtain ⟨t699,A820,H⟩:=H
                   replace H:(if t699=t695 then ((bT.f kj67 2 (⟨#[]⟩:ByteArray) (⟨#[]⟩:ByteArray) ([]:List ByteArray) y679 t641 t642).bind fun t700=>(if t700=t696 then ((bW.f kj67).bind fun t701=>(some t701)) else (some false))) else (some false))=some r:=H
                   have A82:=aa.mk A820
                   clear A820
                   by_cases c83:t699=t695
                   ·rw [if_pos c83] at H
                    have c83b0:(t699 == t695)=true:=beq_iff_eq.mpr c83
                    have c83b1:(t699 != t695)=false:=bne_eq_false_iff_eq.mpr c83
                    clear c83
                    replace H:=Option.bind_eq_some_iff.mp H
                    obtain ⟨t700,A840,H⟩:=H
                    replace H:(if t700=t696 then ((bW.f kj67).bind fun t701=>(some t701)) else (some false))=some r:=H
                    have A84:=aa.mk A840
                    clear A840
                    by_cases c85:t700=t696
                    ·rw [if_pos c85] at H
                     have c85b0:(t700 == t696)=true:=beq_iff_eq.mpr c85
                     have c85b1:(t700 != t696)=false:=bne_eq_false_iff_eq.mpr c85
                     clear c85
                     replace H:=Option.bind_eq_some_iff.mp H
                     obtain ⟨t701,A860,H⟩:=H
                     replace H:(some t701)=some r:=H
                     have A86:=aa.mk A860
                     clear A860
                     obtain rfl:=Option.some.inj H
                     obtain ⟨Ao87,co87,eo87⟩:=Kd.cO HO_14.out
                     subst eo87
                     have p697:0≤(t695:Int):=of_decide_eq_true (by first|(with_reducible assumption)|assumption)
                     have q697:t695 < (y682.length:Int):=of_decide_eq_true (by first|(with_reducible assumption)|assumption)
                     obtain ⟨ad697,e697,hx697_0⟩:=Kd.fD (Kd.bL HO_14.out).2.2 t695 p697 q697
                     cases e697
                     replace p697:=eq_true p697
                     replace q697:=eq_true q697
                     have p698:0≤(t696:Int):=of_decide_eq_true (by first|(with_reducible assumption)|assumption)
                     have q698:t696 < (y682.length:Int):=of_decide_eq_true (by first|(with_reducible assumption)|assumption)
                     obtain ⟨ad698,e698,hx698_0⟩:=Kd.fD (Kd.bL HO_14.out).2.2 t696 p698 q698
                     obtain rfl:ad697=ad698:=(by injection e698)
                     replace p698:=eq_true p698
                     replace q698:=eq_true q698
                     obtain ⟨Ao88,co88,eo88⟩:=Kd.dR HO_13.out
                     subst eo88
                     have hcz89_0:wc.cell? ⟨gb645,0,none⟩=some (.string t641):=(aj BK645.out 0).trans rfl
                     have hcz89_1:wc.cell? ⟨gb645,1,none⟩=some (.slice Ao23 t642.length co23):=(aj BK645.out 1).trans rfl
                     have hfz89_0:=ai BK645.out 0
                     have hfz89_1:=ai BK645.out 1
                     go_wp2_with (first|(go_at_call 13;(with_reducible refine wR 1 ?_);(refine (bT.calls kj67 1 (⟨#[]⟩:ByteArray) (⟨#[]⟩:ByteArray) _ _ ([]:List ByteArray) _ _ y679 t641 _ _ t642 t699 _ ?side1 ?side2 ?side3 ?side4 ?side5 ?side6 ?side7 A82.out).mono ?_);(case side1=>exact Kd.iJ _ _);(case side2=>exact Nat.le_refl _);(case side3=>repeat (first|exact (Kd.bO HO_13.out).2.2|(with_reducible refine Kd.aN ?_ _)|(with_reducible refine Kd.aQ ?_ _)|(with_reducible refine Kd.aW ?_)));(case side4=>exact (Kd.bO HO_13.out).2.1);(case side5=>repeat (first|exact (Kd.bO HO_646001.out).2.2|(with_reducible refine Kd.aN ?_ _)|(with_reducible refine Kd.aQ ?_ _)|(with_reducible refine Kd.aW ?_)));(case side6=>exact (Kd.bO HO_646001.out).2.1);(case side7=>first|exact HG.out|exact Gl.drewN HG.out _|exact Gl.below HG.out (by repeat (first|(with_reducible first|exact HB.out|apply af|apply ae|apply ag|refine ah ?_ GE645.out)|exact HB.out)));rintro e w90 ⟨rfl,hb⟩;have n0_:=aa.mk (Kd.df (by (with_reducible repeat (first|apply Kd.aZ|apply Kd.aY|apply Kd.bn));exact HO_13.out) hb);have n1_:=aa.mk (Kd.bR (by (with_reducible repeat (first|apply Kd.bz|apply Kd.bq|apply Kd.bB));exact HO_14.out) hb);have n2_:=aa.mk (Kd.df (by (with_reducible repeat (first|apply Kd.aZ|apply Kd.aY|apply Kd.bn));exact HO_646001.out) hb);have n3_:=aa.mk (aI (g:=gb645) (o:=.cells #[.string t641,.slice Ao23 t642.length co23] 28 (0,0)) (by (with_reducible repeat (first|refine au ?_ _|refine av ?_|refine ak ?_ _));exact BK645.out) hb);have n4_:=aa.mk (Kd.bf (by repeat (first|(with_reducible exact HR676_3.out)|(with_reducible refine Kd.aN ?_ _)|(with_reducible refine Kd.aQ ?_ _)|(with_reducible refine Kd.aW ?_)|exact HR676_3.out)) hb);have n5_:=aa.mk (Kd.bf (by repeat (first|(with_reducible exact HR676_4.out)|(with_reducible refine Kd.aN ?_ _)|(with_reducible refine Kd.aQ ?_ _)|(with_reducible refine Kd.aW ?_)|exact HR676_4.out)) hb);have n6_:=aa.mk (Kd.bf (by repeat (first|(with_reducible exact HR677_3.out)|(with_reducible refine Kd.aN ?_ _)|(with_reducible refine Kd.aQ ?_ _)|(with_reducible refine Kd.aW ?_)|exact HR677_3.out)) hb);have n7_:=aa.mk (Kd.bf (by repeat (first|(with_reducible exact HR677_4.out)|(with_reducible refine Kd.aN ?_ _)|(with_reducible refine Kd.aQ ?_ _)|(with_reducible refine Kd.aW ?_)|exact HR677_4.out)) hb);have n8_:=aa.mk (Kd.bf (by repeat (first|(with_reducible exact HR678_3.out)|(with_reducible refine Kd.aN ?_ _)|(with_reducible refine Kd.aQ ?_ _)|(with_reducible refine Kd.aW ?_)|exact HR678_3.out)) hb);have n9_:=aa.mk (Kd.bf (by repeat (first|(with_reducible exact HR678_4.out)|(with_reducible refine Kd.aN ?_ _)|(with_reducible refine Kd.aQ ?_ _)|(with_reducible refine Kd.aW ?_)|exact HR678_4.out)) hb);have n10_:=aa.mk (aD (by repeat (first|(with_reducible first|exact HB.out|apply af|apply ae|apply ag|refine ah ?_ GE645.out)|exact HB.out)) hb);clear HO_13;clear HO_14;clear HO_646001;clear BK645;clear HR676_3;clear HR676_4;clear HR677_3;clear HR677_4;clear HR678_3;clear HR678_4;clear HB;have HO_13:=n0_;have HO_14:=n1_;have HO_646001:=n2_;have BK645:=n3_;have HR676_3:=n4_;have HR676_4:=n5_;have HR677_3:=n6_;have HR677_4:=n7_;have HR678_3:=n8_;have HR678_4:=n9_;have HB:=n10_;clear n0_ n1_ n2_ n3_ n4_ n5_ n6_ n7_ n8_ n9_ n10_;(try clear hb);(try clear hb2);(try clear hk);(try clear hi);have hcz91_0:w90.cell? ⟨gb645,0,none⟩=some (.string t641):=(aj BK645.out 0).trans rfl;have hcz91_1:w90.cell? ⟨gb645,1,none⟩=some (.slice Ao23 t642.length co23):=(aj BK645.out 1).trans rfl;have hfz91_0:=ai BK645.out 0;have hfz91_1:=ai BK645.out 1)|(go_at_call 13;(with_reducible refine wR 2 ?_);(refine (bT.calls kj67 2 (⟨#[]⟩:ByteArray) (⟨#[]⟩:ByteArray) _ _ ([]:List ByteArray) _ _ y679 t641 _ _ t642 t700 _ ?side1 ?side2 ?side3 ?side4 ?side5 ?side6 ?side7 A84.out).mono ?_);(case side1=>exact Kd.iJ _ _);(case side2=>exact Nat.le_refl _);(case side3=>repeat (first|exact (Kd.bO HO_13.out).2.2|(with_reducible refine Kd.aN ?_ _)|(with_reducible refine Kd.aQ ?_ _)|(with_reducible refine Kd.aW ?_)));(case side4=>exact (Kd.bO HO_13.out).2.1);(case side5=>repeat (first|exact (Kd.bO HO_646001.out).2.2|(with_reducible refine Kd.aN ?_ _)|(with_reducible refine Kd.aQ ?_ _)|(with_reducible refine Kd.aW ?_)));(case side6=>exact (Kd.bO HO_646001.out).2.1);(case side7=>first|exact HG.out|exact Gl.drewN HG.out _|exact Gl.below HG.out (by repeat (first|(with_reducible first|exact HB.out|apply af|apply ae|apply ag|refine ah ?_ GE645.out)|exact HB.out)));rintro e w92 ⟨rfl,hb⟩;have n0_:=aa.mk (Kd.df (by (with_reducible repeat (first|apply Kd.aZ|apply Kd.aY|apply Kd.bn));exact HO_13.out) hb);have n1_:=aa.mk (Kd.bR (by (with_reducible repeat (first|apply Kd.bz|apply Kd.bq|apply Kd.bB));exact HO_14.out) hb);have n2_:=aa.mk (Kd.df (by (with_reducible repeat (first|apply Kd.aZ|apply Kd.aY|apply Kd.bn));exact HO_646001.out) hb);have n3_:=aa.mk (aI (g:=gb645) (o:=.cells #[.string t641,.slice Ao23 t642.length co23] 28 (0,0)) (by (with_reducible repeat (first|refine au ?_ _|refine av ?_|refine ak ?_ _));exact BK645.out) hb);have n4_:=aa.mk (Kd.bf (by repeat (first|(with_reducible exact HR676_3.out)|(with_reducible refine Kd.aN ?_ _)|(with_reducible refine Kd.aQ ?_ _)|(with_reducible refine Kd.aW ?_)|exact HR676_3.out)) hb);have n5_:=aa.mk (Kd.bf (by repeat (first|(with_reducible exact HR676_4.out)|(with_reducible refine Kd.aN ?_ _)|(with_reducible refine Kd.aQ ?_ _)|(with_reducible refine Kd.aW ?_)|exact HR676_4.out)) hb);have n6_:=aa.mk (Kd.bf (by repeat (first|(with_reducible exact HR677_3.out)|(with_reducible refine Kd.aN ?_ _)|(with_reducible refine Kd.aQ ?_ _)|(with_reducible refine Kd.aW ?_)|exact HR677_3.out)) hb);have n7_:=aa.mk (Kd.bf (by repeat (first|(with_reducible exact HR677_4.out)|(with_reducible refine Kd.aN ?_ _)|(with_reducible refine Kd.aQ ?_ _)|(with_reducible refine Kd.aW ?_)|exact HR677_4.out)) hb);have n8_:=aa.mk (Kd.bf (by repeat (first|(with_reducible exact HR678_3.out)|(with_reducible refine Kd.aN ?_ _)|(with_reducible refine Kd.aQ ?_ _)|(with_reducible refine Kd.aW ?_)|exact HR678_3.out)) hb);have n9_:=aa.mk (Kd.bf (by repeat (first|(with_reducible exact HR678_4.out)|(with_reducible refine Kd.aN ?_ _)|(with_reducible refine Kd.aQ ?_ _)|(with_reducible refine Kd.aW ?_)|exact HR678_4.out)) hb);have n10_:=aa.mk (aD (by repeat (first|(with_reducible first|exact HB.out|apply af|apply ae|apply ag|refine ah ?_ GE645.out)|exact HB.out)) hb);clear HO_13;clear HO_14;clear HO_646001;clear BK645;clear HR676_3;clear HR676_4;clear HR677_3;clear HR677_4;clear HR678_3;clear HR678_4;clear HB;have HO_13:=n0_;have HO_14:=n1_;have HO_646001:=n2_;have BK645:=n3_;have HR676_3:=n4_;have HR676_4:=n5_;have HR677_3:=n6_;have HR677_4:=n7_;have HR678_3:=n8_;have HR678_4:=n9_;have HB:=n10_;clear n0_ n1_ n2_ n3_ n4_ n5_ n6_ n7_ n8_ n9_ n10_;(try clear hb);(try clear hb2);(try clear hk);(try clear hi))|(go_at_call 15;(with_reducible refine (bW.calls kj67  t701 _ ?side1 A86.out).mono ?_);(case side1=>first|exact HG.out|exact Gl.drewN HG.out _|exact Gl.below HG.out (by repeat (first|(with_reducible first|exact HB.out|apply af|apply ae|apply ag|refine ah ?_ GE645.out)|exact HB.out)));rintro e w93 ⟨rfl,hb⟩;have n0_:=aa.mk (Kd.df (by (with_reducible repeat (first|apply Kd.aZ|apply Kd.aY|apply Kd.bn));exact HO_13.out) hb);have n1_:=aa.mk (Kd.bR (by (with_reducible repeat (first|apply Kd.bz|apply Kd.bq|apply Kd.bB));exact HO_14.out) hb);have n2_:=aa.mk (Kd.df (by (with_reducible repeat (first|apply Kd.aZ|apply Kd.aY|apply Kd.bn));exact HO_646001.out) hb);have n3_:=aa.mk (aI (g:=gb645) (o:=.cells #[.string t641,.slice Ao23 t642.length co23] 28 (0,0)) (by (with_reducible repeat (first|refine au ?_ _|refine av ?_|refine ak ?_ _));exact BK645.out) hb);have n4_:=aa.mk (Kd.bf (by repeat (first|(with_reducible exact HR676_3.out)|(with_reducible refine Kd.aN ?_ _)|(with_reducible refine Kd.aQ ?_ _)|(with_reducible refine Kd.aW ?_)|exact HR676_3.out)) hb);have n5_:=aa.mk (Kd.bf (by repeat (first|(with_reducible exact HR676_4.out)|(with_reducible refine Kd.aN ?_ _)|(with_reducible refine Kd.aQ ?_ _)|(with_reducible refine Kd.aW ?_)|exact HR676_4.out)) hb);have n6_:=aa.mk (Kd.bf (by repeat (first|(with_reducible exact HR677_3.out)|(with_reducible refine Kd.aN ?_ _)|(with_reducible refine Kd.aQ ?_ _)|(with_reducible refine Kd.aW ?_)|exact HR677_3.out)) hb);have n7_:=aa.mk (Kd.bf (by repeat (first|(with_reducible exact HR677_4.out)|(with_reducible refine Kd.aN ?_ _)|(with_reducible refine Kd.aQ ?_ _)|(with_reducible refine Kd.aW ?_)|exact HR677_4.out)) hb);have n8_:=aa.mk (Kd.bf (by repeat (first|(with_reducible exact HR678_3.out)|(with_reducible refine Kd.aN ?_ _)|(with_reducible refine Kd.aQ ?_ _)|(with_reducible refine Kd.aW ?_)|exact HR678_3.out)) hb);have n9_:=aa.mk (Kd.bf (by repeat (first|(with_reducible exact HR678_4.out)|(with_reducible refine Kd.aN ?_ _)|(with_reducible refine Kd.aQ ?_ _)|(with_reducible refine Kd.aW ?_)|exact HR678_4.out)) hb);have n10_:=aa.mk (aD (by repeat (first|(with_reducible first|exact HB.out|apply af|apply ae|apply ag|refine ah ?_ GE645.out)|exact HB.out)) hb);clear HO_13;clear HO_14;clear HO_646001;clear BK645;clear HR676_3;clear HR676_4;clear HR677_3;clear HR677_4;clear HR678_3;clear HR678_4;clear HB;have HO_13:=n0_;have HO_14:=n1_;have HO_646001:=n2_;have BK645:=n3_;have HR676_3:=n4_;have HR676_4:=n5_;have HR677_3:=n6_;have HR677_4:=n7_;have HR678_3:=n8_;have HR678_4:=n9_;have HB:=n10_;clear n0_ n1_ n2_ n3_ n4_ n5_ n6_ n7_ n8_ n9_ n10_;(try clear hb);(try clear hb2);(try clear hk);(try clear hi)))
                     go_ret
                     exact ⟨by first|rfl|(simp [aM,aK] <;> rfl)|(simp [*,aM,aK] <;> rfl),by repeat (first|(with_reducible first|exact HB.out|apply af|apply ae|apply ag|refine ah ?_ GE645.out)|exact HB.out)⟩
                    ·rw [if_neg c85] at H
                     have c85b0:(t700 == t696)=false:=beq_eq_false_iff_ne.mpr c85
                     have c85b1:(t700 != t696)=true:=bne_iff_ne.mpr c85
                     exact absurd ((Option.some.inj H).trans HRT.out) Bool.false_ne_true
                   ·rw [if_neg c83] at H
                    have c83b0:(t699 == t695)=false:=beq_eq_false_iff_ne.mpr c83
                    have c83b1:(t699 != t695)=true:=bne_iff_ne.mpr c83
                    exact absurd ((Option.some.inj H).trans HRT.out) Bool.false_ne_true
                  ·rw [if_neg c81] at H
                   have c81b0:((rd y682 t696) == x16_2)=false:=beq_eq_false_iff_ne.mpr c81
                   have c81b1:((rd y682 t696) != x16_2)=true:=bne_iff_ne.mpr c81
                   exact absurd ((Option.some.inj H).trans HRT.out) Bool.false_ne_true
                 ·rw [if_neg c80] at H
                  exact absurd H (by simp)
                ·rw [if_neg c79] at H
                 exact absurd H (by simp)
               ·rw [if_neg c78] at H
                have c78b0:((rd y682 t695) == x15_2)=false:=beq_eq_false_iff_ne.mpr c78
                have c78b1:((rd y682 t695) != x15_2)=true:=bne_iff_ne.mpr c78
                exact absurd ((Option.some.inj H).trans HRT.out) Bool.false_ne_true
              ·rw [if_neg c77] at H
               exact absurd H (by simp)
             ·rw [if_neg c76] at H
              exact absurd H (by simp)
      ·rw [if_neg c19] at H
       exact absurd H (by simp)
     ·rw [if_neg c18] at H
      exact absurd H (by simp)
    ·rw [if_neg c17] at H
     exact absurd H (by simp)
end Go.Proofs.YthfpaoacjpjnfaaGreatDoor.P


namespace Go.Proofs.YthfpaoacjpjnfaaGreatDoor.P
open Go.RowKit Go.Proofs.YthfpaoacjpjnfaaGreatDoorW.PrintWords Go.Proofs.YthfpaoacjpjnfaaGreatDoorW.PrintLast Go.Proofs.YthfpaoacjpjnfaaGreatDoorW.PrintMore
theorem xH:(⟨#[]⟩:ByteArray).toList=[]:=by rw [toList_data]
theorem l7 (kd:Int) (hk:kd=1∨kd=2) (n:Nat) (L:List S25):fC (n+1) ⟨kd,⟨#[]⟩,⟨#[]⟩,[],L⟩=(decide (L.length≤40) && L.all (fC n)):=by
  unfold fC dh jQ
  rw [if_pos hk]
  show (decide ((⟨#[]⟩:ByteArray).toList=[]) && decide ((⟨#[]⟩:ByteArray).toList=[]) && decide (([]:List ByteArray).length=0) && decide (L.length≤40) && (true && L.all (fC n)))=_
  rw [xH]
  simp
theorem oD (d:ByteArray) {l:List S45} (hE:kW l) (L:List S25) (h40:L.length≤40) (hM:∀ x ∈ L,MF x) (hm:∀ x ∈ L,fC 11 x=true) :
    Ev (fun k=>bT.f k 1 (⟨#[]⟩:ByteArray) (⟨#[]⟩:ByteArray) [] L d l) (firstT (L.map (evD (dS l) 11)) 0 1)∧Ev (fun k=>bT.f k 2 (⟨#[]⟩:ByteArray) (⟨#[]⟩:ByteArray) [] L d l) (firstT (L.map (evD (dS l) 11)) 1 0):=by
  have ha:L.all (fC 11)=true:=List.all_eq_true.2 hm
  have mf:∀ kd,MF ⟨kd,⟨#[]⟩,⟨#[]⟩,[],L⟩:=fun kd=>MF.mk' kd ⟨#[]⟩ ⟨#[]⟩ [] L (by decide) (by decide +kernel) gT hM
  constructor
  · have h:=o8 d hE ⟨1,⟨#[]⟩,⟨#[]⟩,[],L⟩ ((mf 1).1 12) ((mf 1).2.2 12)
    rw [l7 1 (.inl rfl) 11,ha,decide_eq_true h40,Bool.and_self,if_pos rfl] at h
    exact h
  · have h:=o8 d hE ⟨2,⟨#[]⟩,⟨#[]⟩,[],L⟩ ((mf 2).1 12) ((mf 2).2.2 12)
    rw [l7 2 (.inr rfl) 11,ha,decide_eq_true h40,Bool.and_self,if_pos rfl] at h
    exact h
theorem xu (f:S25):(⟨f.f0,f.f1,f.f2,f.f3,f.f4⟩:S25)=f:=by cases f;rfl
theorem lq:Ev (fun k=>(bW.f k).bind fun t=>some t) true:=sD.bind (Ev.now _)
def gy (v:Int):Int:=rd [0,2,1] v
theorem lh (d:ByteArray) {l:List S45} (hE:kW l) (L R:List S25) (hL:L.length=3) (hM:∀ x ∈ L,MF x) (least most:Int) (i:Nat) (hi:i < 3) :
    (fC 11 (az L (i:Int))=false→Ev (fun k=>aC.l0 k L R [0,2,1] least most (i:Int) d l) true) ∧
    (fC 11 (az L (i:Int))=true→Ev (fun k=>aC.l0 k L R [0,2,1] (mn least (gy (evD (dS l) 11 (az L (i:Int))))) (mx most (gy (evD (dS l) 11 (az L (i:Int))))) ((i+1:Nat):Int) d l) true →
      Ev (fun k=>aC.l0 k L R [0,2,1] least most (i:Int) d l) true):=by
  have hx:az L (i:Int) ∈ L:=pE (by omega)
  have c1:(i:Int) < 3:=by omega
  have c2:(0:Int)≤(i:Int):=by omega
  have c3:(i:Int) < (L.length:Int):=by omega
  have hw:wrap64 ((i:Int)+1)=((i+1:Nat):Int):=by rw [wrap_small _ (by omega) (by omega)];omega
  generalize hf:az L (i:Int)=f at hx
  have mf:=hM f hx
  have hmay:Ev (fun k=>dG.f k 1 (⟨#[]⟩:ByteArray) (⟨#[]⟩:ByteArray) [] [f]) (fC 11 f):=by
    have h:=pM ⟨1,⟨#[]⟩,⟨#[]⟩,[],[f]⟩ ((MF.mk' 1 ⟨#[]⟩ ⟨#[]⟩ [] [f] (by decide) (by decide +kernel) gT (fun x hx=>by rw [List.mem_singleton.1 hx];exact mf)).2.1 12)
    rw [l7 1 (.inl rfl) 11,show ([f]:List S25).all (fC 11)=fC 11 f by simp,show decide (([f]:List S25).length≤40)=true from rfl,Bool.true_and] at h
    exact h
  constructor
  · intro h0
    rw [h0] at hmay
    refine Ev.step (fun k=>by rw [aC.l0]) (Ev.ifp c1 (Ev.ifp c2 (Ev.ifp c3 ?_)))
    rw [hf,xu]
    refine Ev.bind (a:=false) hmay ?_
    exact Ev.ifn Bool.false_ne_true lq
  · intro h1 next
    rw [h1] at hmay
    have he:=o8 d hE f (mf.1 12) (mf.2.2 12)
    rw [si 11 f h1,if_pos rfl,u6 (dS l) 11 f h1] at he
    have hr:=jv (dS l) 11 f h1
    generalize evD (dS l) 11 f=v at he hr next
    refine Ev.step (fun k=>by rw [aC.l0]) (Ev.ifp c1 (Ev.ifp c2 (Ev.ifp c3 ?_)))
    rw [hf,xu]
    refine Ev.bind (a:=true) hmay ?_
    refine Ev.ifp rfl ?_
    refine Ev.bind (a:=v) he ?_
    refine Ev.ifn (show ¬ v < 0 by omega) (Ev.ifn (show ¬ v > 2 by omega) (Ev.ifp (show 0≤v by omega) (Ev.ifp (show v < (3:Int) by omega) ?_)))
    rw [hw]
    exact next
theorem qb:∀ u v w:Int,(u=0∨u=1∨u=2)→(v=0∨v=1∨v=2)→(w=0∨w=1∨w=2) →
    gy (firstT [u,v,w] 0 1)=mn (mn (mn 2 (gy u)) (gy v)) (gy w)∧gy (firstT [u,v,w] 1 0)=mx (mx (mx 0 (gy u)) (gy v)) (gy w)∧firstT [w,u,v] 0 1=firstT [u,v,w] 0 1∧firstT [w,u,v] 1 0=firstT [u,v,w] 1 0:=by
  intro u v w hu hv hw
  rcases hu with rfl|rfl|rfl <;> rcases hv with rfl|rfl|rfl <;> rcases hw with rfl|rfl|rfl <;> decide
theorem sI (d:ByteArray) {l:List S45} (hE:kW l) (f g h:S25) (hM:∀ x ∈ [f,g,h],MF x) (hm:∀ x ∈ [f,g,h],fC 11 x=true) :
    Ev (fun k=>aC.l0 k [f,g,h] [h,f,g] [0,2,1] (mn (mn (mn 2 (gy (evD (dS l) 11 f))) (gy (evD (dS l) 11 g))) (gy (evD (dS l) 11 h))) (mx (mx (mx 0 (gy (evD (dS l) 11 f))) (gy (evD (dS l) 11 g))) (gy (evD (dS l) 11 h))) 3 d l) true:=by
  obtain ⟨a1,o1⟩:=oD d hE [f,g,h] (by show 3≤40;decide) hM hm
  have sub:∀ x ∈ [h,f,g],x ∈ [f,g,h]:=fun x hx=>by
    simp only [List.mem_cons,List.not_mem_nil,or_false] at hx ⊢
    rcases hx with h|h|h <;> simp [h]
  obtain ⟨a2,o2⟩:=oD d hE [h,f,g] (by show 3≤40;decide) (fun x hx=>hM x (sub x hx)) (fun x hx=>hm x (sub x hx))
  have hu:=jv (dS l) 11 f (hm f (by simp))
  have hv:=jv (dS l) 11 g (hm g (by simp))
  have hw:=jv (dS l) 11 h (hm h (by simp))
  simp only [List.map_cons,List.map_nil] at a1 o1 a2 o2
  generalize evD (dS l) 11 f=u at *
  generalize evD (dS l) 11 g=v at *
  generalize evD (dS l) 11 h=w at *
  obtain ⟨t1,t2,t3,t4⟩:=qb u v w hu hv hw
  rw [t3] at a2
  rw [t4] at o2
  have ra:=gF [u,v,w] 0 1 (.inl rfl) (.inr (.inl rfl))
  have ro:=gF [u,v,w] 1 0 (.inr (.inl rfl)) (.inl rfl)
  rw [← t1,← t2]
  obtain ⟨a,ha⟩:∃ a,firstT [u,v,w] 0 1=a:=⟨_,rfl⟩
  obtain ⟨o,ho⟩:∃ o,firstT [u,v,w] 1 0=o:=⟨_,rfl⟩
  rw [ha] at a1 a2 ra ⊢
  rw [ho] at o1 o2 ro ⊢
  clear t1 t2 t3 t4 hu hv hw
  refine Ev.step (fun k=>by rw [aC.l0]) ?_
  refine Ev.ifn (by decide) ?_
  refine Ev.bind (a:=a) a1 ?_
  refine Ev.bind (a:=o) o1 ?_
  refine Ev.ifn (show ¬ a < 0 by omega) (Ev.ifn (show ¬ a > 2 by omega) (Ev.ifn (show ¬ o < 0 by omega) ?_))
  rw [decide_eq_false (show ¬ o > 2 by omega)]
  refine Ev.step (fun k=>by rw [aC.j2]) ?_
  refine Ev.ifn Bool.false_ne_true ?_
  refine Ev.ifp (show 0≤a by omega) ?_
  refine Ev.ifp (by show a < (3:Int);omega) ?_
  refine Ev.ifp (show rd [0,2,1] a=gy a from rfl) ?_
  refine Ev.ifp (show 0≤o by omega) ?_
  refine Ev.ifp (by show o < (3:Int);omega) ?_
  refine Ev.ifp (show rd [0,2,1] o=gy o from rfl) ?_
  refine Ev.bind (a:=a) a2 ?_
  refine Ev.ifp rfl ?_
  refine Ev.bind (a:=o) o2 ?_
  exact Ev.ifp rfl lq
theorem qX (l0 l1 l2 l3:List Int) (a4:ByteArray) (h0:∀ i:Nat,0≤rd l0 (i:Int)∧rd l0 (i:Int)≤255) (h1:∀ i:Nat,0≤rd l1 (i:Int)∧rd l1 (i:Int)≤255) (h2:∀ i:Nat,0≤rd l2 (i:Int)∧rd l2 (i:Int)≤255) (h3:∀ i:Nat,0≤rd l3 (i:Int)∧rd l3 (i:Int)≤255) :
    ∃ k,aC.f k l0 l1 l2 l3 a4=some true:=by
  apply Ev.rounds
  unfold aC.f
  have jt:Ev (fun k=>aC.j0 k l0 l1 l2 l3 a4 true) true:=Ev.step (fun k=>by rw [aC.j0]) (Ev.ifp rfl lq)
  by_cases c0:l0.length≤8
  case neg=>exact Ev.ifp (by omega) jt
  refine Ev.ifn (by omega) ?_
  by_cases c1:l1.length≤8
  case neg=>exact Ev.ifp (by omega) jt
  refine Ev.ifn (by omega) ?_
  by_cases c2:l2.length≤8
  case neg=>exact Ev.ifp (by omega) jt
  refine Ev.ifn (by omega) ?_
  by_cases c4:a4.size≤20
  case neg =>
    rw [decide_eq_true (show (a4.size:Int) > 20 by omega)]
    exact jt
  rw [decide_eq_false (show ¬ (a4.size:Int) > 20 by omega)]
  obtain ⟨d,l,hm,hk⟩:=vR l3 h3
  have hE:=qI hk (by decide)
  obtain ⟨⟨p0,p1,p2,p3,p4⟩,e0,m0⟩:=nG a4 (by omega) 8 l0 c0 (by omega) (Bs.of_rd h0)
  obtain ⟨⟨q0,q1,q2,q3,q4⟩,e1,m1⟩:=nG a4 (by omega) 8 l1 c1 (by omega) (Bs.of_rd h1)
  obtain ⟨⟨r0,r1,r2,r3,r4⟩,e2,m2⟩:=nG a4 (by omega) 8 l2 c2 (by omega) (Bs.of_rd h2)
  refine Ev.step (fun k=>by rw [aC.j0]) ?_
  refine Ev.ifn Bool.false_ne_true ?_
  refine Ev.bind hm ?_
  refine Ev.bind e0 ?_
  refine Ev.bind e1 ?_
  refine Ev.bind e2 ?_
  refine Ev.bs ?_
  refine Ev.ifp (by show (2:Int) < 3;decide) ?_
  refine Ev.ifp (by show (0:Int) < 3;decide) ?_
  refine Ev.ifp (by show (1:Int) < 3;decide) ?_
  generalize hf:(⟨p0,p1,p2,p3,p4⟩:S25)=f at m0
  generalize hg:(⟨q0,q1,q2,q3,q4⟩:S25)=g at m1
  generalize hh:(⟨r0,r1,r2,r3,r4⟩:S25)=h at m2
  simp only [xu]
  show Ev (fun k=>aC.l0 k [f,g,h] [h,f,g] [0,2,1] 2 0 0 d l) true
  have hM:∀ x ∈ [f,g,h],MF x:=fun x hx=>by
    simp only [List.mem_cons,List.not_mem_nil,or_false] at hx
    rcases hx with rfl|rfl|rfl
    · exact m0
    · exact m1
    · exact m2
  have s0:=lh d hE [f,g,h] [h,f,g] rfl hM 2 0 0 (by decide)
  cases b0:fC 11 f with
  | false=>exact s0.1 b0
  | true =>
    refine s0.2 b0 ?_
    have s1:=lh d hE [f,g,h] [h,f,g] rfl hM (mn 2 (gy (evD (dS l) 11 f))) (mx 0 (gy (evD (dS l) 11 f))) 1 (by decide)
    cases b1:fC 11 g with
    | false=>exact s1.1 b1
    | true =>
      refine s1.2 b1 ?_
      have s2:=lh d hE [f,g,h] [h,f,g] rfl hM (mn (mn 2 (gy (evD (dS l) 11 f))) (gy (evD (dS l) 11 g))) (mx (mx 0 (gy (evD (dS l) 11 f))) (gy (evD (dS l) 11 g))) 2 (by decide)
      cases b2:fC 11 h with
      | false=>exact s2.1 b2
      | true =>
        refine s2.2 b2 ?_
        exact sI d hE f g h hM (fun x hx=>by
          simp only [List.mem_cons,List.not_mem_nil,or_false] at hx
          rcases hx with rfl|rfl|rfl
          · exact b0
          · exact b1
          · exact b2)
theorem kz {W:World} {a:Option Addr} {len cap:Nat} {zs:List Int}
    (h:(a=none∧len=0∧cap=0∧zs=[])∨∃ x,a=some x∧len≤cap∧cap≤maxLen∧zs.length=cap∧(∀ i,i < zs.length→W.cell? (x.add i)=some (.int .u8 (zs.getD i 0)))∧∀ n ∈ zs,(Lit.int .u8 n).wf=true) :
    ∃ l:List Int,l.length=len∧Kd.C (Kd.int .u8) W a l.length l∧l.length≤cap∧∀ i:Nat,0≤rd l (i:Int)∧rd l (i:Int)≤255:=by
  rcases h with ⟨rfl,rfl,rfl,rfl⟩|⟨x,rfl,h1,h2,h3,h4,h5⟩
  · exact ⟨[],rfl,Kd.iJ _ _,Nat.le_refl _,fun i=>by
      show 0≤rd [] (i:Int)∧rd [] (i:Int)≤255
      unfold rd
      rw [List.getD_nil]
      decide⟩
  · have hl:(zs.take len).length=len:=by rw [List.length_take];omega
    have hg:∀ j:Nat,j < len→(zs.take len).getD j 0=zs.getD j 0:=fun j hj=>by
      rw [List.getD_eq_getElem?_getD,List.getD_eq_getElem?_getD,List.getElem?_take_of_lt hj]
    refine ⟨zs.take len,hl,⟨rfl,by rw [hl];simp only [maxLen] at h2;omega,fun _=>⟨x,rfl,fun j p hj=>?_⟩⟩,by omega,fun i=>?_⟩
    · have hjl:j < len:=by have:=(List.getElem?_eq_some_iff.1 hj).1;omega
      have hp:zs.getD j 0=p:=by
        rw [← hg j hjl,List.getD_eq_getElem?_getD,hj]
        rfl
      refine ⟨[.int .u8 p],rfl,rfl,fun i u hu=>?_⟩
      rcases i with _|i
      · simp only [List.getElem?_cons_zero,Option.some.injEq] at hu
        subst hu
        rw [show j * (Kd.int .u8).sz+0=j from by show j * 1+0=j;omega,h4 j (by omega),hp]
      · simp at hu
    · unfold rd
      rw [Int.toNat_natCast]
      by_cases hi:i < len
      · rw [hg i hi,List.getD_eq_getElem?_getD,List.getElem?_eq_getElem (by omega)]
        exact yo (h5 _ (List.getElem_mem _))
      · rw [List.getD_eq_getElem?_getD,List.getElem?_eq_none (by omega)]
        decide
end Go.Proofs.YthfpaoacjpjnfaaGreatDoor.P

namespace Go.Proofs.YthfpaoacjpjnfaaGreatDoor.evalLogic
open Go.ChangeShapes Go.WideShapes Go.ChangeAt Go.RowKit Go.Proofs.YthfpaoacjpjnfaaGreatDoor.P Go.Proofs.YthfpaoacjpjnfaaGreatDoorW.PrintWords
open Go.ChangeMaps (open_string shut_string)
def rQ (k:IntKind) (w:World) (a:Option Addr) (len cap:Nat) (zs:List Int):Prop :=
  (a=none∧len=0∧cap=0∧zs=[]) ∨
  ∃ x,a=some x∧len≤cap∧cap≤maxLen∧zs.length=cap∧(∀ i,i < zs.length→w.cell? (x.add i)=some (.int k (zs.getD i 0)))∧∀ n ∈ zs,(Lit.int k n).wf=true
set_option maxRecDepth 100000 in
theorem contract (H:Type) (enc:TypeId × Value→H) (W:World) (base:Nat) (args:Array Value) (ds gs:List (DataW H)) (before:List MemPlace)
    (hval0:∀ (j:Nat) t v,Tryz.f6.params[j]?=some t→args[j]?=some v→Value.okWide Tryz.prog W .any base t v)
    (hW:DataW.Whole enc Tryz.prog Tryz.f6.params.toList Rows.evalLogicSpec.vars false W args.toList ds gs before)
    (hsz0:(DataW.weightsEach Tryz.prog (Tryz.f6.params.toList++Rows.evalLogicSpec.plain.varTypes Tryz.prog) (ds++gs)).all (·≤reachBytes)=true) (hG:Gl W) :
    Calls Tryz.prog 6 args W fun e W'=>∃ v,e=.returned v∧Rows.evalLogicSpec.post enc Tryz.prog Tryz.f6 false true false false W args v W':=by
  have hsz:=hsz0
  have hval:=hval0
  have hW':=hW
  obtain ⟨p,q,hA0,hV,rfl,hfz,hnd⟩:=hW
  have hA:DataW.TrodAll enc Tryz.prog W 0 (fun _=>true) true Tryz.f6.params.toList args.toList ds p:=hA0
  rw [Tryz.params6] at hA hval hsz
  obtain ⟨v0,vs0,d0,ds0,p0,q0,hargs,rfl,rfl,h0,r0⟩:=trodAll_cons hA
  obtain ⟨v1,vs1,d1,ds1,p1,q1,rfl,rfl,rfl,h1,r1⟩:=trodAll_cons r0
  obtain ⟨v2,vs2,d2,ds2,p2,q2,rfl,rfl,rfl,h2,r2⟩:=trodAll_cons r1
  obtain ⟨v3,vs3,d3,ds3,p3,q3,rfl,rfl,rfl,h3,r3⟩:=trodAll_cons r2
  obtain ⟨v4,vs4,d4,ds4,p4,q4,rfl,rfl,rfl,h4,r4⟩:=trodAll_cons r3
  obtain ⟨rfl,rfl,rfl⟩:=trodAll_nil r4
  obtain rfl:args=#[v0,v1,v2,v3,v4]:=by cases args;simp_all
  obtain ⟨rfl,rfl⟩:=trodVars_none hV
  obtain ⟨a0,len0,cap0,rfl⟩:=okWide_slice Tryz.underlying34 (hval 0 34 v0 rfl rfl)
  have k0:=h0
  have lt0:∀ x ∈ p0,x.block < W.heap.size:=by obtain ⟨m,hm⟩:=k0;exact DataW.trod_lt m _ _ _ hm
  obtain ⟨z0,w0⟩:∃ zs,rQ .u8 W a0 len0 cap0 zs:=by
    obtain ⟨fuel,hf⟩:=h0
    rcases open_ints Tryz.underlying34 Tryz.underlying5 (by kernel_rfl) hf with ⟨hcs,_⟩|⟨x,l,c,zs,hcs,_,hl,hm,hz,_,hcell,hwz⟩
    · simp [Value.cells] at hcs
      obtain ⟨rfl,rfl,rfl⟩:=hcs
      exact ⟨[],.inl ⟨rfl,rfl,rfl,rfl⟩⟩
    · simp [Value.cells] at hcs
      obtain ⟨rfl,rfl,rfl⟩:=hcs
      exact ⟨zs,.inr ⟨_,rfl,hl,hm,by simpa using hz,hcell,hwz⟩⟩
  have y0:len0 * 1≤140737488351232:=jC hsz (j:=0) (t:=34) rfl rfl Tryz.underlying34 Tryz.underlying5 (by kernel_rfl) (by kernel_rfl) h0
  obtain ⟨a1,len1,cap1,rfl⟩:=okWide_slice Tryz.underlying34 (hval 1 34 v1 rfl rfl)
  have k1:=h1
  have lt1:∀ x ∈ p1,x.block < W.heap.size:=by obtain ⟨m,hm⟩:=k1;exact DataW.trod_lt m _ _ _ hm
  obtain ⟨z1,w1⟩:∃ zs,rQ .u8 W a1 len1 cap1 zs:=by
    obtain ⟨fuel,hf⟩:=h1
    rcases open_ints Tryz.underlying34 Tryz.underlying5 (by kernel_rfl) hf with ⟨hcs,_⟩|⟨x,l,c,zs,hcs,_,hl,hm,hz,_,hcell,hwz⟩
    · simp [Value.cells] at hcs
      obtain ⟨rfl,rfl,rfl⟩:=hcs
      exact ⟨[],.inl ⟨rfl,rfl,rfl,rfl⟩⟩
    · simp [Value.cells] at hcs
      obtain ⟨rfl,rfl,rfl⟩:=hcs
      exact ⟨zs,.inr ⟨_,rfl,hl,hm,by simpa using hz,hcell,hwz⟩⟩
  have y1:len1 * 1≤140737488351232:=jC hsz (j:=1) (t:=34) rfl rfl Tryz.underlying34 Tryz.underlying5 (by kernel_rfl) (by kernel_rfl) h1
  obtain ⟨a2,len2,cap2,rfl⟩:=okWide_slice Tryz.underlying34 (hval 2 34 v2 rfl rfl)
  have k2:=h2
  have lt2:∀ x ∈ p2,x.block < W.heap.size:=by obtain ⟨m,hm⟩:=k2;exact DataW.trod_lt m _ _ _ hm
  obtain ⟨z2,w2⟩:∃ zs,rQ .u8 W a2 len2 cap2 zs:=by
    obtain ⟨fuel,hf⟩:=h2
    rcases open_ints Tryz.underlying34 Tryz.underlying5 (by kernel_rfl) hf with ⟨hcs,_⟩|⟨x,l,c,zs,hcs,_,hl,hm,hz,_,hcell,hwz⟩
    · simp [Value.cells] at hcs
      obtain ⟨rfl,rfl,rfl⟩:=hcs
      exact ⟨[],.inl ⟨rfl,rfl,rfl,rfl⟩⟩
    · simp [Value.cells] at hcs
      obtain ⟨rfl,rfl,rfl⟩:=hcs
      exact ⟨zs,.inr ⟨_,rfl,hl,hm,by simpa using hz,hcell,hwz⟩⟩
  have y2:len2 * 1≤140737488351232:=jC hsz (j:=2) (t:=34) rfl rfl Tryz.underlying34 Tryz.underlying5 (by kernel_rfl) (by kernel_rfl) h2
  obtain ⟨a3,len3,cap3,rfl⟩:=okWide_slice Tryz.underlying34 (hval 3 34 v3 rfl rfl)
  have k3:=h3
  have lt3:∀ x ∈ p3,x.block < W.heap.size:=by obtain ⟨m,hm⟩:=k3;exact DataW.trod_lt m _ _ _ hm
  obtain ⟨z3,w3⟩:∃ zs,rQ .u8 W a3 len3 cap3 zs:=by
    obtain ⟨fuel,hf⟩:=h3
    rcases open_ints Tryz.underlying34 Tryz.underlying5 (by kernel_rfl) hf with ⟨hcs,_⟩|⟨x,l,c,zs,hcs,_,hl,hm,hz,_,hcell,hwz⟩
    · simp [Value.cells] at hcs
      obtain ⟨rfl,rfl,rfl⟩:=hcs
      exact ⟨[],.inl ⟨rfl,rfl,rfl,rfl⟩⟩
    · simp [Value.cells] at hcs
      obtain ⟨rfl,rfl,rfl⟩:=hcs
      exact ⟨zs,.inr ⟨_,rfl,hl,hm,by simpa using hz,hcell,hwz⟩⟩
  have y3:len3 * 1≤140737488351232:=jC hsz (j:=3) (t:=34) rfl rfl Tryz.underlying34 Tryz.underlying5 (by kernel_rfl) (by kernel_rfl) h3
  obtain ⟨a4,rfl,rfl,rfl,y4⟩:=open_string Tryz.underlying9 (hval 4 9 v4 rfl rfl) h4
  have w4:a4.size≤140737488351232:=by
    have z:=sized_string hsz (j:=4) (t:=9) rfl rfl
    rw [Array.length_toList] at z
    exact z
  clear hA0 hval0 hsz0 hsz
  have walk:Calls Tryz.prog 6 #[.slice a0 len0 cap0,.slice a1 len1 cap1,.slice a2 len2 cap2,.slice a3 len3 cap3,.string a4] W fun e w'=>e=.returned (.bool true)∧Below W.heap.size W w':=(by
    obtain ⟨l0,hl0,hC0,hc0,hb0⟩:=kz w0
    obtain ⟨l1,hl1,hC1,hc1,hb1⟩:=kz w1
    obtain ⟨l2,hl2,hC2,hc2,hb2⟩:=kz w2
    obtain ⟨l3,hl3,hC3,hc3,hb3⟩:=kz w3
    subst hl0
    subst hl1
    subst hl2
    subst hl3
    obtain ⟨k,hk⟩:=qX l0 l1 l2 l3 a4 hb0 hb1 hb2 hb3
    exact aC.calls k a0 cap0 l0 a1 cap1 l1 a2 cap2 l2 a3 cap3 l3 a4 true W hC0 hc0 hC1 hc1 hC2 hc2 hC3 hc3 hG hk)
  refine walk.mono fun e W' ⟨he,bel⟩=>?_
  subst he
  exact ⟨_,rfl,_,_,_,[],_,[],hW',trodAll_mk1 (shut_bool Tryz.underlying4 _),(trodAll_cons_mk (Below.trod laidOut (by kernel_rfl) (of_decide_eq_true (by kernel_rfl)) k0 bel lt0) (trodAll_cons_mk (Below.trod laidOut (by kernel_rfl) (of_decide_eq_true (by kernel_rfl)) k1 bel lt1) (trodAll_cons_mk (Below.trod laidOut (by kernel_rfl) (of_decide_eq_true (by kernel_rfl)) k2 bel lt2) (trodAll_cons_mk (Below.trod laidOut (by kernel_rfl) (of_decide_eq_true (by kernel_rfl)) k3 bel lt3) (trodAll_cons_mk (shut_string Tryz.underlying9 y4) trodAll_mk0))))),rfl,bel.frame _,fun h=>by cases h⟩
theorem reads (os:Os) {H:Type} (enc:TypeId × Value→H):∃ places,DataW.whole enc Tryz.prog ((l6 os).forCall (fun _ _=>0) ⟨#[],#[.slice none 0 0,.slice none 0 0,.slice none 0 0,.slice none 0 0,.string ByteArray.empty],[]⟩).memory Tryz.f6.params.toList Rows.evalLogicSpec.vars false (#[.slice none 0 0,.slice none 0 0,.slice none 0 0,.slice none 0 0,.string ByteArray.empty]:Array Value).toList 8=some ([.nil,.nil,.nil,.nil,.lit (.string [])],[],places) :=
  ⟨[],by kernel_rfl⟩
set_option maxRecDepth 100000 in
theorem lifted (os:Os) (started:os.Started) (H:Type) (enc:TypeId × Value→H) (F:Stop.Interp) :
    ReturnsInHanded {} Tryz.checked os 6 .any ((OpenSpec.ofChange Rows.evalLogicSpec).preRow enc Tryz.prog Tryz.f6 Rows.evalLogicRow.domain false Rows.evalLogicRow.laid) (((OpenSpec.ofChange Rows.evalLogicSpec).at F).post enc Tryz.prog Tryz.f6 false true false false):=by
  obtain ⟨places,hx⟩:=reads os enc
  refine returnsInHanded_of_row (C:=Tryz.checked) (s:=OpenSpec.ofChange Rows.evalLogicSpec) own started (by kernel_rfl) Tryz.func6
    (witness_row_at (enc:=enc) (C:=Tryz.checked) false (l6 os) #[.slice none 0 0,.slice none 0 0,.slice none 0 0,.slice none 0 0,.string ByteArray.empty] (World.laidAll_os _ _ _) (by kernel_rfl) (by kernel_rfl) (by kernel_rfl)
      (OpenSpec.preRow_of_cond 8 hx (by kernel_rfl) (fun k hk=>by cases hk) (by kernel_rfl) (uS os _))) ?_
  intro W base args ds gs before hval hW _ _ hsz hL hsh _
  exact contract H enc W base args ds gs before hval hW hsz (yj hL hsh)
theorem said:Rows.EvalLogicSaid :=
  OpenClaim.holds_of_cond 6 Tryz.f6 rfl rfl rfl rfl rfl rfl rfl ⟨rfl,rfl,rfl,rfl,rfl⟩ rfl rfl rfl rfl rfl (by kernel_rfl) Tryz.func6 (by kernel_rfl)
    (of_decide_eq_true (by kernel_rfl)) (by unfold Func.isWrapper;first|(rw [if_pos (by decide +kernel)];kernel_rfl)|(rw [if_neg (by decide +kernel)];exact ⟨rfl,rfl⟩))
    (fun os started H enc _ F=>by rw [OpenClaim.pre_eq_preRow];exact lifted os started H enc F)
theorem plain (f:FuncId) (fn:Func) (hf:Tryz.pinned.checked.prog.funcNamed "brook/brooklaw7.EvalLogic" = some f) (hfn:Tryz.pinned.checked.prog.funcs[f]?=some fn) :
    true=Tryz.pinned.checked.prog.looks []∧∀ (j:Nat) t,fn.params[j]?=some t→Tryz.pinned.checked.prog.wantsStandIn t=false:=by
  obtain rfl:f=6:=Option.some.inj ((show Tryz.prog.funcNamed "brook/brooklaw7.EvalLogic" = some 6 by kernel_rfl).symm.trans hf) |>.symm
  obtain rfl:fn=Tryz.f6:=(Option.some.inj (Tryz.func6.symm.trans hfn)).symm
  refine ⟨by kernel_rfl,fun j t ht=>?_⟩
  rw [Tryz.params6] at ht
  have hm:t ∈ [34,34,34,34,9]:=by simpa using Array.mem_of_getElem? ht
  have hall:([34,34,34,34,9].all fun u=>!Tryz.prog.wantsStandIn u)=true:=by kernel_rfl
  exact (show Tryz.prog.wantsStandIn t=false by simpa using List.all_eq_true.1 hall t hm)
theorem card:Rows.EvalLogicCardSaid :=
  Claim7.holds_tied_plain_at .later [] _ _ _ _ said (fun _ h=>by cases h) (by kernel_rfl) (fun _ h=>by cases h) evalLogic_row_tie rfl ⟨rfl,rfl⟩ (by kernel_rfl) rfl plain (by kernel_rfl)
#print axioms card
end Go.Proofs.YthfpaoacjpjnfaaGreatDoor.evalLogic
namespace Go.Proofs.YthfpaoacjpjnfaaGreatDoor
theorem evalLogic_card:Rows.EvalLogicCardSaid:=evalLogic.card
end Go.Proofs.YthfpaoacjpjnfaaGreatDoor
