/- Part 5 of 7 of the proof. See the last part. -/
import Derived.Test.YthfpaoacjpjnfaaGreatDoorMELogic2
import Derived.Test.YthfpaoacjpjnfaaGreatDoorMELogic4
set_option linter.unusedVariables false
set_option linter.unusedSimpArgs false
namespace Go.Proofs.YthfpaoacjpjnfaaGreatDoor.P
open Go.RowKit Go.Proofs.YthfpaoacjpjnfaaGreatDoorW.PrintWords Go.Proofs.YthfpaoacjpjnfaaGreatDoorW.PrintLast Go.Proofs.YthfpaoacjpjnfaaGreatDoorW.PrintMore
attribute [local go_sem] dW dZ eP eQ dL dM dY dX
mutual
def aA.j1:Nat→List Int→Option (ByteArray × (List (S45)))
 | 0,_=>none
 | k+1,x3=>if 0 < (x3.length:Int) then ((bF.f (Int.tmod (rd x3 0) 6)).bind fun t121=>(if 1+t121.size≤9223372036854775807 then ((bY.f ((⟨#[110]⟩:ByteArray)++t121)).bind fun bt122=>(if 1 < (x3.length:Int) then (if (Int.tmod (rd x3 1) 3)=0 then (if 1 < (bt122.2.length:Int) then ((some (bt122.2.set (1:Int).toNat (⟨(bZ bt122.2 1).f0,(([(⟨#[105,110,101,116,79,114,103,80,101,114,115,111,110]⟩:ByteArray)]:List ByteArray))⟩:S45):List (S45))).bind fun y131=>(if 2 < (x3.length:Int) then ((bF.f (rd x3 2)).bind fun t133=>(if 2+t133.size≤9223372036854775807 then (if y131.length < 3518437208883 then (aA.j2 k x3 ((⟨#[110]⟩:ByteArray)++t121) bt122.1 (y131++[(⟨(⟨#[109,97,105,108]⟩:ByteArray),(([(⟨#[97,64]⟩:ByteArray)++t133]:List ByteArray))⟩:S45)])) else (none)) else (none))) else (none))) else (none)) else (aA.j2 k x3 ((⟨#[110]⟩:ByteArray)++t121) bt122.1 bt122.2)) else (none))) else (none))) else (none)
def aA.j2:Nat→List Int→ByteArray→ByteArray→List (S45)→Option (ByteArray × (List (S45)))
 | 0,_,_,_,_=>none
 | k+1,x3,x5,x127000,x127001=>if 1 < (x3.length:Int) then (if (Int.tmod (rd x3 1) 3)=1 then (if 2 < (x3.length:Int) then ((bF.f (Int.tmod (rd x3 2) 9)).bind fun t142=>(if 2+t142.size≤9223372036854775807 then (if x127001.length < 3518437208883 then (aA.j3 k x3 x5 x127000 (x127001++[(⟨(⟨#[68,101,115,99,114,105,112,116,105,111,110]⟩:ByteArray),(([(⟨#[100,32]⟩:ByteArray)++t142,(⟨#[101]⟩:ByteArray)]:List ByteArray))⟩:S45)])) else (none)) else (none))) else (none)) else (aA.j3 k x3 x5 x127000 x127001)) else (none)
def aA.j3:Nat→List Int→ByteArray→ByteArray→List (S45)→Option (ByteArray × (List (S45)))
 | 0,_,_,_,_=>none
 | k+1,x3,x5,x127000,x127001=>if 3 < (x3.length:Int) then (if (Int.tmod (rd x3 3) 4)=0 then (if (bZ x127001 1).f1.length≤1000 then (if 1 < (x127001.length:Int) then ((some (x127001.set (1:Int).toNat (⟨(bZ x127001 1).f0,((bZ x127001 1).f1++[(⟨#[112,111,115,105,120]⟩:ByteArray)]:List ByteArray)⟩:S45):List (S45))).bind fun y153=>(if 4 < (x3.length:Int) then ((bF.f (Int.tmod (rd x3 4) 9)).bind fun t155=>(if 1+t155.size≤9223372036854775807 then ((bF.f (wrap64 ((rd x3 4) - 100))).bind fun t160=>((some (([(⟨(⟨#[117,105,100]⟩:ByteArray),(([(⟨#[117]⟩:ByteArray)++t155]:List ByteArray))⟩:S45),(⟨(⟨#[117,105,100,78,117,109,98,101,114]⟩:ByteArray),(([t160]:List ByteArray))⟩:S45)]:List (S45)):List (S45))).bind fun y164=>(if y153.length+y164.length < 3518437208883 then (aA.j4 k x3 x5 x127000 (y153++y164)) else (none)))) else (none))) else (none))) else (none)) else (none)) else (aA.j4 k x3 x5 x127000 x127001)) else (none)
def aA.j4:Nat→List Int→ByteArray→ByteArray→List (S45)→Option (ByteArray × (List (S45)))
 | 0,_,_,_,_=>none
 | k+1,x3,x5,x127000,x127001=>if 3 < (x3.length:Int) then (if (Int.tmod (rd x3 3) 4)=1 then (if x127001.length < 3518437208883 then (aA.j5 k x3 x5 x127000 (x127001++[(⟨(⟨#[117,115,101,114,80,97,115,115,119,111,114,100]⟩:ByteArray),(([(⟨#[115,101,99,114,101,116]⟩:ByteArray)]:List ByteArray))⟩:S45)])) else (none)) else (aA.j5 k x3 x5 x127000 x127001)) else (none)
def aA.j5:Nat→List Int→ByteArray→ByteArray→List (S45)→Option (ByteArray × (List (S45)))
 | 0,_,_,_,_=>none
 | k+1,x3,x5,x127000,x127001=>if 5 < (x3.length:Int) then (if (Int.tmod (rd x3 5) 5)=0 then (if 3+x5.size≤9223372036854775807 then (some ((⟨#[99,110,61]⟩:ByteArray)++x5,x127001)) else (none)) else (if (Int.tmod (rd x3 5) 5)=1 then (if 3+x5.size≤9223372036854775807 then (if ((⟨#[67,78,61]⟩:ByteArray)++x5).size+9≤9223372036854775807 then (some (((⟨#[67,78,61]⟩:ByteArray)++x5)++(⟨#[44,111,117,61,97,44,111,61,120]⟩:ByteArray),x127001)) else (none)) else (none)) else (some (x127000,x127001)))) else (none)
def aA.l0:Nat→List Int→List Int→Int→Option (ByteArray × (List (S45)))
 | 0,_,_,_=>none
 | k+1,x0,x3,x4=>if x4 < 8 then (if x4 < (x0.length:Int) then (if 0≤x4 then (if x4 < (x3.length:Int) then (aA.l0 k x0 (x3.set (x4:Int).toNat (wrap64 (rd x0 x4))) (wrap64 (x4+1))) else (none)) else (none)) else (aA.j1 k x3)) else (aA.j1 k x3)
end
def aA.f (k:Nat) (l0:List Int):Option (ByteArray × (List (S45))):=if 8≤35184372088832 then (aA.l0 k l0 (List.replicate 8 0) 0) else (none)
def aA.T10:Bool × List (List Nat × List Nat):=(true,[([],[]),([0],[0]),([],[]),([2],[2]),([3],[3]),([4],[4]),([5],[5]),([6],[6]),([7],[7]),([8],[8]),([1,9,5],[1,9]),([0,1,2,3,4,5,6,7,8,9,10],[]),([11,10,10,0,1,2,3,4,5,6,7,8,9,10],[10,11])])
def aA.B10:List Nat:=[0,1,0,4,12,28,60,124,252,508,1023,2047,4095]
theorem aA.tab10:ik .any (opsOf Tryz.f17 10)=aA.T10:=by kernel_rfl
theorem aA.bits10:gW aA.T10.2 aA.B10=true:=by kernel_rfl
def aA.T12:Bool × List (List Nat × List Nat):=(true,[([],[]),([0],[0]),([],[]),([2],[2]),([3],[3]),([4],[4]),([5],[5]),([6],[6]),([7],[7]),([8],[8]),([9],[9]),([1,10,6],[1,10]),([0,1,2,3,4,5,6,7,8,9,10,11],[]),([12,11,11,0,1,2,3,4,5,6,7,8,9,10,11],[11,12])])
def aA.B12:List Nat:=[0,1,0,4,12,28,60,124,252,508,1020,2047,4095,8191]
theorem aA.tab12:ik .any (opsOf Tryz.f17 12)=aA.T12:=by kernel_rfl
theorem aA.bits12:gW aA.T12.2 aA.B12=true:=by kernel_rfl
def aA.T14:Bool × List (List Nat × List Nat):=(true,[([],[]),([0],[0]),([],[]),([2],[2]),([3],[3]),([4],[4]),([5],[5]),([],[]),([6,7],[6,7]),([1,0,1,2,3,4,5,6,7,8],[1]),([9,0,1,2,3,4,5,6,7,8],[9]),([10,8,8,0,1,2,3,4,5,6,7,8],[8,10])])
def aA.B14:List Nat:=[0,1,0,4,12,28,60,0,252,511,1023,2047]
theorem aA.tab14:ik .any (opsOf Tryz.f17 14)=aA.T14:=by kernel_rfl
theorem aA.bits14:gW aA.T14.2 aA.B14=true:=by kernel_rfl
def aA.T15:Bool × List (List Nat × List Nat):=(true,[([],[]),([0],[0]),([],[]),([2],[2]),([3],[3]),([4],[4]),([5],[5]),([6],[6]),([7],[7]),([8],[8]),([],[]),([10],[10]),([11],[11]),([12],[12]),([13,6],[13]),([14],[14]),([15],[15]),([9,16],[9,16]),([1,17,14],[1,17]),([0,1,2,3,4,5,6,7,8,9,10,11,12,13,14,15,16,17,18],[]),([19,18,18,0,1,2,3,4,5,6,7,8,9,10,11,12,13,14,15,16,17,18],[18,19])])
def aA.B15:List Nat:=[0,1,0,4,12,28,60,124,252,508,0,1024,3072,7168,15484,31868,64636,131068,262143,524287,1048575]
theorem aA.tab15:ik .any (opsOf Tryz.f17 15)=aA.T15:=by kernel_rfl
theorem aA.bits15:gW aA.T15.2 aA.B15=true:=by kernel_rfl
set_option maxHeartbeats 8000000 in
set_option maxRecDepth 100000 in
theorem aA.calls (k:Nat) (A0:Option Addr) (c0:Nat) (l0:List Int) (r1:ByteArray) (r2:List (S45)) (w:World) (hr0:Kd.C (Kd.int .u8) w A0 l0.length l0) (hc0:l0.length≤c0) (h:aA.f k l0=some (r1,r2)) :
  Calls Tryz.prog 17 #[.slice A0 l0.length c0] w fun e w'=>∃ v1_:Value,e=.returned (.agg #[.string r1,v1_])∧Kd.N k45 45 w' w.heap.size (fun k_=>(w.heap.size≤k_)) v1_ r2∧Below w.heap.size w w':=by
 have hu28:=Tryz.underlying28
 have hu45:=Tryz.underlying45
 have HR0:=aa.mk hr0
 have HC0:=aa.mk hc0
 clear hr0 hc0
 have HB:=aa.mk (Below.refl w.heap.size w)
 have H:(if 8≤35184372088832 then (aA.l0 k l0 (List.replicate 8 0) 0) else (none))=some (r1,r2):=h
 clear h
 by_cases c2:8≤35184372088832
 ·rw [if_pos c2] at H
  have c2b0:=eq_true c2
  have c2b1:decide (8≤35184372088832)=true:=decide_eq_true c2
  clear c2
  obtain ⟨y115,hy115⟩:∃ y_:List Int,y_=(List.replicate 8 0):=⟨_,rfl⟩
  replace H:(aA.l0 k l0 y115 0)=some (r1,r2):=by first|(rw [hy115];with_reducible exact H)|(have H2_:=(Option.bind_some _ _).symm.trans H;rw [hy115];with_reducible exact H2_)|(have H2_:=(Option.bind_some _ _).symm.trans H;with_reducible exact H2_)|with_reducible exact H|(rw [hy115];exact H)|exact H
  have Ny115:=aa.mk hy115
  clear hy115
  have HC3:=aa.mk H
  clear H
  go_enter Tryz.func17,Tryz.ntmps17
  go_upto_block 0 with (first|((with_reducible refine bS (N:=2) rfl ?_);(try (refine eU (by rfl) ?_;dsimp only));refine eu ?hg (N:=2) ?hd (cs:=#[.string (⟨#[]⟩:ByteArray),.slice none 0 0]) (t:=28) ?hr ?_;(case hd=>rfl);(case hg=>rfl);(case hr=>first|(go_simp;done)|(go_simp;rfl));intro gb114 hg w4 hbox hb;have n0_:=aa.mk (aD (by repeat (first|(with_reducible first|exact HB.out|apply af|apply ae|apply ag)|exact HB.out)) hb);have n1_:=aa.mk (hbox);have n2_:=aa.mk ((by rw [hg];exact (aG (by repeat (first|(with_reducible first|exact HB.out|apply af|apply ae|apply ag)|exact HB.out))):w.heap.size≤gb114));have n3_:=aa.mk ((by rw [hg];exact (aG (by repeat (first|(with_reducible first|exact HB.out|apply af|apply ae|apply ag)|exact HB.out))):w.heap.size≤gb114));clear HB;have HB:=n0_;have BK114:=n1_;have GW114:=n2_;have GE114:=n3_;clear n0_ n1_ n2_ n3_;clear hb hbox hg)|((with_reducible refine bS (N:=7) rfl ?_);(try (refine eU (by rfl) ?_;dsimp only));refine Kd.xx (Kd.int .i64) _ 3 rfl (N:=7) rfl 41 _ _ rfl 8 rfl rfl Tryz.underlying41 (.int .i64 0) 8 info3 rfl (by decide) (by omega) 0 (ok:=fun _=>True) (okp:=fun _=>True) rfl (fun _ hk=>hk) trivial (by omega) (by omega) (Below.refl _ _) (Nat.le_refl _) ?_;intro v116 w5 ho6 hb hg_ hnew_;clear hg_ hnew_;(first|rw [← Ny115.out] at ho6|(simp only [Int.reduceToNat] at ho6;rw [← Ny115.out] at ho6));have n0_:=aa.mk (Kd.dN (Kd.fu (M:=fun k_=>(w.heap.size≤k_)) ho6 (aG (by repeat (first|(with_reducible first|exact HB.out|apply af|apply ae|apply ag|refine ah ?_ GE114.out)|exact HB.out))) (fun k_ h_=>h_)) (aG (by repeat (first|(with_reducible first|exact HB.out|apply af|apply ae|apply ag|refine ah ?_ GE114.out)|exact HB.out))));have n1_:=aa.mk (aI (g:=gb114) (o:=.cells #[.string (⟨#[]⟩:ByteArray),.slice none 0 0] 28 (0,0)) (by (with_reducible repeat (first|refine au ?_ _|refine av ?_|refine ak ?_ _));exact BK114.out) hb);have n2_:=aa.mk (aD (by repeat (first|(with_reducible first|exact HB.out|apply af|apply ae|apply ag|refine ah ?_ GE114.out)|exact HB.out)) hb);clear BK114;clear HB;have HO117:=n0_;have BK114:=n1_;have HB:=n2_;clear n0_ n1_ n2_;clear hb ho6))
  (try simp only [Act.put,List.setIfInBounds_toArray,List.set_cons_zero,List.set_cons_succ])
  go_cut [] (fun wc=>∃ (kq:Nat) (x3_2:List Int),aa (aA.j1 kq x3_2=some (r1,r2))∧aa (kq≤k)∧aa (Kd.R (Kd.int .i64) 3 wc w.heap.size (fun k_=>(w.heap.size≤k_)) v116 x3_2)∧aa (wc.heap[gb114]?=some (.cells #[.string (⟨#[]⟩:ByteArray),(.slice none 0 0)] 28 (0,0)))∧aa (Below w.heap.size w wc))
  case first =>
   have H:=HC3.out
   clear HC3
   have H':=aa.mk H
   clear H
   go_wp2
   go_loopg [4] k (fun kq v4 w'=>∃ (x3_1:List Int) (x4_1:Int),v4=.int .i64 x4_1∧aa (aA.l0 kq l0 x3_1 x4_1=some (r1,r2))∧aa (kq≤k)∧aa (Kd.R (Kd.int .i64) 3 w' w.heap.size (fun k_=>(w.heap.size≤k_)) v116 x3_1)∧aa (w'.heap[gb114]?=some (.cells #[.string (⟨#[]⟩:ByteArray),(.slice none 0 0)] 28 (0,0)))∧aa (Below w.heap.size w w'))
   case atStart=>exact ⟨(y115),(0),(by first|rfl|(simp;done)|(simp [*];done)|(simp [*,aT,aU,bU];done)|(simp only [ay,ax];done)|(simp only [ay,ax];simp;done)|(simp only [ay,ax];simp [*];done)),H',⟨Nat.le_refl _⟩,⟨by (with_reducible repeat (first|apply Kd.bz|apply Kd.bq|apply Kd.bB));exact Kd.bX HO117.out (fun _ hk=>hk.1)⟩,⟨by (with_reducible repeat (first|refine au ?_ _|refine av ?_|refine ak ?_ _));exact BK114.out⟩,⟨by repeat (first|(with_reducible first|exact HB.out|apply af|apply ae|apply ag|refine ah ?_ GE114.out)|exact HB.out)⟩⟩
   case round =>
    clear H'
    try clear c1
    try clear c2
    try clear c2b0
    try clear c2b1
    try clear p2
    obtain ⟨x3_1,x4_1,rfl,HA,HK1,HO_3,BK114,HB⟩:=hrel
    cases gk with
    | zero=>exact absurd HA.out (by simp [aA.l0])
    | succ k1 =>
     have H:=HA.out
     clear HA
     simp only [aA.l0] at H
     by_cases c7:x4_1 < 8
     ·rw [if_pos c7] at H
      have c7b0:decide (x4_1 < 8)=true:=decide_eq_true c7
      clear c7
      (first|rw [c7b0]|(simp only [aT,aU];rw [c7b0])|skip)
      by_cases c8:x4_1 < (l0.length:Int)
      ·rw [if_pos c8] at H
       have c8b0:decide (x4_1 < (l0.length:Int))=true:=decide_eq_true c8
       clear c8
       by_cases c9:0≤x4_1
       ·rw [if_pos c9] at H
        have c9b0:decide (0≤x4_1)=true:=decide_eq_true c9
        clear c9
        by_cases c10:x4_1 < (x3_1.length:Int)
        ·rw [if_pos c10] at H
         have c10b0:decide (x4_1 < (x3_1.length:Int))=true:=decide_eq_true c10
         clear c10
         obtain ⟨y119,hy119⟩:∃ y_:List Int,y_=(x3_1.set (x4_1:Int).toNat (wrap64 (rd l0 x4_1))):=⟨_,rfl⟩
         replace H:(aA.l0 k1 l0 y119 (wrap64 (x4_1+1)))=some (r1,r2):=by first|(rw [hy119];with_reducible exact H)|(have H2_:=(Option.bind_some _ _).symm.trans H;rw [hy119];with_reducible exact H2_)|(have H2_:=(Option.bind_some _ _).symm.trans H;with_reducible exact H2_)|with_reducible exact H|(rw [hy119];exact H)|exact H
         have Ny119:=aa.mk hy119
         clear hy119
         have H':=aa.mk H
         clear H
         have p118:0≤(x4_1:Int):=of_decide_eq_true (by first|(with_reducible assumption)|assumption)
         have q118:x4_1 < (l0.length:Int):=of_decide_eq_true (by first|(with_reducible assumption)|assumption)
         obtain ⟨ad118,e118,hx118_0⟩:=Kd.fD HR0.out x4_1 p118 q118
         cases e118
         replace hx118_0:=(HB.out.cell (World.block_lt_of_cell? w _ hx118_0)).trans hx118_0
         replace p118:=eq_true p118
         replace q118:=eq_true q118
         have p11:0≤(x4_1:Int):=of_decide_eq_true (by first|(with_reducible assumption)|assumption)
         have q11:(x4_1:Int) < ((x3_1.length:Int):Int):=of_decide_eq_true (by first|(with_reducible assumption)|assumption)
         obtain ⟨go11,co11,eo11,gb11,gl11,cl11,HG11⟩:=Kd.uH HO_3.out (by omega)
         (first|cases eo11|(injection eo11 with ea_ en_ ec_;(first|subst ea_|(injection ea_ with ea_;subst ea_));subst ec_;clear en_))
         have GB11:=aa.mk gb11
         have GG11:=aa.mk HG11
         clear gb11 gl11 HG11
         obtain ⟨hx11_0,hf11_0⟩:=Kd.vZ 0 HO_3.out (x4_1:Int) p11 q11
         replace p11:=eq_true p11
         replace q11:=eq_true q11
         have HP12:=Kd.xw HO_3.out (x4_1:Int) (wrap64 (rd l0 x4_1))
         go_wp2_with (first|((with_reducible refine nV (t:=3) (p:=25) rfl ?_);refine mF (t:=3) (p:=25) (v:=?vo_w13) (w1:=(wr.setCell ⟨go11,(x4_1:Int).toNat,none⟩ (.int .i64 (wrap64 (rd l0 x4_1))))) ?hg ?ho ?hn ?hr ?_;(case ho=>rfl);(case hg=>rfl);(case hn=>rfl);(case hr=>first|(go_simp;done)|(go_simp;rfl));intro w13 hw;have hg:wr.grownBy w13 (some go11):=(by rw [hw];exact HP12.2);have hp_:Kd.R (Kd.int .i64) 3 w13 w.heap.size (fun k_=>(w.heap.size≤k_)) (.slice (some ⟨go11,0,none⟩) x3_1.length co11) y119:=(by rw [hw,Ny119.out];exact HP12.1);clear HP12;have n0_:=aa.mk (hp_);have n1_:=aa.mk (dH (g:=gb114) (o:=.cells #[.string (⟨#[]⟩:ByteArray),.slice none 0 0] 28 (0,0)) (by (with_reducible repeat (first|refine au ?_ _|refine av ?_|refine ak ?_ _));exact BK114.out) hg (Kd.mK HO_3.out BK114.out (by decide)));have n2_:=aa.mk ((by rw [hw];exact ah (HB.out) GB11.out:Below w.heap.size w w13));clear HO_3;clear BK114;clear HB;have HO_3:=n0_;have BK114:=n1_;have HB:=n2_;clear n0_ n1_ n2_;clear hg hw hp_))
         go_roundg k1
         case measure=>have:=HK1.out;omega
         case rel=>exact ⟨(y119),(wrap64 (x4_1+1)),(by first|rfl|(simp;done)|(simp [*];done)|(simp [*,aT,aU,bU];done)|(simp only [ay,ax];done)|(simp only [ay,ax];simp;done)|(simp only [ay,ax];simp [*];done)),H',⟨by have:=HK1.out;omega⟩,⟨by (with_reducible repeat (first|apply Kd.bz|apply Kd.bq|apply Kd.bB));exact HO_3.out⟩,⟨by (with_reducible repeat (first|refine au ?_ _|refine av ?_|refine ak ?_ _));exact BK114.out⟩,⟨by repeat (first|(with_reducible first|exact HB.out|apply af|apply ae|apply ag|refine ah ?_ GE114.out)|exact HB.out)⟩⟩
        ·rw [if_neg c10] at H
         exact absurd H (by simp)
       ·rw [if_neg c9] at H
        exact absurd H (by simp)
      ·rw [if_neg c8] at H
       have c8b0:decide (x4_1 < (l0.length:Int))=false:=decide_eq_false c8
       clear c8
       have H':=aa.mk H
       clear H
       go_wp2
       go_meet
       case rel=>exact ⟨_,(x3_1),H',⟨by have:=HK1.out;first|omega|exact Nat.le_refl _⟩,⟨by (with_reducible repeat (first|apply Kd.bz|apply Kd.bq|apply Kd.bB));exact HO_3.out⟩,⟨by (with_reducible repeat (first|refine au ?_ _|refine av ?_|refine ak ?_ _));exact BK114.out⟩,⟨by repeat (first|(with_reducible first|exact HB.out|apply af|apply ae|apply ag|refine ah ?_ GE114.out)|exact HB.out)⟩⟩
     ·rw [if_neg c7] at H
      have c7b0:decide (x4_1 < 8)=false:=decide_eq_false c7
      clear c7
      (first|rw [c7b0]|(simp only [aT,aU];rw [c7b0])|skip)
      have H':=aa.mk H
      clear H
      go_wp2
      go_meet
      case rel=>exact ⟨_,(x3_1),H',⟨by have:=HK1.out;first|omega|exact Nat.le_refl _⟩,⟨by (with_reducible repeat (first|apply Kd.bz|apply Kd.bq|apply Kd.bB));exact HO_3.out⟩,⟨by (with_reducible repeat (first|refine au ?_ _|refine av ?_|refine ak ?_ _));exact BK114.out⟩,⟨by repeat (first|(with_reducible first|exact HB.out|apply af|apply ae|apply ag|refine ah ?_ GE114.out)|exact HB.out)⟩⟩
  case rest =>
   clear HC3
   try clear c1
   try clear p1
   try clear q1
   try clear hx1
   try clear hf1
   try clear c2
   try clear c2b0
   try clear c2b1
   try clear p2
   try clear p6
   try clear c7
   try clear c7b0
   try clear c8
   try clear c8b0
   try clear c9
   try clear c9b0
   try clear c10
   try clear c10b0
   try clear p11
   try clear q11
   try clear hx11
   try clear hf11
   try clear hx118_0
   try clear hx11_0
   try clear p11
   try clear p118
   try clear p2
   try clear q11
   try clear q118
   obtain ⟨kq,x3_2,HA,HJ2,HO_3,BK114,HB⟩:=hcut
   cases kq with
   | zero=>exact absurd HA.out (by simp [aA.j1])
   | succ kj2 =>
    have H:=HA.out
    clear HA
    simp only [aA.j1] at H
    by_cases c14:0 < (x3_2.length:Int)
    ·rw [if_pos c14] at H
     have c14b0:decide (0 < (x3_2.length:Int))=true:=decide_eq_true c14
     have c14b1:decide (0 < x3_2.length)=true:=decide_eq_true (by omega)
     clear c14
     replace H:=Option.bind_eq_some_iff.mp H
     obtain ⟨t121,A150,H⟩:=H
     replace H:(if 1+t121.size≤9223372036854775807 then ((bY.f ((⟨#[110]⟩:ByteArray)++t121)).bind fun bt122=>(if 1 < (x3_2.length:Int) then (if (Int.tmod (rd x3_2 1) 3)=0 then (if 1 < (bt122.2.length:Int) then ((some (bt122.2.set (1:Int).toNat (⟨(bZ bt122.2 1).f0,(([(⟨#[105,110,101,116,79,114,103,80,101,114,115,111,110]⟩:ByteArray)]:List ByteArray))⟩:S45):List (S45))).bind fun y131=>(if 2 < (x3_2.length:Int) then ((bF.f (rd x3_2 2)).bind fun t133=>(if 2+t133.size≤9223372036854775807 then (if y131.length < 3518437208883 then (aA.j2 kj2 x3_2 ((⟨#[110]⟩:ByteArray)++t121) bt122.1 (y131++[(⟨(⟨#[109,97,105,108]⟩:ByteArray),(([(⟨#[97,64]⟩:ByteArray)++t133]:List ByteArray))⟩:S45)])) else (none)) else (none))) else (none))) else (none)) else (aA.j2 kj2 x3_2 ((⟨#[110]⟩:ByteArray)++t121) bt122.1 bt122.2)) else (none))) else (none))=some (r1,r2):=H
     have A15:=aa.mk A150
     clear A150
     by_cases c16:1+t121.size≤9223372036854775807
     ·rw [if_pos c16] at H
      have c16b0:=eq_true c16
      have c16b1:decide (1+t121.size≤9223372036854775807)=true:=decide_eq_true c16
      try have c16b2:(9223372036854775807 < 1+t121.size)=False:=eq_false (Nat.not_lt.2 c16)
      replace H:=Option.bind_eq_some_iff.mp H
      obtain ⟨⟨t122,t123⟩,A170,H⟩:=H
      replace H:(if 1 < (x3_2.length:Int) then (if (Int.tmod (rd x3_2 1) 3)=0 then (if 1 < (t123.length:Int) then ((some (t123.set (1:Int).toNat (⟨(bZ t123 1).f0,(([(⟨#[105,110,101,116,79,114,103,80,101,114,115,111,110]⟩:ByteArray)]:List ByteArray))⟩:S45):List (S45))).bind fun y131=>(if 2 < (x3_2.length:Int) then ((bF.f (rd x3_2 2)).bind fun t133=>(if 2+t133.size≤9223372036854775807 then (if y131.length < 3518437208883 then (aA.j2 kj2 x3_2 ((⟨#[110]⟩:ByteArray)++t121) t122 (y131++[(⟨(⟨#[109,97,105,108]⟩:ByteArray),(([(⟨#[97,64]⟩:ByteArray)++t133]:List ByteArray))⟩:S45)])) else (none)) else (none))) else (none))) else (none)) else (aA.j2 kj2 x3_2 ((⟨#[110]⟩:ByteArray)++t121) t122 t123)) else (none))=some (r1,r2):=H
      have A17:=aa.mk A170
      clear A170
      by_cases c18:1 < (x3_2.length:Int)
      ·rw [if_pos c18] at H
       have c18b0:decide (1 < (x3_2.length:Int))=true:=decide_eq_true c18
       have c18b1:decide (1 < x3_2.length)=true:=decide_eq_true (by omega)
       clear c18
       have HC19:=aa.mk H
       clear H
       obtain ⟨Ao20,co20,eo20⟩:=Kd.cO HO_3.out
       subst eo20
       have p120:0≤(0:Int):=(by omega)
       have q120:0 < (x3_2.length:Int):=of_decide_eq_true (by first|(with_reducible assumption)|assumption)
       obtain ⟨ad120,e120,hx120_0⟩:=Kd.fD (Kd.bL HO_3.out).2.2 0 p120 q120
       cases e120
       have qi120:(0 < x3_2.length)=True:=eq_true (by omega)
       (try rw [show ((0:Int)).toNat=0 from rfl] at hx120_0)
       (try rw [Addr.add_zero'] at hx120_0)
       replace p120:=eq_true p120
       replace q120:=eq_true q120
       go_upto_if 38 with (first|((with_reducible refine aV (f:=23) rfl ?_);refine bJ (some 30) rfl rfl Tryz.func23 (by kernel_rfl) rfl #[.int .i64 (Int.tmod (rd x3_2 0) 6)] rfl (by (try simp only [List.map_toArray,List.map_cons,List.map_nil]);first|done|rfl|(simp only [List.length_drop,List.length_take];rfl)) ?_;(with_reducible refine (bF.calls (Int.tmod (rd x3_2 0) 6) t121 _ A15.out).mono ?_);rintro e w21 ⟨rfl,hb⟩;refine ⟨_,rfl,?_⟩;have n0_:=aa.mk (Kd.bR (by (with_reducible repeat (first|apply Kd.bz|apply Kd.bq|apply Kd.bB));exact HO_3.out) hb);have n1_:=aa.mk (aI (g:=gb114) (o:=.cells #[.string (⟨#[]⟩:ByteArray),.slice none 0 0] 28 (0,0)) (by (with_reducible repeat (first|refine au ?_ _|refine av ?_|refine ak ?_ _));exact BK114.out) hb);have n2_:=aa.mk (aD (by repeat (first|(with_reducible first|exact HB.out|apply af|apply ae|apply ag|refine ah ?_ GE114.out)|exact HB.out)) hb);clear HO_3;clear BK114;clear HB;have HO_3:=n0_;have BK114:=n1_;have HB:=n2_;clear n0_ n1_ n2_;(try clear hb);(try clear hb2);(try clear hk);(try clear hi))|((with_reducible refine aV (f:=29) rfl ?_);refine bJ (some 33) rfl rfl Tryz.func29 (by kernel_rfl) rfl #[.string ((⟨#[110]⟩:ByteArray)++t121)] rfl (by (try simp only [List.map_toArray,List.map_cons,List.map_nil]);first|done|rfl|(simp only [List.length_drop,List.length_take];rfl)) ?_;(with_reducible refine (bY.callsT ((⟨#[110]⟩:ByteArray)++t121) t122 t123 _ A17.out).mono ?_);rintro e w22 ⟨v124,rfl,ho0,hb⟩;refine ⟨_,rfl,?_⟩;have n0_:=aa.mk (Kd.bR (by (with_reducible repeat (first|apply Kd.bz|apply Kd.bq|apply Kd.bB));exact HO_3.out) hb);have n1_:=aa.mk (Kd.fw (Kd.bH (ok':=fun k_=>(w.heap.size≤k_)∧some k_≠(.slice (some ad120) x3_2.length co20:Value).ownBlock∧k_≠gb114) ho0 (fun k_ hk_=>⟨(Nat.le_trans (aG (by repeat (first|(with_reducible first|exact HB.out|apply af|apply ae|apply ag|refine ah ?_ GE114.out)|exact HB.out))) hk_),(Kd.fresh' (Kd.iD (by (with_reducible repeat (first|apply Kd.bz|apply Kd.bq|apply Kd.bB));exact HO_3.out)) k_ hk_),(Kd.dC (g:=gb114) (o:=.cells #[.string (⟨#[]⟩:ByteArray),.slice none 0 0] 28 (0,0)) (by (with_reducible repeat (first|refine au ?_ _|refine av ?_|refine ak ?_ _));exact BK114.out) k_ hk_)⟩)) (aG (by repeat (first|(with_reducible first|exact HB.out|apply af|apply ae|apply ag|refine ah ?_ GE114.out)|exact HB.out))));have n2_:=aa.mk (aI (g:=gb114) (o:=.cells #[.string (⟨#[]⟩:ByteArray),.slice none 0 0] 28 (0,0)) (by (with_reducible repeat (first|refine au ?_ _|refine av ?_|refine ak ?_ _));exact BK114.out) hb);have n3_:=aa.mk (aD (by repeat (first|(with_reducible first|exact HB.out|apply af|apply ae|apply ag|refine ah ?_ GE114.out)|exact HB.out)) hb);clear HO_3;clear BK114;clear HB;have HO_3:=n0_;have HO125:=n1_;have BK114:=n2_;have HB:=n3_;clear n0_ n1_ n2_ n3_;(try clear hb);(try clear hb2);(try clear hk);(try clear hi);(try clear ho0))|((with_reducible refine bS (N:=6) rfl ?_);(try (refine eU (by rfl) ?_;dsimp only));refine eu ?hg (N:=6) ?hd (cs:=#[.string (⟨#[]⟩:ByteArray),.slice none 0 0]) (t:=28) ?hr ?_;(case hd=>rfl);(case hg=>rfl);(case hr=>first|(go_simp;done)|(go_simp;rfl));intro gb126 hg w23 hbox hb;have n0_:=aa.mk (Kd.bR (by (with_reducible repeat (first|apply Kd.bz|apply Kd.bq|apply Kd.bB));exact HO_3.out) hb);have n1_:=aa.mk (Kd.df (Kd.qc (by (with_reducible repeat (first|apply Kd.aZ|apply Kd.aY|apply Kd.bn));exact HO125.out) gb126 (Nat.le_of_eq hg.symm)) hb);have n2_:=aa.mk (aI (g:=gb114) (o:=.cells #[.string (⟨#[]⟩:ByteArray),.slice none 0 0] 28 (0,0)) (by (with_reducible repeat (first|refine au ?_ _|refine av ?_|refine ak ?_ _));exact BK114.out) hb);have n3_:=aa.mk (aD (by repeat (first|(with_reducible first|exact HB.out|apply af|apply ae|apply ag|refine ah ?_ GE114.out)|exact HB.out)) hb);have n4_:=aa.mk (hbox);have n5_:=aa.mk ((by rw [hg];exact (aG (by repeat (first|(with_reducible first|exact HB.out|apply af|apply ae|apply ag|refine ah ?_ GE114.out)|exact HB.out))):w.heap.size≤gb126));have n6_:=aa.mk ((by rw [hg];exact (aG (by repeat (first|(with_reducible first|exact HB.out|apply af|apply ae|apply ag|refine ah ?_ GE114.out)|exact HB.out))):w.heap.size≤gb126));have n7_:=aa.mk ((by rw [hg];exact Nat.ne_of_lt (fO (g:=gb114) (o:=.cells #[.string (⟨#[]⟩:ByteArray),.slice none 0 0] 28 (0,0)) (by (with_reducible repeat (first|refine au ?_ _|refine av ?_|refine ak ?_ _));exact BK114.out)):gb114≠gb126));have n8_:=aa.mk ((by rw [hg];exact Nat.ne_of_gt (fO (g:=gb114) (o:=.cells #[.string (⟨#[]⟩:ByteArray),.slice none 0 0] 28 (0,0)) (by (with_reducible repeat (first|refine au ?_ _|refine av ?_|refine ak ?_ _));exact BK114.out)):gb126≠gb114));clear HO_3;clear HO125;clear BK114;clear HB;have HO_3:=n0_;have HO125:=n1_;have BK114:=n2_;have HB:=n3_;have BK126:=n4_;have GW126:=n5_;have GE126:=n6_;have NB114_126:=n7_;have NB126_114:=n8_;clear n0_ n1_ n2_ n3_ n4_ n5_ n6_ n7_ n8_;clear hb hbox hg;have hnb24:=NB126_114.out;have hnc24:=NB114_126.out;have hcz25_0:w23.cell? ⟨gb126,0,none⟩=some (.string (⟨#[]⟩:ByteArray)):=(aj BK126.out 0).trans rfl;have hcz25_1:w23.cell? ⟨gb126,1,none⟩=some (.slice none 0 0):=(aj BK126.out 1).trans rfl;have hfz25_0:=ai BK126.out 0;have hfz25_1:=ai BK126.out 1;obtain ⟨Ao26,co26,eo26⟩:=Kd.dR HO125.out;subst eo26;have p127:0≤(1:Int):=(by omega);have q127:1 < (x3_2.length:Int):=of_decide_eq_true (by first|(with_reducible assumption)|assumption);obtain ⟨ad127,e127,hx127_0⟩:=Kd.fD (Kd.bL HO_3.out).2.2 1 p127 q127;obtain rfl:ad120=ad127:=(by injection e127);(try simp only [show (1:Int).toNat=1 from rfl,Nat.reduceMul,Nat.reduceEqDiff,Go.Addr.add,↓reduceIte] at hx127_0);have qi127:(1 < x3_2.length)=True:=eq_true (by omega);(try rw [show ((1:Int)).toNat=1 from rfl] at hx127_0);have hn127_0:ad120.block≠gb126:=Kd.pG (Kd.mK HO_3.out BK126.out (by decide));have hn127_1:ad120.block≠gb126:=Kd.pG (Kd.mK HO_3.out BK126.out (by decide));replace hx127_0:=(cell_far (p:=⟨gb126,0,none⟩) (by first|(rw [add_block];exact hn127_0)|(show (Addr.add _ _).block≠_;rw [add_block];exact hn127_0)|exact hn127_0) (.string t122)).trans hx127_0;replace hx127_0:=(cell_far (p:=⟨gb126,1,none⟩) (by first|(rw [add_block];exact hn127_1)|(show (Addr.add _ _).block≠_;rw [add_block];exact hn127_1)|exact hn127_1) (.slice Ao26 t123.length co26)).trans hx127_0;clear hn127_0;clear hn127_1;replace p127:=eq_true p127;replace q127:=eq_true q127))
       (try simp only [Act.put,List.setIfInBounds_toArray,List.set_cons_zero,List.set_cons_succ])
       go_cut [] (fun wc=>∃ (kq:Nat) (x127001_18:List (S45)) (u127001:Value),aa (aA.j2 kq x3_2 ((⟨#[110]⟩:ByteArray)++t121) t122 x127001_18=some (r1,r2))∧aa (kq≤kj2)∧aa (Kd.R (Kd.int .i64) 3 wc w.heap.size (fun k_=>(w.heap.size≤k_)) (.slice (some ad120) x3_2.length co20) x3_2)∧aa (Kd.N ktA 45 wc w.heap.size (fun k_=>(w.heap.size≤k_)∧some k_≠((.slice (some ad120) x3_2.length co20):Value).ownBlock∧k_≠gb114∧k_≠gb126) u127001 x127001_18)∧aa (wc.heap[gb114]?=some (.cells #[.string (⟨#[]⟩:ByteArray),(.slice none 0 0)] 28 (0,0)))∧aa (wc.heap[gb126]?=some (.cells #[.string t122,u127001] 28 (0,0)))∧aa (Below w.heap.size w wc))
       case first =>
        have H:=HC19.out
        clear HC19
        by_cases c27:(Int.tmod (rd x3_2 1) 3)=0
        ·rw [if_pos c27] at H
         have c27b0:((Int.tmod (rd x3_2 1) 3) == 0)=true:=beq_iff_eq.mpr c27
         have c27b1:((Int.tmod (rd x3_2 1) 3) != 0)=false:=bne_eq_false_iff_eq.mpr c27
         clear c27
         (first|rw [c27b0]|(simp only [aT,aU];rw [c27b0])|skip)
         obtain ⟨y128,hy128⟩:∃ y_:List ByteArray,y_=(([(⟨#[105,110,101,116,79,114,103,80,101,114,115,111,110]⟩:ByteArray)]:List ByteArray)):=⟨_,rfl⟩
         replace H:(if 1 < (t123.length:Int) then ((some (t123.set (1:Int).toNat (⟨(bZ t123 1).f0,y128⟩:S45):List (S45))).bind fun y131=>(if 2 < (x3_2.length:Int) then ((bF.f (rd x3_2 2)).bind fun t133=>(if 2+t133.size≤9223372036854775807 then (if y131.length < 3518437208883 then (aA.j2 kj2 x3_2 ((⟨#[110]⟩:ByteArray)++t121) t122 (y131++[(⟨(⟨#[109,97,105,108]⟩:ByteArray),(([(⟨#[97,64]⟩:ByteArray)++t133]:List ByteArray))⟩:S45)])) else (none)) else (none))) else (none))) else (none))=some (r1,r2):=by first|(rw [hy128];with_reducible exact H)|(have H2_:=(Option.bind_some _ _).symm.trans H;rw [hy128];with_reducible exact H2_)|(have H2_:=(Option.bind_some _ _).symm.trans H;with_reducible exact H2_)|with_reducible exact H|(rw [hy128];exact H)|exact H
         have Ny128:=aa.mk hy128
         clear hy128
         by_cases c28:1 < (t123.length:Int)
         ·rw [if_pos c28] at H
          have c28b0:decide (1 < (t123.length:Int))=true:=decide_eq_true c28
          have c28b1:decide (1 < t123.length)=true:=decide_eq_true (by omega)
          clear c28
          obtain ⟨y131,hy131⟩:∃ y_:List (S45),y_=(t123.set (1:Int).toNat (⟨(bZ t123 1).f0,y128⟩:S45)):=⟨_,rfl⟩
          replace H:(if 2 < (x3_2.length:Int) then ((bF.f (rd x3_2 2)).bind fun t133=>(if 2+t133.size≤9223372036854775807 then (if y131.length < 3518437208883 then (aA.j2 kj2 x3_2 ((⟨#[110]⟩:ByteArray)++t121) t122 (y131++[(⟨(⟨#[109,97,105,108]⟩:ByteArray),(([(⟨#[97,64]⟩:ByteArray)++t133]:List ByteArray))⟩:S45)])) else (none)) else (none))) else (none))=some (r1,r2):=by first|(rw [hy131];with_reducible exact H)|(have H2_:=(Option.bind_some _ _).symm.trans H;rw [hy131];with_reducible exact H2_)|(have H2_:=(Option.bind_some _ _).symm.trans H;with_reducible exact H2_)|with_reducible exact H|(rw [hy131];exact H)|exact H
          have Ny131:=aa.mk hy131
          clear hy131
          by_cases c30:2 < (x3_2.length:Int)
          ·rw [if_pos c30] at H
           have c30b0:decide (2 < (x3_2.length:Int))=true:=decide_eq_true c30
           have c30b1:decide (2 < x3_2.length)=true:=decide_eq_true (by omega)
           clear c30
           replace H:=Option.bind_eq_some_iff.mp H
           obtain ⟨t133,A310,H⟩:=H
           replace H:(if 2+t133.size≤9223372036854775807 then (if y131.length < 3518437208883 then (aA.j2 kj2 x3_2 ((⟨#[110]⟩:ByteArray)++t121) t122 (y131++[(⟨(⟨#[109,97,105,108]⟩:ByteArray),(([(⟨#[97,64]⟩:ByteArray)++t133]:List ByteArray))⟩:S45)])) else (none)) else (none))=some (r1,r2):=H
           have A31:=aa.mk A310
           clear A310
           by_cases c32:2+t133.size≤9223372036854775807
           ·rw [if_pos c32] at H
            have c32b0:=eq_true c32
            have c32b1:decide (2+t133.size≤9223372036854775807)=true:=decide_eq_true c32
            try have c32b2:(9223372036854775807 < 2+t133.size)=False:=eq_false (Nat.not_lt.2 c32)
            obtain ⟨y134,hy134⟩:∃ y_:List ByteArray,y_=(([(⟨#[97,64]⟩:ByteArray)++t133]:List ByteArray)):=⟨_,rfl⟩
            replace H:(if y131.length < 3518437208883 then (aA.j2 kj2 x3_2 ((⟨#[110]⟩:ByteArray)++t121) t122 (y131++[(⟨(⟨#[109,97,105,108]⟩:ByteArray),y134⟩:S45)])) else (none))=some (r1,r2):=by first|(rw [hy134];with_reducible exact H)|(have H2_:=(Option.bind_some _ _).symm.trans H;rw [hy134];with_reducible exact H2_)|(have H2_:=(Option.bind_some _ _).symm.trans H;with_reducible exact H2_)|with_reducible exact H|(rw [hy134];exact H)|exact H
            have Ny134:=aa.mk hy134
            clear hy134
            by_cases c33:y131.length < 3518437208883
            ·rw [if_pos c33] at H
             have LMc33:=aa.mk c33
             clear c33
             obtain ⟨y137,hy137⟩:∃ y_:List (S45),y_=(y131++[(⟨(⟨#[109,97,105,108]⟩:ByteArray),y134⟩:S45)]):=⟨_,rfl⟩
             replace H:(aA.j2 kj2 x3_2 ((⟨#[110]⟩:ByteArray)++t121) t122 y137)=some (r1,r2):=by first|(rw [hy137];with_reducible exact H)|(have H2_:=(Option.bind_some _ _).symm.trans H;rw [hy137];with_reducible exact H2_)|(have H2_:=(Option.bind_some _ _).symm.trans H;with_reducible exact H2_)|with_reducible exact H|(rw [hy137];exact H)|exact H
             have Ny137:=aa.mk hy137
             clear hy137
             have H':=aa.mk H
             clear H
             have hnb34:=NB126_114.out
             have hnc34:=NB114_126.out
             have hcz35_0:w23.cell? ⟨gb126,0,none⟩=some (.string (⟨#[]⟩:ByteArray)):=(aj BK126.out 0).trans rfl
             have hcz35_1:w23.cell? ⟨gb126,1,none⟩=some (.slice none 0 0):=(aj BK126.out 1).trans rfl
             have hfz35_0:=ai BK126.out 0
             have hfz35_1:=ai BK126.out 1
             go_wp2_with (first|((with_reducible refine bS (N:=41) rfl ?_);(try (refine eU (by rfl) ?_;dsimp only));refine o9 Kd.string _ 9 ?hg (N:=41) ?hd (xs:=([(⟨#[105,110,101,116,79,114,103,80,101,114,115,111,110]⟩:ByteArray)]:List ByteArray)) (inner:=[.string (⟨#[105,110,101,116,79,114,103,80,101,114,115,111,110]⟩:ByteArray)]) (ok:=fun _=>True) (okp:=fun _=>True) ?hr ?hp (fun _ hk=>hk) trivial (Below.refl _ _) (Nat.le_refl _) (by simp) ?_;(case hd=>rfl);(case hg=>rfl);(case hr=>first|(go_simp;done)|(go_simp;rfl));(case hp=>exact (bI.one (show Kd.M Kd.string _ _ _ (⟨#[105,110,101,116,79,114,103,80,101,114,115,111,110]⟩:ByteArray) [.string (⟨#[105,110,101,116,79,114,103,80,101,114,115,111,110]⟩:ByteArray)] from rfl) (bI.none _ _)));intro v129 w36 ho37 hb hg_ hnew_ ht_;have HT130:=aa.mk ht_;clear ht_;clear hg_ hnew_;(first|rw [← Ny128.out] at ho37|(simp only [Int.reduceToNat] at ho37;rw [← Ny128.out] at ho37));have n0_:=aa.mk (Kd.bR (by (with_reducible repeat (first|apply Kd.bz|apply Kd.bq|apply Kd.bB));exact (Kd.bX (Kd.je (p:=⟨gb126,1,none⟩) (Kd.je (p:=⟨gb126,0,none⟩) (Kd.bK HO_3.out BK126.out (by decide)) (fun _ hk=>hk.2) (.string t122)) (fun _ hk=>hk.2) (.slice Ao26 t123.length co26)) (fun _ h_=>h_.1))) hb);have n1_:=aa.mk (Kd.cu (by (with_reducible repeat (first|apply Kd.aZ|apply Kd.aY|apply Kd.bn));exact (Kd.bH (Kd.dQ (p:=⟨gb126,1,none⟩) (Kd.dQ (p:=⟨gb126,0,none⟩) (Kd.bH HO125.out (fun k_ hk=>(⟨hk,hk.2⟩:_∧k_≠gb126))) (fun _ hk=>hk.2) (.string t122)) (fun _ hk=>hk.2) (.slice Ao26 t123.length co26)) (fun _ h_=>h_.1))) (Kd.dI ho37) hb);have n2_:=aa.mk (Kd.dN (Kd.fu (M:=fun k_=>(w.heap.size≤k_)) ho37 (aG (by repeat (first|(with_reducible first|exact HB.out|apply af|apply ae|apply ag|refine ah ?_ GE114.out|refine ah ?_ GE126.out)|exact HB.out))) (fun k_ h_=>h_)) (aG (by repeat (first|(with_reducible first|exact HB.out|apply af|apply ae|apply ag|refine ah ?_ GE114.out|refine ah ?_ GE126.out)|exact HB.out))));have n3_:=aa.mk (aI (g:=gb114) (o:=.cells #[.string (⟨#[]⟩:ByteArray),.slice none 0 0] 28 (0,0)) (by (with_reducible repeat (first|refine au ?_ _|refine av ?_|refine ak ?_ _));refine dB ?_ NB114_126.out _;(with_reducible repeat (first|refine au ?_ _|refine av ?_|refine ak ?_ _));refine dB ?_ NB114_126.out _;(with_reducible repeat (first|refine au ?_ _|refine av ?_|refine ak ?_ _));exact BK114.out) hb);have n4_:=aa.mk (aI (g:=gb126) (o:=.cells #[.string t122,.slice Ao26 t123.length co26] 28 (0,0)) (by (with_reducible repeat (first|refine au ?_ _|refine av ?_|refine ak ?_ _));refine bG (cs:=#[.string t122,.slice none 0 0]) ?_ 1 _ (by first|rfl|(simp only [ay,ax];rfl)|simp [ay,ax]);(with_reducible repeat (first|refine au ?_ _|refine av ?_|refine ak ?_ _));refine bG (cs:=#[.string (⟨#[]⟩:ByteArray),.slice none 0 0]) ?_ 0 _ (by first|rfl|(simp only [ay,ax];rfl)|simp [ay,ax]);(with_reducible repeat (first|refine au ?_ _|refine av ?_|refine ak ?_ _));exact BK126.out) hb);have n5_:=aa.mk (aD (by repeat (first|(with_reducible first|exact HB.out|apply af|apply ae|apply ag|refine ah ?_ GE114.out|refine ah ?_ GE126.out)|exact HB.out)) hb);clear HO_3;clear HO125;clear BK114;clear BK126;clear HB;have HO_3:=n0_;have HO125:=n1_;have HO130:=n2_;have BK114:=n3_;have BK126:=n4_;have HB:=n5_;clear n0_ n1_ n2_ n3_ n4_ n5_;clear hb ho37;obtain ⟨Ao37,co37,eo37⟩:=Kd.cO HO130.out;subst eo37;have p29:0≤(1:Int):=(by omega);have q29:(1:Int) < ((t123.length:Int):Int):=of_decide_eq_true (by first|(with_reducible assumption)|assumption);have qi29:(1 < t123.length)=True:=eq_true (by omega);obtain ⟨go29,co29,eo29,gb29,gl29,cl29,HG29⟩:=Kd.ul HO125.out (by omega);(first|cases eo29|(injection eo29 with ea_ en_ ec_;(first|subst ea_|(injection ea_ with ea_;subst ea_));subst ec_;clear en_));have GB29:=aa.mk gb29;have GG29:=aa.mk HG29;clear gb29 gl29 HG29;obtain ⟨ce29,hcl29,hM29,hcc29,hfr29⟩:=Kd.mh HO125.out z45 (1:Int) p29 q29;obtain ⟨ua29_1,uc29_1,rfl,ul29_1,ge29_1⟩:=jA (lD hM29);have hx29_0:w36.cell? ⟨go29,(1:Int).toNat * 2,none⟩=some (.string ((bZ t123 1).f0)):=hcc29 0 _ rfl;have hx29_1:w36.cell? ⟨go29,(1:Int).toNat * 2+1,none⟩=some (.slice ua29_1 ((bZ t123 1).f1).length uc29_1):=hcc29 1 _ rfl;have hf29_0:w36.frozen? ⟨go29,(1:Int).toNat * 2,none⟩=false:=hfr29 0;have hf29_1:w36.frozen? ⟨go29,(1:Int).toNat * 2+1,none⟩=false:=hfr29 1;clear hcl29 hcc29 hfr29 hM29;(try rw [show ((1:Int)).toNat=1 from rfl] at hx29_0);(try simp only [Nat.reduceMul,Nat.zero_mul,Nat.zero_add,Nat.reduceAdd] at hx29_0);(try rw [show ((1:Int)).toNat=1 from rfl] at hf29_0);(try simp only [Nat.reduceMul,Nat.zero_mul,Nat.zero_add,Nat.reduceAdd] at hf29_0);(try rw [show ((1:Int)).toNat=1 from rfl] at hx29_1);(try simp only [Nat.reduceMul,Nat.zero_mul,Nat.zero_add,Nat.reduceAdd] at hx29_1);(try rw [show ((1:Int)).toNat=1 from rfl] at hf29_1);(try simp only [Nat.reduceMul,Nat.zero_mul,Nat.zero_add,Nat.reduceAdd] at hf29_1);replace p29:=eq_true p29;replace q29:=eq_true q29;have n_:=aa.mk (Kd.bH (ok':=(fun k_=>(w.heap.size≤k_)∧some k_≠(.slice (some ad120) x3_2.length co20:Value).ownBlock∧some k_≠(.slice Ao37 y128.length co37:Value).ownBlock∧k_≠gb114∧k_≠gb126)) HO125.out (fun k_ hk=>⟨hk.1.1.1,⟨hk.1.1.2.1,⟨hk.2,⟨hk.1.1.2.2,hk.1.2⟩⟩⟩⟩));clear HO125;have HO125:=n_;clear n_;have HX38:=aa.mk (show Kd.N ktA 45 w36 w.heap.size (fun k_=>(w.heap.size≤k_)∧some k_≠(.slice (some ad120) x3_2.length co20:Value).ownBlock∧k_≠gb114∧k_≠gb126) (.slice (some ⟨go29,0,none⟩) t123.length co26) t123 from (by (with_reducible repeat (first|apply Kd.aZ|apply Kd.aY|apply Kd.bn));exact Kd.bH HO125.out (fun _ hk=>⟨hk.1,⟨hk.2.1,⟨hk.2.2.2.1,hk.2.2.2.2⟩⟩⟩)));obtain ⟨ce38,hcl38,hM38,hcc38,hfr38⟩:=Kd.mh HX38.out z45 (1:Int) (by omega) (by have h_:(1:Int) < ((t123.length:Int):Int):=of_decide_eq_true (by first|(with_reducible assumption)|assumption);first|exact h_|(have e_:=(Kd.bO HO125.out).1;omega)|simpa using h_);obtain ⟨ua38_1,uc38_1,rfl,ul38_1,ge38_1⟩:=jA (lD hM38);have HP38:=Kd.wQ HX38.out (1:Int) (by omega) (by have h_:(1:Int) < ((t123.length:Int):Int):=of_decide_eq_true (by first|(with_reducible assumption)|assumption);first|exact h_|(have e_:=(Kd.bO HO125.out).1;omega)|simpa using h_) (seg:=[.slice Ao37 y128.length co37]) (j:=1) hcl38 hcc38 (show 2≤2 from by decide) (x':=(⟨(bZ t123 1).f0,y128⟩:S45)) (ky _ _ (⟨(bZ t123 1).f0,y128⟩:S45) HT130.out (Kd.bL (Kd.bX (ok':=(fun k_=>((fun k_=>(w.heap.size≤k_)∧some k_≠(.slice (some ad120) x3_2.length co20:Value).ownBlock∧k_≠gb114∧k_≠gb126)) k_∧k_≠go29)) (Kd.bK (Kd.bK (Kd.dD (Kd.dD (HO130.out) (Kd.fU HO_3.out) (by decide)) (Kd.eZ HO125.out) (by decide)) BK114.out (by decide)) BK126.out (by decide)) (fun k_ hk=>⟨⟨hk.1.1.1.1.1,⟨hk.1.1.1.2,⟨hk.1.2,hk.2⟩⟩⟩,fun e_=>(hk.1.1.2) (by rw [e_];rfl)⟩))).2.1 (Kd.R_F (Kd.bX (ok':=(fun k_=>((fun k_=>(w.heap.size≤k_)∧some k_≠(.slice (some ad120) x3_2.length co20:Value).ownBlock∧k_≠gb114∧k_≠gb126)) k_∧k_≠go29)) (Kd.bK (Kd.bK (Kd.dD (Kd.dD (HO130.out) (Kd.fU HO_3.out) (by decide)) (Kd.eZ HO125.out) (by decide)) BK114.out (by decide)) BK126.out (by decide)) (fun k_ hk=>⟨⟨hk.1.1.1.1.1,⟨hk.1.1.1.2,⟨hk.1.2,hk.2⟩⟩⟩,fun e_=>(hk.1.1.2) (by rw [e_];rfl)⟩)))) (fun _ hk=>hk);have hx38_1:=hcc38 1 _ rfl;(try simp only [show (ktA).sz=2 from rfl,Nat.mul_one,Nat.add_zero] at hx38_1);(try rw [show ((1:Int)).toNat=1 from rfl] at hx38_1);(try simp only [Nat.reduceMul,Nat.zero_mul,Nat.zero_add,Nat.reduceAdd] at hx38_1);have hf38_1:=hfr38 1;(try simp only [show (ktA).sz=2 from rfl,Nat.mul_one,Nat.add_zero] at hf38_1);(try rw [show ((1:Int)).toNat=1 from rfl] at hf38_1);(try simp only [Nat.reduceMul,Nat.zero_mul,Nat.zero_add,Nat.reduceAdd] at hf38_1);clear hcl38 hcc38 hfr38 hM38)|((with_reducible refine nV (t:=22) (p:=43) rfl ?_);refine mF (t:=22) (p:=43) (v:=?vo_w39) (w1:=(w36.setCell ⟨go29,3,none⟩ (.slice Ao37 y128.length co37))) ?hg ?ho ?hn ?hr ?_;(case ho=>rfl);(case hg=>rfl);(case hn=>rfl);(case hr=>first|(go_simp;done)|(go_simp;rfl));intro w39 hw;have hg:w36.grownBy w39 (some go29):=(by rw [hw];exact HP38.2);have hp_:Kd.N ktA 45 w39 w.heap.size (fun k_=>(w.heap.size≤k_)∧some k_≠(.slice (some ad120) x3_2.length co20:Value).ownBlock∧k_≠gb114∧k_≠gb126) (.slice (some ⟨go29,0,none⟩) t123.length co26) y131:=(by rw [hw,Ny131.out];exact HP38.1);clear HP38;have n0_:=aa.mk (Kd.kI (v:=(.slice (some ⟨go29,0,none⟩) t123.length co26)) (by (with_reducible repeat (first|apply Kd.bz|apply Kd.bq|apply Kd.bB));exact HO_3.out) (Kd.eZ HO125.out) (by decide) hg);have n1_:=aa.mk (dH (g:=gb114) (o:=.cells #[.string (⟨#[]⟩:ByteArray),.slice none 0 0] 28 (0,0)) (by (with_reducible repeat (first|refine au ?_ _|refine av ?_|refine ak ?_ _));exact BK114.out) hg (Kd.mO HO125.out BK114.out (by decide)));have n2_:=aa.mk (hp_);have n3_:=aa.mk (dH (g:=gb126) (o:=.cells #[.string t122,.slice (some ⟨go29,0,none⟩) t123.length co26] 28 (0,0)) (by (with_reducible repeat (first|refine au ?_ _|refine av ?_|refine ak ?_ _));exact BK126.out) hg (Kd.mO HO125.out BK126.out (by decide)));have n4_:=aa.mk ((by rw [hw];exact ah (HB.out) GB29.out:Below w.heap.size w w39));clear HO_3;clear BK114;clear HO125;clear BK126;clear HB;clear HO130;have HO_3:=n0_;have BK114:=n1_;have HO125:=n2_;have BK126:=n3_;have HB:=n4_;clear n0_ n1_ n2_ n3_ n4_;clear hg hw hp_))
             have n0_:=aa.mk (Kd.bB HO_3.out)
             have n1_:=aa.mk (Kd.bn HO125.out)
             have n2_:=aa.mk (av BK114.out)
             have n3_:=aa.mk (av BK126.out)
             have n4_:=aa.mk (ag HB.out)
             clear HO_3
             clear HO125
             clear BK114
             clear BK126
             clear HB
             have HO_3:=n0_
             have HO125:=n1_
             have BK114:=n2_
             have BK126:=n3_
             have HB:=n4_
             clear n0_ n1_ n2_ n3_ n4_
             have p132:0≤(2:Int):=(by omega)
             have q132:2 < (x3_2.length:Int):=of_decide_eq_true (by first|(with_reducible assumption)|assumption)
             obtain ⟨ad132,e132,hx132_0⟩:=Kd.fD (Kd.bL HO_3.out).2.2 2 p132 q132
             obtain rfl:ad120=ad132:=(by injection e132)
             (try simp only [show (2:Int).toNat=2 from rfl,Nat.reduceMul,Nat.reduceEqDiff,Go.Addr.add,↓reduceIte] at hx132_0)
             have qi132:(2 < x3_2.length)=True:=eq_true (by omega)
             (try rw [show ((2:Int)).toNat=2 from rfl] at hx132_0)
             replace p132:=eq_true p132
             replace q132:=eq_true q132
             refine jS (n:=13) (S:=fun w'=>w'.cell? ⟨gb126,0,none⟩=some (.string t122)∧w'.cell? ⟨gb126,1,none⟩=some (.slice (some ⟨go29,0,none⟩) t123.length co26)∧w'.cell? ⟨ad120.block,ad120.off+2,none⟩=some (.int .i64 (rd x3_2 2))) (ds:=[10,12]) #[false,false,false,false,false,false,false,false,false,false,false,false,false] (by kernel_rfl) rfl rfl ⟨(aj BK126.out 0).trans rfl,(aj BK126.out 1).trans rfl,hx132_0⟩ (fun hHeld=>?_);refine iy aA.tab10 aA.bits10 (fun HT_ HW_=>?_)
             generalize w39.drew=w40 at HO_3 HO125 BK114 BK126 HB hx132_0 hHeld ⊢
             refine di (i:=0) (N:=some 44) (v:=?_) (a':=?_) #[true,false,false,false,false,false,false,false,false,false,false,false,false] rfl rfl (bV HT_.out (by kernel_rfl)) (fun _ _ _ h=>h) (Or.inl ⟨by rfl,?_⟩) ?_ ?_
             rotate_left
             ·intro w'
              go_simp
              with_reducible rfl
             rotate_left
             ·simp only [Act.put,List.setIfInBounds_toArray,List.set_cons_zero,List.set_cons_succ,aT,aU]
              rfl
             refine di (i:=2) (N:=some 46) (v:=?_) (a':=?_) #[true,false,true,false,false,false,false,false,false,false,false,false,false] rfl rfl (bV HT_.out (by kernel_rfl)) (fun _ _ _ h=>h) (Or.inl ⟨by rfl,?_⟩) ?_ ?_
             rotate_left
             ·intro w'
              go_simp
              with_reducible rfl
             rotate_left
             ·simp only [Act.put,List.setIfInBounds_toArray,List.set_cons_zero,List.set_cons_succ,aT,aU]
              rfl
             refine di (i:=3) (N:=some 47) (v:=?_) (a':=?_) #[true,false,true,true,false,false,false,false,false,false,false,false,false] rfl rfl (bV HT_.out (by kernel_rfl)) (fun _ _ _ h=>h) (Or.inl ⟨by rfl,?_⟩) ?_ ?_
             rotate_left
             ·intro w'
              go_simp
              with_reducible rfl
             rotate_left
             ·simp only [Act.put,List.setIfInBounds_toArray,List.set_cons_zero,List.set_cons_succ,aT,aU]
              rfl
             refine take_ (i:=1) (N:=some 45) (v:=?_) (a':=?_) #[true,true,true,true,false,false,false,false,false,false,false,false,false] rfl rfl (fq HT_.out HW_.out (by kernel_rfl)) (fun _ _ _ h=>h) (Or.inl ⟨by rfl,?_⟩) hHeld ?_ ?_
             rotate_left
             ·rintro w' ⟨s0,s1,s2⟩
              go_simp
              with_reducible rfl
             rotate_left
             ·simp only [Act.put,List.setIfInBounds_toArray,List.set_cons_zero,List.set_cons_succ,aT,aU]
              rfl
             refine take_ (i:=4) (N:=some 48) (v:=?_) (a':=?_) #[true,true,true,true,true,false,false,false,false,false,false,false,false] rfl rfl (fq HT_.out HW_.out (by kernel_rfl)) (fun _ _ _ h=>h) (Or.inl ⟨by rfl,?_⟩) hHeld ?_ ?_
             rotate_left
             ·rintro w' ⟨s0,s1,s2⟩
              go_simp
              with_reducible rfl
             rotate_left
             ·simp only [Act.put,List.setIfInBounds_toArray,List.set_cons_zero,List.set_cons_succ,aT,aU]
              rfl
             refine ji (i:=5) (N:=some 49) #[true,true,true,true,true,true,false,false,false,false,false,false,false] rfl rfl (eO HT_.out (by kernel_rfl)) (by decide) (fun K hK=>?_)
             refine lN Tryz.func23 (by kernel_rfl) rfl #[.int .i64 (rd x3_2 2)] (by rfl) rfl rfl (by (try simp only [List.map_toArray,List.map_cons,List.map_nil]);first|done|rfl|(simp only [List.length_drop,List.length_take];rfl)) ?_
             with_reducible refine (bF.calls (rd x3_2 2) t133 _ A31.out).mono ?_
             rintro e w41 ⟨rfl,hb⟩
             have HS2_:=(hb.cell (World.block_lt_of_cell? _ _ (hHeld.2.2))).trans (hHeld.2.2)
             refine ⟨_,rfl,?_⟩
             have n0_:=aa.mk (Kd.bR (by (with_reducible repeat (first|apply Kd.bz|apply Kd.bq|apply Kd.bB));exact HO_3.out) hb)
             have n1_:=aa.mk (Kd.df (by (with_reducible repeat (first|apply Kd.aZ|apply Kd.aY|apply Kd.bn));exact HO125.out) hb)
             have n2_:=aa.mk (aI (g:=gb114) (o:=.cells #[.string (⟨#[]⟩:ByteArray),.slice none 0 0] 28 (0,0)) (by (with_reducible repeat (first|refine au ?_ _|refine av ?_|refine ak ?_ _));exact BK114.out) hb)
             have n3_:=aa.mk (aI (g:=gb126) (o:=.cells #[.string t122,.slice (some ⟨go29,0,none⟩) t123.length co26] 28 (0,0)) (by (with_reducible repeat (first|refine au ?_ _|refine av ?_|refine ak ?_ _));exact BK126.out) hb)
             have n4_:=aa.mk (aD (by repeat (first|(with_reducible first|exact HB.out|apply af|apply ae|apply ag|refine ah ?_ GE114.out|refine ah ?_ GE126.out)|exact HB.out)) hb)
             clear HO_3
             clear HO125
             clear BK114
             clear BK126
             clear HB
             have HO_3:=n0_
             have HO125:=n1_
             have BK114:=n2_
             have BK126:=n3_
             have HB:=n4_
             clear n0_ n1_ n2_ n3_ n4_
             (try clear hb)
             (try clear hb2)
             (try clear hk)
             (try clear hi)
             refine hK.out _ _ ⟨(aj BK126.out 0).trans rfl,(aj BK126.out 1).trans rfl,HS2_⟩ (fun hHeld=>?_)
             clear hK K
             refine fB (a':=?_) ?_ ?_
             rotate_left
             ·show Act.put _ (some 49) _=_
              simp only [Act.put,List.setIfInBounds_toArray,List.set_cons_zero,List.set_cons_succ,aT,aU]
              rfl
             refine di (i:=6) (N:=some 50) (v:=?_) (a':=?_) #[true,true,true,true,true,true,true,false,false,false,false,false,false] rfl rfl (bV HT_.out (by kernel_rfl)) (fun _ _ _ h=>h) (Or.inl ⟨by rfl,?_⟩) ?_ ?_
             rotate_left
             ·intro w'
              go_simp
              with_reducible rfl
             rotate_left
             ·simp only [Act.put,List.setIfInBounds_toArray,List.set_cons_zero,List.set_cons_succ,aT,aU]
              rfl
             refine ji (i:=7) (N:=some 51) #[true,true,true,true,true,true,true,true,false,false,false,false,false] rfl rfl (eO HT_.out (by kernel_rfl)) (by decide) (fun K hK=>?_)
             refine mq Kd.string _ 9 ?hg (N:=51) ?hd (xs:=([(⟨#[97,64]⟩:ByteArray)++t133]:List ByteArray)) (inner:=[.string ((⟨#[97,64]⟩:ByteArray)++t133)]) (ok:=fun _=>True) (okp:=fun _=>True) ?hr ?hp (fun _ hk=>hk) trivial (Below.refl _ _) (Nat.le_refl _) (by simp) ?_;(case hd=>rfl);(case hg=>rfl);(case hr=>first|(go_simp;done)|(go_simp;rfl));(case hp=>exact (bI.one (show Kd.M Kd.string _ _ _ ((⟨#[97,64]⟩:ByteArray)++t133) [.string ((⟨#[97,64]⟩:ByteArray)++t133)] from rfl) (bI.none _ _)))
             intro v135 w42 ho43 hb hg_ hnew_ ht_;have HT136:=aa.mk ht_;clear ht_
             have HS2_:=(hb.cell (World.block_lt_of_cell? _ _ (hHeld.2.2))).trans (hHeld.2.2)
             clear hg_ hnew_
             (first|rw [← Ny134.out] at ho43|(simp only [Int.reduceToNat] at ho43;rw [← Ny134.out] at ho43))
             have n0_:=aa.mk (Kd.bR (by (with_reducible repeat (first|apply Kd.bz|apply Kd.bq|apply Kd.bB));exact HO_3.out) hb)
             have n1_:=aa.mk (Kd.cu (by (with_reducible repeat (first|apply Kd.aZ|apply Kd.aY|apply Kd.bn));exact HO125.out) (Kd.dI ho43) hb)
             have n2_:=aa.mk (Kd.dN (Kd.fu (M:=fun k_=>(w.heap.size≤k_)) ho43 (aG (by repeat (first|(with_reducible first|exact HB.out|apply af|apply ae|apply ag|refine ah ?_ GE114.out|refine ah ?_ GE126.out)|exact HB.out))) (fun k_ h_=>h_)) (aG (by repeat (first|(with_reducible first|exact HB.out|apply af|apply ae|apply ag|refine ah ?_ GE114.out|refine ah ?_ GE126.out)|exact HB.out))))
             have n3_:=aa.mk (aI (g:=gb114) (o:=.cells #[.string (⟨#[]⟩:ByteArray),.slice none 0 0] 28 (0,0)) (by (with_reducible repeat (first|refine au ?_ _|refine av ?_|refine ak ?_ _));exact BK114.out) hb)
             have n4_:=aa.mk (aI (g:=gb126) (o:=.cells #[.string t122,.slice (some ⟨go29,0,none⟩) t123.length co26] 28 (0,0)) (by (with_reducible repeat (first|refine au ?_ _|refine av ?_|refine ak ?_ _));exact BK126.out) hb)
             have n5_:=aa.mk (aD (by repeat (first|(with_reducible first|exact HB.out|apply af|apply ae|apply ag|refine ah ?_ GE114.out|refine ah ?_ GE126.out)|exact HB.out)) hb)
             clear HO_3
             clear HO125
             clear BK114
             clear BK126
             clear HB
             have HO_3:=n0_
             have HO125:=n1_
             have HO136:=n2_
             have BK114:=n3_
             have BK126:=n4_
             have HB:=n5_
             clear n0_ n1_ n2_ n3_ n4_ n5_
             clear hb ho43
             obtain ⟨Ao44,co44,eo44⟩:=Kd.cO HO136.out
             (first|subst eo44|(injection eo44 with f1_ f2_ f3_;have f4_:=f1_.symm;have f5_:=f3_.symm;clear f1_ f2_ f3_;subst f4_;subst f5_))
             refine hK.out _ _ ⟨(aj BK126.out 0).trans rfl,(aj BK126.out 1).trans rfl,HS2_⟩ (fun hHeld=>?_)
             clear hK K
             refine fB (a':=?_) ?_ ?_
             rotate_left
             ·show Act.put _ (some 51) _=_
              simp only [Act.put,List.setIfInBounds_toArray,List.set_cons_zero,List.set_cons_succ,aT,aU]
              rfl
             refine di (i:=8) (N:=some 52) (v:=?_) (a':=?_) #[true,true,true,true,true,true,true,true,true,false,false,false,false] rfl rfl (bV HT_.out (by kernel_rfl)) (fun _ _ _ h=>h) (Or.inl ⟨by rfl,?_⟩) ?_ ?_
             rotate_left
             ·intro w'
              go_simp
              with_reducible rfl
             rotate_left
             ·simp only [Act.put,List.setIfInBounds_toArray,List.set_cons_zero,List.set_cons_succ,aT,aU]
              rfl
             refine ji (i:=9) (N:=some 53) #[true,true,true,true,true,true,true,true,true,true,false,false,false] rfl rfl (eO HT_.out (by kernel_rfl)) (by decide) (fun K hK=>?_)
             refine pu (w1:=?_) (v:=?_) (by rfl) rfl ?_ ?_
             rotate_left 2
             ·go_simp
              constructor
              ·rfl
              ·rfl
             refine hK.out _ _ ⟨(aj (ak BK126.out _) 0).trans rfl,(aj (ak BK126.out _) 1).trans rfl,(World.cell?_alloc_lt _ _ _ (World.block_lt_of_cell? _ _ (hHeld.2.2))).trans (hHeld.2.2)⟩ (fun hHeld=>?_)
             clear hK K
             refine fB (a':=?_) ?_ ?_
             rotate_left
             ·show Act.put _ (some 53) _=_
              simp only [Act.put,List.setIfInBounds_toArray,List.set_cons_zero,List.set_cons_succ,aT,aU]
              rfl
             refine mJ (i:=10) (N:=some 54) #[true,true,true,true,true,true,true,true,true,true,true,false,false] rfl rfl (eO HT_.out (by kernel_rfl)) (by decide) (fun K hK=>?_)
             refine Kd.jq ktA (w0:=w) w.heap.size (by rfl) (.tmp 45) (.tmp 53) 26 45 (.agg #[(.string ⟨#[]⟩),(.slice none 0 0)]) 40 rfl Tryz.underlying26 pX rfl (by decide) (by omega) (.slice (some ⟨go29,0,none⟩) t123.length co26) y131 (⟨(⟨#[109,97,105,108]⟩:ByteArray),y134⟩:S45) [.string (⟨#[109,97,105,108]⟩:ByteArray),.slice Ao44 y134.length co44] (fun k_=>(w.heap.size≤k_)∧some k_≠(.slice (some ad120) x3_2.length co20:Value).ownBlock∧k_≠gb114∧k_≠gb126) (fun k_=>((fun k_=>(w.heap.size≤k_)∧some k_≠(.slice (some ad120) x3_2.length co20:Value).ownBlock∧k_≠gb114∧k_≠gb126)) k_∧some k_≠(.slice (some ⟨go29,0,none⟩) t123.length co26:Value).ownBlock) rfl rfl ?aP (fun _ hk=>hk) ?aF ?aO ?aB ?aS ?aL ?_
             (case aP=>exact (ky _ _ (⟨(⟨#[109,97,105,108]⟩:ByteArray),y134⟩:S45) HT136.out (Kd.bL (Kd.bX (ok':=(fun k_=>((fun k_=>(w.heap.size≤k_)∧some k_≠(.slice (some ad120) x3_2.length co20:Value).ownBlock∧k_≠gb114∧k_≠gb126)) k_∧some k_≠(.slice (some ⟨go29,0,none⟩) t123.length co26:Value).ownBlock)) (Kd.bK (Kd.bK (Kd.dD (Kd.dD (HO136.out) (Kd.fU HO_3.out) (by decide)) (Kd.eZ HO125.out) (by decide)) BK114.out (by decide)) BK126.out (by decide)) (fun k_ hk=>⟨⟨hk.1.1.1.1.1,⟨hk.1.1.1.2,⟨hk.1.2,hk.2⟩⟩⟩,hk.1.1.2⟩))).2.1 (Kd.R_F (Kd.bX (ok':=(fun k_=>((fun k_=>(w.heap.size≤k_)∧some k_≠(.slice (some ad120) x3_2.length co20:Value).ownBlock∧k_≠gb114∧k_≠gb126)) k_∧some k_≠(.slice (some ⟨go29,0,none⟩) t123.length co26:Value).ownBlock)) (Kd.bK (Kd.bK (Kd.dD (Kd.dD (HO136.out) (Kd.fU HO_3.out) (by decide)) (Kd.eZ HO125.out) (by decide)) BK114.out (by decide)) BK126.out (by decide)) (fun k_ hk=>⟨⟨hk.1.1.1.1.1,⟨hk.1.1.1.2,⟨hk.1.2,hk.2⟩⟩⟩,hk.1.1.2⟩)))))
             (case aB=>exact (by repeat (first|(with_reducible first|exact HB.out|apply af|apply ae|apply ag|refine ah ?_ GE114.out|refine ah ?_ GE126.out)|exact HB.out)))
             (case aF=>exact (fun k_ hk=>⟨(Nat.le_trans (aG (by repeat (first|(with_reducible first|exact HB.out|apply af|apply ae|apply ag|refine ah ?_ GE114.out|refine ah ?_ GE126.out)|exact HB.out))) hk),Kd.fresh' (Kd.iD (by (with_reducible repeat (first|apply Kd.bz|apply Kd.bq|apply Kd.bB));exact HO_3.out)) k_ hk,Kd.dC (g:=gb114) (o:=.cells #[.string (⟨#[]⟩:ByteArray),.slice none 0 0] 28 (0,0)) (by (with_reducible repeat (first|refine au ?_ _|refine av ?_|refine ak ?_ _));exact BK114.out) k_ hk,Kd.dC (g:=gb126) (o:=.cells #[.string t122,.slice (some ⟨go29,0,none⟩) t123.length co26] 28 (0,0)) (by (with_reducible repeat (first|refine au ?_ _|refine av ?_|refine ak ?_ _));exact BK126.out) k_ hk⟩))
             (case aO=>exact (by (with_reducible repeat (first|apply Kd.aZ|apply Kd.aY|apply Kd.bn));exact Kd.bH HO125.out (fun _ hk=>⟨hk.1.1,⟨hk.1.2.1,⟨hk.1.2.2.1,hk.1.2.2.2⟩⟩⟩)))
             (case aS=>exact (aG (by repeat (first|(with_reducible first|exact HB.out|apply af|apply ae|apply ag|refine ah ?_ GE114.out|refine ah ?_ GE126.out)|exact HB.out))))
             (case aL=>have:=LMc33.out;omega)
             intro v138 w45 ho hb hg hat
             rw [← Ny137.out] at ho
             have n0_:=aa.mk (Kd.kI (by (with_reducible repeat (first|apply Kd.bz|apply Kd.bq|apply Kd.bB));exact HO_3.out) (Kd.eZ (by (with_reducible repeat (first|apply Kd.aZ|apply Kd.aY|apply Kd.bn));exact HO125.out)) (by decide) hg)
             have n1_:=aa.mk (dH (g:=gb114) (o:=.cells #[.string (⟨#[]⟩:ByteArray),.slice none 0 0] 28 (0,0)) (by (with_reducible repeat (first|refine au ?_ _|refine av ?_|refine ak ?_ _));exact BK114.out) hg (Kd.mO HO125.out BK114.out (by decide)))
             have n2_:=aa.mk (dH (g:=gb126) (o:=.cells #[.string t122,.slice (some ⟨go29,0,none⟩) t123.length co26] 28 (0,0)) (by (with_reducible repeat (first|refine au ?_ _|refine av ?_|refine ak ?_ _));exact BK126.out) hg (Kd.mO HO125.out BK126.out (by decide)))
             have n3_:=aa.mk (hb)
             have n4_:=aa.mk (ho)
             clear HO_3
             clear BK114
             clear BK126
             clear HB
             clear HO125
             clear HO136
             have HO_3:=n0_
             have BK114:=n1_
             have BK126:=n2_
             have HB:=n3_
             have HO139:=n4_
             clear n0_ n1_ n2_ n3_ n4_
             clear ho hb hg hat
             obtain ⟨Ao46,co46,eo46⟩:=Kd.dR HO139.out
             (first|subst eo46|(injection eo46 with f1_ f2_ f3_;have f4_:=f1_.symm;have f5_:=f3_.symm;clear f1_ f2_ f3_;subst f4_;subst f5_))
             refine hK.out _ _ ?_
             clear hK K
             refine fB (a':=?_) ?_ ?_
             rotate_left
             ·show Act.put _ (some 54) _=_
              simp only [Act.put,List.setIfInBounds_toArray,List.set_cons_zero,List.set_cons_succ,aT,aU]
              rfl
             refine di (i:=11) (N:=some 55) (v:=?_) (a':=?_) #[true,true,true,true,true,true,true,true,true,true,true,true,false] rfl rfl (bV HT_.out (by kernel_rfl)) (fun _ _ _ h=>h) (Or.inl ⟨by rfl,?_⟩) ?_ ?_
             rotate_left
             ·intro w'
              go_simp
              with_reducible rfl
             rotate_left
             ·simp only [Act.put,List.setIfInBounds_toArray,List.set_cons_zero,List.set_cons_succ,aT,aU]
              rfl
             refine mJ (i:=12) (N:=none) #[true,true,true,true,true,true,true,true,true,true,true,true,true] rfl rfl (eO HT_.out (by kernel_rfl)) (by decide) (fun K hK=>?_)
             have hs47:w45.cell? ⟨gb126,1,none⟩=some (.slice (some ⟨go29,0,none⟩) t123.length co26):=(aj BK126.out 1).trans rfl
             have hfs47:=ai BK126.out 1
             have hns47_0:=NB114_126.out
             have hms47_0:=NB126_114.out
             refine qh (w1:=?_) (by rfl) rfl ?_ ?_
             rotate_left
             ·go_simp
              rfl
             refine hK.out _ _ ?_
             clear hK K
             refine mH (jH HT_.out (by kernel_rfl)) ?_
             try go_wp2
             go_meet
             case rel=>exact ⟨_,(y137),(.slice Ao46 y137.length co46),H',⟨by have:=HJ2.out;first|omega|exact Nat.le_refl _⟩,⟨by (with_reducible repeat (first|apply Kd.bz|apply Kd.bq|apply Kd.bB));exact Kd.bX (Kd.je (p:=⟨gb126,1,none⟩) (Kd.bK HO_3.out BK126.out (by decide)) (fun _ hk=>hk.2) (.slice Ao46 y137.length co46)) (fun _ hk=>hk.1)⟩,⟨by (with_reducible repeat (first|apply Kd.aZ|apply Kd.aY|apply Kd.bn));exact Kd.bH (Kd.dQ (p:=⟨gb126,1,none⟩) (Kd.bH HO139.out (fun k_ hk=>(⟨hk,hk.2.2.2⟩:_∧k_≠gb126))) (fun _ hk=>hk.2) (.slice Ao46 y137.length co46)) (fun _ hk=>⟨hk.1.1,⟨hk.1.2.1,⟨hk.1.2.2.1,hk.1.2.2.2⟩⟩⟩)⟩,⟨by (with_reducible repeat (first|refine au ?_ _|refine av ?_|refine ak ?_ _));refine dB ?_ NB114_126.out _;(with_reducible repeat (first|refine au ?_ _|refine av ?_|refine ak ?_ _));exact BK114.out⟩,⟨by (with_reducible repeat (first|refine au ?_ _|refine av ?_|refine ak ?_ _));refine bG (cs:=#[.string t122,.slice (some ⟨go29,0,none⟩) t123.length co26]) ?_ 1 _ (by first|rfl|(simp only [ay,ax];rfl)|simp [ay,ax]);(with_reducible repeat (first|refine au ?_ _|refine av ?_|refine ak ?_ _));exact BK126.out⟩,⟨by repeat (first|(with_reducible first|exact HB.out|apply af|apply ae|apply ag|refine ah ?_ GE114.out|refine ah ?_ GE126.out)|exact HB.out)⟩⟩
            ·rw [if_neg c33] at H
             exact absurd H (by simp)
           ·rw [if_neg c32] at H
            exact absurd H (by simp)
          ·rw [if_neg c30] at H
           exact absurd H (by simp)
         ·rw [if_neg c28] at H
          exact absurd H (by simp)
        ·rw [if_neg c27] at H
         have c27b0:((Int.tmod (rd x3_2 1) 3) == 0)=false:=beq_eq_false_iff_ne.mpr c27
         have c27b1:((Int.tmod (rd x3_2 1) 3) != 0)=true:=bne_iff_ne.mpr c27
         (first|rw [c27b0]|(simp only [aT,aU];rw [c27b0])|skip)
         have H':=aa.mk H
         clear H
         go_wp2
         go_meet
         case rel=>exact ⟨_,(t123),(.slice Ao26 t123.length co26),H',⟨by have:=HJ2.out;first|omega|exact Nat.le_refl _⟩,⟨by (with_reducible repeat (first|apply Kd.bz|apply Kd.bq|apply Kd.bB));exact Kd.bX (Kd.je (p:=⟨gb126,1,none⟩) (Kd.je (p:=⟨gb126,0,none⟩) (Kd.bK HO_3.out BK126.out (by decide)) (fun _ hk=>hk.2) (.string t122)) (fun _ hk=>hk.2) (.slice Ao26 t123.length co26)) (fun _ hk=>hk.1)⟩,⟨by (with_reducible repeat (first|apply Kd.aZ|apply Kd.aY|apply Kd.bn));exact Kd.bH (Kd.dQ (p:=⟨gb126,1,none⟩) (Kd.dQ (p:=⟨gb126,0,none⟩) (Kd.bH HO125.out (fun k_ hk=>(⟨hk,hk.2⟩:_∧k_≠gb126))) (fun _ hk=>hk.2) (.string t122)) (fun _ hk=>hk.2) (.slice Ao26 t123.length co26)) (fun _ hk=>⟨hk.1.1.1,⟨hk.1.1.2.1,⟨hk.1.1.2.2,hk.1.2⟩⟩⟩)⟩,⟨by (with_reducible repeat (first|refine au ?_ _|refine av ?_|refine ak ?_ _));refine dB ?_ NB114_126.out _;(with_reducible repeat (first|refine au ?_ _|refine av ?_|refine ak ?_ _));refine dB ?_ NB114_126.out _;(with_reducible repeat (first|refine au ?_ _|refine av ?_|refine ak ?_ _));exact BK114.out⟩,⟨by (with_reducible repeat (first|refine au ?_ _|refine av ?_|refine ak ?_ _));refine bG (cs:=#[.string t122,.slice none 0 0]) ?_ 1 _ (by first|rfl|(simp only [ay,ax];rfl)|simp [ay,ax]);(with_reducible repeat (first|refine au ?_ _|refine av ?_|refine ak ?_ _));refine bG (cs:=#[.string (⟨#[]⟩:ByteArray),.slice none 0 0]) ?_ 0 _ (by first|rfl|(simp only [ay,ax];rfl)|simp [ay,ax]);(with_reducible repeat (first|refine au ?_ _|refine av ?_|refine ak ?_ _));exact BK126.out⟩,⟨by repeat (first|(with_reducible first|exact HB.out|apply af|apply ae|apply ag|refine ah ?_ GE114.out|refine ah ?_ GE126.out)|exact HB.out)⟩⟩
       case rest =>
        clear HC19
        try clear c1
        try clear p1
        try clear q1
        try clear hx1
        try clear qi1
        try clear hf1
        try clear c2
        try clear c2b0
        try clear c2b1
        try clear p2
        try clear q2
        try clear hx2
        try clear qi2
        try clear hf2
        try clear c3
        try clear hx3
        try clear hf3
        try clear p6
        try clear c7
        try clear c7b0
        try clear c8
        try clear c8b0
        try clear c9
        try clear c9b0
        try clear c10
        try clear c10b0
        try clear p11
        try clear q11
        try clear hx11
        try clear hf11
        try clear p12
        try clear q12
        try clear hx12
        try clear qi12
        try clear p13
        try clear q13
        try clear hx13
        try clear qi13
        try clear c14
        try clear c14b0
        try clear c14b1
        try clear c16
        try clear c16b0
        try clear c16b1
        try clear c16b2
        try clear c17
        try clear c18
        try clear c18b0
        try clear c18b1
        try clear c23
        try clear c24
        try clear c27
        try clear c27b0
        try clear c27b1
        try clear c28
        try clear c28b0
        try clear c28b1
        try clear c29
        try clear p29
        try clear q29
        try clear hx29
        try clear qi29
        try clear hf29
        try clear c30
        try clear c30b0
        try clear c30b1
        try clear c32
        try clear c32b0
        try clear c32b1
        try clear c32b2
        try clear c33
        try clear c34
        try clear c38
        try clear hx38
        try clear hf38
        try clear hcz25_0
        try clear hcz25_1
        try clear hcz35_0
        try clear hcz35_1
        try clear hfz25_0
        try clear hfz25_1
        try clear hfz35_0
        try clear hfz35_1
        try clear hx118_0
        try clear hx11_0
        try clear hx120_0
        try clear hx127_0
        try clear hx132_0
        try clear hx29_0
        try clear hx29_1
        try clear hx38_1
        try clear p1
        try clear p11
        try clear p118
        try clear p120
        try clear p127
        try clear p132
        try clear p2
        try clear p29
        try clear p6
        try clear q1
        try clear q11
        try clear q118
        try clear q120
        try clear q127
        try clear q132
        try clear q29
        obtain ⟨kq,x127001_18,u127001,HA,HJ18,HO_3,HO_127001,BK114,BK126,HB⟩:=hcut
        cases kq with
        | zero=>exact absurd HA.out (by simp [aA.j2])
        | succ kj18 =>
         have H:=HA.out
         clear HA
         simp only [aA.j2] at H
         by_cases c48:1 < (x3_2.length:Int)
         ·rw [if_pos c48] at H
          have c48b0:decide (1 < (x3_2.length:Int))=true:=decide_eq_true c48
          have c48b1:decide (1 < x3_2.length)=true:=decide_eq_true (by omega)
          clear c48
          have HC49:=aa.mk H
          clear H
          have p140:0≤(1:Int):=(by omega)
          have q140:1 < (x3_2.length:Int):=of_decide_eq_true (by first|(with_reducible assumption)|assumption)
          obtain ⟨ad140,e140,hx140_0⟩:=Kd.fD (Kd.bL HO_3.out).2.2 1 p140 q140
          obtain rfl:ad120=ad140:=(by injection e140)
          (try simp only [show (1:Int).toNat=1 from rfl,Nat.reduceMul,Nat.reduceEqDiff,Go.Addr.add,↓reduceIte] at hx140_0)
          have qi140:(1 < x3_2.length)=True:=eq_true (by omega)
          (try rw [show ((1:Int)).toNat=1 from rfl] at hx140_0)
          replace p140:=eq_true p140
          replace q140:=eq_true q140
          go_upto_if 60 with (fail)
          go_cut [] (fun wc=>∃ (kq:Nat) (x127001_48:List (S45)) (u127001:Value),aa (aA.j3 kq x3_2 ((⟨#[110]⟩:ByteArray)++t121) t122 x127001_48=some (r1,r2))∧aa (kq≤kj18)∧aa (Kd.R (Kd.int .i64) 3 wc w.heap.size (fun k_=>(w.heap.size≤k_)) (.slice (some ad120) x3_2.length co20) x3_2)∧aa (Kd.N ktA 45 wc w.heap.size (fun k_=>(w.heap.size≤k_)∧some k_≠((.slice (some ad120) x3_2.length co20):Value).ownBlock∧k_≠gb114∧k_≠gb126) u127001 x127001_48)∧aa (wc.heap[gb114]?=some (.cells #[.string (⟨#[]⟩:ByteArray),(.slice none 0 0)] 28 (0,0)))∧aa (wc.heap[gb126]?=some (.cells #[.string t122,u127001] 28 (0,0)))∧aa (Below w.heap.size w wc))
          case first =>
           have H:=HC49.out
           clear HC49
           by_cases c50:(Int.tmod (rd x3_2 1) 3)=1
           ·rw [if_pos c50] at H
            have c50b0:((Int.tmod (rd x3_2 1) 3) == 1)=true:=beq_iff_eq.mpr c50
            have c50b1:((Int.tmod (rd x3_2 1) 3) != 1)=false:=bne_eq_false_iff_eq.mpr c50
            clear c50
            (first|rw [c50b0]|(simp only [aT,aU];rw [c50b0])|skip)
            by_cases c51:2 < (x3_2.length:Int)
            ·rw [if_pos c51] at H
             have c51b0:decide (2 < (x3_2.length:Int))=true:=decide_eq_true c51
             have c51b1:decide (2 < x3_2.length)=true:=decide_eq_true (by omega)
             clear c51
             replace H:=Option.bind_eq_some_iff.mp H
             obtain ⟨t142,A520,H⟩:=H
             replace H:(if 2+t142.size≤9223372036854775807 then (if x127001_18.length < 3518437208883 then (aA.j3 kj18 x3_2 ((⟨#[110]⟩:ByteArray)++t121) t122 (x127001_18++[(⟨(⟨#[68,101,115,99,114,105,112,116,105,111,110]⟩:ByteArray),(([(⟨#[100,32]⟩:ByteArray)++t142,(⟨#[101]⟩:ByteArray)]:List ByteArray))⟩:S45)])) else (none)) else (none))=some (r1,r2):=H
             have A52:=aa.mk A520
             clear A520
             by_cases c53:2+t142.size≤9223372036854775807
             ·rw [if_pos c53] at H
              have c53b0:=eq_true c53
              have c53b1:decide (2+t142.size≤9223372036854775807)=true:=decide_eq_true c53
              try have c53b2:(9223372036854775807 < 2+t142.size)=False:=eq_false (Nat.not_lt.2 c53)
              obtain ⟨y143,hy143⟩:∃ y_:List ByteArray,y_=(([(⟨#[100,32]⟩:ByteArray)++t142,(⟨#[101]⟩:ByteArray)]:List ByteArray)):=⟨_,rfl⟩
              replace H:(if x127001_18.length < 3518437208883 then (aA.j3 kj18 x3_2 ((⟨#[110]⟩:ByteArray)++t121) t122 (x127001_18++[(⟨(⟨#[68,101,115,99,114,105,112,116,105,111,110]⟩:ByteArray),y143⟩:S45)])) else (none))=some (r1,r2):=by first|(rw [hy143];with_reducible exact H)|(have H2_:=(Option.bind_some _ _).symm.trans H;rw [hy143];with_reducible exact H2_)|(have H2_:=(Option.bind_some _ _).symm.trans H;with_reducible exact H2_)|with_reducible exact H|(rw [hy143];exact H)|exact H
              have Ny143:=aa.mk hy143
              clear hy143
              by_cases c54:x127001_18.length < 3518437208883
              ·rw [if_pos c54] at H
               have LMc54:=aa.mk c54
               clear c54
               obtain ⟨y146,hy146⟩:∃ y_:List (S45),y_=(x127001_18++[(⟨(⟨#[68,101,115,99,114,105,112,116,105,111,110]⟩:ByteArray),y143⟩:S45)]):=⟨_,rfl⟩
               replace H:(aA.j3 kj18 x3_2 ((⟨#[110]⟩:ByteArray)++t121) t122 y146)=some (r1,r2):=by first|(rw [hy146];with_reducible exact H)|(have H2_:=(Option.bind_some _ _).symm.trans H;rw [hy146];with_reducible exact H2_)|(have H2_:=(Option.bind_some _ _).symm.trans H;with_reducible exact H2_)|with_reducible exact H|(rw [hy146];exact H)|exact H
               have Ny146:=aa.mk hy146
               clear hy146
               have H':=aa.mk H
               clear H
               try go_wp2
               have n0_:=aa.mk (Kd.bB HO_3.out)
               have n1_:=aa.mk (Kd.bn HO_127001.out)
               have n2_:=aa.mk (av BK114.out)
               have n3_:=aa.mk (av BK126.out)
               have n4_:=aa.mk (ag HB.out)
               clear HO_3
               clear HO_127001
               clear BK114
               clear BK126
               clear HB
               have HO_3:=n0_
               have HO_127001:=n1_
               have BK114:=n2_
               have BK126:=n3_
               have HB:=n4_
               clear n0_ n1_ n2_ n3_ n4_
               have p141:0≤(2:Int):=(by omega)
               have q141:2 < (x3_2.length:Int):=of_decide_eq_true (by first|(with_reducible assumption)|assumption)
               obtain ⟨ad141,e141,hx141_0⟩:=Kd.fD (Kd.bL HO_3.out).2.2 2 p141 q141
               obtain rfl:ad120=ad141:=(by injection e141)
               (try simp only [show (2:Int).toNat=2 from rfl,Nat.reduceMul,Nat.reduceEqDiff,Go.Addr.add,↓reduceIte] at hx141_0)
               have qi141:(2 < x3_2.length)=True:=eq_true (by omega)
               (try rw [show ((2:Int)).toNat=2 from rfl] at hx141_0)
               replace p141:=eq_true p141
               replace q141:=eq_true q141
               refine jS (n:=14) (S:=fun w'=>w'.cell? ⟨gb126,0,none⟩=some (.string t122)∧w'.cell? ⟨gb126,1,none⟩=some (u127001)∧w'.cell? ⟨ad120.block,ad120.off+2,none⟩=some (.int .i64 (rd x3_2 2))) (ds:=[11,13]) #[false,false,false,false,false,false,false,false,false,false,false,false,false,false] (by kernel_rfl) rfl rfl ⟨(aj BK126.out 0).trans rfl,(aj BK126.out 1).trans rfl,hx141_0⟩ (fun hHeld=>?_);refine iy aA.tab12 aA.bits12 (fun HT_ HW_=>?_)
               generalize wc.drew=w55 at HO_3 HO_127001 BK114 BK126 HB hx141_0 hHeld ⊢
               refine di (i:=0) (N:=some 61) (v:=?_) (a':=?_) #[true,false,false,false,false,false,false,false,false,false,false,false,false,false] rfl rfl (bV HT_.out (by kernel_rfl)) (fun _ _ _ h=>h) (Or.inl ⟨by rfl,?_⟩) ?_ ?_
               rotate_left
               ·intro w'
                go_simp
                with_reducible rfl
               rotate_left
               ·simp only [Act.put,List.setIfInBounds_toArray,List.set_cons_zero,List.set_cons_succ,aT,aU]
                rfl
               refine di (i:=2) (N:=some 63) (v:=?_) (a':=?_) #[true,false,true,false,false,false,false,false,false,false,false,false,false,false] rfl rfl (bV HT_.out (by kernel_rfl)) (fun _ _ _ h=>h) (Or.inl ⟨by rfl,?_⟩) ?_ ?_
               rotate_left
               ·intro w'
                go_simp
                with_reducible rfl
               rotate_left
               ·simp only [Act.put,List.setIfInBounds_toArray,List.set_cons_zero,List.set_cons_succ,aT,aU]
                rfl
               refine di (i:=3) (N:=some 64) (v:=?_) (a':=?_) #[true,false,true,true,false,false,false,false,false,false,false,false,false,false] rfl rfl (bV HT_.out (by kernel_rfl)) (fun _ _ _ h=>h) (Or.inl ⟨by rfl,?_⟩) ?_ ?_
               rotate_left
               ·intro w'
                go_simp
                with_reducible rfl
               rotate_left
               ·simp only [Act.put,List.setIfInBounds_toArray,List.set_cons_zero,List.set_cons_succ,aT,aU]
                rfl
               refine take_ (i:=1) (N:=some 62) (v:=?_) (a':=?_) #[true,true,true,true,false,false,false,false,false,false,false,false,false,false] rfl rfl (fq HT_.out HW_.out (by kernel_rfl)) (fun _ _ _ h=>h) (Or.inl ⟨by rfl,?_⟩) hHeld ?_ ?_
               rotate_left
               ·rintro w' ⟨s0,s1,s2⟩
                go_simp
                with_reducible rfl
               rotate_left
               ·simp only [Act.put,List.setIfInBounds_toArray,List.set_cons_zero,List.set_cons_succ,aT,aU]
                rfl
               refine take_ (i:=4) (N:=some 65) (v:=?_) (a':=?_) #[true,true,true,true,true,false,false,false,false,false,false,false,false,false] rfl rfl (fq HT_.out HW_.out (by kernel_rfl)) (fun _ _ _ h=>h) (Or.inl ⟨by rfl,?_⟩) hHeld ?_ ?_
               rotate_left
               ·rintro w' ⟨s0,s1,s2⟩
                go_simp
                with_reducible rfl
               rotate_left
               ·simp only [Act.put,List.setIfInBounds_toArray,List.set_cons_zero,List.set_cons_succ,aT,aU]
                rfl
               refine di (i:=5) (N:=some 66) (v:=?_) (a':=?_) #[true,true,true,true,true,true,false,false,false,false,false,false,false,false] rfl rfl (bV HT_.out (by kernel_rfl)) (fun _ _ _ h=>h) (Or.inl ⟨by rfl,?_⟩) ?_ ?_
               rotate_left
               ·intro w'
                go_simp
                with_reducible rfl
               rotate_left
               ·simp only [Act.put,List.setIfInBounds_toArray,List.set_cons_zero,List.set_cons_succ,aT,aU]
                rfl
               refine ji (i:=6) (N:=some 67) #[true,true,true,true,true,true,true,false,false,false,false,false,false,false] rfl rfl (eO HT_.out (by kernel_rfl)) (by decide) (fun K hK=>?_)
               refine lN Tryz.func23 (by kernel_rfl) rfl #[.int .i64 (Int.tmod (rd x3_2 2) 9)] (by rfl) rfl rfl (by (try simp only [List.map_toArray,List.map_cons,List.map_nil]);first|done|rfl|(simp only [List.length_drop,List.length_take];rfl)) ?_
               with_reducible refine (bF.calls (Int.tmod (rd x3_2 2) 9) t142 _ A52.out).mono ?_
               rintro e w56 ⟨rfl,hb⟩
               have HS2_:=(hb.cell (World.block_lt_of_cell? _ _ (hHeld.2.2))).trans (hHeld.2.2)
               refine ⟨_,rfl,?_⟩
               have n0_:=aa.mk (Kd.bR (by (with_reducible repeat (first|apply Kd.bz|apply Kd.bq|apply Kd.bB));exact HO_3.out) hb)
               have n1_:=aa.mk (Kd.df (by (with_reducible repeat (first|apply Kd.aZ|apply Kd.aY|apply Kd.bn));exact HO_127001.out) hb)
               have n2_:=aa.mk (aI (g:=gb114) (o:=.cells #[.string (⟨#[]⟩:ByteArray),.slice none 0 0] 28 (0,0)) (by (with_reducible repeat (first|refine au ?_ _|refine av ?_|refine ak ?_ _));exact BK114.out) hb)
               have n3_:=aa.mk (aI (g:=gb126) (o:=.cells #[.string t122,u127001] 28 (0,0)) (by (with_reducible repeat (first|refine au ?_ _|refine av ?_|refine ak ?_ _));exact BK126.out) hb)
               have n4_:=aa.mk (aD (by repeat (first|(with_reducible first|exact HB.out|apply af|apply ae|apply ag|refine ah ?_ GE114.out|refine ah ?_ GE126.out)|exact HB.out)) hb)
               clear HO_3
               clear HO_127001
               clear BK114
               clear BK126
               clear HB
               have HO_3:=n0_
               have HO_127001:=n1_
               have BK114:=n2_
               have BK126:=n3_
               have HB:=n4_
               clear n0_ n1_ n2_ n3_ n4_
               (try clear hb)
               (try clear hb2)
               (try clear hk)
               (try clear hi)
               refine hK.out _ _ ⟨(aj BK126.out 0).trans rfl,(aj BK126.out 1).trans rfl,HS2_⟩ (fun hHeld=>?_)
               clear hK K
               refine fB (a':=?_) ?_ ?_
               rotate_left
               ·show Act.put _ (some 67) _=_
                simp only [Act.put,List.setIfInBounds_toArray,List.set_cons_zero,List.set_cons_succ,aT,aU]
                rfl
               refine di (i:=7) (N:=some 68) (v:=?_) (a':=?_) #[true,true,true,true,true,true,true,true,false,false,false,false,false,false] rfl rfl (bV HT_.out (by kernel_rfl)) (fun _ _ _ h=>h) (Or.inl ⟨by rfl,?_⟩) ?_ ?_
               rotate_left
               ·intro w'
                go_simp
                with_reducible rfl
               rotate_left
               ·simp only [Act.put,List.setIfInBounds_toArray,List.set_cons_zero,List.set_cons_succ,aT,aU]
                rfl
               refine ji (i:=8) (N:=some 69) #[true,true,true,true,true,true,true,true,true,false,false,false,false,false] rfl rfl (eO HT_.out (by kernel_rfl)) (by decide) (fun K hK=>?_)
               refine mq Kd.string _ 9 ?hg (N:=69) ?hd (xs:=([(⟨#[100,32]⟩:ByteArray)++t142,(⟨#[101]⟩:ByteArray)]:List ByteArray)) (inner:=[.string ((⟨#[100,32]⟩:ByteArray)++t142),.string (⟨#[101]⟩:ByteArray)]) (ok:=fun _=>True) (okp:=fun _=>True) ?hr ?hp (fun _ hk=>hk) trivial (Below.refl _ _) (Nat.le_refl _) (by simp) ?_;(case hd=>rfl);(case hg=>rfl);(case hr=>first|(go_simp;done)|(go_simp;rfl));(case hp=>exact (bI.one (show Kd.M Kd.string _ _ _ ((⟨#[100,32]⟩:ByteArray)++t142) [.string ((⟨#[100,32]⟩:ByteArray)++t142)] from rfl) (bI.one (show Kd.M Kd.string _ _ _ (⟨#[101]⟩:ByteArray) [.string (⟨#[101]⟩:ByteArray)] from rfl) (bI.none _ _))))
               intro v144 w57 ho58 hb hg_ hnew_ ht_;have HT145:=aa.mk ht_;clear ht_
               have HS2_:=(hb.cell (World.block_lt_of_cell? _ _ (hHeld.2.2))).trans (hHeld.2.2)
               clear hg_ hnew_
               (first|rw [← Ny143.out] at ho58|(simp only [Int.reduceToNat] at ho58;rw [← Ny143.out] at ho58))
               have n0_:=aa.mk (Kd.bR (by (with_reducible repeat (first|apply Kd.bz|apply Kd.bq|apply Kd.bB));exact HO_3.out) hb)
               have n1_:=aa.mk (Kd.cu (by (with_reducible repeat (first|apply Kd.aZ|apply Kd.aY|apply Kd.bn));exact HO_127001.out) (Kd.dI ho58) hb)
               have n2_:=aa.mk (Kd.dN (Kd.fu (M:=fun k_=>(w.heap.size≤k_)) ho58 (aG (by repeat (first|(with_reducible first|exact HB.out|apply af|apply ae|apply ag|refine ah ?_ GE114.out|refine ah ?_ GE126.out)|exact HB.out))) (fun k_ h_=>h_)) (aG (by repeat (first|(with_reducible first|exact HB.out|apply af|apply ae|apply ag|refine ah ?_ GE114.out|refine ah ?_ GE126.out)|exact HB.out))))
               have n3_:=aa.mk (aI (g:=gb114) (o:=.cells #[.string (⟨#[]⟩:ByteArray),.slice none 0 0] 28 (0,0)) (by (with_reducible repeat (first|refine au ?_ _|refine av ?_|refine ak ?_ _));exact BK114.out) hb)
               have n4_:=aa.mk (aI (g:=gb126) (o:=.cells #[.string t122,u127001] 28 (0,0)) (by (with_reducible repeat (first|refine au ?_ _|refine av ?_|refine ak ?_ _));exact BK126.out) hb)
               have n5_:=aa.mk (aD (by repeat (first|(with_reducible first|exact HB.out|apply af|apply ae|apply ag|refine ah ?_ GE114.out|refine ah ?_ GE126.out)|exact HB.out)) hb)
               clear HO_3
               clear HO_127001
               clear BK114
               clear BK126
               clear HB
               have HO_3:=n0_
               have HO_127001:=n1_
               have HO145:=n2_
               have BK114:=n3_
               have BK126:=n4_
               have HB:=n5_
               clear n0_ n1_ n2_ n3_ n4_ n5_
               clear hb ho58
               obtain ⟨Ao59,co59,eo59⟩:=Kd.cO HO145.out
               (first|subst eo59|(injection eo59 with f1_ f2_ f3_;have f4_:=f1_.symm;have f5_:=f3_.symm;clear f1_ f2_ f3_;subst f4_;subst f5_))
               refine hK.out _ _ ⟨(aj BK126.out 0).trans rfl,(aj BK126.out 1).trans rfl,HS2_⟩ (fun hHeld=>?_)
               clear hK K
               refine fB (a':=?_) ?_ ?_
               rotate_left
               ·show Act.put _ (some 69) _=_
                simp only [Act.put,List.setIfInBounds_toArray,List.set_cons_zero,List.set_cons_succ,aT,aU]
                rfl
               refine di (i:=9) (N:=some 70) (v:=?_) (a':=?_) #[true,true,true,true,true,true,true,true,true,true,false,false,false,false] rfl rfl (bV HT_.out (by kernel_rfl)) (fun _ _ _ h=>h) (Or.inl ⟨by rfl,?_⟩) ?_ ?_
               rotate_left
               ·intro w'
                go_simp
                with_reducible rfl
               rotate_left
               ·simp only [Act.put,List.setIfInBounds_toArray,List.set_cons_zero,List.set_cons_succ,aT,aU]
                rfl
               refine ji (i:=10) (N:=some 71) #[true,true,true,true,true,true,true,true,true,true,true,false,false,false] rfl rfl (eO HT_.out (by kernel_rfl)) (by decide) (fun K hK=>?_)
               refine pu (w1:=?_) (v:=?_) (by rfl) rfl ?_ ?_
               rotate_left 2
               ·go_simp
                constructor
                ·rfl
                ·rfl
               refine hK.out _ _ ⟨(aj (ak BK126.out _) 0).trans rfl,(aj (ak BK126.out _) 1).trans rfl,(World.cell?_alloc_lt _ _ _ (World.block_lt_of_cell? _ _ (hHeld.2.2))).trans (hHeld.2.2)⟩ (fun hHeld=>?_)
               clear hK K
               refine fB (a':=?_) ?_ ?_
               rotate_left
               ·show Act.put _ (some 71) _=_
                simp only [Act.put,List.setIfInBounds_toArray,List.set_cons_zero,List.set_cons_succ,aT,aU]
                rfl
               refine mJ (i:=11) (N:=some 72) #[true,true,true,true,true,true,true,true,true,true,true,true,false,false] rfl rfl (eO HT_.out (by kernel_rfl)) (by decide) (fun K hK=>?_)
               refine Kd.jq ktA (w0:=w) w.heap.size (by rfl) (.tmp 62) (.tmp 71) 26 45 (.agg #[(.string ⟨#[]⟩),(.slice none 0 0)]) 40 rfl Tryz.underlying26 pX rfl (by decide) (by omega) u127001 x127001_18 (⟨(⟨#[68,101,115,99,114,105,112,116,105,111,110]⟩:ByteArray),y143⟩:S45) [.string (⟨#[68,101,115,99,114,105,112,116,105,111,110]⟩:ByteArray),.slice Ao59 y143.length co59] (fun k_=>(w.heap.size≤k_)∧some k_≠(.slice (some ad120) x3_2.length co20:Value).ownBlock∧k_≠gb114∧k_≠gb126) (fun k_=>((fun k_=>(w.heap.size≤k_)∧some k_≠(.slice (some ad120) x3_2.length co20:Value).ownBlock∧k_≠gb114∧k_≠gb126)) k_∧some k_≠(u127001:Value).ownBlock) rfl rfl ?aP (fun _ hk=>hk) ?aF ?aO ?aB ?aS ?aL ?_
               (case aP=>exact (ky _ _ (⟨(⟨#[68,101,115,99,114,105,112,116,105,111,110]⟩:ByteArray),y143⟩:S45) HT145.out (Kd.bL (Kd.bX (ok':=(fun k_=>((fun k_=>(w.heap.size≤k_)∧some k_≠(.slice (some ad120) x3_2.length co20:Value).ownBlock∧k_≠gb114∧k_≠gb126)) k_∧some k_≠(u127001:Value).ownBlock)) (Kd.bK (Kd.bK (Kd.dD (Kd.dD (HO145.out) (Kd.fU HO_3.out) (by decide)) (Kd.eZ HO_127001.out) (by decide)) BK114.out (by decide)) BK126.out (by decide)) (fun k_ hk=>⟨⟨hk.1.1.1.1.1,⟨hk.1.1.1.2,⟨hk.1.2,hk.2⟩⟩⟩,hk.1.1.2⟩))).2.1 (Kd.R_F (Kd.bX (ok':=(fun k_=>((fun k_=>(w.heap.size≤k_)∧some k_≠(.slice (some ad120) x3_2.length co20:Value).ownBlock∧k_≠gb114∧k_≠gb126)) k_∧some k_≠(u127001:Value).ownBlock)) (Kd.bK (Kd.bK (Kd.dD (Kd.dD (HO145.out) (Kd.fU HO_3.out) (by decide)) (Kd.eZ HO_127001.out) (by decide)) BK114.out (by decide)) BK126.out (by decide)) (fun k_ hk=>⟨⟨hk.1.1.1.1.1,⟨hk.1.1.1.2,⟨hk.1.2,hk.2⟩⟩⟩,hk.1.1.2⟩)))))
               (case aB=>exact (by repeat (first|(with_reducible first|exact HB.out|apply af|apply ae|apply ag|refine ah ?_ GE114.out|refine ah ?_ GE126.out)|exact HB.out)))
               (case aF=>exact (fun k_ hk=>⟨(Nat.le_trans (aG (by repeat (first|(with_reducible first|exact HB.out|apply af|apply ae|apply ag|refine ah ?_ GE114.out|refine ah ?_ GE126.out)|exact HB.out))) hk),Kd.fresh' (Kd.iD (by (with_reducible repeat (first|apply Kd.bz|apply Kd.bq|apply Kd.bB));exact HO_3.out)) k_ hk,Kd.dC (g:=gb114) (o:=.cells #[.string (⟨#[]⟩:ByteArray),.slice none 0 0] 28 (0,0)) (by (with_reducible repeat (first|refine au ?_ _|refine av ?_|refine ak ?_ _));exact BK114.out) k_ hk,Kd.dC (g:=gb126) (o:=.cells #[.string t122,u127001] 28 (0,0)) (by (with_reducible repeat (first|refine au ?_ _|refine av ?_|refine ak ?_ _));exact BK126.out) k_ hk⟩))
               (case aO=>exact (by (with_reducible repeat (first|apply Kd.aZ|apply Kd.aY|apply Kd.bn));exact Kd.bH HO_127001.out (fun _ hk=>⟨hk.1.1,⟨hk.1.2.1,⟨hk.1.2.2.1,hk.1.2.2.2⟩⟩⟩)))
               (case aS=>exact (aG (by repeat (first|(with_reducible first|exact HB.out|apply af|apply ae|apply ag|refine ah ?_ GE114.out|refine ah ?_ GE126.out)|exact HB.out))))
               (case aL=>have:=LMc54.out;omega)
               intro v147 w60 ho hb hg hat
               rw [← Ny146.out] at ho
               have n0_:=aa.mk (Kd.kI (by (with_reducible repeat (first|apply Kd.bz|apply Kd.bq|apply Kd.bB));exact HO_3.out) (Kd.eZ (by (with_reducible repeat (first|apply Kd.aZ|apply Kd.aY|apply Kd.bn));exact HO_127001.out)) (by decide) hg)
               have n1_:=aa.mk (dH (g:=gb114) (o:=.cells #[.string (⟨#[]⟩:ByteArray),.slice none 0 0] 28 (0,0)) (by (with_reducible repeat (first|refine au ?_ _|refine av ?_|refine ak ?_ _));exact BK114.out) hg (Kd.mO HO_127001.out BK114.out (by decide)))
               have n2_:=aa.mk (dH (g:=gb126) (o:=.cells #[.string t122,u127001] 28 (0,0)) (by (with_reducible repeat (first|refine au ?_ _|refine av ?_|refine ak ?_ _));exact BK126.out) hg (Kd.mO HO_127001.out BK126.out (by decide)))
               have n3_:=aa.mk (hb)
               have n4_:=aa.mk (ho)
               clear HO_3
               clear BK114
               clear BK126
               clear HB
               clear HO_127001
               clear HO145
               have HO_3:=n0_
               have BK114:=n1_
               have BK126:=n2_
               have HB:=n3_
               have HO148:=n4_
               clear n0_ n1_ n2_ n3_ n4_
               clear ho hb hg hat
               obtain ⟨Ao61,co61,eo61⟩:=Kd.dR HO148.out
               (first|subst eo61|(injection eo61 with f1_ f2_ f3_;have f4_:=f1_.symm;have f5_:=f3_.symm;clear f1_ f2_ f3_;subst f4_;subst f5_))
               refine hK.out _ _ ?_
               clear hK K
               refine fB (a':=?_) ?_ ?_
               rotate_left
               ·show Act.put _ (some 72) _=_
                simp only [Act.put,List.setIfInBounds_toArray,List.set_cons_zero,List.set_cons_succ,aT,aU]
                rfl
               refine di (i:=12) (N:=some 73) (v:=?_) (a':=?_) #[true,true,true,true,true,true,true,true,true,true,true,true,true,false] rfl rfl (bV HT_.out (by kernel_rfl)) (fun _ _ _ h=>h) (Or.inl ⟨by rfl,?_⟩) ?_ ?_
               rotate_left
               ·intro w'
                go_simp
                with_reducible rfl
               rotate_left
               ·simp only [Act.put,List.setIfInBounds_toArray,List.set_cons_zero,List.set_cons_succ,aT,aU]
                rfl
               refine mJ (i:=13) (N:=none) #[true,true,true,true,true,true,true,true,true,true,true,true,true,true] rfl rfl (eO HT_.out (by kernel_rfl)) (by decide) (fun K hK=>?_)
               have hs62:w60.cell? ⟨gb126,1,none⟩=some (u127001):=(aj BK126.out 1).trans rfl
               have hfs62:=ai BK126.out 1
               have hns62_0:=NB114_126.out
               have hms62_0:=NB126_114.out
               refine qh (w1:=?_) (by rfl) rfl ?_ ?_
               rotate_left
               ·go_simp
                rfl
               refine hK.out _ _ ?_
               clear hK K
               refine mH (jH HT_.out (by kernel_rfl)) ?_
               try go_wp2
               go_meet
               case rel=>exact ⟨_,(y146),(.slice Ao61 y146.length co61),H',⟨by have:=HJ2.out;have:=HJ18.out;first|omega|exact Nat.le_refl _⟩,⟨by (with_reducible repeat (first|apply Kd.bz|apply Kd.bq|apply Kd.bB));exact Kd.bX (Kd.je (p:=⟨gb126,1,none⟩) (Kd.bK HO_3.out BK126.out (by decide)) (fun _ hk=>hk.2) (.slice Ao61 y146.length co61)) (fun _ hk=>hk.1)⟩,⟨by (with_reducible repeat (first|apply Kd.aZ|apply Kd.aY|apply Kd.bn));exact Kd.bH (Kd.dQ (p:=⟨gb126,1,none⟩) (Kd.bH HO148.out (fun k_ hk=>(⟨hk,hk.2.2.2⟩:_∧k_≠gb126))) (fun _ hk=>hk.2) (.slice Ao61 y146.length co61)) (fun _ hk=>⟨hk.1.1,⟨hk.1.2.1,⟨hk.1.2.2.1,hk.1.2.2.2⟩⟩⟩)⟩,⟨by (with_reducible repeat (first|refine au ?_ _|refine av ?_|refine ak ?_ _));refine dB ?_ NB114_126.out _;(with_reducible repeat (first|refine au ?_ _|refine av ?_|refine ak ?_ _));exact BK114.out⟩,⟨by (with_reducible repeat (first|refine au ?_ _|refine av ?_|refine ak ?_ _));refine bG (cs:=#[.string t122,u127001]) ?_ 1 _ (by first|rfl|(simp only [ay,ax];rfl)|simp [ay,ax]);(with_reducible repeat (first|refine au ?_ _|refine av ?_|refine ak ?_ _));exact BK126.out⟩,⟨by repeat (first|(with_reducible first|exact HB.out|apply af|apply ae|apply ag|refine ah ?_ GE114.out|refine ah ?_ GE126.out)|exact HB.out)⟩⟩
              ·rw [if_neg c54] at H
               exact absurd H (by simp)
             ·rw [if_neg c53] at H
              exact absurd H (by simp)
            ·rw [if_neg c51] at H
             exact absurd H (by simp)
           ·rw [if_neg c50] at H
            have c50b0:((Int.tmod (rd x3_2 1) 3) == 1)=false:=beq_eq_false_iff_ne.mpr c50
            have c50b1:((Int.tmod (rd x3_2 1) 3) != 1)=true:=bne_iff_ne.mpr c50
            (first|rw [c50b0]|(simp only [aT,aU];rw [c50b0])|skip)
            have H':=aa.mk H
            clear H
            go_wp2
            go_meet
            case rel=>exact ⟨_,(x127001_18),(u127001),H',⟨by have:=HJ2.out;have:=HJ18.out;first|omega|exact Nat.le_refl _⟩,⟨by (with_reducible repeat (first|apply Kd.bz|apply Kd.bq|apply Kd.bB));exact HO_3.out⟩,⟨by (with_reducible repeat (first|apply Kd.aZ|apply Kd.aY|apply Kd.bn));exact HO_127001.out⟩,⟨by (with_reducible repeat (first|refine au ?_ _|refine av ?_|refine ak ?_ _));exact BK114.out⟩,⟨by (with_reducible repeat (first|refine au ?_ _|refine av ?_|refine ak ?_ _));exact BK126.out⟩,⟨by repeat (first|(with_reducible first|exact HB.out|apply af|apply ae|apply ag|refine ah ?_ GE114.out|refine ah ?_ GE126.out)|exact HB.out)⟩⟩
          case rest =>
           clear HC49
           try clear c1
           try clear p1
           try clear q1
           try clear hx1
           try clear qi1
           try clear hf1
           try clear c2
           try clear c2b0
           try clear c2b1
           try clear p2
           try clear q2
           try clear hx2
           try clear qi2
           try clear hf2
           try clear c3
           try clear hx3
           try clear hf3
           try clear c4
           try clear c5
           try clear p6
           try clear c7
           try clear c7b0
           try clear c8
           try clear c8b0
           try clear c9
           try clear c9b0
           try clear c10
           try clear c10b0
           try clear p11
           try clear q11
           try clear hx11
           try clear hf11
           try clear p12
           try clear q12
           try clear hx12
           try clear qi12
           try clear p13
           try clear q13
           try clear hx13
           try clear qi13
           try clear c14
           try clear c14b0
           try clear c14b1
           try clear p14
           try clear q14
           try clear hx14
           try clear qi14
           try clear c16
           try clear c16b0
           try clear c16b1
           try clear c16b2
           try clear c17
           try clear c18
           try clear c18b0
           try clear c18b1
           try clear c23
           try clear c24
           try clear c27
           try clear c27b0
           try clear c27b1
           try clear c28
           try clear c28b0
           try clear c28b1
           try clear c29
           try clear p29
           try clear q29
           try clear hx29
           try clear qi29
           try clear hf29
           try clear c30
           try clear c30b0
           try clear c30b1
           try clear c32
           try clear c32b0
           try clear c32b1
           try clear c32b2
           try clear c33
           try clear c34
           try clear c38
           try clear hx38
           try clear hf38
           try clear c48
           try clear c48b0
           try clear c48b1
           try clear c50
           try clear c50b0
           try clear c50b1
           try clear c51
           try clear c51b0
           try clear c51b1
           try clear c53
           try clear c53b0
           try clear c53b1
           try clear c53b2
           try clear c54
           try clear hcz25_0
           try clear hcz25_1
           try clear hcz35_0
           try clear hcz35_1
           try clear hfz25_0
           try clear hfz25_1
           try clear hfz35_0
           try clear hfz35_1
           try clear hx118_0
           try clear hx11_0
           try clear hx120_0
           try clear hx127_0
           try clear hx132_0
           try clear hx140_0
           try clear hx141_0
           try clear hx29_0
           try clear hx29_1
           try clear hx38_1
           try clear p1
           try clear p11
           try clear p118
           try clear p12
           try clear p120
           try clear p127
           try clear p13
           try clear p132
           try clear p140
           try clear p141
           try clear p2
           try clear p29
           try clear p6
           try clear q1
           try clear q11
           try clear q118
           try clear q12
           try clear q120
           try clear q127
           try clear q13
           try clear q132
           try clear q140
           try clear q141
           try clear q2
           try clear q29
           obtain ⟨kq,x127001_48,u127001,HA,HJ48,HO_3,HO_127001,BK114,BK126,HB⟩:=hcut
           cases kq with
           | zero=>exact absurd HA.out (by simp [aA.j3])
           | succ kj48 =>
            have H:=HA.out
            clear HA
            simp only [aA.j3] at H
            by_cases c63:3 < (x3_2.length:Int)
            ·rw [if_pos c63] at H
             have c63b0:decide (3 < (x3_2.length:Int))=true:=decide_eq_true c63
             have c63b1:decide (3 < x3_2.length)=true:=decide_eq_true (by omega)
             clear c63
             have HC64:=aa.mk H
             clear H
             have p149:0≤(3:Int):=(by omega)
             have q149:3 < (x3_2.length:Int):=of_decide_eq_true (by first|(with_reducible assumption)|assumption)
             obtain ⟨ad149,e149,hx149_0⟩:=Kd.fD (Kd.bL HO_3.out).2.2 3 p149 q149
             obtain rfl:ad120=ad149:=(by injection e149)
             (try simp only [show (3:Int).toNat=3 from rfl,Nat.reduceMul,Nat.reduceEqDiff,Go.Addr.add,↓reduceIte] at hx149_0)
             have qi149:(3 < x3_2.length)=True:=eq_true (by omega)
             (try rw [show ((3:Int)).toNat=3 from rfl] at hx149_0)
             replace p149:=eq_true p149
             replace q149:=eq_true q149
             go_upto_if 78 with (fail)
             go_cut [] (fun wc=>∃ (kq:Nat) (x127001_63:List (S45)) (u127001:Value),aa (aA.j4 kq x3_2 ((⟨#[110]⟩:ByteArray)++t121) t122 x127001_63=some (r1,r2))∧aa (kq≤kj48)∧aa (Kd.R (Kd.int .i64) 3 wc w.heap.size (fun k_=>(w.heap.size≤k_)) (.slice (some ad120) x3_2.length co20) x3_2)∧aa (Kd.N k45 45 wc w.heap.size (fun k_=>(w.heap.size≤k_)∧some k_≠((.slice (some ad120) x3_2.length co20):Value).ownBlock∧k_≠gb114∧k_≠gb126) u127001 x127001_63)∧aa (wc.heap[gb114]?=some (.cells #[.string (⟨#[]⟩:ByteArray),(.slice none 0 0)] 28 (0,0)))∧aa (wc.heap[gb126]?=some (.cells #[.string t122,u127001] 28 (0,0)))∧aa (Below w.heap.size w wc))
             case first =>
              have H:=HC64.out
              clear HC64
              by_cases c65:(Int.tmod (rd x3_2 3) 4)=0
              ·rw [if_pos c65] at H
               have c65b0:((Int.tmod (rd x3_2 3) 4) == 0)=true:=beq_iff_eq.mpr c65
               have c65b1:((Int.tmod (rd x3_2 3) 4) != 0)=false:=bne_eq_false_iff_eq.mpr c65
               clear c65
               (first|rw [c65b0]|(simp only [aT,aU];rw [c65b0])|skip)
               by_cases cq:¬ (bZ x127001_48 1).f1.length≤1000
               ·rw [if_neg cq] at H
                exact absurd H (by simp)
               rw [if_pos (Decidable.not_not.1 cq)] at H
               have CQ:=aa.mk (Decidable.not_not.1 cq)
               clear cq
               obtain ⟨y150,hy150⟩:∃ y_:List ByteArray,y_=((bZ x127001_48 1).f1++[(⟨#[112,111,115,105,120]⟩:ByteArray)]:List ByteArray):=⟨_,rfl⟩
               replace H:(if 1 < (x127001_48.length:Int) then ((some (x127001_48.set (1:Int).toNat (⟨(bZ x127001_48 1).f0,y150⟩:S45):List (S45))).bind fun y153=>(if 4 < (x3_2.length:Int) then ((bF.f (Int.tmod (rd x3_2 4) 9)).bind fun t155=>(if 1+t155.size≤9223372036854775807 then ((bF.f (wrap64 ((rd x3_2 4) - 100))).bind fun t160=>((some (([(⟨(⟨#[117,105,100]⟩:ByteArray),(([(⟨#[117]⟩:ByteArray)++t155]:List ByteArray))⟩:S45),(⟨(⟨#[117,105,100,78,117,109,98,101,114]⟩:ByteArray),(([t160]:List ByteArray))⟩:S45)]:List (S45)):List (S45))).bind fun y164=>(if y153.length+y164.length < 3518437208883 then (aA.j4 kj48 x3_2 ((⟨#[110]⟩:ByteArray)++t121) t122 (y153++y164)) else (none)))) else (none))) else (none))) else (none))=some (r1,r2):=by first|(rw [hy150];with_reducible exact H)|(have H2_:=(Option.bind_some _ _).symm.trans H;rw [hy150];with_reducible exact H2_)|(have H2_:=(Option.bind_some _ _).symm.trans H;with_reducible exact H2_)|with_reducible exact H|(rw [hy150];exact H)|exact H
               have Ny150:=aa.mk hy150
               clear hy150
               by_cases c66:1 < (x127001_48.length:Int)
               ·rw [if_pos c66] at H
                have c66b0:decide (1 < (x127001_48.length:Int))=true:=decide_eq_true c66
                have c66b1:decide (1 < x127001_48.length)=true:=decide_eq_true (by omega)
                clear c66
                obtain ⟨y153,hy153⟩:∃ y_:List (S45),y_=(x127001_48.set (1:Int).toNat (⟨(bZ x127001_48 1).f0,y150⟩:S45)):=⟨_,rfl⟩
                replace H:(if 4 < (x3_2.length:Int) then ((bF.f (Int.tmod (rd x3_2 4) 9)).bind fun t155=>(if 1+t155.size≤9223372036854775807 then ((bF.f (wrap64 ((rd x3_2 4) - 100))).bind fun t160=>((some (([(⟨(⟨#[117,105,100]⟩:ByteArray),(([(⟨#[117]⟩:ByteArray)++t155]:List ByteArray))⟩:S45),(⟨(⟨#[117,105,100,78,117,109,98,101,114]⟩:ByteArray),(([t160]:List ByteArray))⟩:S45)]:List (S45)):List (S45))).bind fun y164=>(if y153.length+y164.length < 3518437208883 then (aA.j4 kj48 x3_2 ((⟨#[110]⟩:ByteArray)++t121) t122 (y153++y164)) else (none)))) else (none))) else (none))=some (r1,r2):=by first|(rw [hy153];with_reducible exact H)|(have H2_:=(Option.bind_some _ _).symm.trans H;rw [hy153];with_reducible exact H2_)|(have H2_:=(Option.bind_some _ _).symm.trans H;with_reducible exact H2_)|with_reducible exact H|(rw [hy153];exact H)|exact H
                have Ny153:=aa.mk hy153
                clear hy153
                by_cases c68:4 < (x3_2.length:Int)
                ·rw [if_pos c68] at H
                 have c68b0:decide (4 < (x3_2.length:Int))=true:=decide_eq_true c68
                 have c68b1:decide (4 < x3_2.length)=true:=decide_eq_true (by omega)
                 clear c68
                 replace H:=Option.bind_eq_some_iff.mp H
                 obtain ⟨t155,A690,H⟩:=H
                 replace H:(if 1+t155.size≤9223372036854775807 then ((bF.f (wrap64 ((rd x3_2 4) - 100))).bind fun t160=>((some (([(⟨(⟨#[117,105,100]⟩:ByteArray),(([(⟨#[117]⟩:ByteArray)++t155]:List ByteArray))⟩:S45),(⟨(⟨#[117,105,100,78,117,109,98,101,114]⟩:ByteArray),(([t160]:List ByteArray))⟩:S45)]:List (S45)):List (S45))).bind fun y164=>(if y153.length+y164.length < 3518437208883 then (aA.j4 kj48 x3_2 ((⟨#[110]⟩:ByteArray)++t121) t122 (y153++y164)) else (none)))) else (none))=some (r1,r2):=H
                 have A69:=aa.mk A690
                 clear A690
                 by_cases c70:1+t155.size≤9223372036854775807
                 ·rw [if_pos c70] at H
                  have c70b0:=eq_true c70
                  have c70b1:decide (1+t155.size≤9223372036854775807)=true:=decide_eq_true c70
                  try have c70b2:(9223372036854775807 < 1+t155.size)=False:=eq_false (Nat.not_lt.2 c70)
                  obtain ⟨y156,hy156⟩:∃ y_:List ByteArray,y_=(([(⟨#[117]⟩:ByteArray)++t155]:List ByteArray)):=⟨_,rfl⟩
                  replace H:((bF.f (wrap64 ((rd x3_2 4) - 100))).bind fun t160=>((some (([(⟨(⟨#[117,105,100]⟩:ByteArray),y156⟩:S45),(⟨(⟨#[117,105,100,78,117,109,98,101,114]⟩:ByteArray),(([t160]:List ByteArray))⟩:S45)]:List (S45)):List (S45))).bind fun y164=>(if y153.length+y164.length < 3518437208883 then (aA.j4 kj48 x3_2 ((⟨#[110]⟩:ByteArray)++t121) t122 (y153++y164)) else (none))))=some (r1,r2):=by first|(rw [hy156];with_reducible exact H)|(have H2_:=(Option.bind_some _ _).symm.trans H;rw [hy156];with_reducible exact H2_)|(have H2_:=(Option.bind_some _ _).symm.trans H;with_reducible exact H2_)|with_reducible exact H|(rw [hy156];exact H)|exact H
                  have Ny156:=aa.mk hy156
                  clear hy156
                  replace H:=Option.bind_eq_some_iff.mp H
                  obtain ⟨t160,A710,H⟩:=H
                  replace H:((some (([(⟨(⟨#[117,105,100]⟩:ByteArray),y156⟩:S45),(⟨(⟨#[117,105,100,78,117,109,98,101,114]⟩:ByteArray),(([t160]:List ByteArray))⟩:S45)]:List (S45)):List (S45))).bind fun y164=>(if y153.length+y164.length < 3518437208883 then (aA.j4 kj48 x3_2 ((⟨#[110]⟩:ByteArray)++t121) t122 (y153++y164)) else (none)))=some (r1,r2):=H
                  have A71:=aa.mk A710
                  clear A710
                  obtain ⟨y161,hy161⟩:∃ y_:List ByteArray,y_=(([t160]:List ByteArray)):=⟨_,rfl⟩
                  replace H:((some (([(⟨(⟨#[117,105,100]⟩:ByteArray),y156⟩:S45),(⟨(⟨#[117,105,100,78,117,109,98,101,114]⟩:ByteArray),y161⟩:S45)]:List (S45)):List (S45))).bind fun y164=>(if y153.length+y164.length < 3518437208883 then (aA.j4 kj48 x3_2 ((⟨#[110]⟩:ByteArray)++t121) t122 (y153++y164)) else (none)))=some (r1,r2):=by first|(rw [hy161];with_reducible exact H)|(have H2_:=(Option.bind_some _ _).symm.trans H;rw [hy161];with_reducible exact H2_)|(have H2_:=(Option.bind_some _ _).symm.trans H;with_reducible exact H2_)|with_reducible exact H|(rw [hy161];exact H)|exact H
                  have Ny161:=aa.mk hy161
                  clear hy161
                  obtain ⟨y164,hy164⟩:∃ y_:List (S45),y_=(([(⟨(⟨#[117,105,100]⟩:ByteArray),y156⟩:S45),(⟨(⟨#[117,105,100,78,117,109,98,101,114]⟩:ByteArray),y161⟩:S45)]:List (S45))):=⟨_,rfl⟩
                  replace H:(if y153.length+y164.length < 3518437208883 then (aA.j4 kj48 x3_2 ((⟨#[110]⟩:ByteArray)++t121) t122 (y153++y164)) else (none))=some (r1,r2):=by first|(rw [hy164];with_reducible exact H)|(have H2_:=(Option.bind_some _ _).symm.trans H;rw [hy164];with_reducible exact H2_)|(have H2_:=(Option.bind_some _ _).symm.trans H;with_reducible exact H2_)|with_reducible exact H|(rw [hy164];exact H)|exact H
                  have Ny164:=aa.mk hy164
                  clear hy164
                  by_cases c72:y153.length+y164.length < 3518437208883
                  ·rw [if_pos c72] at H
                   have LMc72:=aa.mk c72
                   clear c72
                   obtain ⟨y167,hy167⟩:∃ y_:List (S45),y_=(y153++y164):=⟨_,rfl⟩
                   replace H:(aA.j4 kj48 x3_2 ((⟨#[110]⟩:ByteArray)++t121) t122 y167)=some (r1,r2):=by first|(rw [hy167];with_reducible exact H)|(have H2_:=(Option.bind_some _ _).symm.trans H;rw [hy167];with_reducible exact H2_)|(have H2_:=(Option.bind_some _ _).symm.trans H;with_reducible exact H2_)|with_reducible exact H|(rw [hy167];exact H)|exact H
                   have Ny167:=aa.mk hy167
                   clear hy167
                   have H':=aa.mk H
                   clear H
                   have hnb73:=NB126_114.out
                   have hnc73:=NB114_126.out
                   have hcz74_0:wc.cell? ⟨gb126,0,none⟩=some (.string t122):=(aj BK126.out 0).trans rfl
                   have hcz74_1:wc.cell? ⟨gb126,1,none⟩=some (u127001):=(aj BK126.out 1).trans rfl
                   have hfz74_0:=ai BK126.out 0
                   have hfz74_1:=ai BK126.out 1
                   try go_wp2
                   have n0_:=aa.mk (Kd.bB HO_3.out)
                   have n1_:=aa.mk (Kd.bn HO_127001.out)
                   have n2_:=aa.mk (av BK114.out)
                   have n3_:=aa.mk (av BK126.out)
                   have n4_:=aa.mk (ag HB.out)
                   clear HO_3
                   clear HO_127001
                   clear BK114
                   clear BK126
                   clear HB
                   have HO_3:=n0_
                   have HO_127001:=n1_
                   have BK114:=n2_
                   have BK126:=n3_
                   have HB:=n4_
                   clear n0_ n1_ n2_ n3_ n4_
                   have p67:0≤(1:Int):=(by omega)
                   have q67:(1:Int) < ((x127001_48.length:Int):Int):=of_decide_eq_true (by first|(with_reducible assumption)|assumption)
                   have qi67:(1 < x127001_48.length)=True:=eq_true (by omega)
                   obtain ⟨go67,co67,eo67,gb67,gl67,cl67,HG67⟩:=Kd.ul HO_127001.out (by omega)
                   subst eo67
                   have GB67:=aa.mk gb67
                   clear gb67 gl67 HG67
                   obtain ⟨ceT,hclT,hMT,hccT,hfrT⟩:=Kd.mh HO_127001.out z45 (1:Int) p67 q67
                   obtain ⟨uaT,rfl,geT⟩:=tY hMT
                   have hxT:wc.drew.cell? ⟨go67,3,none⟩=some (.slice uaT (bZ x127001_48 1).f1.length (bZ x127001_48 1).f1.length):=hccT 1 _ rfl
                   have GT:=aa.mk geT
                   clear hclT hMT hccT hfrT geT
                   have n_:=aa.mk (rZ HO_127001.out)
                   clear HO_127001
                   have HO_127001:=n_
                   clear n_
                   replace p67:=eq_true p67
                   replace q67:=eq_true q67
                   refine jS (n:=12) (S:=fun w'=>w'.cell? ⟨gb126,0,none⟩=some (.string t122)∧w'.cell? ⟨gb126,1,none⟩=some (.slice (some ⟨go67,0,none⟩) x127001_48.length co67)∧w'.cell? ⟨go67,3,none⟩=some (.slice uaT (bZ x127001_48 1).f1.length (bZ x127001_48 1).f1.length)) (ds:=[11]) #[false,false,false,false,false,false,false,false,false,false,false,false] (by kernel_rfl) rfl rfl ⟨(aj BK126.out 0).trans rfl,(aj BK126.out 1).trans rfl,hxT⟩ (fun hHeld=>?_);refine iy aA.tab14 aA.bits14 (fun HT_ HW_=>?_)
                   generalize wc.drew=wT at HO_3 HO_127001 BK114 BK126 HB GT hxT hHeld ⊢
                   refine di (i:=0) (N:=some 79) (v:=?_) (a':=?_) #[true,false,false,false,false,false,false,false,false,false,false,false] rfl rfl (bV HT_.out (by kernel_rfl)) (fun _ _ _ h=>h) (Or.inl ⟨by rfl,?_⟩) ?_ ?_
                   rotate_left
                   ·intro w'
                    go_simp
                    with_reducible rfl
                   rotate_left
                   ·simp only [Act.put,List.setIfInBounds_toArray,List.set_cons_zero,List.set_cons_succ,aT,aU]
                    rfl
                   refine di (i:=2) (N:=some 81) (v:=?_) (a':=?_) #[true,false,true,false,false,false,false,false,false,false,false,false] rfl rfl (bV HT_.out (by kernel_rfl)) (fun _ _ _ h=>h) (Or.inl ⟨by rfl,?_⟩) ?_ ?_
                   rotate_left
                   ·intro w'
                    go_simp
                    with_reducible rfl
                   rotate_left
                   ·simp only [Act.put,List.setIfInBounds_toArray,List.set_cons_zero,List.set_cons_succ,aT,aU]
                    rfl
                   refine take_ (i:=1) (N:=some 80) (v:=?_) (a':=?_) #[true,true,true,false,false,false,false,false,false,false,false,false] rfl rfl (fq HT_.out HW_.out (by kernel_rfl)) (fun _ _ _ h=>h) (Or.inl ⟨by rfl,?_⟩) hHeld ?_ ?_
                   rotate_left
                   ·rintro w' ⟨s0,s1,s2⟩
                    go_simp
                    with_reducible rfl
                   rotate_left
                   ·simp only [Act.put,List.setIfInBounds_toArray,List.set_cons_zero,List.set_cons_succ,aT,aU]
                    rfl
                   refine take_ (i:=3) (N:=some 82) (v:=?_) (a':=?_) #[true,true,true,true,false,false,false,false,false,false,false,false] rfl rfl (fq HT_.out HW_.out (by kernel_rfl)) (fun _ _ _ h=>h) (Or.inl ⟨by rfl,?_⟩) hHeld ?_ ?_
                   rotate_left
                   ·rintro w' ⟨s0,s1,s2⟩
                    go_simp
                    with_reducible rfl
                   rotate_left
                   ·simp only [Act.put,List.setIfInBounds_toArray,List.set_cons_zero,List.set_cons_succ,aT,aU]
                    rfl
                   refine di (i:=4) (N:=some 83) (v:=?_) (a':=?_) #[true,true,true,true,true,false,false,false,false,false,false,false] rfl rfl (bV HT_.out (by kernel_rfl)) (fun _ _ _ h=>h) (Or.inl ⟨by rfl,?_⟩) ?_ ?_
                   rotate_left
                   ·intro w'
                    go_simp
                    with_reducible rfl
                   rotate_left
                   ·simp only [Act.put,List.setIfInBounds_toArray,List.set_cons_zero,List.set_cons_succ,aT,aU]
                    rfl
                   refine di (i:=5) (N:=some 84) (v:=?_) (a':=?_) #[true,true,true,true,true,true,false,false,false,false,false,false] rfl rfl (bV HT_.out (by kernel_rfl)) (fun _ _ _ h=>h) (Or.inl ⟨by rfl,?_⟩) ?_ ?_
                   rotate_left
                   ·intro w'
                    go_simp
                    with_reducible rfl
                   rotate_left
                   ·simp only [Act.put,List.setIfInBounds_toArray,List.set_cons_zero,List.set_cons_succ,aT,aU]
                    rfl
                   refine take_ (i:=6) (N:=some 85) (v:=?_) (a':=?_) #[true,true,true,true,true,true,true,false,false,false,false,false] rfl rfl (fq HT_.out HW_.out (by kernel_rfl)) (fun _ _ _ h=>h) (Or.inl ⟨by rfl,?_⟩) hHeld ?_ ?_
                   rotate_left
                   ·rintro w' ⟨s0,s1,s2⟩
                    go_simp
                    with_reducible rfl
                   rotate_left
                   ·simp only [Act.put,List.setIfInBounds_toArray,List.set_cons_zero,List.set_cons_succ,aT,aU]
                    rfl
                   refine ji (i:=7) (N:=some 86) #[true,true,true,true,true,true,true,true,false,false,false,false] rfl rfl (eO HT_.out (by kernel_rfl)) (by decide) (fun K hK=>?_)
                   have hHw:=hHeld
                   refine pu (w1:=?_) (v:=?_) (by rfl) rfl ?_ ?_
                   rotate_left 2
                   ·go_simp
                    constructor
                    ·rfl
                    ·rfl
                   refine hK.out _ _ ⟨(aj (ak BK126.out _) 0).trans rfl,(aj (ak BK126.out _) 1).trans rfl,(World.cell?_alloc_lt _ _ _ (World.block_lt_of_cell? _ _ (hHeld.2.2))).trans (hHeld.2.2)⟩ (fun hHeld=>?_)
                   clear hK K
                   refine fB (a':=?_) ?_ ?_
                   rotate_left
                   ·show Act.put _ (some 86) _=_
                    simp only [Act.put,List.setIfInBounds_toArray,List.set_cons_zero,List.set_cons_succ,aT,aU]
                    rfl
                   refine ji (i:=8) (N:=some 87) #[true,true,true,true,true,true,true,true,true,false,false,false] rfl rfl (eO HT_.out (by kernel_rfl)) (by decide) (fun K hK=>?_)
                   obtain ⟨iT,hiT,hzT⟩:=Option.map_eq_some_iff.1 vC
                   simp only [Prod.mk.injEq] at hzT
                   refine grow_step _ rfl (.tmp 85) (.tmp 86) 22 rfl iT _ Tryz.underlying22 hiT hzT.1 hzT.2.1 hzT.2.2 rfl uaT (bZ x127001_48 1).f1 (⟨#[112,111,115,105,120]⟩:ByteArray) ⟨wT.heap.size,0,none⟩ (fun _=>True) (Kd.rJ (Kd.rY GT.out _)) rfl rfl (by simp [go_sem]) (fun _ _=>trivial) (Below.refl _ _) (Nat.le_refl _) CQ.out ?_
                   intro v151 w75 ho76 hb hg_ hnew_
                   have HS2_:=(hb.cell (World.block_lt_of_cell? _ _ ((World.cell?_alloc_lt _ _ _ (World.block_lt_of_cell? _ _ hHw.2.2)).trans hHw.2.2))).trans ((World.cell?_alloc_lt _ _ _ (World.block_lt_of_cell? _ _ hHw.2.2)).trans hHw.2.2)
                   clear hg_ hnew_
                   (first|rw [← Ny150.out] at ho76|(simp only [Int.reduceToNat] at ho76;rw [← Ny150.out] at ho76))
                   have n0_:=aa.mk (Kd.bR (by (with_reducible repeat (first|apply Kd.bz|apply Kd.bq|apply Kd.bB));exact HO_3.out) hb)
                   have n1_:=aa.mk (Kd.cu (by (with_reducible repeat (first|apply Kd.aZ|apply Kd.aY|apply Kd.bn));exact HO_127001.out) (Kd.dI ho76) hb)
                   have n2_:=aa.mk (Kd.dN (Kd.fu (M:=fun k_=>(w.heap.size≤k_)) ho76 (aG (by repeat (first|(with_reducible first|exact HB.out|apply af|apply ae|apply ag|refine ah ?_ GE114.out|refine ah ?_ GE126.out)|exact HB.out))) (fun k_ h_=>h_)) (aG (by repeat (first|(with_reducible first|exact HB.out|apply af|apply ae|apply ag|refine ah ?_ GE114.out|refine ah ?_ GE126.out)|exact HB.out))))
                   have n3_:=aa.mk (aI (g:=gb114) (o:=.cells #[.string (⟨#[]⟩:ByteArray),.slice none 0 0] 28 (0,0)) (by (with_reducible repeat (first|refine au ?_ _|refine av ?_|refine ak ?_ _));exact BK114.out) hb)
                   have n4_:=aa.mk (aI (g:=gb126) (o:=.cells #[.string t122,.slice (some ⟨go67,0,none⟩) x127001_48.length co67] 28 (0,0)) (by (with_reducible repeat (first|refine au ?_ _|refine av ?_|refine ak ?_ _));exact BK126.out) hb)
                   have n5_:=aa.mk (aD (by repeat (first|(with_reducible first|exact HB.out|apply af|apply ae|apply ag|refine ah ?_ GE114.out|refine ah ?_ GE126.out)|exact HB.out)) hb)
                   clear HO_3
                   clear HO_127001
                   clear BK114
                   clear BK126
                   clear HB
                   have HO_3:=n0_
                   have HO_127001:=n1_
                   have HO152:=n2_
                   have BK114:=n3_
                   have BK126:=n4_
                   have HB:=n5_
                   clear n0_ n1_ n2_ n3_ n4_ n5_
                   clear hb ho76
                   obtain ⟨Ao76,co76,eo76⟩:=Kd.cO HO152.out
                   subst eo76
                   have p67:0≤(1:Int):=(by omega)
                   have q67:(1:Int) < ((x127001_48.length:Int):Int):=of_decide_eq_true (by first|(with_reducible assumption)|assumption)
                   have qi67:(1 < x127001_48.length)=True:=eq_true (by omega)
                   obtain ⟨ce67,hcl67,hM67,hcc67,hfr67⟩:=Kd.mh HO_127001.out z45 (1:Int) p67 q67
                   obtain ⟨ua67_1,uc67_1,rfl,ul67_1,ge67_1⟩:=jA hM67
                   have hx67_0:w75.cell? ⟨go67,(1:Int).toNat * 2,none⟩=some (.string ((bZ x127001_48 1).f0)):=hcc67 0 _ rfl
                   have hx67_1:w75.cell? ⟨go67,(1:Int).toNat * 2+1,none⟩=some (.slice ua67_1 ((bZ x127001_48 1).f1).length uc67_1):=hcc67 1 _ rfl
                   have hf67_0:w75.frozen? ⟨go67,(1:Int).toNat * 2,none⟩=false:=hfr67 0
                   have hf67_1:w75.frozen? ⟨go67,(1:Int).toNat * 2+1,none⟩=false:=hfr67 1
                   clear hcl67 hcc67 hfr67 hM67
                   (try rw [show ((1:Int)).toNat=1 from rfl] at hx67_0)
                   (try simp only [Nat.reduceMul,Nat.zero_mul,Nat.zero_add,Nat.reduceAdd] at hx67_0)
                   (try rw [show ((1:Int)).toNat=1 from rfl] at hf67_0)
                   (try simp only [Nat.reduceMul,Nat.zero_mul,Nat.zero_add,Nat.reduceAdd] at hf67_0)
                   (try rw [show ((1:Int)).toNat=1 from rfl] at hx67_1)
                   (try simp only [Nat.reduceMul,Nat.zero_mul,Nat.zero_add,Nat.reduceAdd] at hx67_1)
                   (try rw [show ((1:Int)).toNat=1 from rfl] at hf67_1)
                   (try simp only [Nat.reduceMul,Nat.zero_mul,Nat.zero_add,Nat.reduceAdd] at hf67_1)
                   replace p67:=eq_true p67
                   replace q67:=eq_true q67
                   have n_:=aa.mk (Kd.bH (ok':=(fun k_=>(w.heap.size≤k_)∧some k_≠(.slice (some ad120) x3_2.length co20:Value).ownBlock∧some k_≠(.slice Ao76 y150.length co76:Value).ownBlock∧k_≠gb114∧k_≠gb126)) HO_127001.out (fun k_ hk=>⟨hk.1.1,⟨hk.1.2.1,⟨hk.2,⟨hk.1.2.2.1,hk.1.2.2.2⟩⟩⟩⟩))
                   clear HO_127001
                   have HO_127001:=n_
                   clear n_
                   have HX77:=aa.mk (show Kd.N k45 45 w75 w.heap.size (fun k_=>(w.heap.size≤k_)∧some k_≠(.slice (some ad120) x3_2.length co20:Value).ownBlock∧k_≠gb114∧k_≠gb126) (.slice (some ⟨go67,0,none⟩) x127001_48.length co67) x127001_48 from (by (with_reducible repeat (first|apply Kd.aZ|apply Kd.aY|apply Kd.bn));exact Kd.bH HO_127001.out (fun _ hk=>⟨hk.1,⟨hk.2.1,⟨hk.2.2.2.1,hk.2.2.2.2⟩⟩⟩)))
                   obtain ⟨ce77,hcl77,hM77,hcc77,hfr77⟩:=Kd.mh HX77.out z45 (1:Int) (by omega) (by have h_:(1:Int) < ((x127001_48.length:Int):Int):=of_decide_eq_true (by first|(with_reducible assumption)|assumption);first|exact h_|(have e_:=(Kd.bO HO_127001.out).1;omega)|simpa using h_)
                   obtain ⟨ua77_1,uc77_1,rfl,ul77_1,ge77_1⟩:=jA hM77
                   have HP77:=Kd.wQ HX77.out (1:Int) (by omega) (by have h_:(1:Int) < ((x127001_48.length:Int):Int):=of_decide_eq_true (by first|(with_reducible assumption)|assumption);first|exact h_|(have e_:=(Kd.bO HO_127001.out).1;omega)|simpa using h_) (seg:=[.slice Ao76 y150.length co76]) (j:=1) hcl77 hcc77 (show 2≤2 from by decide) (x':=(⟨(bZ x127001_48 1).f0,y150⟩:S45)) (jI _ _ (⟨(bZ x127001_48 1).f0,y150⟩:S45) (Kd.bL (Kd.bX (ok':=(fun k_=>((fun k_=>(w.heap.size≤k_)∧some k_≠(.slice (some ad120) x3_2.length co20:Value).ownBlock∧k_≠gb114∧k_≠gb126)) k_∧k_≠go67)) (Kd.bK (Kd.bK (Kd.dD (Kd.dD (HO152.out) (Kd.fU HO_3.out) (by decide)) (Kd.eZ HO_127001.out) (by decide)) BK114.out (by decide)) BK126.out (by decide)) (fun k_ hk=>⟨⟨hk.1.1.1.1.1,⟨hk.1.1.1.2,⟨hk.1.2,hk.2⟩⟩⟩,fun e_=>(hk.1.1.2) (by rw [e_];rfl)⟩))).2.1 (Kd.R_F (Kd.bX (ok':=(fun k_=>((fun k_=>(w.heap.size≤k_)∧some k_≠(.slice (some ad120) x3_2.length co20:Value).ownBlock∧k_≠gb114∧k_≠gb126)) k_∧k_≠go67)) (Kd.bK (Kd.bK (Kd.dD (Kd.dD (HO152.out) (Kd.fU HO_3.out) (by decide)) (Kd.eZ HO_127001.out) (by decide)) BK114.out (by decide)) BK126.out (by decide)) (fun k_ hk=>⟨⟨hk.1.1.1.1.1,⟨hk.1.1.1.2,⟨hk.1.2,hk.2⟩⟩⟩,fun e_=>(hk.1.1.2) (by rw [e_];rfl)⟩)))) (fun _ hk=>hk)
                   have hx77_1:=hcc77 1 _ rfl
                   (try simp only [show (k45).sz=2 from rfl,Nat.mul_one,Nat.add_zero] at hx77_1)
                   (try rw [show ((1:Int)).toNat=1 from rfl] at hx77_1)
                   (try simp only [Nat.reduceMul,Nat.zero_mul,Nat.zero_add,Nat.reduceAdd] at hx77_1)
                   have hf77_1:=hfr77 1
                   (try simp only [show (k45).sz=2 from rfl,Nat.mul_one,Nat.add_zero] at hf77_1)
                   (try rw [show ((1:Int)).toNat=1 from rfl] at hf77_1)
                   (try simp only [Nat.reduceMul,Nat.zero_mul,Nat.zero_add,Nat.reduceAdd] at hf77_1)
                   clear hcl77 hcc77 hfr77 hM77
                   refine hK.out _ _ ⟨(aj BK126.out 0).trans rfl,(aj BK126.out 1).trans rfl,HS2_⟩ (fun hHeld=>?_)
                   clear hK K
                   refine fB (a':=?_) ?_ ?_
                   rotate_left
                   ·show Act.put _ (some 87) _=_
                    simp only [Act.put,List.setIfInBounds_toArray,List.set_cons_zero,List.set_cons_succ,aT,aU]
                    rfl
                   refine di (i:=9) (N:=some 88) (v:=?_) (a':=?_) #[true,true,true,true,true,true,true,true,true,true,false,false] rfl rfl (bV HT_.out (by kernel_rfl)) (fun _ _ _ h=>h) (Or.inl ⟨by rfl,?_⟩) ?_ ?_
                   rotate_left
                   ·intro w'
                    go_simp
                    with_reducible rfl
                   rotate_left
                   ·simp only [Act.put,List.setIfInBounds_toArray,List.set_cons_zero,List.set_cons_succ,aT,aU]
                    rfl
                   refine di (i:=10) (N:=some 89) (v:=?_) (a':=?_) #[true,true,true,true,true,true,true,true,true,true,true,false] rfl rfl (bV HT_.out (by kernel_rfl)) (fun _ _ _ h=>h) (Or.inl ⟨by rfl,?_⟩) ?_ ?_
                   rotate_left
                   ·intro w'
                    go_simp
                    with_reducible rfl
                   rotate_left
                   ·simp only [Act.put,List.setIfInBounds_toArray,List.set_cons_zero,List.set_cons_succ,aT,aU]
                    rfl
                   refine mJ (i:=11) (N:=none) #[true,true,true,true,true,true,true,true,true,true,true,true] rfl rfl (eO HT_.out (by kernel_rfl)) (by decide) (fun K hK=>?_)
                   refine qh (w1:=w75.setCell ⟨go67,3,none⟩ (.slice Ao76 y150.length co76)) (by rfl) rfl ?_ ?_
                   ·first
                    | (go_simp;done)
                    | (go_simp;rfl)
                   obtain ⟨w78,hw⟩:∃ w_,w_=w75.setCell ⟨go67,3,none⟩ (.slice Ao76 y150.length co76):=⟨_,rfl⟩
                   rw [← hw]
                   have hg:w75.grownBy w78 (some go67):=(by rw [hw];exact HP77.2)
                   have hp_:Kd.N k45 45 w78 w.heap.size (fun k_=>(w.heap.size≤k_)∧some k_≠(.slice (some ad120) x3_2.length co20:Value).ownBlock∧k_≠gb114∧k_≠gb126) (.slice (some ⟨go67,0,none⟩) x127001_48.length co67) y153:=(by rw [hw,Ny153.out];exact HP77.1)
                   clear HP77
                   have n0_:=aa.mk (Kd.kI (v:=(.slice (some ⟨go67,0,none⟩) x127001_48.length co67)) (by (with_reducible repeat (first|apply Kd.bz|apply Kd.bq|apply Kd.bB));exact HO_3.out) (Kd.eZ HO_127001.out) (by decide) hg)
                   have n1_:=aa.mk (hp_)
                   have n2_:=aa.mk (dH (g:=gb114) (o:=.cells #[.string (⟨#[]⟩:ByteArray),.slice none 0 0] 28 (0,0)) (by (with_reducible repeat (first|refine au ?_ _|refine av ?_|refine ak ?_ _));exact BK114.out) hg (Kd.mO HO_127001.out BK114.out (by decide)))
                   have n3_:=aa.mk (dH (g:=gb126) (o:=.cells #[.string t122,.slice (some ⟨go67,0,none⟩) x127001_48.length co67] 28 (0,0)) (by (with_reducible repeat (first|refine au ?_ _|refine av ?_|refine ak ?_ _));exact BK126.out) hg (Kd.mO HO_127001.out BK126.out (by decide)))
                   have n4_:=aa.mk ((by rw [hw];exact ah (HB.out) GB67.out:Below w.heap.size w w78))
                   clear HO_3
                   clear HO_127001
                   clear BK114
                   clear BK126
                   clear HB
                   clear HO152
                   have HO_3:=n0_
                   have HO_127001:=n1_
                   have BK114:=n2_
                   have BK126:=n3_
                   have HB:=n4_
                   clear n0_ n1_ n2_ n3_ n4_
                   clear hg hw hp_
                   refine hK.out _ _ ?_
                   clear hK K
                   refine mH (jH HT_.out (by kernel_rfl)) ?_
                   try go_wp2
                   have n0_:=aa.mk (Kd.bB HO_3.out)
                   have n1_:=aa.mk (Kd.bn HO_127001.out)
                   have n2_:=aa.mk (av BK114.out)
                   have n3_:=aa.mk (av BK126.out)
                   have n4_:=aa.mk (ag HB.out)
                   clear HO_3
                   clear HO_127001
                   clear BK114
                   clear BK126
                   clear HB
                   have HO_3:=n0_
                   have HO_127001:=n1_
                   have BK114:=n2_
                   have BK126:=n3_
                   have HB:=n4_
                   clear n0_ n1_ n2_ n3_ n4_
                   have p154:0≤(4:Int):=(by omega)
                   have q154:4 < (x3_2.length:Int):=of_decide_eq_true (by first|(with_reducible assumption)|assumption)
                   obtain ⟨ad154,e154,hx154_0⟩:=Kd.fD (Kd.bL HO_3.out).2.2 4 p154 q154
                   obtain rfl:ad120=ad154:=(by injection e154)
                   (try simp only [show (4:Int).toNat=4 from rfl,Nat.reduceMul,Nat.reduceEqDiff,Go.Addr.add,↓reduceIte] at hx154_0)
                   have qi154:(4 < x3_2.length)=True:=eq_true (by omega)
                   (try rw [show ((4:Int)).toNat=4 from rfl] at hx154_0)
                   replace p154:=eq_true p154
                   replace q154:=eq_true q154
                   have p159:0≤(4:Int):=(by omega)
                   have q159:4 < (x3_2.length:Int):=of_decide_eq_true (by first|(with_reducible assumption)|assumption)
                   obtain ⟨ad159,e159,hx159_0⟩:=Kd.fD (Kd.bL HO_3.out).2.2 4 p159 q159
                   obtain rfl:ad120=ad159:=(by injection e159)
                   (try simp only [show (4:Int).toNat=4 from rfl,Nat.reduceMul,Nat.reduceEqDiff,Go.Addr.add,↓reduceIte] at hx159_0)
                   have qi159:(4 < x3_2.length)=True:=eq_true (by omega)
                   (try rw [show ((4:Int)).toNat=4 from rfl] at hx159_0)
                   replace p159:=eq_true p159
                   replace q159:=eq_true q159
                   refine jS (n:=21) (S:=fun w'=>w'.cell? ⟨gb126,0,none⟩=some (.string t122)∧w'.cell? ⟨gb126,1,none⟩=some (.slice (some ⟨go67,0,none⟩) x127001_48.length co67)∧w'.cell? ⟨ad120.block,ad120.off+4,none⟩=some (.int .i64 (rd x3_2 4))∧w'.cell? ⟨ad120.block,ad120.off+4,none⟩=some (.int .i64 (rd x3_2 4))) (ds:=[18,20]) #[false,false,false,false,false,false,false,false,false,false,false,false,false,false,false,false,false,false,false,false,false] (by kernel_rfl) rfl rfl ⟨(aj BK126.out 0).trans rfl,(aj BK126.out 1).trans rfl,hx154_0,hx159_0⟩ (fun hHeld=>?_);refine iy aA.tab15 aA.bits15 (fun HT_ HW_=>?_)
                   generalize w78.drew=w79 at HO_3 HO_127001 BK114 BK126 HB hx154_0 hx159_0 hHeld ⊢
                   refine di (i:=0) (N:=some 90) (v:=?_) (a':=?_) #[true,false,false,false,false,false,false,false,false,false,false,false,false,false,false,false,false,false,false,false,false] rfl rfl (bV HT_.out (by kernel_rfl)) (fun _ _ _ h=>h) (Or.inl ⟨by rfl,?_⟩) ?_ ?_
                   rotate_left
                   ·intro w'
                    go_simp
                    with_reducible rfl
                   rotate_left
                   ·simp only [Act.put,List.setIfInBounds_toArray,List.set_cons_zero,List.set_cons_succ,aT,aU]
                    rfl
                   refine di (i:=2) (N:=some 92) (v:=?_) (a':=?_) #[true,false,true,false,false,false,false,false,false,false,false,false,false,false,false,false,false,false,false,false,false] rfl rfl (bV HT_.out (by kernel_rfl)) (fun _ _ _ h=>h) (Or.inl ⟨by rfl,?_⟩) ?_ ?_
                   rotate_left
                   ·intro w'
                    go_simp
                    with_reducible rfl
                   rotate_left
                   ·simp only [Act.put,List.setIfInBounds_toArray,List.set_cons_zero,List.set_cons_succ,aT,aU]
                    rfl
                   refine di (i:=3) (N:=some 93) (v:=?_) (a':=?_) #[true,false,true,true,false,false,false,false,false,false,false,false,false,false,false,false,false,false,false,false,false] rfl rfl (bV HT_.out (by kernel_rfl)) (fun _ _ _ h=>h) (Or.inl ⟨by rfl,?_⟩) ?_ ?_
                   rotate_left
                   ·intro w'
                    go_simp
                    with_reducible rfl
                   rotate_left
                   ·simp only [Act.put,List.setIfInBounds_toArray,List.set_cons_zero,List.set_cons_succ,aT,aU]
                    rfl
                   refine di (i:=10) (N:=some 100) (v:=?_) (a':=?_) #[true,false,true,true,false,false,false,false,false,false,true,false,false,false,false,false,false,false,false,false,false] rfl rfl (bV HT_.out (by kernel_rfl)) (fun _ _ _ h=>h) (Or.inl ⟨by rfl,?_⟩) ?_ ?_
                   rotate_left
                   ·intro w'
                    go_simp
                    with_reducible rfl
                   rotate_left
                   ·simp only [Act.put,List.setIfInBounds_toArray,List.set_cons_zero,List.set_cons_succ,aT,aU]
                    rfl
                   refine di (i:=11) (N:=some 101) (v:=?_) (a':=?_) #[true,false,true,true,false,false,false,false,false,false,true,true,false,false,false,false,false,false,false,false,false] rfl rfl (bV HT_.out (by kernel_rfl)) (fun _ _ _ h=>h) (Or.inl ⟨by rfl,?_⟩) ?_ ?_
                   rotate_left
                   ·intro w'
                    go_simp
                    with_reducible rfl
                   rotate_left
                   ·simp only [Act.put,List.setIfInBounds_toArray,List.set_cons_zero,List.set_cons_succ,aT,aU]
                    rfl
                   refine take_ (i:=1) (N:=some 91) (v:=?_) (a':=?_) #[true,true,true,true,false,false,false,false,false,false,true,true,false,false,false,false,false,false,false,false,false] rfl rfl (fq HT_.out HW_.out (by kernel_rfl)) (fun _ _ _ h=>h) (Or.inl ⟨by rfl,?_⟩) hHeld ?_ ?_
                   rotate_left
                   ·rintro w' ⟨s0,s1,s2,s3⟩
                    go_simp
                    with_reducible rfl
                   rotate_left
                   ·simp only [Act.put,List.setIfInBounds_toArray,List.set_cons_zero,List.set_cons_succ,aT,aU]
                    rfl
                   refine take_ (i:=4) (N:=some 94) (v:=?_) (a':=?_) #[true,true,true,true,true,false,false,false,false,false,true,true,false,false,false,false,false,false,false,false,false] rfl rfl (fq HT_.out HW_.out (by kernel_rfl)) (fun _ _ _ h=>h) (Or.inl ⟨by rfl,?_⟩) hHeld ?_ ?_
                   rotate_left
                   ·rintro w' ⟨s0,s1,s2,s3⟩
                    go_simp
                    with_reducible rfl
                   rotate_left
                   ·simp only [Act.put,List.setIfInBounds_toArray,List.set_cons_zero,List.set_cons_succ,aT,aU]
                    rfl
                   refine di (i:=5) (N:=some 95) (v:=?_) (a':=?_) #[true,true,true,true,true,true,false,false,false,false,true,true,false,false,false,false,false,false,false,false,false] rfl rfl (bV HT_.out (by kernel_rfl)) (fun _ _ _ h=>h) (Or.inl ⟨by rfl,?_⟩) ?_ ?_
                   rotate_left
                   ·intro w'
                    go_simp
                    with_reducible rfl
                   rotate_left
                   ·simp only [Act.put,List.setIfInBounds_toArray,List.set_cons_zero,List.set_cons_succ,aT,aU]
                    rfl
                   refine take_ (i:=12) (N:=some 102) (v:=?_) (a':=?_) #[true,true,true,true,true,true,false,false,false,false,true,true,true,false,false,false,false,false,false,false,false] rfl rfl (fq HT_.out HW_.out (by kernel_rfl)) (fun _ _ _ h=>h) (Or.inl ⟨by rfl,?_⟩) hHeld ?_ ?_
                   rotate_left
                   ·rintro w' ⟨s0,s1,s2,s3⟩
                    go_simp
                    with_reducible rfl
                   rotate_left
                   ·simp only [Act.put,List.setIfInBounds_toArray,List.set_cons_zero,List.set_cons_succ,aT,aU]
                    rfl
                   refine di (i:=13) (N:=some 103) (v:=?_) (a':=?_) #[true,true,true,true,true,true,false,false,false,false,true,true,true,true,false,false,false,false,false,false,false] rfl rfl (bV HT_.out (by kernel_rfl)) (fun _ _ _ h=>h) (Or.inl ⟨by rfl,?_⟩) ?_ ?_
                   rotate_left
                   ·intro w'
                    go_simp
                    with_reducible rfl
                   rotate_left
                   ·simp only [Act.put,List.setIfInBounds_toArray,List.set_cons_zero,List.set_cons_succ,aT,aU]
                    rfl
                   refine ji (i:=6) (N:=some 96) #[true,true,true,true,true,true,true,false,false,false,true,true,true,true,false,false,false,false,false,false,false] rfl rfl (eO HT_.out (by kernel_rfl)) (by decide) (fun K hK=>?_)
                   refine lN Tryz.func23 (by kernel_rfl) rfl #[.int .i64 (Int.tmod (rd x3_2 4) 9)] (by rfl) rfl rfl (by (try simp only [List.map_toArray,List.map_cons,List.map_nil]);first|done|rfl|(simp only [List.length_drop,List.length_take];rfl)) ?_
                   with_reducible refine (bF.calls (Int.tmod (rd x3_2 4) 9) t155 _ A69.out).mono ?_
                   rintro e w80 ⟨rfl,hb⟩
                   have HS2_:=(hb.cell (World.block_lt_of_cell? _ _ (hHeld.2.2.1))).trans (hHeld.2.2.1)
                   have HS3_:=(hb.cell (World.block_lt_of_cell? _ _ (hHeld.2.2.2))).trans (hHeld.2.2.2)
                   refine ⟨_,rfl,?_⟩
                   have n0_:=aa.mk (Kd.bR (by (with_reducible repeat (first|apply Kd.bz|apply Kd.bq|apply Kd.bB));exact HO_3.out) hb)
                   have n1_:=aa.mk (Kd.df (by (with_reducible repeat (first|apply Kd.aZ|apply Kd.aY|apply Kd.bn));exact HO_127001.out) hb)
                   have n2_:=aa.mk (aI (g:=gb114) (o:=.cells #[.string (⟨#[]⟩:ByteArray),.slice none 0 0] 28 (0,0)) (by (with_reducible repeat (first|refine au ?_ _|refine av ?_|refine ak ?_ _));exact BK114.out) hb)
                   have n3_:=aa.mk (aI (g:=gb126) (o:=.cells #[.string t122,.slice (some ⟨go67,0,none⟩) x127001_48.length co67] 28 (0,0)) (by (with_reducible repeat (first|refine au ?_ _|refine av ?_|refine ak ?_ _));exact BK126.out) hb)
                   have n4_:=aa.mk (aD (by repeat (first|(with_reducible first|exact HB.out|apply af|apply ae|apply ag|refine ah ?_ GE114.out|refine ah ?_ GE126.out)|exact HB.out)) hb)
                   clear HO_3
                   clear HO_127001
                   clear BK114
                   clear BK126
                   clear HB
                   have HO_3:=n0_
                   have HO_127001:=n1_
                   have BK114:=n2_
                   have BK126:=n3_
                   have HB:=n4_
                   clear n0_ n1_ n2_ n3_ n4_
                   (try clear hb)
                   (try clear hb2)
                   (try clear hk)
                   (try clear hi)
                   refine hK.out _ _ ⟨(aj BK126.out 0).trans rfl,(aj BK126.out 1).trans rfl,HS2_,HS3_⟩ (fun hHeld=>?_)
                   clear hK K
                   refine fB (a':=?_) ?_ ?_
                   rotate_left
                   ·show Act.put _ (some 96) _=_
                    simp only [Act.put,List.setIfInBounds_toArray,List.set_cons_zero,List.set_cons_succ,aT,aU]
                    rfl
                   refine di (i:=7) (N:=some 97) (v:=?_) (a':=?_) #[true,true,true,true,true,true,true,true,false,false,true,true,true,true,false,false,false,false,false,false,false] rfl rfl (bV HT_.out (by kernel_rfl)) (fun _ _ _ h=>h) (Or.inl ⟨by rfl,?_⟩) ?_ ?_
                   rotate_left
                   ·intro w'
                    go_simp
                    with_reducible rfl
                   rotate_left
                   ·simp only [Act.put,List.setIfInBounds_toArray,List.set_cons_zero,List.set_cons_succ,aT,aU]
                    rfl
                   refine xM (σ:=Value × Value) 4 #[true,true,true,true,true,true,true,true,true,true,true,true,true,true,true,true,true,false,false,false,false] (fun s_=>[(98,s_.1),(104,.string t160),(105,s_.2),(99,.agg #[.string (⟨#[117,105,100]⟩:ByteArray),s_.1]),(106,.agg #[.string (⟨#[117,105,100,78,117,109,98,101,114]⟩:ByteArray),s_.2])]) (fun s_ w'=>(w'.cell? ⟨gb126,0,none⟩=some (.string t122)∧w'.cell? ⟨gb126,1,none⟩=some (.slice (some ⟨go67,0,none⟩) x127001_48.length co67)∧w'.cell? ⟨ad120.block,ad120.off+4,none⟩=some (.int .i64 (rd x3_2 4))∧w'.cell? ⟨ad120.block,ad120.off+4,none⟩=some (.int .i64 (rd x3_2 4)))∧(Kd.R Kd.string 9 w' w.heap.size (fun k_=>(w.heap.size≤k_)∧some k_≠(s_.2:Value).ownBlock) s_.1 y156)∧(Kd.R Kd.string 9 w' w.heap.size (fun k_=>(w.heap.size≤k_)∧some k_≠(s_.1:Value).ownBlock) s_.2 y161)∧(Kd.N k45 45 w' w.heap.size (fun k_=>(w.heap.size≤k_)∧some k_≠(s_.1:Value).ownBlock∧some k_≠(s_.2:Value).ownBlock∧some k_≠(.slice (some ad120) x3_2.length co20:Value).ownBlock∧k_≠gb114∧k_≠gb126) (.slice (some ⟨go67,0,none⟩) x127001_48.length co67) y153)∧(Kd.R (Kd.int .i64) 3 w' w.heap.size (fun k_=>(w.heap.size≤k_)) (.slice (some ad120) x3_2.length co20) x3_2)∧(w'.heap[gb114]?=some (.cells #[.string (⟨#[]⟩:ByteArray),.slice none 0 0] 28 (0,0)))∧(w'.heap[gb126]?=some (.cells #[.string t122,.slice (some ⟨go67,0,none⟩) x127001_48.length co67] 28 (0,0)))∧(Below w.heap.size w w')) ?_ ?_
                   rotate_left
                   ·intro hCont
                    refine yc (i:=8) (j:=14) (Ni:=some 98) (Nj:=some 104) #[true,true,true,true,true,true,true,true,true,false,true,true,true,true,false,false,false,false,false,false,false] #[true,true,true,true,true,true,true,true,false,false,true,true,true,true,true,false,false,false,false,false,false] rfl rfl rfl rfl (uL HT_.out (by kernel_rfl)) (by decide) (by decide) (fun K hK=>?_) (fun K hK=>?_)
                    ·skip
                     refine Kd.gP Kd.string _ 9 ?hg (N:=98) ?hd (xs:=([(⟨#[117]⟩:ByteArray)++t155]:List ByteArray)) (inner:=[.string ((⟨#[117]⟩:ByteArray)++t155)]) (ok:=fun _=>True) (okp:=fun _=>True) ?hr ?hp (fun _ hk=>hk) trivial (Below.refl _ _) (Nat.le_refl _) (by simp) ?_;(case hd=>rfl);(case hg=>rfl);(case hr=>first|(go_simp;done)|(go_simp;rfl));(case hp=>exact (bI.one (show Kd.M Kd.string _ _ _ ((⟨#[117]⟩:ByteArray)++t155) [.string ((⟨#[117]⟩:ByteArray)++t155)] from rfl) (bI.none _ _)))
                     intro v157 w81 ho82 hb hg_ hnew_
                     have HS2_:=(hb.cell (World.block_lt_of_cell? _ _ (hHeld.2.2.1))).trans (hHeld.2.2.1)
                     have HS3_:=(hb.cell (World.block_lt_of_cell? _ _ (hHeld.2.2.2))).trans (hHeld.2.2.2)
                     clear hg_ hnew_
                     (first|rw [← Ny156.out] at ho82|(simp only [Int.reduceToNat] at ho82;rw [← Ny156.out] at ho82))
                     have n0_:=aa.mk (Kd.bR (by (with_reducible repeat (first|apply Kd.bz|apply Kd.bq|apply Kd.bB));exact HO_3.out) hb)
                     have n1_:=aa.mk (Kd.cu (by (with_reducible repeat (first|apply Kd.aZ|apply Kd.aY|apply Kd.bn));exact HO_127001.out) (Kd.dI ho82) hb)
                     have n2_:=aa.mk (Kd.dN (Kd.fu (M:=fun k_=>(w.heap.size≤k_)) ho82 (aG (by repeat (first|(with_reducible first|exact HB.out|apply af|apply ae|apply ag|refine ah ?_ GE114.out|refine ah ?_ GE126.out)|exact HB.out))) (fun k_ h_=>h_)) (aG (by repeat (first|(with_reducible first|exact HB.out|apply af|apply ae|apply ag|refine ah ?_ GE114.out|refine ah ?_ GE126.out)|exact HB.out))))
                     have n3_:=aa.mk (aI (g:=gb114) (o:=.cells #[.string (⟨#[]⟩:ByteArray),.slice none 0 0] 28 (0,0)) (by (with_reducible repeat (first|refine au ?_ _|refine av ?_|refine ak ?_ _));exact BK114.out) hb)
                     have n4_:=aa.mk (aI (g:=gb126) (o:=.cells #[.string t122,.slice (some ⟨go67,0,none⟩) x127001_48.length co67] 28 (0,0)) (by (with_reducible repeat (first|refine au ?_ _|refine av ?_|refine ak ?_ _));exact BK126.out) hb)
                     have n5_:=aa.mk (aD (by repeat (first|(with_reducible first|exact HB.out|apply af|apply ae|apply ag|refine ah ?_ GE114.out|refine ah ?_ GE126.out)|exact HB.out)) hb)
                     clear HO_3
                     clear HO_127001
                     clear BK114
                     clear BK126
                     clear HB
                     have HO_3:=n0_
                     have HO_127001:=n1_
                     have HO158:=n2_
                     have BK114:=n3_
                     have BK126:=n4_
                     have HB:=n5_
                     clear n0_ n1_ n2_ n3_ n4_ n5_
                     clear hb ho82
                     obtain ⟨Ao83,co83,eo83⟩:=Kd.cO HO158.out
                     (first|subst eo83|(injection eo83 with f1_ f2_ f3_;have f4_:=f1_.symm;have f5_:=f3_.symm;clear f1_ f2_ f3_;subst f4_;subst f5_))
                     refine hK.out _ _ ⟨(aj BK126.out 0).trans rfl,(aj BK126.out 1).trans rfl,HS2_,HS3_⟩ (fun hHeld=>?_)
                     clear hK K
                     refine fB (a':=?_) ?_ ?_
                     rotate_left
                     ·show Act.put _ (some 98) _=_
                      simp only [Act.put,List.setIfInBounds_toArray,List.set_cons_zero,List.set_cons_succ,aT,aU]
                      rfl
                     refine di (i:=9) (N:=some 99) (v:=?_) (a':=?_) #[true,true,true,true,true,true,true,true,true,true,true,true,true,true,false,false,false,false,false,false,false] rfl rfl (bV HT_.out (by kernel_rfl)) (fun _ _ _ h=>h) (Or.inl ⟨by rfl,?_⟩) ?_ ?_
                     rotate_left
                     ·intro w'
                      go_simp
                      with_reducible rfl
                     rotate_left
                     ·simp only [Act.put,List.setIfInBounds_toArray,List.set_cons_zero,List.set_cons_succ,aT,aU]
                      rfl
                     refine ji (i:=14) (N:=some 104) #[true,true,true,true,true,true,true,true,true,true,true,true,true,true,true,false,false,false,false,false,false] rfl rfl (eO HT_.out (by kernel_rfl)) (by decide) (fun K hK=>?_)
                     refine lN Tryz.func23 (by kernel_rfl) rfl #[.int .i64 (wrap64 ((rd x3_2 4) - 100))] (by rfl) rfl rfl (by (try simp only [List.map_toArray,List.map_cons,List.map_nil]);first|done|rfl|(simp only [List.length_drop,List.length_take];rfl)) ?_
                     with_reducible refine (bF.calls (wrap64 ((rd x3_2 4) - 100)) t160 _ A71.out).mono ?_
                     rintro e w84 ⟨rfl,hb⟩
                     have HS2_:=(hb.cell (World.block_lt_of_cell? _ _ (hHeld.2.2.1))).trans (hHeld.2.2.1)
                     have HS3_:=(hb.cell (World.block_lt_of_cell? _ _ (hHeld.2.2.2))).trans (hHeld.2.2.2)
                     refine ⟨_,rfl,?_⟩
                     have n0_:=aa.mk (Kd.bR (by (with_reducible repeat (first|apply Kd.bz|apply Kd.bq|apply Kd.bB));exact HO_3.out) hb)
                     have n1_:=aa.mk (Kd.df (by (with_reducible repeat (first|apply Kd.aZ|apply Kd.aY|apply Kd.bn));exact HO_127001.out) hb)
                     have n2_:=aa.mk (Kd.bR (by (with_reducible repeat (first|apply Kd.bz|apply Kd.bq|apply Kd.bB));exact HO158.out) hb)
                     have n3_:=aa.mk (aI (g:=gb114) (o:=.cells #[.string (⟨#[]⟩:ByteArray),.slice none 0 0] 28 (0,0)) (by (with_reducible repeat (first|refine au ?_ _|refine av ?_|refine ak ?_ _));exact BK114.out) hb)
                     have n4_:=aa.mk (aI (g:=gb126) (o:=.cells #[.string t122,.slice (some ⟨go67,0,none⟩) x127001_48.length co67] 28 (0,0)) (by (with_reducible repeat (first|refine au ?_ _|refine av ?_|refine ak ?_ _));exact BK126.out) hb)
                     have n5_:=aa.mk (aD (by repeat (first|(with_reducible first|exact HB.out|apply af|apply ae|apply ag|refine ah ?_ GE114.out|refine ah ?_ GE126.out)|exact HB.out)) hb)
                     clear HO_3
                     clear HO_127001
                     clear HO158
                     clear BK114
                     clear BK126
                     clear HB
                     have HO_3:=n0_
                     have HO_127001:=n1_
                     have HO158:=n2_
                     have BK114:=n3_
                     have BK126:=n4_
                     have HB:=n5_
                     clear n0_ n1_ n2_ n3_ n4_ n5_
                     (try clear hb)
                     (try clear hb2)
                     (try clear hk)
                     (try clear hi)
                     refine hK.out _ _ ⟨(aj BK126.out 0).trans rfl,(aj BK126.out 1).trans rfl,HS2_,HS3_⟩ (fun hHeld=>?_)
                     clear hK K
                     refine fB (a':=?_) ?_ ?_
                     rotate_left
                     ·show Act.put _ (some 104) _=_
                      simp only [Act.put,List.setIfInBounds_toArray,List.set_cons_zero,List.set_cons_succ,aT,aU]
                      rfl
                     refine ji (i:=15) (N:=some 105) #[true,true,true,true,true,true,true,true,true,true,true,true,true,true,true,true,false,false,false,false,false] rfl rfl (eO HT_.out (by kernel_rfl)) (by decide) (fun K hK=>?_)
                     refine Kd.gP Kd.string _ 9 ?hg (N:=105) ?hd (xs:=([t160]:List ByteArray)) (inner:=[.string t160]) (ok:=fun _=>True) (okp:=fun _=>True) ?hr ?hp (fun _ hk=>hk) trivial (Below.refl _ _) (Nat.le_refl _) (by simp) ?_;(case hd=>rfl);(case hg=>rfl);(case hr=>first|(go_simp;done)|(go_simp;rfl));(case hp=>exact (bI.one (show Kd.M Kd.string _ _ _ t160 [.string t160] from rfl) (bI.none _ _)))
                     intro v162 w85 ho86 hb hg_ hnew_
                     have HS2_:=(hb.cell (World.block_lt_of_cell? _ _ (hHeld.2.2.1))).trans (hHeld.2.2.1)
                     have HS3_:=(hb.cell (World.block_lt_of_cell? _ _ (hHeld.2.2.2))).trans (hHeld.2.2.2)
                     clear hg_ hnew_
                     (first|rw [← Ny161.out] at ho86|(simp only [Int.reduceToNat] at ho86;rw [← Ny161.out] at ho86))
                     have n0_:=aa.mk (Kd.bR (by (with_reducible repeat (first|apply Kd.bz|apply Kd.bq|apply Kd.bB));exact HO_3.out) hb)
                     have n1_:=aa.mk (Kd.cu (by (with_reducible repeat (first|apply Kd.aZ|apply Kd.aY|apply Kd.bn));exact HO_127001.out) (Kd.dI ho86) hb)
                     have n2_:=aa.mk (Kd.eY (by (with_reducible repeat (first|apply Kd.bz|apply Kd.bq|apply Kd.bB));exact HO158.out) (Kd.dI ho86) hb)
                     have n3_:=aa.mk (Kd.dN (Kd.gB (Kd.fu (M:=fun k_=>(w.heap.size≤k_)) ho86 (aG (by repeat (first|(with_reducible first|exact HB.out|apply af|apply ae|apply ag|refine ah ?_ GE114.out|refine ah ?_ GE126.out)|exact HB.out))) (fun k_ h_=>h_)) (Kd.iD (by (with_reducible repeat (first|apply Kd.bz|apply Kd.bq|apply Kd.bB));exact HO158.out))) (aG (by repeat (first|(with_reducible first|exact HB.out|apply af|apply ae|apply ag|refine ah ?_ GE114.out|refine ah ?_ GE126.out)|exact HB.out))))
                     have n4_:=aa.mk (aI (g:=gb114) (o:=.cells #[.string (⟨#[]⟩:ByteArray),.slice none 0 0] 28 (0,0)) (by (with_reducible repeat (first|refine au ?_ _|refine av ?_|refine ak ?_ _));exact BK114.out) hb)
                     have n5_:=aa.mk (aI (g:=gb126) (o:=.cells #[.string t122,.slice (some ⟨go67,0,none⟩) x127001_48.length co67] 28 (0,0)) (by (with_reducible repeat (first|refine au ?_ _|refine av ?_|refine ak ?_ _));exact BK126.out) hb)
                     have n6_:=aa.mk (aD (by repeat (first|(with_reducible first|exact HB.out|apply af|apply ae|apply ag|refine ah ?_ GE114.out|refine ah ?_ GE126.out)|exact HB.out)) hb)
                     clear HO_3
                     clear HO_127001
                     clear HO158
                     clear BK114
                     clear BK126
                     clear HB
                     have HO_3:=n0_
                     have HO_127001:=n1_
                     have HO158:=n2_
                     have HO163:=n3_
                     have BK114:=n4_
                     have BK126:=n5_
                     have HB:=n6_
                     clear n0_ n1_ n2_ n3_ n4_ n5_ n6_
                     clear hb ho86
                     obtain ⟨Ao87,co87,eo87⟩:=Kd.cO HO163.out
                     (first|subst eo87|(injection eo87 with f1_ f2_ f3_;have f4_:=f1_.symm;have f5_:=f3_.symm;clear f1_ f2_ f3_;subst f4_;subst f5_))
                     refine hK.out _ _ ⟨(aj BK126.out 0).trans rfl,(aj BK126.out 1).trans rfl,HS2_,HS3_⟩ (fun hHeld=>?_)
                     clear hK K
                     refine fB (a':=?_) ?_ ?_
                     rotate_left
                     ·show Act.put _ (some 105) _=_
                      simp only [Act.put,List.setIfInBounds_toArray,List.set_cons_zero,List.set_cons_succ,aT,aU]
                      rfl
                     refine di (i:=16) (N:=some 106) (v:=?_) (a':=?_) #[true,true,true,true,true,true,true,true,true,true,true,true,true,true,true,true,true,false,false,false,false] rfl rfl (bV HT_.out (by kernel_rfl)) (fun _ _ _ h=>h) (Or.inl ⟨by rfl,?_⟩) ?_ ?_
                     rotate_left
                     ·intro w'
                      go_simp
                      with_reducible rfl
                     rotate_left
                     ·simp only [Act.put,List.setIfInBounds_toArray,List.set_cons_zero,List.set_cons_succ,aT,aU]
                      rfl
                     exact fB (by simp only [lu,Act.put,List.setIfInBounds_toArray,List.set_cons_zero,List.set_cons_succ]) (hCont (.slice Ao83 y156.length co83,.slice Ao87 y161.length co87) _ ⟨hHeld,(by (with_reducible repeat (first|apply Kd.bz|apply Kd.bq|apply Kd.bB));exact Kd.bX HO158.out (fun _ hk=>⟨hk.1.1,hk.2⟩)),(by (with_reducible repeat (first|apply Kd.bz|apply Kd.bq|apply Kd.bB));exact Kd.bX HO163.out (fun _ hk=>⟨hk.1.1,hk.2⟩)),(by (with_reducible repeat (first|apply Kd.aZ|apply Kd.aY|apply Kd.bn));exact Kd.bH HO_127001.out (fun _ hk=>⟨hk.1.1.1,⟨hk.1.2,⟨hk.2,⟨hk.1.1.2.1,⟨hk.1.1.2.2.1,hk.1.1.2.2.2⟩⟩⟩⟩⟩)),(by (with_reducible repeat (first|apply Kd.bz|apply Kd.bq|apply Kd.bB));exact HO_3.out),(by (with_reducible repeat (first|refine au ?_ _|refine av ?_|refine ak ?_ _));exact BK114.out),(by (with_reducible repeat (first|refine au ?_ _|refine av ?_|refine ak ?_ _));exact BK126.out),(by repeat (first|(with_reducible first|exact HB.out|apply af|apply ae|apply ag|refine ah ?_ GE114.out|refine ah ?_ GE126.out)|exact HB.out))⟩)
                    ·skip
                     refine lN Tryz.func23 (by kernel_rfl) rfl #[.int .i64 (wrap64 ((rd x3_2 4) - 100))] (by rfl) rfl rfl (by (try simp only [List.map_toArray,List.map_cons,List.map_nil]);first|done|rfl|(simp only [List.length_drop,List.length_take];rfl)) ?_
                     with_reducible refine (bF.calls (wrap64 ((rd x3_2 4) - 100)) t160 _ A71.out).mono ?_
                     rintro e w81 ⟨rfl,hb⟩
                     have HS2_:=(hb.cell (World.block_lt_of_cell? _ _ (hHeld.2.2.1))).trans (hHeld.2.2.1)
                     have HS3_:=(hb.cell (World.block_lt_of_cell? _ _ (hHeld.2.2.2))).trans (hHeld.2.2.2)
                     refine ⟨_,rfl,?_⟩
                     have n0_:=aa.mk (Kd.bR (by (with_reducible repeat (first|apply Kd.bz|apply Kd.bq|apply Kd.bB));exact HO_3.out) hb)
                     have n1_:=aa.mk (Kd.df (by (with_reducible repeat (first|apply Kd.aZ|apply Kd.aY|apply Kd.bn));exact HO_127001.out) hb)
                     have n2_:=aa.mk (aI (g:=gb114) (o:=.cells #[.string (⟨#[]⟩:ByteArray),.slice none 0 0] 28 (0,0)) (by (with_reducible repeat (first|refine au ?_ _|refine av ?_|refine ak ?_ _));exact BK114.out) hb)
                     have n3_:=aa.mk (aI (g:=gb126) (o:=.cells #[.string t122,.slice (some ⟨go67,0,none⟩) x127001_48.length co67] 28 (0,0)) (by (with_reducible repeat (first|refine au ?_ _|refine av ?_|refine ak ?_ _));exact BK126.out) hb)
                     have n4_:=aa.mk (aD (by repeat (first|(with_reducible first|exact HB.out|apply af|apply ae|apply ag|refine ah ?_ GE114.out|refine ah ?_ GE126.out)|exact HB.out)) hb)
                     clear HO_3
                     clear HO_127001
                     clear BK114
                     clear BK126
                     clear HB
                     have HO_3:=n0_
                     have HO_127001:=n1_
                     have BK114:=n2_
                     have BK126:=n3_
                     have HB:=n4_
                     clear n0_ n1_ n2_ n3_ n4_
                     (try clear hb)
                     (try clear hb2)
                     (try clear hk)
                     (try clear hi)
                     refine hK.out _ _ ⟨(aj BK126.out 0).trans rfl,(aj BK126.out 1).trans rfl,HS2_,HS3_⟩ (fun hHeld=>?_)
                     clear hK K
                     refine fB (a':=?_) ?_ ?_
                     rotate_left
                     ·show Act.put _ (some 104) _=_
                      simp only [Act.put,List.setIfInBounds_toArray,List.set_cons_zero,List.set_cons_succ,aT,aU]
                      rfl
                     refine yc (i:=8) (j:=15) (Ni:=some 98) (Nj:=some 105) #[true,true,true,true,true,true,true,true,true,false,true,true,true,true,true,false,false,false,false,false,false] #[true,true,true,true,true,true,true,true,false,false,true,true,true,true,true,true,false,false,false,false,false] rfl rfl rfl rfl (uL HT_.out (by kernel_rfl)) (by decide) (by decide) (fun K hK=>?_) (fun K hK=>?_)
                     ·skip
                      refine Kd.gP Kd.string _ 9 ?hg (N:=98) ?hd (xs:=([(⟨#[117]⟩:ByteArray)++t155]:List ByteArray)) (inner:=[.string ((⟨#[117]⟩:ByteArray)++t155)]) (ok:=fun _=>True) (okp:=fun _=>True) ?hr ?hp (fun _ hk=>hk) trivial (Below.refl _ _) (Nat.le_refl _) (by simp) ?_;(case hd=>rfl);(case hg=>rfl);(case hr=>first|(go_simp;done)|(go_simp;rfl));(case hp=>exact (bI.one (show Kd.M Kd.string _ _ _ ((⟨#[117]⟩:ByteArray)++t155) [.string ((⟨#[117]⟩:ByteArray)++t155)] from rfl) (bI.none _ _)))
                      intro v157 w82 ho83 hb hg_ hnew_
                      have HS2_:=(hb.cell (World.block_lt_of_cell? _ _ (hHeld.2.2.1))).trans (hHeld.2.2.1)
                      have HS3_:=(hb.cell (World.block_lt_of_cell? _ _ (hHeld.2.2.2))).trans (hHeld.2.2.2)
                      clear hg_ hnew_
                      (first|rw [← Ny156.out] at ho83|(simp only [Int.reduceToNat] at ho83;rw [← Ny156.out] at ho83))
                      have n0_:=aa.mk (Kd.bR (by (with_reducible repeat (first|apply Kd.bz|apply Kd.bq|apply Kd.bB));exact HO_3.out) hb)
                      have n1_:=aa.mk (Kd.cu (by (with_reducible repeat (first|apply Kd.aZ|apply Kd.aY|apply Kd.bn));exact HO_127001.out) (Kd.dI ho83) hb)
                      have n2_:=aa.mk (Kd.dN (Kd.fu (M:=fun k_=>(w.heap.size≤k_)) ho83 (aG (by repeat (first|(with_reducible first|exact HB.out|apply af|apply ae|apply ag|refine ah ?_ GE114.out|refine ah ?_ GE126.out)|exact HB.out))) (fun k_ h_=>h_)) (aG (by repeat (first|(with_reducible first|exact HB.out|apply af|apply ae|apply ag|refine ah ?_ GE114.out|refine ah ?_ GE126.out)|exact HB.out))))
                      have n3_:=aa.mk (aI (g:=gb114) (o:=.cells #[.string (⟨#[]⟩:ByteArray),.slice none 0 0] 28 (0,0)) (by (with_reducible repeat (first|refine au ?_ _|refine av ?_|refine ak ?_ _));exact BK114.out) hb)
                      have n4_:=aa.mk (aI (g:=gb126) (o:=.cells #[.string t122,.slice (some ⟨go67,0,none⟩) x127001_48.length co67] 28 (0,0)) (by (with_reducible repeat (first|refine au ?_ _|refine av ?_|refine ak ?_ _));exact BK126.out) hb)
                      have n5_:=aa.mk (aD (by repeat (first|(with_reducible first|exact HB.out|apply af|apply ae|apply ag|refine ah ?_ GE114.out|refine ah ?_ GE126.out)|exact HB.out)) hb)
                      clear HO_3
                      clear HO_127001
                      clear BK114
                      clear BK126
                      clear HB
                      have HO_3:=n0_
                      have HO_127001:=n1_
                      have HO158:=n2_
                      have BK114:=n3_
                      have BK126:=n4_
                      have HB:=n5_
                      clear n0_ n1_ n2_ n3_ n4_ n5_
                      clear hb ho83
                      obtain ⟨Ao84,co84,eo84⟩:=Kd.cO HO158.out
                      (first|subst eo84|(injection eo84 with f1_ f2_ f3_;have f4_:=f1_.symm;have f5_:=f3_.symm;clear f1_ f2_ f3_;subst f4_;subst f5_))
                      refine hK.out _ _ ⟨(aj BK126.out 0).trans rfl,(aj BK126.out 1).trans rfl,HS2_,HS3_⟩ (fun hHeld=>?_)
                      clear hK K
                      refine fB (a':=?_) ?_ ?_
                      rotate_left
                      ·show Act.put _ (some 98) _=_
                       simp only [Act.put,List.setIfInBounds_toArray,List.set_cons_zero,List.set_cons_succ,aT,aU]
                       rfl
                      refine di (i:=9) (N:=some 99) (v:=?_) (a':=?_) #[true,true,true,true,true,true,true,true,true,true,true,true,true,true,true,false,false,false,false,false,false] rfl rfl (bV HT_.out (by kernel_rfl)) (fun _ _ _ h=>h) (Or.inl ⟨by rfl,?_⟩) ?_ ?_
                      rotate_left
                      ·intro w'
                       go_simp
                       with_reducible rfl
                      rotate_left
                      ·simp only [Act.put,List.setIfInBounds_toArray,List.set_cons_zero,List.set_cons_succ,aT,aU]
                       rfl
                      refine ji (i:=15) (N:=some 105) #[true,true,true,true,true,true,true,true,true,true,true,true,true,true,true,true,false,false,false,false,false] rfl rfl (eO HT_.out (by kernel_rfl)) (by decide) (fun K hK=>?_)
                      refine Kd.gP Kd.string _ 9 ?hg (N:=105) ?hd (xs:=([t160]:List ByteArray)) (inner:=[.string t160]) (ok:=fun _=>True) (okp:=fun _=>True) ?hr ?hp (fun _ hk=>hk) trivial (Below.refl _ _) (Nat.le_refl _) (by simp) ?_;(case hd=>rfl);(case hg=>rfl);(case hr=>first|(go_simp;done)|(go_simp;rfl));(case hp=>exact (bI.one (show Kd.M Kd.string _ _ _ t160 [.string t160] from rfl) (bI.none _ _)))
                      intro v162 w85 ho86 hb hg_ hnew_
                      have HS2_:=(hb.cell (World.block_lt_of_cell? _ _ (hHeld.2.2.1))).trans (hHeld.2.2.1)
                      have HS3_:=(hb.cell (World.block_lt_of_cell? _ _ (hHeld.2.2.2))).trans (hHeld.2.2.2)
                      clear hg_ hnew_
                      (first|rw [← Ny161.out] at ho86|(simp only [Int.reduceToNat] at ho86;rw [← Ny161.out] at ho86))
                      have n0_:=aa.mk (Kd.bR (by (with_reducible repeat (first|apply Kd.bz|apply Kd.bq|apply Kd.bB));exact HO_3.out) hb)
                      have n1_:=aa.mk (Kd.cu (by (with_reducible repeat (first|apply Kd.aZ|apply Kd.aY|apply Kd.bn));exact HO_127001.out) (Kd.dI ho86) hb)
                      have n2_:=aa.mk (Kd.eY (by (with_reducible repeat (first|apply Kd.bz|apply Kd.bq|apply Kd.bB));exact HO158.out) (Kd.dI ho86) hb)
                      have n3_:=aa.mk (Kd.dN (Kd.gB (Kd.fu (M:=fun k_=>(w.heap.size≤k_)) ho86 (aG (by repeat (first|(with_reducible first|exact HB.out|apply af|apply ae|apply ag|refine ah ?_ GE114.out|refine ah ?_ GE126.out)|exact HB.out))) (fun k_ h_=>h_)) (Kd.iD (by (with_reducible repeat (first|apply Kd.bz|apply Kd.bq|apply Kd.bB));exact HO158.out))) (aG (by repeat (first|(with_reducible first|exact HB.out|apply af|apply ae|apply ag|refine ah ?_ GE114.out|refine ah ?_ GE126.out)|exact HB.out))))
                      have n4_:=aa.mk (aI (g:=gb114) (o:=.cells #[.string (⟨#[]⟩:ByteArray),.slice none 0 0] 28 (0,0)) (by (with_reducible repeat (first|refine au ?_ _|refine av ?_|refine ak ?_ _));exact BK114.out) hb)
                      have n5_:=aa.mk (aI (g:=gb126) (o:=.cells #[.string t122,.slice (some ⟨go67,0,none⟩) x127001_48.length co67] 28 (0,0)) (by (with_reducible repeat (first|refine au ?_ _|refine av ?_|refine ak ?_ _));exact BK126.out) hb)
                      have n6_:=aa.mk (aD (by repeat (first|(with_reducible first|exact HB.out|apply af|apply ae|apply ag|refine ah ?_ GE114.out|refine ah ?_ GE126.out)|exact HB.out)) hb)
                      clear HO_3
                      clear HO_127001
                      clear HO158
                      clear BK114
                      clear BK126
                      clear HB
                      have HO_3:=n0_
                      have HO_127001:=n1_
                      have HO158:=n2_
                      have HO163:=n3_
                      have BK114:=n4_
                      have BK126:=n5_
                      have HB:=n6_
                      clear n0_ n1_ n2_ n3_ n4_ n5_ n6_
                      clear hb ho86
                      obtain ⟨Ao87,co87,eo87⟩:=Kd.cO HO163.out
                      (first|subst eo87|(injection eo87 with f1_ f2_ f3_;have f4_:=f1_.symm;have f5_:=f3_.symm;clear f1_ f2_ f3_;subst f4_;subst f5_))
                      refine hK.out _ _ ⟨(aj BK126.out 0).trans rfl,(aj BK126.out 1).trans rfl,HS2_,HS3_⟩ (fun hHeld=>?_)
                      clear hK K
                      refine fB (a':=?_) ?_ ?_
                      rotate_left
                      ·show Act.put _ (some 105) _=_
                       simp only [Act.put,List.setIfInBounds_toArray,List.set_cons_zero,List.set_cons_succ,aT,aU]
                       rfl
                      refine di (i:=16) (N:=some 106) (v:=?_) (a':=?_) #[true,true,true,true,true,true,true,true,true,true,true,true,true,true,true,true,true,false,false,false,false] rfl rfl (bV HT_.out (by kernel_rfl)) (fun _ _ _ h=>h) (Or.inl ⟨by rfl,?_⟩) ?_ ?_
                      rotate_left
                      ·intro w'
                       go_simp
                       with_reducible rfl
                      rotate_left
                      ·simp only [Act.put,List.setIfInBounds_toArray,List.set_cons_zero,List.set_cons_succ,aT,aU]
                       rfl
                      exact fB (by simp only [lu,Act.put,List.setIfInBounds_toArray,List.set_cons_zero,List.set_cons_succ]) (hCont (.slice Ao84 y156.length co84,.slice Ao87 y161.length co87) _ ⟨hHeld,(by (with_reducible repeat (first|apply Kd.bz|apply Kd.bq|apply Kd.bB));exact Kd.bX HO158.out (fun _ hk=>⟨hk.1.1,hk.2⟩)),(by (with_reducible repeat (first|apply Kd.bz|apply Kd.bq|apply Kd.bB));exact Kd.bX HO163.out (fun _ hk=>⟨hk.1.1,hk.2⟩)),(by (with_reducible repeat (first|apply Kd.aZ|apply Kd.aY|apply Kd.bn));exact Kd.bH HO_127001.out (fun _ hk=>⟨hk.1.1.1,⟨hk.1.2,⟨hk.2,⟨hk.1.1.2.1,⟨hk.1.1.2.2.1,hk.1.1.2.2.2⟩⟩⟩⟩⟩)),(by (with_reducible repeat (first|apply Kd.bz|apply Kd.bq|apply Kd.bB));exact HO_3.out),(by (with_reducible repeat (first|refine au ?_ _|refine av ?_|refine ak ?_ _));exact BK114.out),(by (with_reducible repeat (first|refine au ?_ _|refine av ?_|refine ak ?_ _));exact BK126.out),(by repeat (first|(with_reducible first|exact HB.out|apply af|apply ae|apply ag|refine ah ?_ GE114.out|refine ah ?_ GE126.out)|exact HB.out))⟩)
                     ·skip
                      refine Kd.gP Kd.string _ 9 ?hg (N:=105) ?hd (xs:=([t160]:List ByteArray)) (inner:=[.string t160]) (ok:=fun _=>True) (okp:=fun _=>True) ?hr ?hp (fun _ hk=>hk) trivial (Below.refl _ _) (Nat.le_refl _) (by simp) ?_;(case hd=>rfl);(case hg=>rfl);(case hr=>first|(go_simp;done)|(go_simp;rfl));(case hp=>exact (bI.one (show Kd.M Kd.string _ _ _ t160 [.string t160] from rfl) (bI.none _ _)))
                      intro v162 w82 ho83 hb hg_ hnew_
                      have HS2_:=(hb.cell (World.block_lt_of_cell? _ _ (hHeld.2.2.1))).trans (hHeld.2.2.1)
                      have HS3_:=(hb.cell (World.block_lt_of_cell? _ _ (hHeld.2.2.2))).trans (hHeld.2.2.2)
                      clear hg_ hnew_
                      (first|rw [← Ny161.out] at ho83|(simp only [Int.reduceToNat] at ho83;rw [← Ny161.out] at ho83))
                      have n0_:=aa.mk (Kd.bR (by (with_reducible repeat (first|apply Kd.bz|apply Kd.bq|apply Kd.bB));exact HO_3.out) hb)
                      have n1_:=aa.mk (Kd.cu (by (with_reducible repeat (first|apply Kd.aZ|apply Kd.aY|apply Kd.bn));exact HO_127001.out) (Kd.dI ho83) hb)
                      have n2_:=aa.mk (Kd.dN (Kd.fu (M:=fun k_=>(w.heap.size≤k_)) ho83 (aG (by repeat (first|(with_reducible first|exact HB.out|apply af|apply ae|apply ag|refine ah ?_ GE114.out|refine ah ?_ GE126.out)|exact HB.out))) (fun k_ h_=>h_)) (aG (by repeat (first|(with_reducible first|exact HB.out|apply af|apply ae|apply ag|refine ah ?_ GE114.out|refine ah ?_ GE126.out)|exact HB.out))))
                      have n3_:=aa.mk (aI (g:=gb114) (o:=.cells #[.string (⟨#[]⟩:ByteArray),.slice none 0 0] 28 (0,0)) (by (with_reducible repeat (first|refine au ?_ _|refine av ?_|refine ak ?_ _));exact BK114.out) hb)
                      have n4_:=aa.mk (aI (g:=gb126) (o:=.cells #[.string t122,.slice (some ⟨go67,0,none⟩) x127001_48.length co67] 28 (0,0)) (by (with_reducible repeat (first|refine au ?_ _|refine av ?_|refine ak ?_ _));exact BK126.out) hb)
                      have n5_:=aa.mk (aD (by repeat (first|(with_reducible first|exact HB.out|apply af|apply ae|apply ag|refine ah ?_ GE114.out|refine ah ?_ GE126.out)|exact HB.out)) hb)
                      clear HO_3
                      clear HO_127001
                      clear BK114
                      clear BK126
                      clear HB
                      have HO_3:=n0_
                      have HO_127001:=n1_
                      have HO163:=n2_
                      have BK114:=n3_
                      have BK126:=n4_
                      have HB:=n5_
                      clear n0_ n1_ n2_ n3_ n4_ n5_
                      clear hb ho83
                      obtain ⟨Ao84,co84,eo84⟩:=Kd.cO HO163.out
                      (first|subst eo84|(injection eo84 with f1_ f2_ f3_;have f4_:=f1_.symm;have f5_:=f3_.symm;clear f1_ f2_ f3_;subst f4_;subst f5_))
                      refine hK.out _ _ ⟨(aj BK126.out 0).trans rfl,(aj BK126.out 1).trans rfl,HS2_,HS3_⟩ (fun hHeld=>?_)
                      clear hK K
                      refine fB (a':=?_) ?_ ?_
                      rotate_left
                      ·show Act.put _ (some 105) _=_
                       simp only [Act.put,List.setIfInBounds_toArray,List.set_cons_zero,List.set_cons_succ,aT,aU]
                       rfl
                      refine di (i:=16) (N:=some 106) (v:=?_) (a':=?_) #[true,true,true,true,true,true,true,true,false,false,true,true,true,true,true,true,true,false,false,false,false] rfl rfl (bV HT_.out (by kernel_rfl)) (fun _ _ _ h=>h) (Or.inl ⟨by rfl,?_⟩) ?_ ?_
                      rotate_left
                      ·intro w'
                       go_simp
                       with_reducible rfl
                      rotate_left
                      ·simp only [Act.put,List.setIfInBounds_toArray,List.set_cons_zero,List.set_cons_succ,aT,aU]
                       rfl
                      refine ji (i:=8) (N:=some 98) #[true,true,true,true,true,true,true,true,true,false,true,true,true,true,true,true,true,false,false,false,false] rfl rfl (eO HT_.out (by kernel_rfl)) (by decide) (fun K hK=>?_)
                      refine Kd.gP Kd.string _ 9 ?hg (N:=98) ?hd (xs:=([(⟨#[117]⟩:ByteArray)++t155]:List ByteArray)) (inner:=[.string ((⟨#[117]⟩:ByteArray)++t155)]) (ok:=fun _=>True) (okp:=fun _=>True) ?hr ?hp (fun _ hk=>hk) trivial (Below.refl _ _) (Nat.le_refl _) (by simp) ?_;(case hd=>rfl);(case hg=>rfl);(case hr=>first|(go_simp;done)|(go_simp;rfl));(case hp=>exact (bI.one (show Kd.M Kd.string _ _ _ ((⟨#[117]⟩:ByteArray)++t155) [.string ((⟨#[117]⟩:ByteArray)++t155)] from rfl) (bI.none _ _)))
                      intro v157 w85 ho86 hb hg_ hnew_
                      have HS2_:=(hb.cell (World.block_lt_of_cell? _ _ (hHeld.2.2.1))).trans (hHeld.2.2.1)
                      have HS3_:=(hb.cell (World.block_lt_of_cell? _ _ (hHeld.2.2.2))).trans (hHeld.2.2.2)
                      clear hg_ hnew_
                      (first|rw [← Ny156.out] at ho86|(simp only [Int.reduceToNat] at ho86;rw [← Ny156.out] at ho86))
                      have n0_:=aa.mk (Kd.bR (by (with_reducible repeat (first|apply Kd.bz|apply Kd.bq|apply Kd.bB));exact HO_3.out) hb)
                      have n1_:=aa.mk (Kd.cu (by (with_reducible repeat (first|apply Kd.aZ|apply Kd.aY|apply Kd.bn));exact HO_127001.out) (Kd.dI ho86) hb)
                      have n2_:=aa.mk (Kd.eY (by (with_reducible repeat (first|apply Kd.bz|apply Kd.bq|apply Kd.bB));exact HO163.out) (Kd.dI ho86) hb)
                      have n3_:=aa.mk (Kd.dN (Kd.gB (Kd.fu (M:=fun k_=>(w.heap.size≤k_)) ho86 (aG (by repeat (first|(with_reducible first|exact HB.out|apply af|apply ae|apply ag|refine ah ?_ GE114.out|refine ah ?_ GE126.out)|exact HB.out))) (fun k_ h_=>h_)) (Kd.iD (by (with_reducible repeat (first|apply Kd.bz|apply Kd.bq|apply Kd.bB));exact HO163.out))) (aG (by repeat (first|(with_reducible first|exact HB.out|apply af|apply ae|apply ag|refine ah ?_ GE114.out|refine ah ?_ GE126.out)|exact HB.out))))
                      have n4_:=aa.mk (aI (g:=gb114) (o:=.cells #[.string (⟨#[]⟩:ByteArray),.slice none 0 0] 28 (0,0)) (by (with_reducible repeat (first|refine au ?_ _|refine av ?_|refine ak ?_ _));exact BK114.out) hb)
                      have n5_:=aa.mk (aI (g:=gb126) (o:=.cells #[.string t122,.slice (some ⟨go67,0,none⟩) x127001_48.length co67] 28 (0,0)) (by (with_reducible repeat (first|refine au ?_ _|refine av ?_|refine ak ?_ _));exact BK126.out) hb)
                      have n6_:=aa.mk (aD (by repeat (first|(with_reducible first|exact HB.out|apply af|apply ae|apply ag|refine ah ?_ GE114.out|refine ah ?_ GE126.out)|exact HB.out)) hb)
                      clear HO_3
                      clear HO_127001
                      clear HO163
                      clear BK114
                      clear BK126
                      clear HB
                      have HO_3:=n0_
                      have HO_127001:=n1_
                      have HO163:=n2_
                      have HO158:=n3_
                      have BK114:=n4_
                      have BK126:=n5_
                      have HB:=n6_
                      clear n0_ n1_ n2_ n3_ n4_ n5_ n6_
                      clear hb ho86
                      obtain ⟨Ao87,co87,eo87⟩:=Kd.cO HO158.out
                      (first|subst eo87|(injection eo87 with f1_ f2_ f3_;have f4_:=f1_.symm;have f5_:=f3_.symm;clear f1_ f2_ f3_;subst f4_;subst f5_))
                      refine hK.out _ _ ⟨(aj BK126.out 0).trans rfl,(aj BK126.out 1).trans rfl,HS2_,HS3_⟩ (fun hHeld=>?_)
                      clear hK K
                      refine fB (a':=?_) ?_ ?_
                      rotate_left
                      ·show Act.put _ (some 98) _=_
                       simp only [Act.put,List.setIfInBounds_toArray,List.set_cons_zero,List.set_cons_succ,aT,aU]
                       rfl
                      refine di (i:=9) (N:=some 99) (v:=?_) (a':=?_) #[true,true,true,true,true,true,true,true,true,true,true,true,true,true,true,true,true,false,false,false,false] rfl rfl (bV HT_.out (by kernel_rfl)) (fun _ _ _ h=>h) (Or.inl ⟨by rfl,?_⟩) ?_ ?_
                      rotate_left
                      ·intro w'
                       go_simp
                       with_reducible rfl
                      rotate_left
                      ·simp only [Act.put,List.setIfInBounds_toArray,List.set_cons_zero,List.set_cons_succ,aT,aU]
                       rfl
                      exact fB (by simp only [lu,Act.put,List.setIfInBounds_toArray,List.set_cons_zero,List.set_cons_succ]) (hCont (.slice Ao87 y156.length co87,.slice Ao84 y161.length co84) _ ⟨hHeld,(by (with_reducible repeat (first|apply Kd.bz|apply Kd.bq|apply Kd.bB));exact Kd.bX HO158.out (fun _ hk=>⟨hk.1.1,hk.2⟩)),(by (with_reducible repeat (first|apply Kd.bz|apply Kd.bq|apply Kd.bB));exact Kd.bX HO163.out (fun _ hk=>⟨hk.1.1,hk.2⟩)),(by (with_reducible repeat (first|apply Kd.aZ|apply Kd.aY|apply Kd.bn));exact Kd.bH HO_127001.out (fun _ hk=>⟨hk.1.1.1,⟨hk.2,⟨hk.1.2,⟨hk.1.1.2.1,⟨hk.1.1.2.2.1,hk.1.1.2.2.2⟩⟩⟩⟩⟩)),(by (with_reducible repeat (first|apply Kd.bz|apply Kd.bq|apply Kd.bB));exact HO_3.out),(by (with_reducible repeat (first|refine au ?_ _|refine av ?_|refine ak ?_ _));exact BK114.out),(by (with_reducible repeat (first|refine au ?_ _|refine av ?_|refine ak ?_ _));exact BK126.out),(by repeat (first|(with_reducible first|exact HB.out|apply af|apply ae|apply ag|refine ah ?_ GE114.out|refine ah ?_ GE126.out)|exact HB.out))⟩)
                   rintro ⟨v157,v162⟩ w88 ⟨hS_,h0_,h1_,h2_,h3_,h4_,h5_,h6_⟩
                   have n0_:aa (Kd.R Kd.string 9 w88 w.heap.size (fun k_=>(w.heap.size≤k_)∧some k_≠(v162:Value).ownBlock) v157 y156):=⟨h0_⟩
                   have n1_:aa (Kd.R Kd.string 9 w88 w.heap.size (fun k_=>(w.heap.size≤k_)∧some k_≠(v157:Value).ownBlock) v162 y161):=⟨h1_⟩
                   have n2_:aa (Kd.N k45 45 w88 w.heap.size (fun k_=>(w.heap.size≤k_)∧some k_≠(v157:Value).ownBlock∧some k_≠(v162:Value).ownBlock∧some k_≠(.slice (some ad120) x3_2.length co20:Value).ownBlock∧k_≠gb114∧k_≠gb126) (.slice (some ⟨go67,0,none⟩) x127001_48.length co67) y153):=⟨h2_⟩
                   have n3_:aa (Kd.R (Kd.int .i64) 3 w88 w.heap.size (fun k_=>(w.heap.size≤k_)) (.slice (some ad120) x3_2.length co20) x3_2):=⟨h3_⟩
                   have n4_:aa (w88.heap[gb114]?=some (.cells #[.string (⟨#[]⟩:ByteArray),.slice none 0 0] 28 (0,0))):=⟨h4_⟩
                   have n5_:aa (w88.heap[gb126]?=some (.cells #[.string t122,.slice (some ⟨go67,0,none⟩) x127001_48.length co67] 28 (0,0))):=⟨h5_⟩
                   have n6_:aa (Below w.heap.size w w88):=⟨h6_⟩
                   clear HO_3
                   clear HO_127001
                   clear BK114
                   clear BK126
                   clear HB
                   clear h0_ h1_ h2_ h3_ h4_ h5_ h6_
                   have HO158:=n0_
                   have HO163:=n1_
                   have HO_127001:=n2_
                   have HO_3:=n3_
                   have BK114:=n4_
                   have BK126:=n5_
                   have HB:=n6_
                   clear n0_ n1_ n2_ n3_ n4_ n5_ n6_
                   have hHeld:w88.cell? ⟨gb126,0,none⟩=some (.string t122)∧w88.cell? ⟨gb126,1,none⟩=some (.slice (some ⟨go67,0,none⟩) x127001_48.length co67)∧w88.cell? ⟨ad120.block,ad120.off+4,none⟩=some (.int .i64 (rd x3_2 4))∧w88.cell? ⟨ad120.block,ad120.off+4,none⟩=some (.int .i64 (rd x3_2 4)):=hS_
                   obtain ⟨Ao89,co89,eo89⟩:=Kd.cO HO158.out
                   (first|subst eo89|(injection eo89 with f1_ f2_ f3_;have f4_:=f1_.symm;have f5_:=f3_.symm;clear f1_ f2_ f3_;subst f4_;subst f5_))
                   obtain ⟨Ao90,co90,eo90⟩:=Kd.cO HO163.out
                   (first|subst eo90|(injection eo90 with f1_ f2_ f3_;have f4_:=f1_.symm;have f5_:=f3_.symm;clear f1_ f2_ f3_;subst f4_;subst f5_))
                   refine fB (a':=?_) ?_ ?_
                   rotate_left
                   ·simp only [lu,Act.put,List.setIfInBounds_toArray,List.set_cons_zero,List.set_cons_succ]
                    rfl
                   refine ji (i:=17) (N:=some 107) #[true,true,true,true,true,true,true,true,true,true,true,true,true,true,true,true,true,true,false,false,false] rfl rfl (eO HT_.out (by kernel_rfl)) (by decide) (fun K hK=>?_)
                   refine Kd.nR k45 _ 45 ?hg (N':=107) ?hd (xs:=([(⟨(⟨#[117,105,100]⟩:ByteArray),y156⟩:S45),(⟨(⟨#[117,105,100,78,117,109,98,101,114]⟩:ByteArray),y161⟩:S45)]:List (S45))) (inner:=[.string (⟨#[117,105,100]⟩:ByteArray),.slice Ao89 y156.length co89,.string (⟨#[117,105,100,78,117,109,98,101,114]⟩:ByteArray),.slice Ao90 y161.length co90]) (ok:=(fun k_=>(w.heap.size≤k_)∧some k_≠(.slice (some ad120) x3_2.length co20:Value).ownBlock∧some k_≠(.slice (some ⟨go67,0,none⟩) x127001_48.length co67:Value).ownBlock∧k_≠gb114∧k_≠gb126)) (okp:=(fun k_=>(w.heap.size≤k_)∧some k_≠(.slice (some ad120) x3_2.length co20:Value).ownBlock∧some k_≠(.slice (some ⟨go67,0,none⟩) x127001_48.length co67:Value).ownBlock∧k_≠gb114∧k_≠gb126)) ?hr ?hp (fun _ hk=>hk) ((show ∀ k_,w88.heap.size≤k_→(fun k_=>(w.heap.size≤k_)∧some k_≠(.slice (some ad120) x3_2.length co20:Value).ownBlock∧some k_≠(.slice (some ⟨go67,0,none⟩) x127001_48.length co67:Value).ownBlock∧k_≠gb114∧k_≠gb126) k_ from fun k_ hk=>⟨(Nat.le_trans (aG (by repeat (first|(with_reducible first|exact HB.out|apply af|apply ae|apply ag|refine ah ?_ GE114.out|refine ah ?_ GE126.out)|exact HB.out))) hk),Kd.fresh' (Kd.iD (by (with_reducible repeat (first|apply Kd.bz|apply Kd.bq|apply Kd.bB));exact HO_3.out)) k_ hk,Kd.fresh' (Kd.gM (by (with_reducible repeat (first|apply Kd.aZ|apply Kd.aY|apply Kd.bn));exact HO_127001.out)) k_ hk,Kd.dC (g:=gb114) (o:=.cells #[.string (⟨#[]⟩:ByteArray),.slice none 0 0] 28 (0,0)) (by (with_reducible repeat (first|refine au ?_ _|refine av ?_|refine ak ?_ _));exact BK114.out) k_ hk,Kd.dC (g:=gb126) (o:=.cells #[.string t122,.slice (some ⟨go67,0,none⟩) x127001_48.length co67] 28 (0,0)) (by (with_reducible repeat (first|refine au ?_ _|refine av ?_|refine ak ?_ _));exact BK126.out) k_ hk⟩) _ (Nat.le_refl _)) (Below.refl _ _) (Nat.le_refl _) (by simp) ?_;(case hd=>rfl);(case hg=>rfl);(case hr=>first|(go_simp;done)|(go_simp;rfl));(case hp=>exact (bI.c2 (show Kd.FK k45 _ _ (⟨(⟨#[117,105,100]⟩:ByteArray),y156⟩:S45) [.string (⟨#[117,105,100]⟩:ByteArray),.slice Ao89 y156.length co89] from (jI _ _ (⟨(⟨#[117,105,100]⟩:ByteArray),y156⟩:S45) (Kd.bL (Kd.bX (ok':=(fun k_=>(w.heap.size≤k_)∧some k_≠(.slice (some ad120) x3_2.length co20:Value).ownBlock∧some k_≠(.slice (some ⟨go67,0,none⟩) x127001_48.length co67:Value).ownBlock∧k_≠gb114∧k_≠gb126)) (Kd.bK (Kd.bK (Kd.dD (Kd.dD (HO158.out) (Kd.fU HO_3.out) (by decide)) (Kd.eZ HO_127001.out) (by decide)) BK114.out (by decide)) BK126.out (by decide)) (fun k_ hk=>⟨hk.1.1.1.1.1,⟨hk.1.1.1.2,⟨hk.1.1.2,⟨hk.1.2,hk.2⟩⟩⟩⟩))).2.1 (Kd.R_F (Kd.bX (ok':=(fun k_=>(w.heap.size≤k_)∧some k_≠(.slice (some ad120) x3_2.length co20:Value).ownBlock∧some k_≠(.slice (some ⟨go67,0,none⟩) x127001_48.length co67:Value).ownBlock∧k_≠gb114∧k_≠gb126)) (Kd.bK (Kd.bK (Kd.dD (Kd.dD (HO158.out) (Kd.fU HO_3.out) (by decide)) (Kd.eZ HO_127001.out) (by decide)) BK114.out (by decide)) BK126.out (by decide)) (fun k_ hk=>⟨hk.1.1.1.1.1,⟨hk.1.1.1.2,⟨hk.1.1.2,⟨hk.1.2,hk.2⟩⟩⟩⟩))))) (bI.c2 (show Kd.FK k45 _ _ (⟨(⟨#[117,105,100,78,117,109,98,101,114]⟩:ByteArray),y161⟩:S45) [.string (⟨#[117,105,100,78,117,109,98,101,114]⟩:ByteArray),.slice Ao90 y161.length co90] from (jI _ _ (⟨(⟨#[117,105,100,78,117,109,98,101,114]⟩:ByteArray),y161⟩:S45) (Kd.bL (Kd.bX (ok':=(fun k_=>(w.heap.size≤k_)∧some k_≠(.slice (some ad120) x3_2.length co20:Value).ownBlock∧some k_≠(.slice (some ⟨go67,0,none⟩) x127001_48.length co67:Value).ownBlock∧k_≠gb114∧k_≠gb126)) (Kd.bK (Kd.bK (Kd.dD (Kd.dD (HO163.out) (Kd.fU HO_3.out) (by decide)) (Kd.eZ HO_127001.out) (by decide)) BK114.out (by decide)) BK126.out (by decide)) (fun k_ hk=>⟨hk.1.1.1.1.1,⟨hk.1.1.1.2,⟨hk.1.1.2,⟨hk.1.2,hk.2⟩⟩⟩⟩))).2.1 (Kd.R_F (Kd.bX (ok':=(fun k_=>(w.heap.size≤k_)∧some k_≠(.slice (some ad120) x3_2.length co20:Value).ownBlock∧some k_≠(.slice (some ⟨go67,0,none⟩) x127001_48.length co67:Value).ownBlock∧k_≠gb114∧k_≠gb126)) (Kd.bK (Kd.bK (Kd.dD (Kd.dD (HO163.out) (Kd.fU HO_3.out) (by decide)) (Kd.eZ HO_127001.out) (by decide)) BK114.out (by decide)) BK126.out (by decide)) (fun k_ hk=>⟨hk.1.1.1.1.1,⟨hk.1.1.1.2,⟨hk.1.1.2,⟨hk.1.2,hk.2⟩⟩⟩⟩))))) (bI.none _ _))))
                   intro v165 w91 ho92 hb hg_ hnew_
                   have HS2_:=(hb.cell (World.block_lt_of_cell? _ _ (hHeld.2.2.1))).trans (hHeld.2.2.1)
                   have HS3_:=(hb.cell (World.block_lt_of_cell? _ _ (hHeld.2.2.2))).trans (hHeld.2.2.2)
                   clear hg_ hnew_
                   (first|rw [← Ny164.out] at ho92|(simp only [Int.reduceToNat] at ho92;rw [← Ny164.out] at ho92))
                   have n0_:=aa.mk (Kd.bR (by (with_reducible repeat (first|apply Kd.bz|apply Kd.bq|apply Kd.bB));exact HO_3.out) hb)
                   have n1_:=aa.mk (Kd.cu (by (with_reducible repeat (first|apply Kd.aZ|apply Kd.aY|apply Kd.bn));exact HO_127001.out) (Kd.dE ho92) hb)
                   have n2_:=aa.mk (Kd.fw ho92 (aG (by repeat (first|(with_reducible first|exact HB.out|apply af|apply ae|apply ag|refine ah ?_ GE114.out|refine ah ?_ GE126.out)|exact HB.out))))
                   have n3_:=aa.mk (aI (g:=gb114) (o:=.cells #[.string (⟨#[]⟩:ByteArray),.slice none 0 0] 28 (0,0)) (by (with_reducible repeat (first|refine au ?_ _|refine av ?_|refine ak ?_ _));exact BK114.out) hb)
                   have n4_:=aa.mk (aI (g:=gb126) (o:=.cells #[.string t122,.slice (some ⟨go67,0,none⟩) x127001_48.length co67] 28 (0,0)) (by (with_reducible repeat (first|refine au ?_ _|refine av ?_|refine ak ?_ _));exact BK126.out) hb)
                   have n5_:=aa.mk (aD (by repeat (first|(with_reducible first|exact HB.out|apply af|apply ae|apply ag|refine ah ?_ GE114.out|refine ah ?_ GE126.out)|exact HB.out)) hb)
                   clear HO_3
                   clear HO_127001
                   clear BK114
                   clear BK126
                   clear HB
                   clear HO158
                   clear HO163
                   have HO_3:=n0_
                   have HO_127001:=n1_
                   have HO166:=n2_
                   have BK114:=n3_
                   have BK126:=n4_
                   have HB:=n5_
                   clear n0_ n1_ n2_ n3_ n4_ n5_
                   clear hb ho92
                   obtain ⟨Ao94,co94,eo94⟩:=Kd.dR HO166.out
                   (first|subst eo94|(injection eo94 with f1_ f2_ f3_;have f4_:=f1_.symm;have f5_:=f3_.symm;clear f1_ f2_ f3_;subst f4_;subst f5_))
                   refine hK.out _ _ ⟨(aj BK126.out 0).trans rfl,(aj BK126.out 1).trans rfl,HS2_,HS3_⟩ (fun hHeld=>?_)
                   clear hK K
                   refine fB (a':=?_) ?_ ?_
                   rotate_left
                   ·show Act.put _ (some 107) _=_
                    simp only [Act.put,List.setIfInBounds_toArray,List.set_cons_zero,List.set_cons_succ,aT,aU]
                    rfl
                   refine mJ (i:=18) (N:=some 108) #[true,true,true,true,true,true,true,true,true,true,true,true,true,true,true,true,true,true,true,false,false] rfl rfl (eO HT_.out (by kernel_rfl)) (by decide) (fun K hK=>?_)
                   refine Kd.ll k45 (w0:=w) w.heap.size (by rfl) (.tmp 91) (.tmp 107) 26 45 (.agg #[(.string ⟨#[]⟩),(.slice none 0 0)]) 40 rfl Tryz.underlying26 pX rfl (by decide) (by omega) (.slice (some ⟨go67,0,none⟩) x127001_48.length co67) y153 y164 _ _ _ (fun k_=>(w.heap.size≤k_)∧some k_≠(.slice (some ad120) x3_2.length co20:Value).ownBlock∧k_≠gb114∧k_≠gb126) (fun k_=>((fun k_=>(w.heap.size≤k_)∧some k_≠(.slice (some ad120) x3_2.length co20:Value).ownBlock∧k_≠gb114∧k_≠gb126)) k_∧some k_≠(.slice (some ⟨go67,0,none⟩) x127001_48.length co67:Value).ownBlock) rfl rfl ?aO ?aR (fun _ hk=>hk) ?aF ?aB ?aS ?aL ?_
                   (case aR=>exact (by skip;exact Kd.N_F (Kd.bH (ok':=(fun k_=>((fun k_=>(w.heap.size≤k_)∧some k_≠(.slice (some ad120) x3_2.length co20:Value).ownBlock∧k_≠gb114∧k_≠gb126)) k_∧some k_≠(.slice (some ⟨go67,0,none⟩) x127001_48.length co67:Value).ownBlock)) (HO166.out) (fun k_ hk=>⟨⟨hk.1,⟨hk.2.1,⟨hk.2.2.2.1,hk.2.2.2.2⟩⟩⟩,hk.2.2.1⟩))))
                   (case aB=>exact (by repeat (first|(with_reducible first|exact HB.out|apply af|apply ae|apply ag|refine ah ?_ GE114.out|refine ah ?_ GE126.out)|exact HB.out)))
                   (case aF=>exact (fun k_ hk=>⟨(Nat.le_trans (aG (by repeat (first|(with_reducible first|exact HB.out|apply af|apply ae|apply ag|refine ah ?_ GE114.out|refine ah ?_ GE126.out)|exact HB.out))) hk),Kd.fresh' (Kd.iD (by (with_reducible repeat (first|apply Kd.bz|apply Kd.bq|apply Kd.bB));exact HO_3.out)) k_ hk,Kd.dC (g:=gb114) (o:=.cells #[.string (⟨#[]⟩:ByteArray),.slice none 0 0] 28 (0,0)) (by (with_reducible repeat (first|refine au ?_ _|refine av ?_|refine ak ?_ _));exact BK114.out) k_ hk,Kd.dC (g:=gb126) (o:=.cells #[.string t122,.slice (some ⟨go67,0,none⟩) x127001_48.length co67] 28 (0,0)) (by (with_reducible repeat (first|refine au ?_ _|refine av ?_|refine ak ?_ _));exact BK126.out) k_ hk⟩))
                   (case aO=>exact (by (with_reducible repeat (first|apply Kd.aZ|apply Kd.aY|apply Kd.bn));exact Kd.bH HO_127001.out (fun _ hk=>⟨hk.1.1,⟨hk.1.2.2.2.1,⟨hk.1.2.2.2.2.1,hk.1.2.2.2.2.2⟩⟩⟩)))
                   (case aS=>exact (aG (by repeat (first|(with_reducible first|exact HB.out|apply af|apply ae|apply ag|refine ah ?_ GE114.out|refine ah ?_ GE126.out)|exact HB.out))))
                   (case aL=>have:=LMc72.out;omega)
                   intro v168 w93 ho hb hg hat
                   rw [← Ny167.out] at ho
                   have n0_:=aa.mk (Kd.kI (by (with_reducible repeat (first|apply Kd.bz|apply Kd.bq|apply Kd.bB));exact HO_3.out) (Kd.eZ (by (with_reducible repeat (first|apply Kd.aZ|apply Kd.aY|apply Kd.bn));exact HO_127001.out)) (by decide) hg)
                   have n1_:=aa.mk (dH (g:=gb114) (o:=.cells #[.string (⟨#[]⟩:ByteArray),.slice none 0 0] 28 (0,0)) (by (with_reducible repeat (first|refine au ?_ _|refine av ?_|refine ak ?_ _));exact BK114.out) hg (Kd.mO HO_127001.out BK114.out (by decide)))
                   have n2_:=aa.mk (dH (g:=gb126) (o:=.cells #[.string t122,.slice (some ⟨go67,0,none⟩) x127001_48.length co67] 28 (0,0)) (by (with_reducible repeat (first|refine au ?_ _|refine av ?_|refine ak ?_ _));exact BK126.out) hg (Kd.mO HO_127001.out BK126.out (by decide)))
                   have n3_:=aa.mk (Kd.uQ (ok:=(fun k_=>(w.heap.size≤k_)∧some k_≠(.slice (some ad120) x3_2.length co20:Value).ownBlock∧k_≠gb114∧k_≠gb126)) (by (with_reducible repeat (first|apply Kd.aZ|apply Kd.aY|apply Kd.bn));exact Kd.bH HO166.out (fun _ hk=>⟨⟨hk.1,⟨hk.2.1,⟨hk.2.2.2.1,hk.2.2.2.2⟩⟩⟩,hk.2.2.1⟩)) hg hat)
                   have n4_:=aa.mk (hb)
                   have n5_:=aa.mk (ho)
                   clear HO_3
                   clear BK114
                   clear BK126
                   clear HO166
                   clear HB
                   clear HO_127001
                   have HO_3:=n0_
                   have BK114:=n1_
                   have BK126:=n2_
                   have HO166:=n3_
                   have HB:=n4_
                   have HO169:=n5_
                   clear n0_ n1_ n2_ n3_ n4_ n5_
                   clear ho hb hg hat
                   obtain ⟨Ao95,co95,eo95⟩:=Kd.dR HO169.out
                   (first|subst eo95|(injection eo95 with f1_ f2_ f3_;have f4_:=f1_.symm;have f5_:=f3_.symm;clear f1_ f2_ f3_;subst f4_;subst f5_))
                   refine hK.out _ _ ?_
                   clear hK K
                   refine fB (a':=?_) ?_ ?_
                   rotate_left
                   ·show Act.put _ (some 108) _=_
                    simp only [Act.put,List.setIfInBounds_toArray,List.set_cons_zero,List.set_cons_succ,aT,aU]
                    rfl
                   refine di (i:=19) (N:=some 109) (v:=?_) (a':=?_) #[true,true,true,true,true,true,true,true,true,true,true,true,true,true,true,true,true,true,true,true,false] rfl rfl (bV HT_.out (by kernel_rfl)) (fun _ _ _ h=>h) (Or.inl ⟨by rfl,?_⟩) ?_ ?_
                   rotate_left
                   ·intro w'
                    go_simp
                    with_reducible rfl
                   rotate_left
                   ·simp only [Act.put,List.setIfInBounds_toArray,List.set_cons_zero,List.set_cons_succ,aT,aU]
                    rfl
                   refine mJ (i:=20) (N:=none) #[true,true,true,true,true,true,true,true,true,true,true,true,true,true,true,true,true,true,true,true,true] rfl rfl (eO HT_.out (by kernel_rfl)) (by decide) (fun K hK=>?_)
                   have hs96:w93.cell? ⟨gb126,1,none⟩=some (.slice (some ⟨go67,0,none⟩) x127001_48.length co67):=(aj BK126.out 1).trans rfl
                   have hfs96:=ai BK126.out 1
                   have hns96_0:=NB114_126.out
                   have hms96_0:=NB126_114.out
                   refine qh (w1:=?_) (by rfl) rfl ?_ ?_
                   rotate_left
                   ·go_simp
                    rfl
                   refine hK.out _ _ ?_
                   clear hK K
                   refine mH (jH HT_.out (by kernel_rfl)) ?_
                   try go_wp2
                   go_meet
                   case rel=>exact ⟨_,(y167),(.slice Ao95 y167.length co95),H',⟨by have:=HJ2.out;have:=HJ18.out;have:=HJ48.out;first|omega|exact Nat.le_refl _⟩,⟨by (with_reducible repeat (first|apply Kd.bz|apply Kd.bq|apply Kd.bB));exact Kd.bX (Kd.je (p:=⟨gb126,1,none⟩) (Kd.bK HO_3.out BK126.out (by decide)) (fun _ hk=>hk.2) (.slice Ao95 y167.length co95)) (fun _ hk=>hk.1)⟩,⟨by (with_reducible repeat (first|apply Kd.aZ|apply Kd.aY|apply Kd.bn));exact Kd.bH (Kd.dQ (p:=⟨gb126,1,none⟩) (Kd.bH HO169.out (fun k_ hk=>(⟨hk,hk.2.2.2⟩:_∧k_≠gb126))) (fun _ hk=>hk.2) (.slice Ao95 y167.length co95)) (fun _ hk=>⟨hk.1.1,⟨hk.1.2.1,⟨hk.1.2.2.1,hk.1.2.2.2⟩⟩⟩)⟩,⟨by (with_reducible repeat (first|refine au ?_ _|refine av ?_|refine ak ?_ _));refine dB ?_ NB114_126.out _;(with_reducible repeat (first|refine au ?_ _|refine av ?_|refine ak ?_ _));exact BK114.out⟩,⟨by (with_reducible repeat (first|refine au ?_ _|refine av ?_|refine ak ?_ _));refine bG (cs:=#[.string t122,.slice (some ⟨go67,0,none⟩) x127001_48.length co67]) ?_ 1 _ (by first|rfl|(simp only [ay,ax];rfl)|simp [ay,ax]);(with_reducible repeat (first|refine au ?_ _|refine av ?_|refine ak ?_ _));exact BK126.out⟩,⟨by repeat (first|(with_reducible first|exact HB.out|apply af|apply ae|apply ag|refine ah ?_ GE114.out|refine ah ?_ GE126.out)|exact HB.out)⟩⟩
                  ·rw [if_neg c72] at H
                   exact absurd H (by simp)
                 ·rw [if_neg c70] at H
                  exact absurd H (by simp)
                ·rw [if_neg c68] at H
                 exact absurd H (by simp)
               ·rw [if_neg c66] at H
                exact absurd H (by simp)
              ·rw [if_neg c65] at H
               have n_:=aa.mk (rZ HO_127001.out)
               clear HO_127001
               have HO_127001:=n_
               clear n_
               have c65b0:((Int.tmod (rd x3_2 3) 4) == 0)=false:=beq_eq_false_iff_ne.mpr c65
               have c65b1:((Int.tmod (rd x3_2 3) 4) != 0)=true:=bne_iff_ne.mpr c65
               (first|rw [c65b0]|(simp only [aT,aU];rw [c65b0])|skip)
               have H':=aa.mk H
               clear H
               go_wp2
               go_meet
               case rel=>exact ⟨_,(x127001_48),(u127001),H',⟨by have:=HJ2.out;have:=HJ18.out;have:=HJ48.out;first|omega|exact Nat.le_refl _⟩,⟨by (with_reducible repeat (first|apply Kd.bz|apply Kd.bq|apply Kd.bB));exact HO_3.out⟩,⟨by (with_reducible repeat (first|apply Kd.aZ|apply Kd.aY|apply Kd.bn));exact HO_127001.out⟩,⟨by (with_reducible repeat (first|refine au ?_ _|refine av ?_|refine ak ?_ _));exact BK114.out⟩,⟨by (with_reducible repeat (first|refine au ?_ _|refine av ?_|refine ak ?_ _));exact BK126.out⟩,⟨by repeat (first|(with_reducible first|exact HB.out|apply af|apply ae|apply ag|refine ah ?_ GE114.out|refine ah ?_ GE126.out)|exact HB.out)⟩⟩
             case rest =>
              clear HC64
              try clear c2
              try clear p2
              try clear c6
              try clear p6
              try clear c7
              try clear c23
              try clear p64
              try clear c65
              try clear c65b0
              try clear c65b1
              try clear c66
              try clear c68
              try clear c70
              try clear c72
              obtain ⟨kq,x127001_63,u127001,HA,HJ63,HO_3,HO_127001,BK114,BK126,HB⟩:=hcut
              cases kq with
              | zero=>exact absurd HA.out (by simp [aA.j4])
              | succ kj63 =>
               have H:=HA.out
               clear HA
               simp only [aA.j4] at H
               by_cases c97:3 < (x3_2.length:Int)
               ·rw [if_pos c97] at H
                have c97b0:decide (3 < (x3_2.length:Int))=true:=decide_eq_true c97
                have c97b1:decide (3 < x3_2.length)=true:=decide_eq_true (by omega)
                clear c97
                have HC98:=aa.mk H
                clear H
                have p170:0≤(3:Int):=(by omega)
                have q170:3 < (x3_2.length:Int):=of_decide_eq_true (by first|(with_reducible assumption)|assumption)
                obtain ⟨ad170,e170,hx170_0⟩:=Kd.fD (Kd.bL HO_3.out).2.2 3 p170 q170
                obtain rfl:ad120=ad170:=(by injection e170)
                (try simp only [show (3:Int).toNat=3 from rfl,Nat.reduceMul,Nat.reduceEqDiff,Go.Addr.add,↓reduceIte] at hx170_0)
                have qi170:(3 < x3_2.length)=True:=eq_true (by omega)
                (try rw [show ((3:Int)).toNat=3 from rfl] at hx170_0)
                replace p170:=eq_true p170
                replace q170:=eq_true q170
                go_upto_if 114 with (fail)
                go_cut [] (fun wc=>∃ (kq:Nat) (x127001_97:List (S45)) (u127001:Value),aa (aA.j5 kq x3_2 ((⟨#[110]⟩:ByteArray)++t121) t122 x127001_97=some (r1,r2))∧aa (kq≤kj63)∧aa (Kd.R (Kd.int .i64) 3 wc w.heap.size (fun k_=>(w.heap.size≤k_)) (.slice (some ad120) x3_2.length co20) x3_2)∧aa (Kd.N k45 45 wc w.heap.size (fun k_=>(w.heap.size≤k_)∧some k_≠((.slice (some ad120) x3_2.length co20):Value).ownBlock∧k_≠gb114∧k_≠gb126) u127001 x127001_97)∧aa (wc.heap[gb114]?=some (.cells #[.string (⟨#[]⟩:ByteArray),(.slice none 0 0)] 28 (0,0)))∧aa (wc.heap[gb126]?=some (.cells #[.string t122,u127001] 28 (0,0)))∧aa (Below w.heap.size w wc))
                case first =>
                 have H:=HC98.out
                 clear HC98
                 by_cases c99:(Int.tmod (rd x3_2 3) 4)=1
                 ·rw [if_pos c99] at H
                  have c99b0:((Int.tmod (rd x3_2 3) 4) == 1)=true:=beq_iff_eq.mpr c99
                  have c99b1:((Int.tmod (rd x3_2 3) 4) != 1)=false:=bne_eq_false_iff_eq.mpr c99
                  clear c99
                  (first|rw [c99b0]|(simp only [aT,aU];rw [c99b0])|skip)
                  obtain ⟨y171,hy171⟩:∃ y_:List ByteArray,y_=(([(⟨#[115,101,99,114,101,116]⟩:ByteArray)]:List ByteArray)):=⟨_,rfl⟩
                  replace H:(if x127001_63.length < 3518437208883 then (aA.j5 kj63 x3_2 ((⟨#[110]⟩:ByteArray)++t121) t122 (x127001_63++[(⟨(⟨#[117,115,101,114,80,97,115,115,119,111,114,100]⟩:ByteArray),y171⟩:S45)])) else (none))=some (r1,r2):=by first|(rw [hy171];with_reducible exact H)|(have H2_:=(Option.bind_some _ _).symm.trans H;rw [hy171];with_reducible exact H2_)|(have H2_:=(Option.bind_some _ _).symm.trans H;with_reducible exact H2_)|with_reducible exact H|(rw [hy171];exact H)|exact H
                  have Ny171:=aa.mk hy171
                  clear hy171
                  by_cases c100:x127001_63.length < 3518437208883
                  ·rw [if_pos c100] at H
                   have LMc100:=aa.mk c100
                   clear c100
                   obtain ⟨y174,hy174⟩:∃ y_:List (S45),y_=(x127001_63++[(⟨(⟨#[117,115,101,114,80,97,115,115,119,111,114,100]⟩:ByteArray),y171⟩:S45)]):=⟨_,rfl⟩
                   replace H:(aA.j5 kj63 x3_2 ((⟨#[110]⟩:ByteArray)++t121) t122 y174)=some (r1,r2):=by first|(rw [hy174];with_reducible exact H)|(have H2_:=(Option.bind_some _ _).symm.trans H;rw [hy174];with_reducible exact H2_)|(have H2_:=(Option.bind_some _ _).symm.trans H;with_reducible exact H2_)|with_reducible exact H|(rw [hy174];exact H)|exact H
                   have Ny174:=aa.mk hy174
                   clear hy174
                   have H':=aa.mk H
                   clear H
                   have hnb101:=NB126_114.out
                   have hnc101:=NB114_126.out
                   have hcz102_0:wc.cell? ⟨gb126,0,none⟩=some (.string t122):=(aj BK126.out 0).trans rfl
                   have hcz102_1:wc.cell? ⟨gb126,1,none⟩=some (u127001):=(aj BK126.out 1).trans rfl
                   have hfz102_0:=ai BK126.out 0
                   have hfz102_1:=ai BK126.out 1
                   go_wp2_with (first|((with_reducible refine bS (N:=117) rfl ?_);(try (refine eU (by rfl) ?_;dsimp only));refine Kd.jb Kd.string _ 9 ?hg (N:=117) ?hd (xs:=([(⟨#[115,101,99,114,101,116]⟩:ByteArray)]:List ByteArray)) (inner:=[.string (⟨#[115,101,99,114,101,116]⟩:ByteArray)]) (ok:=fun _=>True) (okp:=fun _=>True) ?hr ?hp (fun _ hk=>hk) trivial (Below.refl _ _) (Nat.le_refl _) (by simp) ?_;(case hd=>rfl);(case hg=>rfl);(case hr=>first|(go_simp;done)|(go_simp;rfl));(case hp=>exact (bI.one (show Kd.M Kd.string _ _ _ (⟨#[115,101,99,114,101,116]⟩:ByteArray) [.string (⟨#[115,101,99,114,101,116]⟩:ByteArray)] from rfl) (bI.none _ _)));intro v172 w103 ho104 hb hg_ hnew_;clear hg_ hnew_;(first|rw [← Ny171.out] at ho104|(simp only [Int.reduceToNat] at ho104;rw [← Ny171.out] at ho104));have n0_:=aa.mk (Kd.bR (by (with_reducible repeat (first|apply Kd.bz|apply Kd.bq|apply Kd.bB));exact HO_3.out) hb);have n1_:=aa.mk (Kd.cu (by (with_reducible repeat (first|apply Kd.aZ|apply Kd.aY|apply Kd.bn));exact HO_127001.out) (Kd.dI ho104) hb);have n2_:=aa.mk (Kd.dN (Kd.fu (M:=fun k_=>(w.heap.size≤k_)) ho104 (aG (by repeat (first|(with_reducible first|exact HB.out|apply af|apply ae|apply ag|refine ah ?_ GE114.out|refine ah ?_ GE126.out)|exact HB.out))) (fun k_ h_=>h_)) (aG (by repeat (first|(with_reducible first|exact HB.out|apply af|apply ae|apply ag|refine ah ?_ GE114.out|refine ah ?_ GE126.out)|exact HB.out))));have n3_:=aa.mk (aI (g:=gb114) (o:=.cells #[.string (⟨#[]⟩:ByteArray),.slice none 0 0] 28 (0,0)) (by (with_reducible repeat (first|refine au ?_ _|refine av ?_|refine ak ?_ _));exact BK114.out) hb);have n4_:=aa.mk (aI (g:=gb126) (o:=.cells #[.string t122,u127001] 28 (0,0)) (by (with_reducible repeat (first|refine au ?_ _|refine av ?_|refine ak ?_ _));exact BK126.out) hb);have n5_:=aa.mk (aD (by repeat (first|(with_reducible first|exact HB.out|apply af|apply ae|apply ag|refine ah ?_ GE114.out|refine ah ?_ GE126.out)|exact HB.out)) hb);clear HO_3;clear HO_127001;clear BK114;clear BK126;clear HB;have HO_3:=n0_;have HO_127001:=n1_;have HO173:=n2_;have BK114:=n3_;have BK126:=n4_;have HB:=n5_;clear n0_ n1_ n2_ n3_ n4_ n5_;clear hb ho104;obtain ⟨Ao105,co105,eo105⟩:=Kd.cO HO173.out;subst eo105)|((with_reducible refine iL (b:=.append) (xs:=#[.tmp 116,.tmp 119]) rfl ?_);(try (refine eU (by rfl) ?_;dsimp only));at_builtin;refine Kd.vo k45 (w0:=w) w.heap.size rfl (.tmp 116) (.tmp 119) 26 45 (.agg #[(.string ⟨#[]⟩),(.slice none 0 0)]) 40 rfl Tryz.underlying26 pX rfl (by decide) (by omega) u127001 x127001_63 (⟨(⟨#[117,115,101,114,80,97,115,115,119,111,114,100]⟩:ByteArray),y171⟩:S45) [.string (⟨#[117,115,101,114,80,97,115,115,119,111,114,100]⟩:ByteArray),.slice Ao105 y171.length co105] (fun k_=>(w.heap.size≤k_)∧some k_≠(.slice (some ad120) x3_2.length co20:Value).ownBlock∧k_≠gb114∧k_≠gb126) (fun k_=>((fun k_=>(w.heap.size≤k_)∧some k_≠(.slice (some ad120) x3_2.length co20:Value).ownBlock∧k_≠gb114∧k_≠gb126)) k_∧some k_≠(u127001:Value).ownBlock) rfl rfl ?aP (fun _ hk=>hk) ?aF ?aO ?aB ?aS ?aL ?_;(case aP=>exact (jI _ _ (⟨(⟨#[117,115,101,114,80,97,115,115,119,111,114,100]⟩:ByteArray),y171⟩:S45) (Kd.bL (Kd.bX (ok':=(fun k_=>((fun k_=>(w.heap.size≤k_)∧some k_≠(.slice (some ad120) x3_2.length co20:Value).ownBlock∧k_≠gb114∧k_≠gb126)) k_∧some k_≠(u127001:Value).ownBlock)) (Kd.bK (Kd.bK (Kd.dD (Kd.dD (HO173.out) (Kd.fU HO_3.out) (by decide)) (Kd.eZ HO_127001.out) (by decide)) BK114.out (by decide)) BK126.out (by decide)) (fun k_ hk=>⟨⟨hk.1.1.1.1.1,⟨hk.1.1.1.2,⟨hk.1.2,hk.2⟩⟩⟩,hk.1.1.2⟩))).2.1 (Kd.R_F (Kd.bX (ok':=(fun k_=>((fun k_=>(w.heap.size≤k_)∧some k_≠(.slice (some ad120) x3_2.length co20:Value).ownBlock∧k_≠gb114∧k_≠gb126)) k_∧some k_≠(u127001:Value).ownBlock)) (Kd.bK (Kd.bK (Kd.dD (Kd.dD (HO173.out) (Kd.fU HO_3.out) (by decide)) (Kd.eZ HO_127001.out) (by decide)) BK114.out (by decide)) BK126.out (by decide)) (fun k_ hk=>⟨⟨hk.1.1.1.1.1,⟨hk.1.1.1.2,⟨hk.1.2,hk.2⟩⟩⟩,hk.1.1.2⟩)))));(case aB=>exact (by repeat (first|(with_reducible first|exact HB.out|apply af|apply ae|apply ag|refine ah ?_ GE114.out|refine ah ?_ GE126.out)|exact HB.out)));(case aF=>exact (fun k_ hk=>⟨(Nat.le_trans (aG (by repeat (first|(with_reducible first|exact HB.out|apply af|apply ae|apply ag|refine ah ?_ GE114.out|refine ah ?_ GE126.out)|exact HB.out))) hk),Kd.fresh' (Kd.iD (by (with_reducible repeat (first|apply Kd.bz|apply Kd.bq|apply Kd.bB));exact HO_3.out)) k_ hk,Kd.dC (g:=gb114) (o:=.cells #[.string (⟨#[]⟩:ByteArray),.slice none 0 0] 28 (0,0)) (by (with_reducible repeat (first|refine au ?_ _|refine av ?_|refine ak ?_ _));exact BK114.out) k_ hk,Kd.dC (g:=gb126) (o:=.cells #[.string t122,u127001] 28 (0,0)) (by (with_reducible repeat (first|refine au ?_ _|refine av ?_|refine ak ?_ _));exact BK126.out) k_ hk⟩));(case aO=>exact (by (with_reducible repeat (first|apply Kd.aZ|apply Kd.aY|apply Kd.bn));exact Kd.bH HO_127001.out (fun _ hk=>⟨hk.1.1,⟨hk.1.2.1,⟨hk.1.2.2.1,hk.1.2.2.2⟩⟩⟩)));(case aS=>exact (aG (by repeat (first|(with_reducible first|exact HB.out|apply af|apply ae|apply ag|refine ah ?_ GE114.out|refine ah ?_ GE126.out)|exact HB.out))));(case aL=>have:=LMc100.out;omega);intro v175 w106 ho hb hg hat;rw [← Ny174.out] at ho;have n0_:=aa.mk (Kd.kI (by (with_reducible repeat (first|apply Kd.bz|apply Kd.bq|apply Kd.bB));exact HO_3.out) (Kd.eZ (by (with_reducible repeat (first|apply Kd.aZ|apply Kd.aY|apply Kd.bn));exact HO_127001.out)) (by decide) hg);have n1_:=aa.mk (dH (g:=gb114) (o:=.cells #[.string (⟨#[]⟩:ByteArray),.slice none 0 0] 28 (0,0)) (by (with_reducible repeat (first|refine au ?_ _|refine av ?_|refine ak ?_ _));exact BK114.out) hg (Kd.mO HO_127001.out BK114.out (by decide)));have n2_:=aa.mk (dH (g:=gb126) (o:=.cells #[.string t122,u127001] 28 (0,0)) (by (with_reducible repeat (first|refine au ?_ _|refine av ?_|refine ak ?_ _));exact BK126.out) hg (Kd.mO HO_127001.out BK126.out (by decide)));have n3_:=aa.mk (hb);have n4_:=aa.mk (ho);clear HO_3;clear BK114;clear BK126;clear HB;clear HO_127001;clear HO173;have HO_3:=n0_;have BK114:=n1_;have BK126:=n2_;have HB:=n3_;have HO176:=n4_;clear n0_ n1_ n2_ n3_ n4_;clear ho hb hg hat;obtain ⟨Ao107,co107,eo107⟩:=Kd.dR HO176.out;subst eo107;have hcz108_0:w106.cell? ⟨gb126,0,none⟩=some (.string t122):=(aj BK126.out 0).trans rfl;have hcz108_1:w106.cell? ⟨gb126,1,none⟩=some (u127001):=(aj BK126.out 1).trans rfl;have hfz108_0:=ai BK126.out 0;have hfz108_1:=ai BK126.out 1))
                   go_meet
                   case rel=>exact ⟨_,(y174),(.slice Ao107 y174.length co107),H',⟨by have:=HJ2.out;have:=HJ18.out;have:=HJ48.out;have:=HJ63.out;first|omega|exact Nat.le_refl _⟩,⟨by (with_reducible repeat (first|apply Kd.bz|apply Kd.bq|apply Kd.bB));exact Kd.bX (Kd.je (p:=⟨gb126,1,none⟩) (Kd.bK HO_3.out BK126.out (by decide)) (fun _ hk=>hk.2) (.slice Ao107 y174.length co107)) (fun _ hk=>hk.1)⟩,⟨by (with_reducible repeat (first|apply Kd.aZ|apply Kd.aY|apply Kd.bn));exact Kd.bH (Kd.dQ (p:=⟨gb126,1,none⟩) (Kd.bH HO176.out (fun k_ hk=>(⟨hk,hk.2.2.2⟩:_∧k_≠gb126))) (fun _ hk=>hk.2) (.slice Ao107 y174.length co107)) (fun _ hk=>⟨hk.1.1,⟨hk.1.2.1,⟨hk.1.2.2.1,hk.1.2.2.2⟩⟩⟩)⟩,⟨by (with_reducible repeat (first|refine au ?_ _|refine av ?_|refine ak ?_ _));refine dB ?_ NB114_126.out _;(with_reducible repeat (first|refine au ?_ _|refine av ?_|refine ak ?_ _));exact BK114.out⟩,⟨by (with_reducible repeat (first|refine au ?_ _|refine av ?_|refine ak ?_ _));refine bG (cs:=#[.string t122,u127001]) ?_ 1 _ (by first|rfl|(simp only [ay,ax];rfl)|simp [ay,ax]);(with_reducible repeat (first|refine au ?_ _|refine av ?_|refine ak ?_ _));exact BK126.out⟩,⟨by repeat (first|(with_reducible first|exact HB.out|apply af|apply ae|apply ag|refine ah ?_ GE114.out|refine ah ?_ GE126.out)|exact HB.out)⟩⟩
                  ·rw [if_neg c100] at H
                   exact absurd H (by simp)
                 ·rw [if_neg c99] at H
                  have c99b0:((Int.tmod (rd x3_2 3) 4) == 1)=false:=beq_eq_false_iff_ne.mpr c99
                  have c99b1:((Int.tmod (rd x3_2 3) 4) != 1)=true:=bne_iff_ne.mpr c99
                  (first|rw [c99b0]|(simp only [aT,aU];rw [c99b0])|skip)
                  have H':=aa.mk H
                  clear H
                  go_wp2
                  go_meet
                  case rel=>exact ⟨_,(x127001_63),(u127001),H',⟨by have:=HJ2.out;have:=HJ18.out;have:=HJ48.out;have:=HJ63.out;first|omega|exact Nat.le_refl _⟩,⟨by (with_reducible repeat (first|apply Kd.bz|apply Kd.bq|apply Kd.bB));exact HO_3.out⟩,⟨by (with_reducible repeat (first|apply Kd.aZ|apply Kd.aY|apply Kd.bn));exact HO_127001.out⟩,⟨by (with_reducible repeat (first|refine au ?_ _|refine av ?_|refine ak ?_ _));exact BK114.out⟩,⟨by (with_reducible repeat (first|refine au ?_ _|refine av ?_|refine ak ?_ _));exact BK126.out⟩,⟨by repeat (first|(with_reducible first|exact HB.out|apply af|apply ae|apply ag|refine ah ?_ GE114.out|refine ah ?_ GE126.out)|exact HB.out)⟩⟩
                case rest =>
                 clear HC98
                 try clear c1
                 try clear p1
                 try clear q1
                 try clear hx1
                 try clear qi1
                 try clear c2
                 try clear p2
                 try clear c6
                 try clear p6
                 try clear c7
                 try clear c9
                 try clear c10
                 try clear p17
                 try clear q17
                 try clear hx17
                 try clear qi17
                 try clear c23
                 try clear p64
                 try clear c65
                 try clear c65b0
                 try clear c65b1
                 try clear c66
                 try clear c68
                 try clear c70
                 try clear c72
                 try clear c97
                 try clear c97b0
                 try clear c97b1
                 try clear c99
                 try clear c99b0
                 try clear c99b1
                 try clear c100
                 try clear c101
                 try clear hcz102_0
                 try clear hcz102_1
                 try clear hcz108_0
                 try clear hcz108_1
                 try clear hfz102_0
                 try clear hfz102_1
                 try clear hfz108_0
                 try clear hfz108_1
                 try clear hx170_0
                 try clear p170
                 try clear p2
                 try clear p6
                 try clear p64
                 try clear q170
                 obtain ⟨kq,x127001_97,u127001,HA,HJ97,HO_3,HO_127001,BK114,BK126,HB⟩:=hcut
                 cases kq with
                 | zero=>exact absurd HA.out (by simp [aA.j5])
                 | succ kj97 =>
                  have H:=HA.out
                  clear HA
                  simp only [aA.j5] at H
                  by_cases c109:5 < (x3_2.length:Int)
                  ·rw [if_pos c109] at H
                   have c109b0:decide (5 < (x3_2.length:Int))=true:=decide_eq_true c109
                   have c109b1:decide (5 < x3_2.length)=true:=decide_eq_true (by omega)
                   clear c109
                   by_cases c110:(Int.tmod (rd x3_2 5) 5)=0
                   ·rw [if_pos c110] at H
                    have c110b0:((Int.tmod (rd x3_2 5) 5) == 0)=true:=beq_iff_eq.mpr c110
                    have c110b1:((Int.tmod (rd x3_2 5) 5) != 0)=false:=bne_eq_false_iff_eq.mpr c110
                    clear c110
                    by_cases c111:3+((⟨#[110]⟩:ByteArray)++t121).size≤9223372036854775807
                    ·rw [if_pos c111] at H
                     have c111b0:=eq_true c111
                     have c111b1:decide (3+((⟨#[110]⟩:ByteArray)++t121).size≤9223372036854775807)=true:=decide_eq_true c111
                     try have c111b2:(9223372036854775807 < 3+((⟨#[110]⟩:ByteArray)++t121).size)=False:=eq_false (Nat.not_lt.2 c111)
                     try (have c111b3:=c111b2;simp only [ByteArray.size_append,show ∀ a:UInt8,(⟨#[a]⟩:ByteArray).size=1 from fun _=>rfl,show ∀ a b:UInt8,(⟨#[a,b]⟩:ByteArray).size=2 from fun _ _=>rfl,show ∀ a b c:UInt8,(⟨#[a,b,c]⟩:ByteArray).size=3 from fun _ _ _=>rfl] at c111b3)
                     simp only [Option.some.injEq,Prod.mk.injEq] at H
                     obtain ⟨rfl,rfl⟩:=H
                     have p177:0≤(5:Int):=(by omega)
                     have q177:5 < (x3_2.length:Int):=of_decide_eq_true (by first|(with_reducible assumption)|assumption)
                     obtain ⟨ad177,e177,hx177_0⟩:=Kd.fD (Kd.bL HO_3.out).2.2 5 p177 q177
                     obtain rfl:ad120=ad177:=(by injection e177)
                     (try simp only [show (5:Int).toNat=5 from rfl,Nat.reduceMul,Nat.reduceEqDiff,Go.Addr.add,↓reduceIte] at hx177_0)
                     have qi177:(5 < x3_2.length)=True:=eq_true (by omega)
                     (try rw [show ((5:Int)).toNat=5 from rfl] at hx177_0)
                     replace p177:=eq_true p177
                     replace q177:=eq_true q177
                     have hnb112:=NB126_114.out
                     have hnc112:=NB114_126.out
                     have hcz113_0:wc.cell? ⟨gb126,0,none⟩=some (.string t122):=(aj BK126.out 0).trans rfl
                     have hcz113_1:wc.cell? ⟨gb126,1,none⟩=some (u127001):=(aj BK126.out 1).trans rfl
                     have hfz113_0:=ai BK126.out 0
                     have hfz113_1:=ai BK126.out 1
                     have hcz114_0:wc.cell? ⟨gb114,0,none⟩=some (.string (⟨#[]⟩:ByteArray)):=(aj BK114.out 0).trans rfl
                     have hcz114_1:wc.cell? ⟨gb114,1,none⟩=some (.slice none 0 0):=(aj BK114.out 1).trans rfl
                     have hfz114_0:=ai BK114.out 0
                     have hfz114_1:=ai BK114.out 1
                     obtain ⟨Ao115,co115,eo115⟩:=Kd.dR HO_127001.out
                     subst eo115
                     go_wp2
                     refine bodyPost_ret (results_cell_row rfl _ _ gb114 28 #[.string ((⟨#[99,110,61]⟩:ByteArray)++((⟨#[110]⟩:ByteArray)++t121)),.slice Ao115 x127001_97.length co115] (0,0) _ rfl (by (with_reducible repeat (first|refine au ?_ _|refine av ?_|refine ak ?_ _));refine bG (cs:=#[.string ((⟨#[99,110,61]⟩:ByteArray)++((⟨#[110]⟩:ByteArray)++t121)),.slice none 0 0]) ?_ 1 _ (by first|rfl|(simp only [ay,ax];rfl)|simp [ay,ax]);(with_reducible repeat (first|refine au ?_ _|refine av ?_|refine ak ?_ _));refine bG (cs:=#[.string (⟨#[]⟩:ByteArray),.slice none 0 0]) ?_ 0 _ (by first|rfl|(simp only [ay,ax];rfl)|simp [ay,ax]);(with_reducible repeat (first|refine au ?_ _|refine av ?_|refine ak ?_ _));refine dB ?_ NB114_126.out _;(with_reducible repeat (first|refine au ?_ _|refine av ?_|refine ak ?_ _));exact BK114.out) Tryz.underlying28 rfl (by kernel_rfl)) rfl ?_
                     exact ⟨_,by first|rfl|(simp [aM,aK] <;> rfl)|(simp [*,aM,aK] <;> rfl),by (with_reducible repeat (first|apply Kd.aZ|apply Kd.aY|apply Kd.bn));exact Kd.bH (Kd.dQ (p:=⟨gb114,1,none⟩) (Kd.dQ (p:=⟨gb114,0,none⟩) (Kd.dQ (p:=⟨gb126,0,none⟩) (Kd.bH (Kd.bH HO_127001.out (fun k_ hk=>(⟨hk,hk.2.2.2⟩:_∧k_≠gb126))) (fun k_ hk=>(⟨hk,hk.1.2.2.1⟩:_∧k_≠gb114))) (fun _ hk=>hk.1.2) (.string ((⟨#[99,110,61]⟩:ByteArray)++((⟨#[110]⟩:ByteArray)++t121)))) (fun _ hk=>hk.2) (.string ((⟨#[99,110,61]⟩:ByteArray)++((⟨#[110]⟩:ByteArray)++t121)))) (fun _ hk=>hk.2) (.slice Ao115 x127001_97.length co115)) (fun _ hk=>hk.1.1.1),by repeat (first|(with_reducible first|exact HB.out|apply af|apply ae|apply ag|refine ah ?_ GE114.out|refine ah ?_ GE126.out)|exact HB.out)⟩
                    ·rw [if_neg c111] at H
                     exact absurd H (by simp)
                   ·rw [if_neg c110] at H
                    have c110b0:((Int.tmod (rd x3_2 5) 5) == 0)=false:=beq_eq_false_iff_ne.mpr c110
                    have c110b1:((Int.tmod (rd x3_2 5) 5) != 0)=true:=bne_iff_ne.mpr c110
                    by_cases c116:(Int.tmod (rd x3_2 5) 5)=1
                    ·rw [if_pos c116] at H
                     have c116b0:((Int.tmod (rd x3_2 5) 5) == 1)=true:=beq_iff_eq.mpr c116
                     have c116b1:((Int.tmod (rd x3_2 5) 5) != 1)=false:=bne_eq_false_iff_eq.mpr c116
                     clear c116
                     by_cases c117:3+((⟨#[110]⟩:ByteArray)++t121).size≤9223372036854775807
                     ·rw [if_pos c117] at H
                      have c117b0:=eq_true c117
                      have c117b1:decide (3+((⟨#[110]⟩:ByteArray)++t121).size≤9223372036854775807)=true:=decide_eq_true c117
                      try have c117b2:(9223372036854775807 < 3+((⟨#[110]⟩:ByteArray)++t121).size)=False:=eq_false (Nat.not_lt.2 c117)
                      try (have c117b3:=c117b2;simp only [ByteArray.size_append,show ∀ a:UInt8,(⟨#[a]⟩:ByteArray).size=1 from fun _=>rfl,show ∀ a b:UInt8,(⟨#[a,b]⟩:ByteArray).size=2 from fun _ _=>rfl,show ∀ a b c:UInt8,(⟨#[a,b,c]⟩:ByteArray).size=3 from fun _ _ _=>rfl] at c117b3)
                      by_cases c118:((⟨#[67,78,61]⟩:ByteArray)++((⟨#[110]⟩:ByteArray)++t121)).size+9≤9223372036854775807
                      ·rw [if_pos c118] at H
                       have c118b0:=eq_true c118
                       have c118b1:decide (((⟨#[67,78,61]⟩:ByteArray)++((⟨#[110]⟩:ByteArray)++t121)).size+9≤9223372036854775807)=true:=decide_eq_true c118
                       try have c118b2:(9223372036854775807 < ((⟨#[67,78,61]⟩:ByteArray)++((⟨#[110]⟩:ByteArray)++t121)).size+9)=False:=eq_false (Nat.not_lt.2 c118)
                       try (have c118b3:=c118b2;simp only [ByteArray.size_append,show ∀ a:UInt8,(⟨#[a]⟩:ByteArray).size=1 from fun _=>rfl,show ∀ a b:UInt8,(⟨#[a,b]⟩:ByteArray).size=2 from fun _ _=>rfl,show ∀ a b c:UInt8,(⟨#[a,b,c]⟩:ByteArray).size=3 from fun _ _ _=>rfl] at c118b3)
                       simp only [Option.some.injEq,Prod.mk.injEq] at H
                       obtain ⟨rfl,rfl⟩:=H
                       have p177:0≤(5:Int):=(by omega)
                       have q177:5 < (x3_2.length:Int):=of_decide_eq_true (by first|(with_reducible assumption)|assumption)
                       obtain ⟨ad177,e177,hx177_0⟩:=Kd.fD (Kd.bL HO_3.out).2.2 5 p177 q177
                       obtain rfl:ad120=ad177:=(by injection e177)
                       (try simp only [show (5:Int).toNat=5 from rfl,Nat.reduceMul,Nat.reduceEqDiff,Go.Addr.add,↓reduceIte] at hx177_0)
                       have qi177:(5 < x3_2.length)=True:=eq_true (by omega)
                       (try rw [show ((5:Int)).toNat=5 from rfl] at hx177_0)
                       replace p177:=eq_true p177
                       replace q177:=eq_true q177
                       have hnb119:=NB126_114.out
                       have hnc119:=NB114_126.out
                       have hcz120_0:wc.cell? ⟨gb126,0,none⟩=some (.string t122):=(aj BK126.out 0).trans rfl
                       have hcz120_1:wc.cell? ⟨gb126,1,none⟩=some (u127001):=(aj BK126.out 1).trans rfl
                       have hfz120_0:=ai BK126.out 0
                       have hfz120_1:=ai BK126.out 1
                       have hcz121_0:wc.cell? ⟨gb114,0,none⟩=some (.string (⟨#[]⟩:ByteArray)):=(aj BK114.out 0).trans rfl
                       have hcz121_1:wc.cell? ⟨gb114,1,none⟩=some (.slice none 0 0):=(aj BK114.out 1).trans rfl
                       have hfz121_0:=ai BK114.out 0
                       have hfz121_1:=ai BK114.out 1
                       obtain ⟨Ao122,co122,eo122⟩:=Kd.dR HO_127001.out
                       subst eo122
                       go_wp2
                       refine bodyPost_ret (results_cell_row rfl _ _ gb114 28 #[.string (((⟨#[67,78,61]⟩:ByteArray)++((⟨#[110]⟩:ByteArray)++t121))++(⟨#[44,111,117,61,97,44,111,61,120]⟩:ByteArray)),.slice Ao122 x127001_97.length co122] (0,0) _ rfl (by (with_reducible repeat (first|refine au ?_ _|refine av ?_|refine ak ?_ _));refine bG (cs:=#[.string (((⟨#[67,78,61]⟩:ByteArray)++((⟨#[110]⟩:ByteArray)++t121))++(⟨#[44,111,117,61,97,44,111,61,120]⟩:ByteArray)),.slice none 0 0]) ?_ 1 _ (by first|rfl|(simp only [ay,ax];rfl)|simp [ay,ax]);(with_reducible repeat (first|refine au ?_ _|refine av ?_|refine ak ?_ _));refine bG (cs:=#[.string (⟨#[]⟩:ByteArray),.slice none 0 0]) ?_ 0 _ (by first|rfl|(simp only [ay,ax];rfl)|simp [ay,ax]);(with_reducible repeat (first|refine au ?_ _|refine av ?_|refine ak ?_ _));refine dB ?_ NB114_126.out _;(with_reducible repeat (first|refine au ?_ _|refine av ?_|refine ak ?_ _));exact BK114.out) Tryz.underlying28 rfl (by kernel_rfl)) rfl ?_
                       exact ⟨_,by first|rfl|(simp [aM,aK] <;> rfl)|(simp [*,aM,aK] <;> rfl),by (with_reducible repeat (first|apply Kd.aZ|apply Kd.aY|apply Kd.bn));exact Kd.bH (Kd.dQ (p:=⟨gb114,1,none⟩) (Kd.dQ (p:=⟨gb114,0,none⟩) (Kd.dQ (p:=⟨gb126,0,none⟩) (Kd.bH (Kd.bH HO_127001.out (fun k_ hk=>(⟨hk,hk.2.2.2⟩:_∧k_≠gb126))) (fun k_ hk=>(⟨hk,hk.1.2.2.1⟩:_∧k_≠gb114))) (fun _ hk=>hk.1.2) (.string (((⟨#[67,78,61]⟩:ByteArray)++((⟨#[110]⟩:ByteArray)++t121))++(⟨#[44,111,117,61,97,44,111,61,120]⟩:ByteArray)))) (fun _ hk=>hk.2) (.string (((⟨#[67,78,61]⟩:ByteArray)++((⟨#[110]⟩:ByteArray)++t121))++(⟨#[44,111,117,61,97,44,111,61,120]⟩:ByteArray)))) (fun _ hk=>hk.2) (.slice Ao122 x127001_97.length co122)) (fun _ hk=>hk.1.1.1),by repeat (first|(with_reducible first|exact HB.out|apply af|apply ae|apply ag|refine ah ?_ GE114.out|refine ah ?_ GE126.out)|exact HB.out)⟩
                      ·rw [if_neg c118] at H
                       exact absurd H (by simp)
                     ·rw [if_neg c117] at H
                      exact absurd H (by simp)
                    ·rw [if_neg c116] at H
                     have c116b0:((Int.tmod (rd x3_2 5) 5) == 1)=false:=beq_eq_false_iff_ne.mpr c116
                     have c116b1:((Int.tmod (rd x3_2 5) 5) != 1)=true:=bne_iff_ne.mpr c116
                     simp only [Option.some.injEq,Prod.mk.injEq] at H
                     obtain ⟨rfl,rfl⟩:=H
                     have p177:0≤(5:Int):=(by omega)
                     have q177:5 < (x3_2.length:Int):=of_decide_eq_true (by first|(with_reducible assumption)|assumption)
                     obtain ⟨ad177,e177,hx177_0⟩:=Kd.fD (Kd.bL HO_3.out).2.2 5 p177 q177
                     obtain rfl:ad120=ad177:=(by injection e177)
                     (try simp only [show (5:Int).toNat=5 from rfl,Nat.reduceMul,Nat.reduceEqDiff,Go.Addr.add,↓reduceIte] at hx177_0)
                     have qi177:(5 < x3_2.length)=True:=eq_true (by omega)
                     (try rw [show ((5:Int)).toNat=5 from rfl] at hx177_0)
                     replace p177:=eq_true p177
                     replace q177:=eq_true q177
                     have hnb123:=NB126_114.out
                     have hnc123:=NB114_126.out
                     have hcz124_0:wc.cell? ⟨gb126,0,none⟩=some (.string t122):=(aj BK126.out 0).trans rfl
                     have hcz124_1:wc.cell? ⟨gb126,1,none⟩=some (u127001):=(aj BK126.out 1).trans rfl
                     have hfz124_0:=ai BK126.out 0
                     have hfz124_1:=ai BK126.out 1
                     have hcz125_0:wc.cell? ⟨gb114,0,none⟩=some (.string (⟨#[]⟩:ByteArray)):=(aj BK114.out 0).trans rfl
                     have hcz125_1:wc.cell? ⟨gb114,1,none⟩=some (.slice none 0 0):=(aj BK114.out 1).trans rfl
                     have hfz125_0:=ai BK114.out 0
                     have hfz125_1:=ai BK114.out 1
                     obtain ⟨Ao126,co126,eo126⟩:=Kd.dR HO_127001.out
                     subst eo126
                     go_wp2
                     refine bodyPost_ret (results_cell_row rfl _ _ gb114 28 #[.string t122,.slice Ao126 x127001_97.length co126] (0,0) _ rfl (by (with_reducible repeat (first|refine au ?_ _|refine av ?_|refine ak ?_ _));refine bG (cs:=#[.string t122,.slice none 0 0]) ?_ 1 _ (by first|rfl|(simp only [ay,ax];rfl)|simp [ay,ax]);(with_reducible repeat (first|refine au ?_ _|refine av ?_|refine ak ?_ _));refine bG (cs:=#[.string (⟨#[]⟩:ByteArray),.slice none 0 0]) ?_ 0 _ (by first|rfl|(simp only [ay,ax];rfl)|simp [ay,ax]);(with_reducible repeat (first|refine au ?_ _|refine av ?_|refine ak ?_ _));exact BK114.out) Tryz.underlying28 rfl (by kernel_rfl)) rfl ?_
                     exact ⟨_,by first|rfl|(simp [aM,aK] <;> rfl)|(simp [*,aM,aK] <;> rfl),by (with_reducible repeat (first|apply Kd.aZ|apply Kd.aY|apply Kd.bn));exact Kd.bH (Kd.dQ (p:=⟨gb114,1,none⟩) (Kd.dQ (p:=⟨gb114,0,none⟩) (Kd.bH HO_127001.out (fun k_ hk=>(⟨hk,hk.2.2.1⟩:_∧k_≠gb114))) (fun _ hk=>hk.2) (.string t122)) (fun _ hk=>hk.2) (.slice Ao126 x127001_97.length co126)) (fun _ hk=>hk.1.1),by repeat (first|(with_reducible first|exact HB.out|apply af|apply ae|apply ag|refine ah ?_ GE114.out|refine ah ?_ GE126.out)|exact HB.out)⟩
                  ·rw [if_neg c109] at H
                   exact absurd H (by simp)
               ·rw [if_neg c97] at H
                exact absurd H (by simp)
            ·rw [if_neg c63] at H
             exact absurd H (by simp)
         ·rw [if_neg c48] at H
          exact absurd H (by simp)
      ·rw [if_neg c18] at H
       exact absurd H (by simp)
     ·rw [if_neg c16] at H
      exact absurd H (by simp)
    ·rw [if_neg c14] at H
     exact absurd H (by simp)
 ·rw [if_neg c2] at H
  exact absurd H (by simp)
end Go.Proofs.YthfpaoacjpjnfaaGreatDoor.P
