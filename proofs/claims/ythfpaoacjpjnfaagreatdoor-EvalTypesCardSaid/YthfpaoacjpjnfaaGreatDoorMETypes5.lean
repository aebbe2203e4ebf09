/- Part 5 of 8 of the proof. See the last part. -/
import Derived.Test.YthfpaoacjpjnfaaGreatDoorMETypes2
import Derived.Test.YthfpaoacjpjnfaaGreatDoorMETypes3
import Derived.Test.YthfpaoacjpjnfaaGreatDoorMETypes4
import Derived.Deep.QuietTactic
import Derived.BigQuiet
import Derived.Deep.CutRange
import Derived.Deep.RegionLawGrows
set_option linter.unusedVariables false
set_option linter.unusedSimpArgs false
namespace Go.Proofs.YthfpaoacjpjnfaaGreatDoor.P
open Go.RowKit Go.Proofs.YthfpaoacjpjnfaaGreatDoorW.PrintWords Go.Proofs.YthfpaoacjpjnfaaGreatDoorW.PrintLast Go.Proofs.YthfpaoacjpjnfaaGreatDoorW.PrintMore
attribute [local go_sem] dP dS eP eO dE dD dQ dR
mutual
def bG.l0:Nat→List Int→List (S25)→Int→Int→Int→ByteArray→ByteArray→List ByteArray→List (S25)→ByteArray→List (S45)→Option (Int)
 | 0,_,_,_,_,_,_,_,_,_,_,_=>none
 | k+1,x5,x13,x14,x15,x196000,x196001,x196002,x196003,x196004,x197000,x197001=>if x15 < x14 then (if 0≤x15 then (if x15 < (x13.length:Int) then ((bG.f k ((bi x13 x15).f0) ((bi x13 x15).f1) ((bi x13 x15).f2) ((bi x13 x15).f3) ((bi x13 x15).f4) x197000 x197001).bind fun t199=>(if x5.length < 17592186044416 then (bG.l0 k (x5++[t199]) x13 x14 (wrap64 (x15+1)) x196000 x196001 x196002 x196003 x196004 x197000 x197001) else (none))) else (none)) else (none)) else (if x196000=1 then ((gy.f k x5 0 1).bind fun t203=>(some t203)) else (if x196000=2 then ((gy.f k x5 1 0).bind fun t204=>(some t204)) else (if x196000=3 then ((some (([1,0,2]:List Int):List Int)).bind fun y205=>(if 0 < (x5.length:Int) then (if 0≤(rd x5 0) then (if (rd x5 0) < (y205.length:Int) then (some (rd y205 (rd x5 0))) else (none)) else (none)) else (none))) else ((cO.f x196001).bind fun bt210=>(if bt210.2=true then (if x196000=8 then ((dF.f x197000 x197001 x196001).bind fun t212=>((dw.f (decide ((t212.length:Int) > 0))).bind fun t215=>(some t215))) else (if x196000=5 then ((iA.f x196000 x196001 x196002 x196003 x196004 x197000 x197001).bind fun t216=>(some t216)) else (if x196000=4 then ((bB.f k x196001 x196002).bind fun bt217=>(if bt217.2=true then ((fJ.f x197000 x197001 x196001 x196002).bind fun t219=>((dw.f t219).bind fun t220=>(some t220))) else (some 2))) else ((fB.f x196000 x196001 x196002 x196003 x196004 x197000 x197001).bind fun t221=>(some t221))))) else (some 2))))))
def bG.f:Nat→Int→ByteArray→ByteArray→List ByteArray→List (S25)→ByteArray→List (S45)→Option (Int)
 | 0,_,_,_,_,_,_,_=>none
 | k+1,a0_0,a0_1,a0_2,l0_3,l0_4,a1_0,l1_1=>bG.l0 k ([]:List Int) l0_4 (l0_4.length:Int) 0 a0_0 a0_1 a0_2 l0_3 l0_4 a1_0 l1_1
end
set_option maxHeartbeats 8000000 in
set_option maxRecDepth 100000 in
theorem bG.calls (k:Nat):∀ (a0_0:Int) (a0_1:ByteArray) (a0_2:ByteArray) (A0_3:Option Addr) (c0_3:Nat) (l0_3:List ByteArray) (A0_4:Option Addr) (c0_4:Nat) (l0_4:List (S25)) (a1_0:ByteArray) (A1_1:Option Addr) (c1_1:Nat) (l1_1:List (S45)) (r:Int) (w:World) (hr0_3:Kd.C Kd.string w A0_3 l0_3.length l0_3) (hc0_3:l0_3.length≤c0_3) (hr0_4:Kd.C k25 w A0_4 l0_4.length l0_4) (hc0_4:l0_4.length≤c0_4) (hr1_1:Kd.C k45 w A1_1 l1_1.length l1_1) (hc1_1:l1_1.length≤c1_1) (hG:Gl w) (h:bG.f k a0_0 a0_1 a0_2 l0_3 l0_4 a1_0 l1_1=some r),
  Calls Tryz.prog 27 #[.agg #[.int .i64 a0_0,.string a0_1,.string a0_2,.slice A0_3 l0_3.length c0_3,.slice A0_4 l0_4.length c0_4],.agg #[.string a1_0,.slice A1_1 l1_1.length c1_1]] w fun e w'=>e=.returned (.int .i64 r)∧Below w.heap.size w w':=by
 induction k using Nat.strongRecOn with
 | _ k ih =>
 intro a0_0 a0_1 a0_2 A0_3 c0_3 l0_3 A0_4 c0_4 l0_4 a1_0 A1_1 c1_1 l1_1 r w hr0_3 hc0_3 hr0_4 hc0_4 hr1_1 hc1_1 hG h
 cases k with
 | zero=>exact absurd h (by simp [bG.f])
 | succ k =>
 simp only [bG.f] at h
 have hu25:=Tryz.underlying25
 have hu28:=Tryz.underlying28
 have HR0_3:=aa.mk hr0_3
 have HC0_3:=aa.mk hc0_3
 clear hr0_3 hc0_3
 have HR0_4:=aa.mk hr0_4
 have HC0_4:=aa.mk hc0_4
 clear hr0_4 hc0_4
 have HR1_1:=aa.mk hr1_1
 have HC1_1:=aa.mk hc1_1
 clear hr1_1 hc1_1
 have HB:=aa.mk (Below.refl w.heap.size w)
 have HG:=aa.mk hG
 clear hG
 have H:(bG.l0 k ([]:List Int) l0_4 (l0_4.length:Int) 0 a0_0 a0_1 a0_2 l0_3 l0_4 a1_0 l1_1)=some r:=h
 clear h
 have H':=aa.mk H
 clear H
 go_enter Tryz.func27,Tryz.ntmps27
 go_wp2_with (first|((with_reducible refine cz (N:=2) rfl ?_);refine dO ?hg (N:=2) ?hd (cs:=#[.int .i64 a0_0,.string a0_1,.string a0_2,.slice A0_3 l0_3.length c0_3,.slice A0_4 l0_4.length c0_4]) (t:=25) ?hr ?_;(case hd=>rfl);(case hg=>rfl);(case hr=>first|(go_simp;done)|(go_simp;rfl));intro gb195 hg w3 hbox hb;have n0_:=aa.mk (aA (by repeat (first|(with_reducible first|exact HB.out|apply af|apply ae|apply ag)|exact HB.out)) hb);have n1_:=aa.mk (hbox);have n2_:=aa.mk ((by rw [hg];exact (aC (by repeat (first|(with_reducible first|exact HB.out|apply af|apply ae|apply ag)|exact HB.out))):w.heap.size≤gb195));have n3_:=aa.mk ((by rw [hg];exact (aC (by repeat (first|(with_reducible first|exact HB.out|apply af|apply ae|apply ag)|exact HB.out))):w.heap.size≤gb195));clear HB;have HB:=n0_;have BK195:=n1_;have GW195:=n2_;have GE195:=n3_;clear n0_ n1_ n2_ n3_;clear hb hbox hg)|((with_reducible refine cz (N:=3) rfl ?_);refine dO ?hg (N:=3) ?hd (cs:=#[.string a1_0,.slice A1_1 l1_1.length c1_1]) (t:=28) ?hr ?_;(case hd=>rfl);(case hg=>rfl);(case hr=>first|(go_simp;done)|(go_simp;rfl));intro gb196 hg w4 hbox hb;have n0_:=aa.mk (aI (g:=gb195) (o:=.cells #[.int .i64 a0_0,.string a0_1,.string a0_2,.slice A0_3 l0_3.length c0_3,.slice A0_4 l0_4.length c0_4] 25 (0,0)) (by (with_reducible repeat (first|refine aj ?_ _|refine ax ?_|refine ai ?_ _));exact BK195.out) hb);have n1_:=aa.mk (aA (by repeat (first|(with_reducible first|exact HB.out|apply af|apply ae|apply ag|refine ah ?_ GE195.out)|exact HB.out)) hb);have n2_:=aa.mk (hbox);have n3_:=aa.mk ((by rw [hg];exact (aC (by repeat (first|(with_reducible first|exact HB.out|apply af|apply ae|apply ag|refine ah ?_ GE195.out)|exact HB.out))):w.heap.size≤gb196));have n4_:=aa.mk ((by rw [hg];exact (aC (by repeat (first|(with_reducible first|exact HB.out|apply af|apply ae|apply ag|refine ah ?_ GE195.out)|exact HB.out))):w.heap.size≤gb196));have n5_:=aa.mk ((by rw [hg];exact Nat.ne_of_lt (gK (g:=gb195) (o:=.cells #[.int .i64 a0_0,.string a0_1,.string a0_2,.slice A0_3 l0_3.length c0_3,.slice A0_4 l0_4.length c0_4] 25 (0,0)) (by (with_reducible repeat (first|refine aj ?_ _|refine ax ?_|refine ai ?_ _));exact BK195.out)):gb195≠gb196));have n6_:=aa.mk ((by rw [hg];exact Nat.ne_of_gt (gK (g:=gb195) (o:=.cells #[.int .i64 a0_0,.string a0_1,.string a0_2,.slice A0_3 l0_3.length c0_3,.slice A0_4 l0_4.length c0_4] 25 (0,0)) (by (with_reducible repeat (first|refine aj ?_ _|refine ax ?_|refine ai ?_ _));exact BK195.out)):gb196≠gb195));clear BK195;clear HB;have BK195:=n0_;have HB:=n1_;have BK196:=n2_;have GW196:=n3_;have GE196:=n4_;have NB195_196:=n5_;have NB196_195:=n6_;clear n0_ n1_ n2_ n3_ n4_ n5_ n6_;clear hb hbox hg;have hnb5:=NB195_196.out;have hnc5:=NB196_195.out;have hcz6_0:w4.cell? ⟨gb195,0,none⟩=some (.int .i64 a0_0):=(az BK195.out 0).trans rfl;have hcz6_1:w4.cell? ⟨gb195,1,none⟩=some (.string a0_1):=(az BK195.out 1).trans rfl;have hcz6_2:w4.cell? ⟨gb195,2,none⟩=some (.string a0_2):=(az BK195.out 2).trans rfl;have hcz6_3:w4.cell? ⟨gb195,3,none⟩=some (.slice A0_3 l0_3.length c0_3):=(az BK195.out 3).trans rfl;have hcz6_4:w4.cell? ⟨gb195,4,none⟩=some (.slice A0_4 l0_4.length c0_4):=(az BK195.out 4).trans rfl;have hfz6_0:=ay BK195.out 0;have hfz6_1:=ay BK195.out 1;have hfz6_2:=ay BK195.out 2;have hfz6_3:=ay BK195.out 3;have hfz6_4:=ay BK195.out 4))
 go_loopg [5,15] k (fun kq v5 v15 w'=>∃ (x5_1:List Int) (x15_1:Int),v15=.int .i64 x15_1∧aa (bG.l0 kq x5_1 l0_4 (l0_4.length:Int) x15_1 a0_0 a0_1 a0_2 l0_3 l0_4 a1_0 l1_1=some r)∧aa (kq≤k)∧aa (Kd.R (Kd.int .i64) 3 w' w.heap.size (fun _=>True) v5 x5_1)∧aa (w'.heap[gb195]?=some (.cells #[.int .i64 a0_0,.string a0_1,.string a0_2,(.slice A0_3 l0_3.length c0_3),(.slice A0_4 l0_4.length c0_4)] 25 (0,0)))∧aa (w'.heap[gb196]?=some (.cells #[.string a1_0,(.slice A1_1 l1_1.length c1_1)] 28 (0,0)))∧aa (Below w.heap.size w w'))
 case atStart=>exact ⟨(([]:List Int)),(0),(by first|rfl|(simp;done)|(simp [*];done)|(simp [*,aK,aM,bX];done)|(simp only [au,ak];done)|(simp only [au,ak];simp;done)|(simp only [au,ak];simp [*];done)),H',⟨Nat.le_refl _⟩,⟨by first|exact Kd.kH _ _ _ _ _|exact Kd.qj _ _ _ _ _|exact Kd.qE _ _ _ _ _|exact Kd.qQ _ _ _ _ _|exact Kd.qM _ _ _ _ _⟩,⟨by (with_reducible repeat (first|refine aj ?_ _|refine ax ?_|refine ai ?_ _));exact BK195.out⟩,⟨by (with_reducible repeat (first|refine aj ?_ _|refine ax ?_|refine ai ?_ _));exact BK196.out⟩,⟨by repeat (first|(with_reducible first|exact HB.out|apply af|apply ae|apply ag|refine ah ?_ GE195.out|refine ah ?_ GE196.out)|exact HB.out)⟩⟩
 case round =>
  clear H'
  try clear c1
  try clear c2
  try clear p2
  try clear c5
  try clear hcz6_0
  try clear hcz6_1
  try clear hcz6_2
  try clear hcz6_3
  try clear hcz6_4
  try clear hfz6_0
  try clear hfz6_1
  try clear hfz6_2
  try clear hfz6_3
  try clear hfz6_4
  obtain ⟨x5_1,x15_1,rfl,HA,HK1,HO_5,BK195,BK196,HB⟩:=hrel
  cases gk with
  | zero=>exact absurd HA.out (by simp [bG.l0])
  | succ k1 =>
   have H:=HA.out
   clear HA
   simp only [bG.l0] at H
   by_cases c7:x15_1 < (l0_4.length:Int)
   ·rw [if_pos c7] at H
    have c7b0:decide (x15_1 < (l0_4.length:Int))=true:=decide_eq_true c7
    clear c7
    by_cases c8:0≤x15_1
    ·rw [if_pos c8] at H
     have c8b0:decide (0≤x15_1)=true:=decide_eq_true c8
     clear c8
     by_cases c9:x15_1 < (l0_4.length:Int)
     ·rw [if_pos c9] at H
      have c9b0:decide (x15_1 < (l0_4.length:Int))=true:=decide_eq_true c9
      clear c9
      replace H:=Option.bind_eq_some_iff.mp H
      obtain ⟨t199,A100,H⟩:=H
      replace H:(if x5_1.length < 17592186044416 then (bG.l0 k1 (x5_1++[t199]) l0_4 (l0_4.length:Int) (wrap64 (x15_1+1)) a0_0 a0_1 a0_2 l0_3 l0_4 a1_0 l1_1) else (none))=some r:=H
      have A10:=aa.mk A100
      clear A100
      by_cases c11:x5_1.length < 17592186044416
      ·rw [if_pos c11] at H
       have LMc11:=aa.mk c11
       clear c11
       obtain ⟨y200,hy200⟩:∃ y_:List Int,y_=(x5_1++[t199]):=⟨_,rfl⟩
       replace H:(bG.l0 k1 y200 l0_4 (l0_4.length:Int) (wrap64 (x15_1+1)) a0_0 a0_1 a0_2 l0_3 l0_4 a1_0 l1_1)=some r:=by first|(rw [hy200];with_reducible exact H)|(have H2_:=(Option.bind_some _ _).symm.trans H;rw [hy200];with_reducible exact H2_)|(have H2_:=(Option.bind_some _ _).symm.trans H;with_reducible exact H2_)|with_reducible exact H|(rw [hy200];exact H)|exact H
       have Ny200:=aa.mk hy200
       clear hy200
       have H':=aa.mk H
       clear H
       have p197:0≤(x15_1:Int):=of_decide_eq_true (by first|(with_reducible assumption)|assumption)
       have q197:x15_1 < (l0_4.length:Int):=of_decide_eq_true (by first|(with_reducible assumption)|assumption)
       obtain ⟨ad197,A197_3,c197_3,A197_4,c197_4,e197,hx197_0,hx197_1,hx197_2,hx197_3,hx197_4,hl197_3,hi197_3,hl197_4,hi197_4⟩:=uM HR0_4.out x15_1 p197 q197
       cases e197
       replace hx197_0:=(HB.out.cell (World.block_lt_of_cell? w _ hx197_0)).trans hx197_0
       replace hx197_1:=(HB.out.cell (World.block_lt_of_cell? w _ hx197_1)).trans hx197_1
       replace hx197_2:=(HB.out.cell (World.block_lt_of_cell? w _ hx197_2)).trans hx197_2
       replace hx197_3:=(HB.out.cell (World.block_lt_of_cell? w _ hx197_3)).trans hx197_3
       replace hx197_4:=(HB.out.cell (World.block_lt_of_cell? w _ hx197_4)).trans hx197_4
       have HR197_3:=aa.mk hi197_3
       have HC197_3:=aa.mk hl197_3
       clear hi197_3 hl197_3
       have HR197_4:=aa.mk hi197_4
       have HC197_4:=aa.mk hl197_4
       clear hi197_4 hl197_4
       replace p197:=eq_true p197
       replace q197:=eq_true q197
       go_wp2_with (first|((with_reducible refine cz (N:=7) rfl ?_);refine dO ?hg (N:=7) ?hd (cs:=#[.int .i64 0,.string (⟨#[]⟩:ByteArray),.string (⟨#[]⟩:ByteArray),.slice none 0 0,.slice none 0 0]) (t:=25) ?hr ?_;(case hd=>rfl);(case hg=>rfl);(case hr=>first|(go_simp;done)|(go_simp;rfl));intro gb198 hg w12 hbox hb;have n0_:=aa.mk (Kd.bE (by (with_reducible repeat (first|apply Kd.aQ|apply Kd.aN|apply Kd.aU));exact HO_5.out) hb);have n1_:=aa.mk (aI (g:=gb195) (o:=.cells #[.int .i64 a0_0,.string a0_1,.string a0_2,.slice A0_3 l0_3.length c0_3,.slice (some ad197) l0_4.length c0_4] 25 (0,0)) (by (with_reducible repeat (first|refine aj ?_ _|refine ax ?_|refine ai ?_ _));exact BK195.out) hb);have n2_:=aa.mk (aI (g:=gb196) (o:=.cells #[.string a1_0,.slice A1_1 l1_1.length c1_1] 28 (0,0)) (by (with_reducible repeat (first|refine aj ?_ _|refine ax ?_|refine ai ?_ _));exact BK196.out) hb);have n3_:=aa.mk (aA (by repeat (first|(with_reducible first|exact HB.out|apply af|apply ae|apply ag|refine ah ?_ GE195.out|refine ah ?_ GE196.out)|exact HB.out)) hb);have n4_:=aa.mk (hbox);have n5_:=aa.mk ((by rw [hg];exact (aC (by repeat (first|(with_reducible first|exact HB.out|apply af|apply ae|apply ag|refine ah ?_ GE195.out|refine ah ?_ GE196.out)|exact HB.out))):w.heap.size≤gb198));have n6_:=aa.mk ((by rw [hg];exact (aC (by repeat (first|(with_reducible first|exact HB.out|apply af|apply ae|apply ag|refine ah ?_ GE195.out|refine ah ?_ GE196.out)|exact HB.out))):w.heap.size≤gb198));have n7_:=aa.mk ((by rw [hg];exact Nat.ne_of_lt (gK (g:=gb195) (o:=.cells #[.int .i64 a0_0,.string a0_1,.string a0_2,.slice A0_3 l0_3.length c0_3,.slice (some ad197) l0_4.length c0_4] 25 (0,0)) (by (with_reducible repeat (first|refine aj ?_ _|refine ax ?_|refine ai ?_ _));exact BK195.out)):gb195≠gb198));have n8_:=aa.mk ((by rw [hg];exact Nat.ne_of_gt (gK (g:=gb195) (o:=.cells #[.int .i64 a0_0,.string a0_1,.string a0_2,.slice A0_3 l0_3.length c0_3,.slice (some ad197) l0_4.length c0_4] 25 (0,0)) (by (with_reducible repeat (first|refine aj ?_ _|refine ax ?_|refine ai ?_ _));exact BK195.out)):gb198≠gb195));have n9_:=aa.mk ((by rw [hg];exact Nat.ne_of_lt (gK (g:=gb196) (o:=.cells #[.string a1_0,.slice A1_1 l1_1.length c1_1] 28 (0,0)) (by (with_reducible repeat (first|refine aj ?_ _|refine ax ?_|refine ai ?_ _));exact BK196.out)):gb196≠gb198));have n10_:=aa.mk ((by rw [hg];exact Nat.ne_of_gt (gK (g:=gb196) (o:=.cells #[.string a1_0,.slice A1_1 l1_1.length c1_1] 28 (0,0)) (by (with_reducible repeat (first|refine aj ?_ _|refine ax ?_|refine ai ?_ _));exact BK196.out)):gb198≠gb196));clear HO_5;clear BK195;clear BK196;clear HB;have HO_5:=n0_;have BK195:=n1_;have BK196:=n2_;have HB:=n3_;have BK198:=n4_;have GW198:=n5_;have GE198:=n6_;have NB195_198:=n7_;have NB198_195:=n8_;have NB196_198:=n9_;have NB198_196:=n10_;clear n0_ n1_ n2_ n3_ n4_ n5_ n6_ n7_ n8_ n9_ n10_;clear hb hbox hg;have hnb13:=NB198_195.out;have hnc13:=NB195_198.out;have hnb14:=NB198_196.out;have hnc14:=NB196_198.out;have hcz15_0:w12.cell? ⟨gb198,0,none⟩=some (.int .i64 0):=(az BK198.out 0).trans rfl;have hcz15_1:w12.cell? ⟨gb198,1,none⟩=some (.string (⟨#[]⟩:ByteArray)):=(az BK198.out 1).trans rfl;have hcz15_2:w12.cell? ⟨gb198,2,none⟩=some (.string (⟨#[]⟩:ByteArray)):=(az BK198.out 2).trans rfl;have hcz15_3:w12.cell? ⟨gb198,3,none⟩=some (.slice none 0 0):=(az BK198.out 3).trans rfl;have hcz15_4:w12.cell? ⟨gb198,4,none⟩=some (.slice none 0 0):=(az BK198.out 4).trans rfl;have hfz15_0:=ay BK198.out 0;have hfz15_1:=ay BK198.out 1;have hfz15_2:=ay BK198.out 2;have hfz15_3:=ay BK198.out 3;have hfz15_4:=ay BK198.out 4;have hnb16:=NB196_195.out;have hnc16:=NB195_196.out;have hcz17_0:w12.cell? ⟨gb196,0,none⟩=some (.string a1_0):=(az BK196.out 0).trans rfl;have hcz17_1:w12.cell? ⟨gb196,1,none⟩=some (.slice A1_1 l1_1.length c1_1):=(az BK196.out 1).trans rfl;have hfz17_0:=ay BK196.out 0;have hfz17_1:=ay BK196.out 1)|((with_reducible refine aH (f:=27) rfl ?_);refine bq (some 22) rfl rfl Tryz.func27 (by kernel_rfl) rfl #[.agg #[.int .i64 ((bi l0_4 x15_1).f0),.string ((bi l0_4 x15_1).f1),.string ((bi l0_4 x15_1).f2),.slice A197_3 ((bi l0_4 x15_1).f3).length c197_3,.slice A197_4 ((bi l0_4 x15_1).f4).length c197_4],.agg #[.string a1_0,.slice A1_1 l1_1.length c1_1]] rfl (by (try simp only [List.map_toArray,List.map_cons,List.map_nil]);first|done|rfl|(simp only [List.length_drop,List.length_take];rfl)) ?_;(with_reducible refine (ih k1 (by have:=HK1.out;omega) ((bi l0_4 x15_1).f0) ((bi l0_4 x15_1).f1) ((bi l0_4 x15_1).f2) _ _ ((bi l0_4 x15_1).f3) _ _ ((bi l0_4 x15_1).f4) a1_0 _ _ l1_1 t199 _ ?side1 ?side2 ?side3 ?side4 ?side5 ?side6 ?side7 A10.out).mono ?_);(case side1=>exact Kd.bP HR197_3.out (by repeat (first|(with_reducible first|exact HB.out|apply af|apply ae|apply ag|refine ah ?_ GE195.out|refine ah ?_ GE196.out|refine ah ?_ GE198.out)|exact HB.out)));(case side2=>exact HC197_3.out);(case side3=>exact Kd.bP HR197_4.out (by repeat (first|(with_reducible first|exact HB.out|apply af|apply ae|apply ag|refine ah ?_ GE195.out|refine ah ?_ GE196.out|refine ah ?_ GE198.out)|exact HB.out)));(case side4=>exact HC197_4.out);(case side5=>exact Kd.bP HR1_1.out (by repeat (first|(with_reducible first|exact HB.out|apply af|apply ae|apply ag|refine ah ?_ GE195.out|refine ah ?_ GE196.out|refine ah ?_ GE198.out)|exact HB.out)));(case side6=>exact HC1_1.out);(case side7=>first|exact HG.out|exact Gl.drewN HG.out _|exact Gl.below HG.out (by repeat (first|(with_reducible first|exact HB.out|apply af|apply ae|apply ag|refine ah ?_ GE195.out|refine ah ?_ GE196.out|refine ah ?_ GE198.out)|exact HB.out)));rintro e w18 ⟨rfl,hb⟩;refine ⟨_,rfl,?_⟩;have n0_:=aa.mk (Kd.bE (by (with_reducible repeat (first|apply Kd.aQ|apply Kd.aN|apply Kd.aU));exact (Kd.bK (Kd.gQ (p:=⟨gb198,4,none⟩) (Kd.gQ (p:=⟨gb198,3,none⟩) (Kd.gQ (p:=⟨gb198,2,none⟩) (Kd.gQ (p:=⟨gb198,1,none⟩) (Kd.gQ (p:=⟨gb198,0,none⟩) (Kd.bM HO_5.out BK198.out (by decide)) (fun _ hk=>hk.2) (.int .i64 ((bi l0_4 x15_1).f0))) (fun _ hk=>hk.2) (.string ((bi l0_4 x15_1).f1))) (fun _ hk=>hk.2) (.string ((bi l0_4 x15_1).f2))) (fun _ hk=>hk.2) (.slice A197_3 ((bi l0_4 x15_1).f3).length c197_3)) (fun _ hk=>hk.2) (.slice A197_4 ((bi l0_4 x15_1).f4).length c197_4)) (fun _ h_=>h_.1))) hb);have n1_:=aa.mk (aI (g:=gb195) (o:=.cells #[.int .i64 a0_0,.string a0_1,.string a0_2,.slice A0_3 l0_3.length c0_3,.slice (some ad197) l0_4.length c0_4] 25 (0,0)) (by (with_reducible repeat (first|refine aj ?_ _|refine ax ?_|refine ai ?_ _));refine eB ?_ NB195_198.out _;(with_reducible repeat (first|refine aj ?_ _|refine ax ?_|refine ai ?_ _));refine eB ?_ NB195_198.out _;(with_reducible repeat (first|refine aj ?_ _|refine ax ?_|refine ai ?_ _));refine eB ?_ NB195_198.out _;(with_reducible repeat (first|refine aj ?_ _|refine ax ?_|refine ai ?_ _));refine eB ?_ NB195_198.out _;(with_reducible repeat (first|refine aj ?_ _|refine ax ?_|refine ai ?_ _));refine eB ?_ NB195_198.out _;(with_reducible repeat (first|refine aj ?_ _|refine ax ?_|refine ai ?_ _));exact BK195.out) hb);have n2_:=aa.mk (aI (g:=gb196) (o:=.cells #[.string a1_0,.slice A1_1 l1_1.length c1_1] 28 (0,0)) (by (with_reducible repeat (first|refine aj ?_ _|refine ax ?_|refine ai ?_ _));refine eB ?_ NB196_198.out _;(with_reducible repeat (first|refine aj ?_ _|refine ax ?_|refine ai ?_ _));refine eB ?_ NB196_198.out _;(with_reducible repeat (first|refine aj ?_ _|refine ax ?_|refine ai ?_ _));refine eB ?_ NB196_198.out _;(with_reducible repeat (first|refine aj ?_ _|refine ax ?_|refine ai ?_ _));refine eB ?_ NB196_198.out _;(with_reducible repeat (first|refine aj ?_ _|refine ax ?_|refine ai ?_ _));refine eB ?_ NB196_198.out _;(with_reducible repeat (first|refine aj ?_ _|refine ax ?_|refine ai ?_ _));exact BK196.out) hb);have n3_:=aa.mk (aI (g:=gb198) (o:=.cells #[.int .i64 ((bi l0_4 x15_1).f0),.string ((bi l0_4 x15_1).f1),.string ((bi l0_4 x15_1).f2),.slice A197_3 ((bi l0_4 x15_1).f3).length c197_3,.slice A197_4 ((bi l0_4 x15_1).f4).length c197_4] 25 (0,0)) (by (with_reducible repeat (first|refine aj ?_ _|refine ax ?_|refine ai ?_ _));refine bT (cs:=#[.int .i64 ((bi l0_4 x15_1).f0),.string ((bi l0_4 x15_1).f1),.string ((bi l0_4 x15_1).f2),.slice A197_3 ((bi l0_4 x15_1).f3).length c197_3,.slice none 0 0]) ?_ 4 _ (by first|rfl|(simp only [au,ak];rfl)|simp [au,ak]);(with_reducible repeat (first|refine aj ?_ _|refine ax ?_|refine ai ?_ _));refine bT (cs:=#[.int .i64 ((bi l0_4 x15_1).f0),.string ((bi l0_4 x15_1).f1),.string ((bi l0_4 x15_1).f2),.slice none 0 0,.slice none 0 0]) ?_ 3 _ (by first|rfl|(simp only [au,ak];rfl)|simp [au,ak]);(with_reducible repeat (first|refine aj ?_ _|refine ax ?_|refine ai ?_ _));refine bT (cs:=#[.int .i64 ((bi l0_4 x15_1).f0),.string ((bi l0_4 x15_1).f1),.string (⟨#[]⟩:ByteArray),.slice none 0 0,.slice none 0 0]) ?_ 2 _ (by first|rfl|(simp only [au,ak];rfl)|simp [au,ak]);(with_reducible repeat (first|refine aj ?_ _|refine ax ?_|refine ai ?_ _));refine bT (cs:=#[.int .i64 ((bi l0_4 x15_1).f0),.string (⟨#[]⟩:ByteArray),.string (⟨#[]⟩:ByteArray),.slice none 0 0,.slice none 0 0]) ?_ 1 _ (by first|rfl|(simp only [au,ak];rfl)|simp [au,ak]);(with_reducible repeat (first|refine aj ?_ _|refine ax ?_|refine ai ?_ _));refine bT (cs:=#[.int .i64 0,.string (⟨#[]⟩:ByteArray),.string (⟨#[]⟩:ByteArray),.slice none 0 0,.slice none 0 0]) ?_ 0 _ (by first|rfl|(simp only [au,ak];rfl)|simp [au,ak]);(with_reducible repeat (first|refine aj ?_ _|refine ax ?_|refine ai ?_ _));exact BK198.out) hb);have n4_:=aa.mk (aA (by repeat (first|(with_reducible first|exact HB.out|apply af|apply ae|apply ag|refine ah ?_ GE195.out|refine ah ?_ GE196.out|refine ah ?_ GE198.out)|exact HB.out)) hb);clear HO_5;clear BK195;clear BK196;clear BK198;clear HB;have HO_5:=n0_;have BK195:=n1_;have BK196:=n2_;have BK198:=n3_;have HB:=n4_;clear n0_ n1_ n2_ n3_ n4_;(try clear hb);(try clear hb2);(try clear hk);(try clear hi))|((with_reducible refine dC (b:=.append) (xs:=#[.tmp 19,.tmp 23]) rfl ?_);at_builtin;refine Kd.fF (Kd.int .i64) (w0:=w) w.heap.size rfl (.tmp 19) (.tmp 23) 41 3 (.int .i64 0) 8 rfl Tryz.underlying41 info3 rfl (by decide) (by omega) u5 x5_1 t199 [.int .i64 t199] (fun _=>True) (fun _=>False) rfl rfl ?aP (fun _ hk=>hk.elim) ?aF ?aO ?aB ?aS ?aL ?_;(case aP=>exact rfl);(case aB=>exact (by repeat (first|(with_reducible first|exact HB.out|apply af|apply ae|apply ag|refine ah ?_ GE195.out|refine ah ?_ GE196.out|refine ah ?_ GE198.out)|exact HB.out)));(case aF=>exact (fun _ _=>trivial));(case aO=>exact (by (with_reducible repeat (first|apply Kd.aQ|apply Kd.aN|apply Kd.aU));exact HO_5.out));(case aS=>exact (aC (by repeat (first|(with_reducible first|exact HB.out|apply af|apply ae|apply ag|refine ah ?_ GE195.out|refine ah ?_ GE196.out|refine ah ?_ GE198.out)|exact HB.out))));(case aL=>have:=LMc11.out;omega);intro v201 w19 ho hb hg hat;rw [← Ny200.out] at ho;have n0_:=aa.mk (dm (g:=gb195) (o:=.cells #[.int .i64 a0_0,.string a0_1,.string a0_2,.slice A0_3 l0_3.length c0_3,.slice (some ad197) l0_4.length c0_4] 25 (0,0)) (by (with_reducible repeat (first|refine aj ?_ _|refine ax ?_|refine ai ?_ _));exact BK195.out) hg (Kd.oo HO_5.out BK195.out (by decide)));have n1_:=aa.mk (dm (g:=gb196) (o:=.cells #[.string a1_0,.slice A1_1 l1_1.length c1_1] 28 (0,0)) (by (with_reducible repeat (first|refine aj ?_ _|refine ax ?_|refine ai ?_ _));exact BK196.out) hg (Kd.oo HO_5.out BK196.out (by decide)));have n2_:=aa.mk (dm (g:=gb198) (o:=.cells #[.int .i64 ((bi l0_4 x15_1).f0),.string ((bi l0_4 x15_1).f1),.string ((bi l0_4 x15_1).f2),.slice A197_3 ((bi l0_4 x15_1).f3).length c197_3,.slice A197_4 ((bi l0_4 x15_1).f4).length c197_4] 25 (0,0)) (by (with_reducible repeat (first|refine aj ?_ _|refine ax ?_|refine ai ?_ _));exact BK198.out) hg (Kd.oo HO_5.out BK198.out (by decide)));have n3_:=aa.mk (hb);have n4_:=aa.mk (ho);clear BK195;clear BK196;clear BK198;clear HB;clear HO_5;have BK195:=n0_;have BK196:=n1_;have BK198:=n2_;have HB:=n3_;have HO202:=n4_;clear n0_ n1_ n2_ n3_ n4_;clear ho hb hg hat))
       go_roundg k1
       case measure=>have:=HK1.out;omega
       case rel=>exact ⟨(y200),(wrap64 (x15_1+1)),(by first|rfl|(simp;done)|(simp [*];done)|(simp [*,aK,aM,bX];done)|(simp only [au,ak];done)|(simp only [au,ak];simp;done)|(simp only [au,ak];simp [*];done)),H',⟨by have:=HK1.out;omega⟩,⟨by (with_reducible repeat (first|apply Kd.aQ|apply Kd.aN|apply Kd.aU));exact HO202.out⟩,⟨by (with_reducible repeat (first|refine aj ?_ _|refine ax ?_|refine ai ?_ _));exact BK195.out⟩,⟨by (with_reducible repeat (first|refine aj ?_ _|refine ax ?_|refine ai ?_ _));exact BK196.out⟩,⟨by repeat (first|(with_reducible first|exact HB.out|apply af|apply ae|apply ag|refine ah ?_ GE195.out|refine ah ?_ GE196.out|refine ah ?_ GE198.out)|exact HB.out)⟩⟩
      ·rw [if_neg c11] at H
       exact absurd H (by simp)
     ·rw [if_neg c9] at H
      exact absurd H (by simp)
    ·rw [if_neg c8] at H
     exact absurd H (by simp)
   ·rw [if_neg c7] at H
    have c7b0:decide (x15_1 < (l0_4.length:Int))=false:=decide_eq_false c7
    clear c7
    by_cases c20:a0_0=1
    ·rw [if_pos c20] at H
     have c20b0:(a0_0 == 1)=true:=beq_iff_eq.mpr c20
     have c20b1:(a0_0 != 1)=false:=bne_eq_false_iff_eq.mpr c20
     clear c20
     replace H:=Option.bind_eq_some_iff.mp H
     obtain ⟨t203,A210,H⟩:=H
     replace H:(some t203)=some r:=H
     have A21:=aa.mk A210
     clear A210
     obtain rfl:=Option.some.inj H
     have hnb22:=NB195_196.out
     have hnc22:=NB196_195.out
     have hcz23_0:wr.cell? ⟨gb195,0,none⟩=some (.int .i64 a0_0):=(az BK195.out 0).trans rfl
     have hcz23_1:wr.cell? ⟨gb195,1,none⟩=some (.string a0_1):=(az BK195.out 1).trans rfl
     have hcz23_2:wr.cell? ⟨gb195,2,none⟩=some (.string a0_2):=(az BK195.out 2).trans rfl
     have hcz23_3:wr.cell? ⟨gb195,3,none⟩=some (.slice A0_3 l0_3.length c0_3):=(az BK195.out 3).trans rfl
     have hcz23_4:wr.cell? ⟨gb195,4,none⟩=some (.slice A0_4 l0_4.length c0_4):=(az BK195.out 4).trans rfl
     have hfz23_0:=ay BK195.out 0
     have hfz23_1:=ay BK195.out 1
     have hfz23_2:=ay BK195.out 2
     have hfz23_3:=ay BK195.out 3
     have hfz23_4:=ay BK195.out 4
     obtain ⟨Ao24,co24,eo24⟩:=Kd.cu HO_5.out
     subst eo24
     go_wp2_with (first|((with_reducible refine aH (f:=34) rfl ?_);refine bq (some 31) rfl rfl Tryz.func34 (by kernel_rfl) rfl #[.slice Ao24 x5_1.length co24,.int .i64 0,.int .i64 1] rfl (by (try simp only [List.map_toArray,List.map_cons,List.map_nil]);first|done|rfl|(simp only [List.length_drop,List.length_take];rfl)) ?_;(with_reducible refine (gy.calls k1 _ _ x5_1 0 1 t203 _ ?side1 ?side2 A21.out).mono ?_);(case side1=>repeat (first|exact (Kd.bn HO_5.out).2.2|(with_reducible refine Kd.dA ?_ _)|(with_reducible refine Kd.dG ?_ _)|(with_reducible refine Kd.eu ?_)));(case side2=>exact (Kd.bn HO_5.out).2.1);rintro e w' ⟨rfl,⟨nd,rfl⟩⟩;refine ⟨_,rfl,?_⟩))
     go_ret
     exact ⟨by first|rfl|(simp [aD,aG] <;> rfl)|(simp [*,aD,aG] <;> rfl),by repeat (first|(with_reducible first|exact HB.out|apply af|apply ae|apply ag|refine ah ?_ GE195.out|refine ah ?_ GE196.out)|exact HB.out)⟩
    ·rw [if_neg c20] at H
     have c20b0:(a0_0 == 1)=false:=beq_eq_false_iff_ne.mpr c20
     have c20b1:(a0_0 != 1)=true:=bne_iff_ne.mpr c20
     by_cases c25:a0_0=2
     ·rw [if_pos c25] at H
      have c25b0:(a0_0 == 2)=true:=beq_iff_eq.mpr c25
      have c25b1:(a0_0 != 2)=false:=bne_eq_false_iff_eq.mpr c25
      clear c25
      replace H:=Option.bind_eq_some_iff.mp H
      obtain ⟨t204,A260,H⟩:=H
      replace H:(some t204)=some r:=H
      have A26:=aa.mk A260
      clear A260
      obtain rfl:=Option.some.inj H
      have hnb27:=NB195_196.out
      have hnc27:=NB196_195.out
      have hcz28_0:wr.cell? ⟨gb195,0,none⟩=some (.int .i64 a0_0):=(az BK195.out 0).trans rfl
      have hcz28_1:wr.cell? ⟨gb195,1,none⟩=some (.string a0_1):=(az BK195.out 1).trans rfl
      have hcz28_2:wr.cell? ⟨gb195,2,none⟩=some (.string a0_2):=(az BK195.out 2).trans rfl
      have hcz28_3:wr.cell? ⟨gb195,3,none⟩=some (.slice A0_3 l0_3.length c0_3):=(az BK195.out 3).trans rfl
      have hcz28_4:wr.cell? ⟨gb195,4,none⟩=some (.slice A0_4 l0_4.length c0_4):=(az BK195.out 4).trans rfl
      have hfz28_0:=ay BK195.out 0
      have hfz28_1:=ay BK195.out 1
      have hfz28_2:=ay BK195.out 2
      have hfz28_3:=ay BK195.out 3
      have hfz28_4:=ay BK195.out 4
      obtain ⟨Ao29,co29,eo29⟩:=Kd.cu HO_5.out
      subst eo29
      go_wp2_with (first|((with_reducible refine aH (f:=34) rfl ?_);refine bq (some 35) rfl rfl Tryz.func34 (by kernel_rfl) rfl #[.slice Ao29 x5_1.length co29,.int .i64 1,.int .i64 0] rfl (by (try simp only [List.map_toArray,List.map_cons,List.map_nil]);first|done|rfl|(simp only [List.length_drop,List.length_take];rfl)) ?_;(with_reducible refine (gy.calls k1 _ _ x5_1 1 0 t204 _ ?side1 ?side2 A26.out).mono ?_);(case side1=>repeat (first|exact (Kd.bn HO_5.out).2.2|(with_reducible refine Kd.dA ?_ _)|(with_reducible refine Kd.dG ?_ _)|(with_reducible refine Kd.eu ?_)));(case side2=>exact (Kd.bn HO_5.out).2.1);rintro e w' ⟨rfl,⟨nd,rfl⟩⟩;refine ⟨_,rfl,?_⟩))
      go_ret
      exact ⟨by first|rfl|(simp [aD,aG] <;> rfl)|(simp [*,aD,aG] <;> rfl),by repeat (first|(with_reducible first|exact HB.out|apply af|apply ae|apply ag|refine ah ?_ GE195.out|refine ah ?_ GE196.out)|exact HB.out)⟩
     ·rw [if_neg c25] at H
      have c25b0:(a0_0 == 2)=false:=beq_eq_false_iff_ne.mpr c25
      have c25b1:(a0_0 != 2)=true:=bne_iff_ne.mpr c25
      by_cases c30:a0_0=3
      ·rw [if_pos c30] at H
       have c30b0:(a0_0 == 3)=true:=beq_iff_eq.mpr c30
       have c30b1:(a0_0 != 3)=false:=bne_eq_false_iff_eq.mpr c30
       clear c30
       obtain ⟨y205,hy205⟩:∃ y_:List Int,y_=(([1,0,2]:List Int)):=⟨_,rfl⟩
       replace H:(if 0 < (x5_1.length:Int) then (if 0≤(rd x5_1 0) then (if (rd x5_1 0) < (y205.length:Int) then (some (rd y205 (rd x5_1 0))) else (none)) else (none)) else (none))=some r:=by first|(rw [hy205];with_reducible exact H)|(have H2_:=(Option.bind_some _ _).symm.trans H;rw [hy205];with_reducible exact H2_)|(have H2_:=(Option.bind_some _ _).symm.trans H;with_reducible exact H2_)|with_reducible exact H|(rw [hy205];exact H)|exact H
       have Ny205:=aa.mk hy205
       clear hy205
       by_cases c31:0 < (x5_1.length:Int)
       ·rw [if_pos c31] at H
        have c31b0:decide (0 < (x5_1.length:Int))=true:=decide_eq_true c31
        have c31b1:decide (0 < x5_1.length)=true:=decide_eq_true (by omega)
        clear c31
        by_cases c32:0≤(rd x5_1 0)
        ·rw [if_pos c32] at H
         have c32b0:decide (0≤(rd x5_1 0))=true:=decide_eq_true c32
         clear c32
         by_cases c33:(rd x5_1 0) < (y205.length:Int)
         ·rw [if_pos c33] at H
          have c33b0:decide ((rd x5_1 0) < (y205.length:Int))=true:=decide_eq_true c33
          clear c33
          obtain rfl:=Option.some.inj H
          have hnb34:=NB195_196.out
          have hnc34:=NB196_195.out
          have hcz35_0:wr.cell? ⟨gb195,0,none⟩=some (.int .i64 a0_0):=(az BK195.out 0).trans rfl
          have hcz35_1:wr.cell? ⟨gb195,1,none⟩=some (.string a0_1):=(az BK195.out 1).trans rfl
          have hcz35_2:wr.cell? ⟨gb195,2,none⟩=some (.string a0_2):=(az BK195.out 2).trans rfl
          have hcz35_3:wr.cell? ⟨gb195,3,none⟩=some (.slice A0_3 l0_3.length c0_3):=(az BK195.out 3).trans rfl
          have hcz35_4:wr.cell? ⟨gb195,4,none⟩=some (.slice A0_4 l0_4.length c0_4):=(az BK195.out 4).trans rfl
          have hfz35_0:=ay BK195.out 0
          have hfz35_1:=ay BK195.out 1
          have hfz35_2:=ay BK195.out 2
          have hfz35_3:=ay BK195.out 3
          have hfz35_4:=ay BK195.out 4
          go_wp2_with (first|((with_reducible refine cz (N:=38) rfl ?_);refine Kd.oH (Kd.int .i64) _ 3 ?hg (N:=38) ?hd (xs:=([1,0,2]:List Int)) (inner:=[.int .i64 1,.int .i64 0,.int .i64 2]) (ok:=fun _=>True) (okp:=fun _=>True) ?hr ?hp (fun _ hk=>hk) trivial (Below.refl _ _) (Nat.le_refl _) (by simp) ?_;(case hd=>rfl);(case hg=>rfl);(case hr=>first|(go_simp;done)|(go_simp;rfl));(case hp=>exact (bF.one (show Kd.M (Kd.int .i64) _ _ _ 1 [.int .i64 1] from rfl) (bF.one (show Kd.M (Kd.int .i64) _ _ _ 0 [.int .i64 0] from rfl) (bF.one (show Kd.M (Kd.int .i64) _ _ _ 2 [.int .i64 2] from rfl) (bF.none _ _)))));intro v206 w36 ho37 hb hg_ hnew_;clear hg_ hnew_;(first|rw [← Ny205.out] at ho37|(simp only [Int.reduceToNat] at ho37;rw [← Ny205.out] at ho37));have n0_:=aa.mk (Kd.gT (by (with_reducible repeat (first|apply Kd.aQ|apply Kd.aN|apply Kd.aU));exact HO_5.out) (Kd.fG ho37) hb);have n1_:=aa.mk (Kd.dM (Kd.jK ho37 (Kd.kW (by (with_reducible repeat (first|apply Kd.aQ|apply Kd.aN|apply Kd.aU));exact HO_5.out))) (aC (by repeat (first|(with_reducible first|exact HB.out|apply af|apply ae|apply ag|refine ah ?_ GE195.out|refine ah ?_ GE196.out)|exact HB.out))));have n2_:=aa.mk (aI (g:=gb195) (o:=.cells #[.int .i64 a0_0,.string a0_1,.string a0_2,.slice A0_3 l0_3.length c0_3,.slice A0_4 l0_4.length c0_4] 25 (0,0)) (by (with_reducible repeat (first|refine aj ?_ _|refine ax ?_|refine ai ?_ _));exact BK195.out) hb);have n3_:=aa.mk (aI (g:=gb196) (o:=.cells #[.string a1_0,.slice A1_1 l1_1.length c1_1] 28 (0,0)) (by (with_reducible repeat (first|refine aj ?_ _|refine ax ?_|refine ai ?_ _));exact BK196.out) hb);have n4_:=aa.mk (aA (by repeat (first|(with_reducible first|exact HB.out|apply af|apply ae|apply ag|refine ah ?_ GE195.out|refine ah ?_ GE196.out)|exact HB.out)) hb);clear HO_5;clear BK195;clear BK196;clear HB;have HO_5:=n0_;have HO207:=n1_;have BK195:=n2_;have BK196:=n3_;have HB:=n4_;clear n0_ n1_ n2_ n3_ n4_;clear hb ho37;obtain ⟨Ao38,co38,eo38⟩:=Kd.cu HO_5.out;subst eo38;have p208:0≤(0:Int):=(by omega);have q208:0 < (x5_1.length:Int):=of_decide_eq_true (by first|(with_reducible assumption)|assumption);obtain ⟨ad208,e208,hx208_0⟩:=Kd.gI (Kd.bn HO_5.out).2.2 0 p208 q208;cases e208;have qi208:(0 < x5_1.length)=True:=eq_true (by omega);(try rw [show ((0:Int)).toNat=0 from rfl] at hx208_0);(try rw [Addr.add_zero'] at hx208_0);replace p208:=eq_true p208;replace q208:=eq_true q208;obtain ⟨Ao39,co39,eo39⟩:=Kd.cu HO207.out;subst eo39;have p209:0≤((rd x5_1 0):Int):=of_decide_eq_true (by first|(with_reducible assumption)|assumption);have q209:(rd x5_1 0) < (y205.length:Int):=of_decide_eq_true (by first|(with_reducible assumption)|assumption);obtain ⟨ad209,e209,hx209_0⟩:=Kd.gI (Kd.bn HO207.out).2.2 (rd x5_1 0) p209 q209;cases e209;replace p209:=eq_true p209;replace q209:=eq_true q209))
          go_ret
          exact ⟨by first|rfl|(simp [aD,aG] <;> rfl)|(simp [*,aD,aG] <;> rfl),by repeat (first|(with_reducible first|exact HB.out|apply af|apply ae|apply ag|refine ah ?_ GE195.out|refine ah ?_ GE196.out)|exact HB.out)⟩
         ·rw [if_neg c33] at H
          exact absurd H (by simp)
        ·rw [if_neg c32] at H
         exact absurd H (by simp)
       ·rw [if_neg c31] at H
        exact absurd H (by simp)
      ·rw [if_neg c30] at H
       have c30b0:(a0_0 == 3)=false:=beq_eq_false_iff_ne.mpr c30
       have c30b1:(a0_0 != 3)=true:=bne_iff_ne.mpr c30
       replace H:=Option.bind_eq_some_iff.mp H
       obtain ⟨⟨t210,t211⟩,A400,H⟩:=H
       replace H:(if t211=true then (if a0_0=8 then ((dF.f a1_0 l1_1 a0_1).bind fun t212=>((dw.f (decide ((t212.length:Int) > 0))).bind fun t215=>(some t215))) else (if a0_0=5 then ((iA.f a0_0 a0_1 a0_2 l0_3 l0_4 a1_0 l1_1).bind fun t216=>(some t216)) else (if a0_0=4 then ((bB.f k1 a0_1 a0_2).bind fun bt217=>(if bt217.2=true then ((fJ.f a1_0 l1_1 a0_1 a0_2).bind fun t219=>((dw.f t219).bind fun t220=>(some t220))) else (some 2))) else ((fB.f a0_0 a0_1 a0_2 l0_3 l0_4 a1_0 l1_1).bind fun t221=>(some t221))))) else (some 2))=some r:=H
       have A40:=aa.mk A400
       clear A400
       by_cases c41:t211=true
       ·subst c41
        have H1:(if a0_0=8 then ((dF.f a1_0 l1_1 a0_1).bind fun t212=>((dw.f (decide ((t212.length:Int) > 0))).bind fun t215=>(some t215))) else (if a0_0=5 then ((iA.f a0_0 a0_1 a0_2 l0_3 l0_4 a1_0 l1_1).bind fun t216=>(some t216)) else (if a0_0=4 then ((bB.f k1 a0_1 a0_2).bind fun bt217=>(if bt217.2=true then ((fJ.f a1_0 l1_1 a0_1 a0_2).bind fun t219=>((dw.f t219).bind fun t220=>(some t220))) else (some 2))) else ((fB.f a0_0 a0_1 a0_2 l0_3 l0_4 a1_0 l1_1).bind fun t221=>(some t221)))))=some r:=by rw [if_pos rfl] at H;exact H
        clear H
        have H:=H1
        clear H1
        by_cases c42:a0_0=8
        ·rw [if_pos c42] at H
         have c42b0:(a0_0 == 8)=true:=beq_iff_eq.mpr c42
         have c42b1:(a0_0 != 8)=false:=bne_eq_false_iff_eq.mpr c42
         clear c42
         replace H:=Option.bind_eq_some_iff.mp H
         obtain ⟨t212,A430,H⟩:=H
         replace H:((dw.f (decide ((t212.length:Int) > 0))).bind fun t215=>(some t215))=some r:=H
         have A43:=aa.mk A430
         clear A430
         replace H:=Option.bind_eq_some_iff.mp H
         obtain ⟨t215,A440,H⟩:=H
         replace H:(some t215)=some r:=H
         have A44:=aa.mk A440
         clear A440
         obtain rfl:=Option.some.inj H
         have hnb45:=NB195_196.out
         have hnc45:=NB196_195.out
         have hcz46_0:wr.cell? ⟨gb195,0,none⟩=some (.int .i64 a0_0):=(az BK195.out 0).trans rfl
         have hcz46_1:wr.cell? ⟨gb195,1,none⟩=some (.string a0_1):=(az BK195.out 1).trans rfl
         have hcz46_2:wr.cell? ⟨gb195,2,none⟩=some (.string a0_2):=(az BK195.out 2).trans rfl
         have hcz46_3:wr.cell? ⟨gb195,3,none⟩=some (.slice A0_3 l0_3.length c0_3):=(az BK195.out 3).trans rfl
         have hcz46_4:wr.cell? ⟨gb195,4,none⟩=some (.slice A0_4 l0_4.length c0_4):=(az BK195.out 4).trans rfl
         have hfz46_0:=ay BK195.out 0
         have hfz46_1:=ay BK195.out 1
         have hfz46_2:=ay BK195.out 2
         have hfz46_3:=ay BK195.out 3
         have hfz46_4:=ay BK195.out 4
         rcases Nat.eq_zero_or_pos t212.length with hq|hq
         ·have q1:decide ((0:Int) < (t212.length:Int))=false:=decide_eq_false (by omega)
          have q2:(0 < t212.length)=False:=eq_false (by omega)
          have q3:((0:Int) < (t212.length:Int))=False:=eq_false (by omega)
          have A44:aa (dw.f false=some t215):=⟨by have:=A44.out;rw [show decide ((t212.length:Int) > 0)=false from decide_eq_false (by omega)] at this;exact this⟩
          clear hq
          go_wp2_with (first|((with_reducible refine aH (f:=35) rfl ?_);refine bq (some 47) rfl rfl Tryz.func35 (by kernel_rfl) rfl #[.string a0_1] rfl (by (try simp only [List.map_toArray,List.map_cons,List.map_nil]);first|done|rfl|(simp only [List.length_drop,List.length_take];rfl)) ?_;(with_reducible refine (cO.calls a0_1 t210 true _ A40.out).mono ?_);rintro e w47 ⟨rfl,hb⟩;refine ⟨_,rfl,?_⟩;have n0_:=aa.mk (Kd.bE (by (with_reducible repeat (first|apply Kd.aQ|apply Kd.aN|apply Kd.aU));exact HO_5.out) hb);have n1_:=aa.mk (aI (g:=gb195) (o:=.cells #[.int .i64 a0_0,.string a0_1,.string a0_2,.slice A0_3 l0_3.length c0_3,.slice A0_4 l0_4.length c0_4] 25 (0,0)) (by (with_reducible repeat (first|refine aj ?_ _|refine ax ?_|refine ai ?_ _));exact BK195.out) hb);have n2_:=aa.mk (aI (g:=gb196) (o:=.cells #[.string a1_0,.slice A1_1 l1_1.length c1_1] 28 (0,0)) (by (with_reducible repeat (first|refine aj ?_ _|refine ax ?_|refine ai ?_ _));exact BK196.out) hb);have n3_:=aa.mk (aA (by repeat (first|(with_reducible first|exact HB.out|apply af|apply ae|apply ag|refine ah ?_ GE195.out|refine ah ?_ GE196.out)|exact HB.out)) hb);clear HO_5;clear BK195;clear BK196;clear HB;have HO_5:=n0_;have BK195:=n1_;have BK196:=n2_;have HB:=n3_;clear n0_ n1_ n2_ n3_;(try clear hb);(try clear hb2);(try clear hk);(try clear hi);have hcz48_0:w47.cell? ⟨gb195,0,none⟩=some (.int .i64 a0_0):=(az BK195.out 0).trans rfl;have hcz48_1:w47.cell? ⟨gb195,1,none⟩=some (.string a0_1):=(az BK195.out 1).trans rfl;have hcz48_2:w47.cell? ⟨gb195,2,none⟩=some (.string a0_2):=(az BK195.out 2).trans rfl;have hcz48_3:w47.cell? ⟨gb195,3,none⟩=some (.slice A0_3 l0_3.length c0_3):=(az BK195.out 3).trans rfl;have hcz48_4:w47.cell? ⟨gb195,4,none⟩=some (.slice A0_4 l0_4.length c0_4):=(az BK195.out 4).trans rfl;have hfz48_0:=ay BK195.out 0;have hfz48_1:=ay BK195.out 1;have hfz48_2:=ay BK195.out 2;have hfz48_3:=ay BK195.out 3;have hfz48_4:=ay BK195.out 4;have hcz49_0:w47.cell? ⟨gb196,0,none⟩=some (.string a1_0):=(az BK196.out 0).trans rfl;have hcz49_1:w47.cell? ⟨gb196,1,none⟩=some (.slice A1_1 l1_1.length c1_1):=(az BK196.out 1).trans rfl;have hfz49_0:=ay BK196.out 0;have hfz49_1:=ay BK196.out 1)|((with_reducible refine aH (f:=37) rfl ?_);refine bq (some 59) rfl rfl Tryz.func37 (by kernel_rfl) rfl #[.agg #[.string a1_0,.slice A1_1 l1_1.length c1_1],.string a0_1] rfl (by (try simp only [List.map_toArray,List.map_cons,List.map_nil]);first|done|rfl|(simp only [List.length_drop,List.length_take];rfl)) ?_;(with_reducible refine (dF.calls a1_0 _ _ l1_1 a0_1 t212 _ ?side1 ?side2 A43.out).mono ?_);(case side1=>repeat (first|exact (Kd.bP HR1_1.out HB.out)|(with_reducible refine Kd.dA ?_ _)|(with_reducible refine Kd.dG ?_ _)|(with_reducible refine Kd.eu ?_)));(case side2=>exact HC1_1.out);rintro e w50 ⟨v213,rfl,ho0,hb⟩;refine ⟨_,rfl,?_⟩;have n0_:=aa.mk (Kd.bE (by (with_reducible repeat (first|apply Kd.aQ|apply Kd.aN|apply Kd.aU));exact HO_5.out) hb);have n1_:=aa.mk (Kd.dM ho0 (aC (by repeat (first|(with_reducible first|exact HB.out|apply af|apply ae|apply ag|refine ah ?_ GE195.out|refine ah ?_ GE196.out)|exact HB.out))));have n2_:=aa.mk (aI (g:=gb195) (o:=.cells #[.int .i64 a0_0,.string a0_1,.string a0_2,.slice A0_3 l0_3.length c0_3,.slice A0_4 l0_4.length c0_4] 25 (0,0)) (by (with_reducible repeat (first|refine aj ?_ _|refine ax ?_|refine ai ?_ _));exact BK195.out) hb);have n3_:=aa.mk (aI (g:=gb196) (o:=.cells #[.string a1_0,.slice A1_1 l1_1.length c1_1] 28 (0,0)) (by (with_reducible repeat (first|refine aj ?_ _|refine ax ?_|refine ai ?_ _));exact BK196.out) hb);have n4_:=aa.mk (aA (by repeat (first|(with_reducible first|exact HB.out|apply af|apply ae|apply ag|refine ah ?_ GE195.out|refine ah ?_ GE196.out)|exact HB.out)) hb);clear HO_5;clear BK195;clear BK196;clear HB;have HO_5:=n0_;have HO214:=n1_;have BK195:=n2_;have BK196:=n3_;have HB:=n4_;clear n0_ n1_ n2_ n3_ n4_;(try clear hb);(try clear hb2);(try clear hk);(try clear hi);(try clear ho0);obtain ⟨Ao51,co51,eo51⟩:=Kd.cu HO214.out;subst eo51)|((with_reducible refine aH (f:=36) rfl ?_);refine bq (some 62) rfl rfl Tryz.func36 (by kernel_rfl) rfl #[.bool false] rfl (by (try simp only [List.map_toArray,List.map_cons,List.map_nil]);first|done|rfl|(simp only [List.length_drop,List.length_take];rfl)) ?_;(with_reducible refine (dw.calls false t215 _ A44.out).mono ?_);rintro e w' ⟨rfl,⟨nd,rfl⟩⟩;refine ⟨_,rfl,?_⟩))
          go_ret
          exact ⟨by first|rfl|(simp [aD,aG] <;> rfl)|(simp [*,aD,aG] <;> rfl),by repeat (first|(with_reducible first|exact HB.out|apply af|apply ae|apply ag|refine ah ?_ GE195.out|refine ah ?_ GE196.out)|exact HB.out)⟩
         ·have q1:decide ((0:Int) < (t212.length:Int))=true:=decide_eq_true (by omega)
          have q2:(0 < t212.length)=True:=eq_true (by omega)
          have q3:((0:Int) < (t212.length:Int))=True:=eq_true (by omega)
          have A44:aa (dw.f true=some t215):=⟨by have:=A44.out;rw [show decide ((t212.length:Int) > 0)=true from decide_eq_true (by omega)] at this;exact this⟩
          clear hq
          go_wp2_with (first|((with_reducible refine aH (f:=35) rfl ?_);refine bq (some 47) rfl rfl Tryz.func35 (by kernel_rfl) rfl #[.string a0_1] rfl (by (try simp only [List.map_toArray,List.map_cons,List.map_nil]);first|done|rfl|(simp only [List.length_drop,List.length_take];rfl)) ?_;(with_reducible refine (cO.calls a0_1 t210 true _ A40.out).mono ?_);rintro e w47 ⟨rfl,hb⟩;refine ⟨_,rfl,?_⟩;have n0_:=aa.mk (Kd.bE (by (with_reducible repeat (first|apply Kd.aQ|apply Kd.aN|apply Kd.aU));exact HO_5.out) hb);have n1_:=aa.mk (aI (g:=gb195) (o:=.cells #[.int .i64 a0_0,.string a0_1,.string a0_2,.slice A0_3 l0_3.length c0_3,.slice A0_4 l0_4.length c0_4] 25 (0,0)) (by (with_reducible repeat (first|refine aj ?_ _|refine ax ?_|refine ai ?_ _));exact BK195.out) hb);have n2_:=aa.mk (aI (g:=gb196) (o:=.cells #[.string a1_0,.slice A1_1 l1_1.length c1_1] 28 (0,0)) (by (with_reducible repeat (first|refine aj ?_ _|refine ax ?_|refine ai ?_ _));exact BK196.out) hb);have n3_:=aa.mk (aA (by repeat (first|(with_reducible first|exact HB.out|apply af|apply ae|apply ag|refine ah ?_ GE195.out|refine ah ?_ GE196.out)|exact HB.out)) hb);clear HO_5;clear BK195;clear BK196;clear HB;have HO_5:=n0_;have BK195:=n1_;have BK196:=n2_;have HB:=n3_;clear n0_ n1_ n2_ n3_;(try clear hb);(try clear hb2);(try clear hk);(try clear hi);have hcz48_0:w47.cell? ⟨gb195,0,none⟩=some (.int .i64 a0_0):=(az BK195.out 0).trans rfl;have hcz48_1:w47.cell? ⟨gb195,1,none⟩=some (.string a0_1):=(az BK195.out 1).trans rfl;have hcz48_2:w47.cell? ⟨gb195,2,none⟩=some (.string a0_2):=(az BK195.out 2).trans rfl;have hcz48_3:w47.cell? ⟨gb195,3,none⟩=some (.slice A0_3 l0_3.length c0_3):=(az BK195.out 3).trans rfl;have hcz48_4:w47.cell? ⟨gb195,4,none⟩=some (.slice A0_4 l0_4.length c0_4):=(az BK195.out 4).trans rfl;have hfz48_0:=ay BK195.out 0;have hfz48_1:=ay BK195.out 1;have hfz48_2:=ay BK195.out 2;have hfz48_3:=ay BK195.out 3;have hfz48_4:=ay BK195.out 4;have hcz49_0:w47.cell? ⟨gb196,0,none⟩=some (.string a1_0):=(az BK196.out 0).trans rfl;have hcz49_1:w47.cell? ⟨gb196,1,none⟩=some (.slice A1_1 l1_1.length c1_1):=(az BK196.out 1).trans rfl;have hfz49_0:=ay BK196.out 0;have hfz49_1:=ay BK196.out 1)|((with_reducible refine aH (f:=37) rfl ?_);refine bq (some 59) rfl rfl Tryz.func37 (by kernel_rfl) rfl #[.agg #[.string a1_0,.slice A1_1 l1_1.length c1_1],.string a0_1] rfl (by (try simp only [List.map_toArray,List.map_cons,List.map_nil]);first|done|rfl|(simp only [List.length_drop,List.length_take];rfl)) ?_;(with_reducible refine (dF.calls a1_0 _ _ l1_1 a0_1 t212 _ ?side1 ?side2 A43.out).mono ?_);(case side1=>repeat (first|exact (Kd.bP HR1_1.out HB.out)|(with_reducible refine Kd.dA ?_ _)|(with_reducible refine Kd.dG ?_ _)|(with_reducible refine Kd.eu ?_)));(case side2=>exact HC1_1.out);rintro e w50 ⟨v213,rfl,ho0,hb⟩;refine ⟨_,rfl,?_⟩;have n0_:=aa.mk (Kd.bE (by (with_reducible repeat (first|apply Kd.aQ|apply Kd.aN|apply Kd.aU));exact HO_5.out) hb);have n1_:=aa.mk (Kd.dM ho0 (aC (by repeat (first|(with_reducible first|exact HB.out|apply af|apply ae|apply ag|refine ah ?_ GE195.out|refine ah ?_ GE196.out)|exact HB.out))));have n2_:=aa.mk (aI (g:=gb195) (o:=.cells #[.int .i64 a0_0,.string a0_1,.string a0_2,.slice A0_3 l0_3.length c0_3,.slice A0_4 l0_4.length c0_4] 25 (0,0)) (by (with_reducible repeat (first|refine aj ?_ _|refine ax ?_|refine ai ?_ _));exact BK195.out) hb);have n3_:=aa.mk (aI (g:=gb196) (o:=.cells #[.string a1_0,.slice A1_1 l1_1.length c1_1] 28 (0,0)) (by (with_reducible repeat (first|refine aj ?_ _|refine ax ?_|refine ai ?_ _));exact BK196.out) hb);have n4_:=aa.mk (aA (by repeat (first|(with_reducible first|exact HB.out|apply af|apply ae|apply ag|refine ah ?_ GE195.out|refine ah ?_ GE196.out)|exact HB.out)) hb);clear HO_5;clear BK195;clear BK196;clear HB;have HO_5:=n0_;have HO214:=n1_;have BK195:=n2_;have BK196:=n3_;have HB:=n4_;clear n0_ n1_ n2_ n3_ n4_;(try clear hb);(try clear hb2);(try clear hk);(try clear hi);(try clear ho0);obtain ⟨Ao51,co51,eo51⟩:=Kd.cu HO214.out;subst eo51)|((with_reducible refine aH (f:=36) rfl ?_);refine bq (some 62) rfl rfl Tryz.func36 (by kernel_rfl) rfl #[.bool true] rfl (by (try simp only [List.map_toArray,List.map_cons,List.map_nil]);first|done|rfl|(simp only [List.length_drop,List.length_take];rfl)) ?_;(with_reducible refine (dw.calls true t215 _ A44.out).mono ?_);rintro e w' ⟨rfl,⟨nd,rfl⟩⟩;refine ⟨_,rfl,?_⟩))
          go_ret
          exact ⟨by first|rfl|(simp [aD,aG] <;> rfl)|(simp [*,aD,aG] <;> rfl),by repeat (first|(with_reducible first|exact HB.out|apply af|apply ae|apply ag|refine ah ?_ GE195.out|refine ah ?_ GE196.out)|exact HB.out)⟩
        ·rw [if_neg c42] at H
         have c42b0:(a0_0 == 8)=false:=beq_eq_false_iff_ne.mpr c42
         have c42b1:(a0_0 != 8)=true:=bne_iff_ne.mpr c42
         by_cases c52:a0_0=5
         ·rw [if_pos c52] at H
          have c52b0:(a0_0 == 5)=true:=beq_iff_eq.mpr c52
          have c52b1:(a0_0 != 5)=false:=bne_eq_false_iff_eq.mpr c52
          clear c52
          replace H:=Option.bind_eq_some_iff.mp H
          obtain ⟨t216,A530,H⟩:=H
          replace H:(some t216)=some r:=H
          have A53:=aa.mk A530
          clear A530
          obtain rfl:=Option.some.inj H
          have hnb54:=NB195_196.out
          have hnc54:=NB196_195.out
          have hcz55_0:wr.cell? ⟨gb195,0,none⟩=some (.int .i64 a0_0):=(az BK195.out 0).trans rfl
          have hcz55_1:wr.cell? ⟨gb195,1,none⟩=some (.string a0_1):=(az BK195.out 1).trans rfl
          have hcz55_2:wr.cell? ⟨gb195,2,none⟩=some (.string a0_2):=(az BK195.out 2).trans rfl
          have hcz55_3:wr.cell? ⟨gb195,3,none⟩=some (.slice A0_3 l0_3.length c0_3):=(az BK195.out 3).trans rfl
          have hcz55_4:wr.cell? ⟨gb195,4,none⟩=some (.slice A0_4 l0_4.length c0_4):=(az BK195.out 4).trans rfl
          have hfz55_0:=ay BK195.out 0
          have hfz55_1:=ay BK195.out 1
          have hfz55_2:=ay BK195.out 2
          have hfz55_3:=ay BK195.out 3
          have hfz55_4:=ay BK195.out 4
          go_wp2_with (first|((with_reducible refine aH (f:=35) rfl ?_);refine bq (some 47) rfl rfl Tryz.func35 (by kernel_rfl) rfl #[.string a0_1] rfl (by (try simp only [List.map_toArray,List.map_cons,List.map_nil]);first|done|rfl|(simp only [List.length_drop,List.length_take];rfl)) ?_;(with_reducible refine (cO.calls a0_1 t210 true _ A40.out).mono ?_);rintro e w56 ⟨rfl,hb⟩;refine ⟨_,rfl,?_⟩;have n0_:=aa.mk (Kd.bE (by (with_reducible repeat (first|apply Kd.aQ|apply Kd.aN|apply Kd.aU));exact HO_5.out) hb);have n1_:=aa.mk (aI (g:=gb195) (o:=.cells #[.int .i64 a0_0,.string a0_1,.string a0_2,.slice A0_3 l0_3.length c0_3,.slice A0_4 l0_4.length c0_4] 25 (0,0)) (by (with_reducible repeat (first|refine aj ?_ _|refine ax ?_|refine ai ?_ _));exact BK195.out) hb);have n2_:=aa.mk (aI (g:=gb196) (o:=.cells #[.string a1_0,.slice A1_1 l1_1.length c1_1] 28 (0,0)) (by (with_reducible repeat (first|refine aj ?_ _|refine ax ?_|refine ai ?_ _));exact BK196.out) hb);have n3_:=aa.mk (aA (by repeat (first|(with_reducible first|exact HB.out|apply af|apply ae|apply ag|refine ah ?_ GE195.out|refine ah ?_ GE196.out)|exact HB.out)) hb);clear HO_5;clear BK195;clear BK196;clear HB;have HO_5:=n0_;have BK195:=n1_;have BK196:=n2_;have HB:=n3_;clear n0_ n1_ n2_ n3_;(try clear hb);(try clear hb2);(try clear hk);(try clear hi);have hcz57_0:w56.cell? ⟨gb195,0,none⟩=some (.int .i64 a0_0):=(az BK195.out 0).trans rfl;have hcz57_1:w56.cell? ⟨gb195,1,none⟩=some (.string a0_1):=(az BK195.out 1).trans rfl;have hcz57_2:w56.cell? ⟨gb195,2,none⟩=some (.string a0_2):=(az BK195.out 2).trans rfl;have hcz57_3:w56.cell? ⟨gb195,3,none⟩=some (.slice A0_3 l0_3.length c0_3):=(az BK195.out 3).trans rfl;have hcz57_4:w56.cell? ⟨gb195,4,none⟩=some (.slice A0_4 l0_4.length c0_4):=(az BK195.out 4).trans rfl;have hfz57_0:=ay BK195.out 0;have hfz57_1:=ay BK195.out 1;have hfz57_2:=ay BK195.out 2;have hfz57_3:=ay BK195.out 3;have hfz57_4:=ay BK195.out 4;have hcz58_0:w56.cell? ⟨gb196,0,none⟩=some (.string a1_0):=(az BK196.out 0).trans rfl;have hcz58_1:w56.cell? ⟨gb196,1,none⟩=some (.slice A1_1 l1_1.length c1_1):=(az BK196.out 1).trans rfl;have hfz58_0:=ay BK196.out 0;have hfz58_1:=ay BK196.out 1)|((with_reducible refine aH (f:=38) rfl ?_);refine bq (some 67) rfl rfl Tryz.func38 (by kernel_rfl) rfl #[.agg #[.int .i64 a0_0,.string a0_1,.string a0_2,.slice A0_3 l0_3.length c0_3,.slice A0_4 l0_4.length c0_4],.agg #[.string a1_0,.slice A1_1 l1_1.length c1_1]] rfl (by (try simp only [List.map_toArray,List.map_cons,List.map_nil]);first|done|rfl|(simp only [List.length_drop,List.length_take];rfl)) ?_;(with_reducible refine (iA.calls a0_0 a0_1 a0_2 _ _ l0_3 _ _ l0_4 a1_0 _ _ l1_1 t216 _ ?side1 ?side2 ?side3 ?side4 ?side5 ?side6 ?side7 A53.out).mono ?_);(case side1=>repeat (first|exact (Kd.bP HR0_3.out HB.out)|(with_reducible refine Kd.dA ?_ _)|(with_reducible refine Kd.dG ?_ _)|(with_reducible refine Kd.eu ?_)));(case side2=>exact HC0_3.out);(case side3=>repeat (first|exact (Kd.bP HR0_4.out HB.out)|(with_reducible refine Kd.dA ?_ _)|(with_reducible refine Kd.dG ?_ _)|(with_reducible refine Kd.eu ?_)));(case side4=>exact HC0_4.out);(case side5=>repeat (first|exact (Kd.bP HR1_1.out HB.out)|(with_reducible refine Kd.dA ?_ _)|(with_reducible refine Kd.dG ?_ _)|(with_reducible refine Kd.eu ?_)));(case side6=>exact HC1_1.out);(case side7=>first|exact HG.out|exact Gl.drewN HG.out _|exact Gl.below HG.out (by repeat (first|(with_reducible first|exact HB.out|apply af|apply ae|apply ag|refine ah ?_ GE195.out|refine ah ?_ GE196.out)|exact HB.out)));rintro e w59 ⟨rfl,hb⟩;refine ⟨_,rfl,?_⟩;have n0_:=aa.mk (Kd.bE (by (with_reducible repeat (first|apply Kd.aQ|apply Kd.aN|apply Kd.aU));exact HO_5.out) hb);have n1_:=aa.mk (aI (g:=gb195) (o:=.cells #[.int .i64 a0_0,.string a0_1,.string a0_2,.slice A0_3 l0_3.length c0_3,.slice A0_4 l0_4.length c0_4] 25 (0,0)) (by (with_reducible repeat (first|refine aj ?_ _|refine ax ?_|refine ai ?_ _));exact BK195.out) hb);have n2_:=aa.mk (aI (g:=gb196) (o:=.cells #[.string a1_0,.slice A1_1 l1_1.length c1_1] 28 (0,0)) (by (with_reducible repeat (first|refine aj ?_ _|refine ax ?_|refine ai ?_ _));exact BK196.out) hb);have n3_:=aa.mk (aA (by repeat (first|(with_reducible first|exact HB.out|apply af|apply ae|apply ag|refine ah ?_ GE195.out|refine ah ?_ GE196.out)|exact HB.out)) hb);clear HO_5;clear BK195;clear BK196;clear HB;have HO_5:=n0_;have BK195:=n1_;have BK196:=n2_;have HB:=n3_;clear n0_ n1_ n2_ n3_;(try clear hb);(try clear hb2);(try clear hk);(try clear hi)))
          go_ret
          exact ⟨by first|rfl|(simp [aD,aG] <;> rfl)|(simp [*,aD,aG] <;> rfl),by repeat (first|(with_reducible first|exact HB.out|apply af|apply ae|apply ag|refine ah ?_ GE195.out|refine ah ?_ GE196.out)|exact HB.out)⟩
         ·rw [if_neg c52] at H
          have c52b0:(a0_0 == 5)=false:=beq_eq_false_iff_ne.mpr c52
          have c52b1:(a0_0 != 5)=true:=bne_iff_ne.mpr c52
          by_cases c60:a0_0=4
          ·rw [if_pos c60] at H
           have c60b0:(a0_0 == 4)=true:=beq_iff_eq.mpr c60
           have c60b1:(a0_0 != 4)=false:=bne_eq_false_iff_eq.mpr c60
           clear c60
           replace H:=Option.bind_eq_some_iff.mp H
           obtain ⟨⟨t217,t218⟩,A610,H⟩:=H
           replace H:(if t218=true then ((fJ.f a1_0 l1_1 a0_1 a0_2).bind fun t219=>((dw.f t219).bind fun t220=>(some t220))) else (some 2))=some r:=H
           have A61:=aa.mk A610
           clear A610
           by_cases c62:t218=true
           ·subst c62
            have H1:((fJ.f a1_0 l1_1 a0_1 a0_2).bind fun t219=>((dw.f t219).bind fun t220=>(some t220)))=some r:=by rw [if_pos rfl] at H;exact H
            clear H
            have H:=H1
            clear H1
            replace H:=Option.bind_eq_some_iff.mp H
            obtain ⟨t219,A630,H⟩:=H
            replace H:((dw.f t219).bind fun t220=>(some t220))=some r:=H
            have A63:=aa.mk A630
            clear A630
            replace H:=Option.bind_eq_some_iff.mp H
            obtain ⟨t220,A640,H⟩:=H
            replace H:(some t220)=some r:=H
            have A64:=aa.mk A640
            clear A640
            obtain rfl:=Option.some.inj H
            have hnb65:=NB195_196.out
            have hnc65:=NB196_195.out
            have hcz66_0:wr.cell? ⟨gb195,0,none⟩=some (.int .i64 a0_0):=(az BK195.out 0).trans rfl
            have hcz66_1:wr.cell? ⟨gb195,1,none⟩=some (.string a0_1):=(az BK195.out 1).trans rfl
            have hcz66_2:wr.cell? ⟨gb195,2,none⟩=some (.string a0_2):=(az BK195.out 2).trans rfl
            have hcz66_3:wr.cell? ⟨gb195,3,none⟩=some (.slice A0_3 l0_3.length c0_3):=(az BK195.out 3).trans rfl
            have hcz66_4:wr.cell? ⟨gb195,4,none⟩=some (.slice A0_4 l0_4.length c0_4):=(az BK195.out 4).trans rfl
            have hfz66_0:=ay BK195.out 0
            have hfz66_1:=ay BK195.out 1
            have hfz66_2:=ay BK195.out 2
            have hfz66_3:=ay BK195.out 3
            have hfz66_4:=ay BK195.out 4
            go_wp2_with (first|((with_reducible refine aH (f:=35) rfl ?_);refine bq (some 47) rfl rfl Tryz.func35 (by kernel_rfl) rfl #[.string a0_1] rfl (by (try simp only [List.map_toArray,List.map_cons,List.map_nil]);first|done|rfl|(simp only [List.length_drop,List.length_take];rfl)) ?_;(with_reducible refine (cO.calls a0_1 t210 true _ A40.out).mono ?_);rintro e w67 ⟨rfl,hb⟩;refine ⟨_,rfl,?_⟩;have n0_:=aa.mk (Kd.bE (by (with_reducible repeat (first|apply Kd.aQ|apply Kd.aN|apply Kd.aU));exact HO_5.out) hb);have n1_:=aa.mk (aI (g:=gb195) (o:=.cells #[.int .i64 a0_0,.string a0_1,.string a0_2,.slice A0_3 l0_3.length c0_3,.slice A0_4 l0_4.length c0_4] 25 (0,0)) (by (with_reducible repeat (first|refine aj ?_ _|refine ax ?_|refine ai ?_ _));exact BK195.out) hb);have n2_:=aa.mk (aI (g:=gb196) (o:=.cells #[.string a1_0,.slice A1_1 l1_1.length c1_1] 28 (0,0)) (by (with_reducible repeat (first|refine aj ?_ _|refine ax ?_|refine ai ?_ _));exact BK196.out) hb);have n3_:=aa.mk (aA (by repeat (first|(with_reducible first|exact HB.out|apply af|apply ae|apply ag|refine ah ?_ GE195.out|refine ah ?_ GE196.out)|exact HB.out)) hb);clear HO_5;clear BK195;clear BK196;clear HB;have HO_5:=n0_;have BK195:=n1_;have BK196:=n2_;have HB:=n3_;clear n0_ n1_ n2_ n3_;(try clear hb);(try clear hb2);(try clear hk);(try clear hi);have hcz68_0:w67.cell? ⟨gb195,0,none⟩=some (.int .i64 a0_0):=(az BK195.out 0).trans rfl;have hcz68_1:w67.cell? ⟨gb195,1,none⟩=some (.string a0_1):=(az BK195.out 1).trans rfl;have hcz68_2:w67.cell? ⟨gb195,2,none⟩=some (.string a0_2):=(az BK195.out 2).trans rfl;have hcz68_3:w67.cell? ⟨gb195,3,none⟩=some (.slice A0_3 l0_3.length c0_3):=(az BK195.out 3).trans rfl;have hcz68_4:w67.cell? ⟨gb195,4,none⟩=some (.slice A0_4 l0_4.length c0_4):=(az BK195.out 4).trans rfl;have hfz68_0:=ay BK195.out 0;have hfz68_1:=ay BK195.out 1;have hfz68_2:=ay BK195.out 2;have hfz68_3:=ay BK195.out 3;have hfz68_4:=ay BK195.out 4)|((with_reducible refine aH (f:=39) rfl ?_);refine bq (some 75) rfl rfl Tryz.func39 (by kernel_rfl) rfl #[.string a0_1,.string a0_2] rfl (by (try simp only [List.map_toArray,List.map_cons,List.map_nil]);first|done|rfl|(simp only [List.length_drop,List.length_take];rfl)) ?_;(with_reducible refine (bB.calls k1 a0_1 a0_2 t217 true _ ?side1 A61.out).mono ?_);(case side1=>first|exact HG.out|exact Gl.drewN HG.out _|exact Gl.below HG.out (by repeat (first|(with_reducible first|exact HB.out|apply af|apply ae|apply ag|refine ah ?_ GE195.out|refine ah ?_ GE196.out)|exact HB.out)));rintro e w69 ⟨rfl,hb⟩;refine ⟨_,rfl,?_⟩;have n0_:=aa.mk (Kd.bE (by (with_reducible repeat (first|apply Kd.aQ|apply Kd.aN|apply Kd.aU));exact HO_5.out) hb);have n1_:=aa.mk (aI (g:=gb195) (o:=.cells #[.int .i64 a0_0,.string a0_1,.string a0_2,.slice A0_3 l0_3.length c0_3,.slice A0_4 l0_4.length c0_4] 25 (0,0)) (by (with_reducible repeat (first|refine aj ?_ _|refine ax ?_|refine ai ?_ _));exact BK195.out) hb);have n2_:=aa.mk (aI (g:=gb196) (o:=.cells #[.string a1_0,.slice A1_1 l1_1.length c1_1] 28 (0,0)) (by (with_reducible repeat (first|refine aj ?_ _|refine ax ?_|refine ai ?_ _));exact BK196.out) hb);have n3_:=aa.mk (aA (by repeat (first|(with_reducible first|exact HB.out|apply af|apply ae|apply ag|refine ah ?_ GE195.out|refine ah ?_ GE196.out)|exact HB.out)) hb);clear HO_5;clear BK195;clear BK196;clear HB;have HO_5:=n0_;have BK195:=n1_;have BK196:=n2_;have HB:=n3_;clear n0_ n1_ n2_ n3_;(try clear hb);(try clear hb2);(try clear hk);(try clear hi);have hcz70_0:w69.cell? ⟨gb196,0,none⟩=some (.string a1_0):=(az BK196.out 0).trans rfl;have hcz70_1:w69.cell? ⟨gb196,1,none⟩=some (.slice A1_1 l1_1.length c1_1):=(az BK196.out 1).trans rfl;have hfz70_0:=ay BK196.out 0;have hfz70_1:=ay BK196.out 1;have hcz71_0:w69.cell? ⟨gb195,0,none⟩=some (.int .i64 a0_0):=(az BK195.out 0).trans rfl;have hcz71_1:w69.cell? ⟨gb195,1,none⟩=some (.string a0_1):=(az BK195.out 1).trans rfl;have hcz71_2:w69.cell? ⟨gb195,2,none⟩=some (.string a0_2):=(az BK195.out 2).trans rfl;have hcz71_3:w69.cell? ⟨gb195,3,none⟩=some (.slice A0_3 l0_3.length c0_3):=(az BK195.out 3).trans rfl;have hcz71_4:w69.cell? ⟨gb195,4,none⟩=some (.slice A0_4 l0_4.length c0_4):=(az BK195.out 4).trans rfl;have hfz71_0:=ay BK195.out 0;have hfz71_1:=ay BK195.out 1;have hfz71_2:=ay BK195.out 2;have hfz71_3:=ay BK195.out 3;have hfz71_4:=ay BK195.out 4)|((with_reducible refine aH (f:=40) rfl ?_);refine bq (some 85) rfl rfl Tryz.func40 (by kernel_rfl) rfl #[.agg #[.string a1_0,.slice A1_1 l1_1.length c1_1],.string a0_1,.string a0_2] rfl (by (try simp only [List.map_toArray,List.map_cons,List.map_nil]);first|done|rfl|(simp only [List.length_drop,List.length_take];rfl)) ?_;(with_reducible refine (fJ.calls a1_0 _ _ l1_1 a0_1 a0_2 t219 _ ?side1 ?side2 ?side3 A63.out).mono ?_);(case side1=>repeat (first|exact (Kd.bP HR1_1.out HB.out)|(with_reducible refine Kd.dA ?_ _)|(with_reducible refine Kd.dG ?_ _)|(with_reducible refine Kd.eu ?_)));(case side2=>exact HC1_1.out);(case side3=>first|exact HG.out|exact Gl.drewN HG.out _|exact Gl.below HG.out (by repeat (first|(with_reducible first|exact HB.out|apply af|apply ae|apply ag|refine ah ?_ GE195.out|refine ah ?_ GE196.out)|exact HB.out)));rintro e w72 ⟨rfl,hb⟩;refine ⟨_,rfl,?_⟩;have n0_:=aa.mk (Kd.bE (by (with_reducible repeat (first|apply Kd.aQ|apply Kd.aN|apply Kd.aU));exact HO_5.out) hb);have n1_:=aa.mk (aI (g:=gb195) (o:=.cells #[.int .i64 a0_0,.string a0_1,.string a0_2,.slice A0_3 l0_3.length c0_3,.slice A0_4 l0_4.length c0_4] 25 (0,0)) (by (with_reducible repeat (first|refine aj ?_ _|refine ax ?_|refine ai ?_ _));exact BK195.out) hb);have n2_:=aa.mk (aI (g:=gb196) (o:=.cells #[.string a1_0,.slice A1_1 l1_1.length c1_1] 28 (0,0)) (by (with_reducible repeat (first|refine aj ?_ _|refine ax ?_|refine ai ?_ _));exact BK196.out) hb);have n3_:=aa.mk (aA (by repeat (first|(with_reducible first|exact HB.out|apply af|apply ae|apply ag|refine ah ?_ GE195.out|refine ah ?_ GE196.out)|exact HB.out)) hb);clear HO_5;clear BK195;clear BK196;clear HB;have HO_5:=n0_;have BK195:=n1_;have BK196:=n2_;have HB:=n3_;clear n0_ n1_ n2_ n3_;(try clear hb);(try clear hb2);(try clear hk);(try clear hi))|((with_reducible refine aH (f:=36) rfl ?_);refine bq (some 86) rfl rfl Tryz.func36 (by kernel_rfl) rfl #[.bool t219] rfl (by (try simp only [List.map_toArray,List.map_cons,List.map_nil]);first|done|rfl|(simp only [List.length_drop,List.length_take];rfl)) ?_;(with_reducible refine (dw.calls t219 t220 _ A64.out).mono ?_);rintro e w' ⟨rfl,⟨nd,rfl⟩⟩;refine ⟨_,rfl,?_⟩))
            go_ret
            exact ⟨by first|rfl|(simp [aD,aG] <;> rfl)|(simp [*,aD,aG] <;> rfl),by repeat (first|(with_reducible first|exact HB.out|apply af|apply ae|apply ag|refine ah ?_ GE195.out|refine ah ?_ GE196.out)|exact HB.out)⟩
           ·replace c62:=Bool.eq_false_iff.mpr c62
            subst c62
            have H1:(some 2)=some r:=by rw [if_neg (show ¬ (false=true) by decide)] at H;exact H
            clear H
            have H:=H1
            clear H1
            obtain rfl:=Option.some.inj H
            have hnb73:=NB195_196.out
            have hnc73:=NB196_195.out
            have hcz74_0:wr.cell? ⟨gb195,0,none⟩=some (.int .i64 a0_0):=(az BK195.out 0).trans rfl
            have hcz74_1:wr.cell? ⟨gb195,1,none⟩=some (.string a0_1):=(az BK195.out 1).trans rfl
            have hcz74_2:wr.cell? ⟨gb195,2,none⟩=some (.string a0_2):=(az BK195.out 2).trans rfl
            have hcz74_3:wr.cell? ⟨gb195,3,none⟩=some (.slice A0_3 l0_3.length c0_3):=(az BK195.out 3).trans rfl
            have hcz74_4:wr.cell? ⟨gb195,4,none⟩=some (.slice A0_4 l0_4.length c0_4):=(az BK195.out 4).trans rfl
            have hfz74_0:=ay BK195.out 0
            have hfz74_1:=ay BK195.out 1
            have hfz74_2:=ay BK195.out 2
            have hfz74_3:=ay BK195.out 3
            have hfz74_4:=ay BK195.out 4
            go_wp2_with (first|((with_reducible refine aH (f:=35) rfl ?_);refine bq (some 47) rfl rfl Tryz.func35 (by kernel_rfl) rfl #[.string a0_1] rfl (by (try simp only [List.map_toArray,List.map_cons,List.map_nil]);first|done|rfl|(simp only [List.length_drop,List.length_take];rfl)) ?_;(with_reducible refine (cO.calls a0_1 t210 true _ A40.out).mono ?_);rintro e w75 ⟨rfl,hb⟩;refine ⟨_,rfl,?_⟩;have n0_:=aa.mk (Kd.bE (by (with_reducible repeat (first|apply Kd.aQ|apply Kd.aN|apply Kd.aU));exact HO_5.out) hb);have n1_:=aa.mk (aI (g:=gb195) (o:=.cells #[.int .i64 a0_0,.string a0_1,.string a0_2,.slice A0_3 l0_3.length c0_3,.slice A0_4 l0_4.length c0_4] 25 (0,0)) (by (with_reducible repeat (first|refine aj ?_ _|refine ax ?_|refine ai ?_ _));exact BK195.out) hb);have n2_:=aa.mk (aI (g:=gb196) (o:=.cells #[.string a1_0,.slice A1_1 l1_1.length c1_1] 28 (0,0)) (by (with_reducible repeat (first|refine aj ?_ _|refine ax ?_|refine ai ?_ _));exact BK196.out) hb);have n3_:=aa.mk (aA (by repeat (first|(with_reducible first|exact HB.out|apply af|apply ae|apply ag|refine ah ?_ GE195.out|refine ah ?_ GE196.out)|exact HB.out)) hb);clear HO_5;clear BK195;clear BK196;clear HB;have HO_5:=n0_;have BK195:=n1_;have BK196:=n2_;have HB:=n3_;clear n0_ n1_ n2_ n3_;(try clear hb);(try clear hb2);(try clear hk);(try clear hi);have hcz76_0:w75.cell? ⟨gb195,0,none⟩=some (.int .i64 a0_0):=(az BK195.out 0).trans rfl;have hcz76_1:w75.cell? ⟨gb195,1,none⟩=some (.string a0_1):=(az BK195.out 1).trans rfl;have hcz76_2:w75.cell? ⟨gb195,2,none⟩=some (.string a0_2):=(az BK195.out 2).trans rfl;have hcz76_3:w75.cell? ⟨gb195,3,none⟩=some (.slice A0_3 l0_3.length c0_3):=(az BK195.out 3).trans rfl;have hcz76_4:w75.cell? ⟨gb195,4,none⟩=some (.slice A0_4 l0_4.length c0_4):=(az BK195.out 4).trans rfl;have hfz76_0:=ay BK195.out 0;have hfz76_1:=ay BK195.out 1;have hfz76_2:=ay BK195.out 2;have hfz76_3:=ay BK195.out 3;have hfz76_4:=ay BK195.out 4)|((with_reducible refine aH (f:=39) rfl ?_);refine bq (some 75) rfl rfl Tryz.func39 (by kernel_rfl) rfl #[.string a0_1,.string a0_2] rfl (by (try simp only [List.map_toArray,List.map_cons,List.map_nil]);first|done|rfl|(simp only [List.length_drop,List.length_take];rfl)) ?_;(with_reducible refine (bB.calls k1 a0_1 a0_2 t217 false _ ?side1 A61.out).mono ?_);(case side1=>first|exact HG.out|exact Gl.drewN HG.out _|exact Gl.below HG.out (by repeat (first|(with_reducible first|exact HB.out|apply af|apply ae|apply ag|refine ah ?_ GE195.out|refine ah ?_ GE196.out)|exact HB.out)));rintro e w77 ⟨rfl,hb⟩;refine ⟨_,rfl,?_⟩;have n0_:=aa.mk (Kd.bE (by (with_reducible repeat (first|apply Kd.aQ|apply Kd.aN|apply Kd.aU));exact HO_5.out) hb);have n1_:=aa.mk (aI (g:=gb195) (o:=.cells #[.int .i64 a0_0,.string a0_1,.string a0_2,.slice A0_3 l0_3.length c0_3,.slice A0_4 l0_4.length c0_4] 25 (0,0)) (by (with_reducible repeat (first|refine aj ?_ _|refine ax ?_|refine ai ?_ _));exact BK195.out) hb);have n2_:=aa.mk (aI (g:=gb196) (o:=.cells #[.string a1_0,.slice A1_1 l1_1.length c1_1] 28 (0,0)) (by (with_reducible repeat (first|refine aj ?_ _|refine ax ?_|refine ai ?_ _));exact BK196.out) hb);have n3_:=aa.mk (aA (by repeat (first|(with_reducible first|exact HB.out|apply af|apply ae|apply ag|refine ah ?_ GE195.out|refine ah ?_ GE196.out)|exact HB.out)) hb);clear HO_5;clear BK195;clear BK196;clear HB;have HO_5:=n0_;have BK195:=n1_;have BK196:=n2_;have HB:=n3_;clear n0_ n1_ n2_ n3_;(try clear hb);(try clear hb2);(try clear hk);(try clear hi)))
            go_ret
            exact ⟨by first|rfl|(simp [aD,aG] <;> rfl)|(simp [*,aD,aG] <;> rfl),by repeat (first|(with_reducible first|exact HB.out|apply af|apply ae|apply ag|refine ah ?_ GE195.out|refine ah ?_ GE196.out)|exact HB.out)⟩
          ·rw [if_neg c60] at H
           have c60b0:(a0_0 == 4)=false:=beq_eq_false_iff_ne.mpr c60
           have c60b1:(a0_0 != 4)=true:=bne_iff_ne.mpr c60
           replace H:=Option.bind_eq_some_iff.mp H
           obtain ⟨t221,A780,H⟩:=H
           replace H:(some t221)=some r:=H
           have A78:=aa.mk A780
           clear A780
           obtain rfl:=Option.some.inj H
           have hnb79:=NB195_196.out
           have hnc79:=NB196_195.out
           have hcz80_0:wr.cell? ⟨gb195,0,none⟩=some (.int .i64 a0_0):=(az BK195.out 0).trans rfl
           have hcz80_1:wr.cell? ⟨gb195,1,none⟩=some (.string a0_1):=(az BK195.out 1).trans rfl
           have hcz80_2:wr.cell? ⟨gb195,2,none⟩=some (.string a0_2):=(az BK195.out 2).trans rfl
           have hcz80_3:wr.cell? ⟨gb195,3,none⟩=some (.slice A0_3 l0_3.length c0_3):=(az BK195.out 3).trans rfl
           have hcz80_4:wr.cell? ⟨gb195,4,none⟩=some (.slice A0_4 l0_4.length c0_4):=(az BK195.out 4).trans rfl
           have hfz80_0:=ay BK195.out 0
           have hfz80_1:=ay BK195.out 1
           have hfz80_2:=ay BK195.out 2
           have hfz80_3:=ay BK195.out 3
           have hfz80_4:=ay BK195.out 4
           go_wp2_with (first|((with_reducible refine aH (f:=35) rfl ?_);refine bq (some 47) rfl rfl Tryz.func35 (by kernel_rfl) rfl #[.string a0_1] rfl (by (try simp only [List.map_toArray,List.map_cons,List.map_nil]);first|done|rfl|(simp only [List.length_drop,List.length_take];rfl)) ?_;(with_reducible refine (cO.calls a0_1 t210 true _ A40.out).mono ?_);rintro e w81 ⟨rfl,hb⟩;refine ⟨_,rfl,?_⟩;have n0_:=aa.mk (Kd.bE (by (with_reducible repeat (first|apply Kd.aQ|apply Kd.aN|apply Kd.aU));exact HO_5.out) hb);have n1_:=aa.mk (aI (g:=gb195) (o:=.cells #[.int .i64 a0_0,.string a0_1,.string a0_2,.slice A0_3 l0_3.length c0_3,.slice A0_4 l0_4.length c0_4] 25 (0,0)) (by (with_reducible repeat (first|refine aj ?_ _|refine ax ?_|refine ai ?_ _));exact BK195.out) hb);have n2_:=aa.mk (aI (g:=gb196) (o:=.cells #[.string a1_0,.slice A1_1 l1_1.length c1_1] 28 (0,0)) (by (with_reducible repeat (first|refine aj ?_ _|refine ax ?_|refine ai ?_ _));exact BK196.out) hb);have n3_:=aa.mk (aA (by repeat (first|(with_reducible first|exact HB.out|apply af|apply ae|apply ag|refine ah ?_ GE195.out|refine ah ?_ GE196.out)|exact HB.out)) hb);clear HO_5;clear BK195;clear BK196;clear HB;have HO_5:=n0_;have BK195:=n1_;have BK196:=n2_;have HB:=n3_;clear n0_ n1_ n2_ n3_;(try clear hb);(try clear hb2);(try clear hk);(try clear hi);have hcz82_0:w81.cell? ⟨gb195,0,none⟩=some (.int .i64 a0_0):=(az BK195.out 0).trans rfl;have hcz82_1:w81.cell? ⟨gb195,1,none⟩=some (.string a0_1):=(az BK195.out 1).trans rfl;have hcz82_2:w81.cell? ⟨gb195,2,none⟩=some (.string a0_2):=(az BK195.out 2).trans rfl;have hcz82_3:w81.cell? ⟨gb195,3,none⟩=some (.slice A0_3 l0_3.length c0_3):=(az BK195.out 3).trans rfl;have hcz82_4:w81.cell? ⟨gb195,4,none⟩=some (.slice A0_4 l0_4.length c0_4):=(az BK195.out 4).trans rfl;have hfz82_0:=ay BK195.out 0;have hfz82_1:=ay BK195.out 1;have hfz82_2:=ay BK195.out 2;have hfz82_3:=ay BK195.out 3;have hfz82_4:=ay BK195.out 4;have hcz83_0:w81.cell? ⟨gb196,0,none⟩=some (.string a1_0):=(az BK196.out 0).trans rfl;have hcz83_1:w81.cell? ⟨gb196,1,none⟩=some (.slice A1_1 l1_1.length c1_1):=(az BK196.out 1).trans rfl;have hfz83_0:=ay BK196.out 0;have hfz83_1:=ay BK196.out 1)|((with_reducible refine aH (f:=41) rfl ?_);refine bq (some 89) rfl rfl Tryz.func41 (by kernel_rfl) rfl #[.agg #[.int .i64 a0_0,.string a0_1,.string a0_2,.slice A0_3 l0_3.length c0_3,.slice A0_4 l0_4.length c0_4],.agg #[.string a1_0,.slice A1_1 l1_1.length c1_1]] rfl (by (try simp only [List.map_toArray,List.map_cons,List.map_nil]);first|done|rfl|(simp only [List.length_drop,List.length_take];rfl)) ?_;(with_reducible refine (fB.calls a0_0 a0_1 a0_2 _ _ l0_3 _ _ l0_4 a1_0 _ _ l1_1 t221 _ ?side1 ?side2 ?side3 ?side4 ?side5 ?side6 ?side7 A78.out).mono ?_);(case side1=>repeat (first|exact (Kd.bP HR0_3.out HB.out)|(with_reducible refine Kd.dA ?_ _)|(with_reducible refine Kd.dG ?_ _)|(with_reducible refine Kd.eu ?_)));(case side2=>exact HC0_3.out);(case side3=>repeat (first|exact (Kd.bP HR0_4.out HB.out)|(with_reducible refine Kd.dA ?_ _)|(with_reducible refine Kd.dG ?_ _)|(with_reducible refine Kd.eu ?_)));(case side4=>exact HC0_4.out);(case side5=>repeat (first|exact (Kd.bP HR1_1.out HB.out)|(with_reducible refine Kd.dA ?_ _)|(with_reducible refine Kd.dG ?_ _)|(with_reducible refine Kd.eu ?_)));(case side6=>exact HC1_1.out);(case side7=>first|exact HG.out|exact Gl.drewN HG.out _|exact Gl.below HG.out (by repeat (first|(with_reducible first|exact HB.out|apply af|apply ae|apply ag|refine ah ?_ GE195.out|refine ah ?_ GE196.out)|exact HB.out)));rintro e w84 ⟨rfl,hb⟩;refine ⟨_,rfl,?_⟩;have n0_:=aa.mk (Kd.bE (by (with_reducible repeat (first|apply Kd.aQ|apply Kd.aN|apply Kd.aU));exact HO_5.out) hb);have n1_:=aa.mk (aI (g:=gb195) (o:=.cells #[.int .i64 a0_0,.string a0_1,.string a0_2,.slice A0_3 l0_3.length c0_3,.slice A0_4 l0_4.length c0_4] 25 (0,0)) (by (with_reducible repeat (first|refine aj ?_ _|refine ax ?_|refine ai ?_ _));exact BK195.out) hb);have n2_:=aa.mk (aI (g:=gb196) (o:=.cells #[.string a1_0,.slice A1_1 l1_1.length c1_1] 28 (0,0)) (by (with_reducible repeat (first|refine aj ?_ _|refine ax ?_|refine ai ?_ _));exact BK196.out) hb);have n3_:=aa.mk (aA (by repeat (first|(with_reducible first|exact HB.out|apply af|apply ae|apply ag|refine ah ?_ GE195.out|refine ah ?_ GE196.out)|exact HB.out)) hb);clear HO_5;clear BK195;clear BK196;clear HB;have HO_5:=n0_;have BK195:=n1_;have BK196:=n2_;have HB:=n3_;clear n0_ n1_ n2_ n3_;(try clear hb);(try clear hb2);(try clear hk);(try clear hi)))
           go_ret
           exact ⟨by first|rfl|(simp [aD,aG] <;> rfl)|(simp [*,aD,aG] <;> rfl),by repeat (first|(with_reducible first|exact HB.out|apply af|apply ae|apply ag|refine ah ?_ GE195.out|refine ah ?_ GE196.out)|exact HB.out)⟩
       ·replace c41:=Bool.eq_false_iff.mpr c41
        subst c41
        have H1:(some 2)=some r:=by rw [if_neg (show ¬ (false=true) by decide)] at H;exact H
        clear H
        have H:=H1
        clear H1
        obtain rfl:=Option.some.inj H
        have hnb85:=NB195_196.out
        have hnc85:=NB196_195.out
        have hcz86_0:wr.cell? ⟨gb195,0,none⟩=some (.int .i64 a0_0):=(az BK195.out 0).trans rfl
        have hcz86_1:wr.cell? ⟨gb195,1,none⟩=some (.string a0_1):=(az BK195.out 1).trans rfl
        have hcz86_2:wr.cell? ⟨gb195,2,none⟩=some (.string a0_2):=(az BK195.out 2).trans rfl
        have hcz86_3:wr.cell? ⟨gb195,3,none⟩=some (.slice A0_3 l0_3.length c0_3):=(az BK195.out 3).trans rfl
        have hcz86_4:wr.cell? ⟨gb195,4,none⟩=some (.slice A0_4 l0_4.length c0_4):=(az BK195.out 4).trans rfl
        have hfz86_0:=ay BK195.out 0
        have hfz86_1:=ay BK195.out 1
        have hfz86_2:=ay BK195.out 2
        have hfz86_3:=ay BK195.out 3
        have hfz86_4:=ay BK195.out 4
        go_wp2_with (first|((with_reducible refine aH (f:=35) rfl ?_);refine bq (some 47) rfl rfl Tryz.func35 (by kernel_rfl) rfl #[.string a0_1] rfl (by (try simp only [List.map_toArray,List.map_cons,List.map_nil]);first|done|rfl|(simp only [List.length_drop,List.length_take];rfl)) ?_;(with_reducible refine (cO.calls a0_1 t210 false _ A40.out).mono ?_);rintro e w87 ⟨rfl,hb⟩;refine ⟨_,rfl,?_⟩;have n0_:=aa.mk (Kd.bE (by (with_reducible repeat (first|apply Kd.aQ|apply Kd.aN|apply Kd.aU));exact HO_5.out) hb);have n1_:=aa.mk (aI (g:=gb195) (o:=.cells #[.int .i64 a0_0,.string a0_1,.string a0_2,.slice A0_3 l0_3.length c0_3,.slice A0_4 l0_4.length c0_4] 25 (0,0)) (by (with_reducible repeat (first|refine aj ?_ _|refine ax ?_|refine ai ?_ _));exact BK195.out) hb);have n2_:=aa.mk (aI (g:=gb196) (o:=.cells #[.string a1_0,.slice A1_1 l1_1.length c1_1] 28 (0,0)) (by (with_reducible repeat (first|refine aj ?_ _|refine ax ?_|refine ai ?_ _));exact BK196.out) hb);have n3_:=aa.mk (aA (by repeat (first|(with_reducible first|exact HB.out|apply af|apply ae|apply ag|refine ah ?_ GE195.out|refine ah ?_ GE196.out)|exact HB.out)) hb);clear HO_5;clear BK195;clear BK196;clear HB;have HO_5:=n0_;have BK195:=n1_;have BK196:=n2_;have HB:=n3_;clear n0_ n1_ n2_ n3_;(try clear hb);(try clear hb2);(try clear hk);(try clear hi)))
        go_ret
        exact ⟨by first|rfl|(simp [aD,aG] <;> rfl)|(simp [*,aD,aG] <;> rfl),by repeat (first|(with_reducible first|exact HB.out|apply af|apply ae|apply ag|refine ah ?_ GE195.out|refine ah ?_ GE196.out)|exact HB.out)⟩
mutual
def aY.j0:Nat→List ByteArray→Bool→Option (Bool)
 | 0,_,_=>none
 | k+1,x0,x27=>if x27=true then (some false) else (aY.l0 k x0 x0 (x0.length:Int) 0)
def aY.l0:Nat→List ByteArray→List ByteArray→Int→Int→Option (Bool)
 | 0,_,_,_,_=>none
 | k+1,x0,x28,x29,x30=>if x30 < x29 then (if 0≤x30 then (if x30 < (x28.length:Int) then (if ((bU ByteArray.empty x28 x30).size:Int) > 100 then (some false) else (if (bU ByteArray.empty x28 x30).toList=([]:List UInt8) then (if x30 > 0 then (if x30 < (wrap64 ((x0.length:Int) - 1)) then (some false) else (aY.l0 k x0 x28 x29 (wrap64 (x30+1)))) else (aY.l0 k x0 x28 x29 (wrap64 (x30+1)))) else (aY.l0 k x0 x28 x29 (wrap64 (x30+1))))) else (none)) else (none)) else (some true)
end
def aY.f (k:Nat) (l0:List ByteArray):Option (Bool):=if (l0.length:Int) < 2 then (aY.j0 k l0 true) else (if (l0.length:Int) > 8 then (aY.j0 k l0 true) else (if (l0.length:Int)=2 then (if 0 < (l0.length:Int) then (if 1 < (l0.length:Int) then (if (bU ByteArray.empty l0 0).size+(bU ByteArray.empty l0 1).size≤9223372036854775807 then (aY.j0 k l0 (((bU ByteArray.empty l0 0)++(bU ByteArray.empty l0 1)).toList == ([]:List UInt8))) else (none)) else (none)) else (none)) else (aY.j0 k l0 false)))
set_option maxHeartbeats 8000000 in
set_option maxRecDepth 100000 in
theorem aY.calls (k:Nat) (A0:Option Addr) (c0:Nat) (l0:List ByteArray) (r:Bool) (w:World) (hr0:Kd.C Kd.string w A0 l0.length l0) (hc0:l0.length≤c0) (h:aY.f k l0=some r) :
  Calls Tryz.prog 50 #[.slice A0 l0.length c0] w fun e w'=>e=.returned (.bool r)∧aJ w w':=by
 have HR0:=aa.mk hr0
 have HC0:=aa.mk hc0
 clear hr0 hc0
 have H:(if (l0.length:Int) < 2 then (aY.j0 k l0 true) else (if (l0.length:Int) > 8 then (aY.j0 k l0 true) else (if (l0.length:Int)=2 then (if 0 < (l0.length:Int) then (if 1 < (l0.length:Int) then (if (bU ByteArray.empty l0 0).size+(bU ByteArray.empty l0 1).size≤9223372036854775807 then (aY.j0 k l0 (((bU ByteArray.empty l0 0)++(bU ByteArray.empty l0 1)).toList == ([]:List UInt8))) else (none)) else (none)) else (none)) else (aY.j0 k l0 false))))=some r:=h
 clear h
 have HC2:=aa.mk H
 clear H
 go_enter Tryz.func50,Tryz.ntmps50
 go_upto_region 1 with (fail)
 repeat (go_quiet (fail);go_upto_region 1 with (fail))
 go_cut [27] (fun v27 wc=>∃ (kq:Nat) (x27_1:Bool),v27=.bool x27_1∧aa (aY.j0 kq l0 x27_1=some r)∧aa (kq≤k)∧aJ w wc)
 case first =>
  have H:=HC2.out
  clear HC2
  by_cases c3:(l0.length:Int) < 2
  ·rw [if_pos c3] at H
   have c3b0:decide ((l0.length:Int) < 2)=true:=decide_eq_true c3
   have c3b1:decide (l0.length < 2)=true:=decide_eq_true (by omega)
   clear c3
   (first|rw [c3b0]|(simp only [aK,aM];rw [c3b0])|skip)
   have H':=aa.mk H
   clear H
   go_wp2
   repeat (go_quiet (fail);try go_wp2)
   go_meet
   case rel=>exact ⟨_,(true),(by first|rfl|(simp;done)|(simp [*];done)|(simp [*,aK,aM,bX];done)|(simp only [au,ak];done)|(simp only [au,ak];simp;done)|(simp only [au,ak];simp [*];done)),H',⟨by first|omega|exact Nat.le_refl _⟩,by repeat (first|exact aJ.refl _|apply aJ.step)⟩
  ·rw [if_neg c3] at H
   have c3b0:decide ((l0.length:Int) < 2)=false:=decide_eq_false c3
   have c3b1:decide (l0.length < 2)=false:=decide_eq_false (by omega)
   clear c3
   (first|rw [c3b0]|(simp only [aK,aM];rw [c3b0])|skip)
   by_cases c4:(l0.length:Int) > 8
   ·rw [if_pos c4] at H
    have c4b0:decide (8 < (l0.length:Int))=true:=decide_eq_true c4
    have c4b1:decide (8 < l0.length)=true:=decide_eq_true (by omega)
    clear c4
    have H':=aa.mk H
    clear H
    go_wp2
    repeat (go_quiet (fail);try go_wp2)
    go_meet
    case rel=>exact ⟨_,(true),(by first|rfl|(simp;done)|(simp [*];done)|(simp [*,aK,aM,bX];done)|(simp only [au,ak];done)|(simp only [au,ak];simp;done)|(simp only [au,ak];simp [*];done)),H',⟨by first|omega|exact Nat.le_refl _⟩,by repeat (first|exact aJ.refl _|apply aJ.step)⟩
   ·rw [if_neg c4] at H
    have c4b0:decide (8 < (l0.length:Int))=false:=decide_eq_false c4
    have c4b1:decide (8 < l0.length)=false:=decide_eq_false (by omega)
    clear c4
    by_cases c5:(l0.length:Int)=2
    ·rw [if_pos c5] at H
     have c5b0:((l0.length:Int) == 2)=true:=beq_iff_eq.mpr c5
     have c5b1:((l0.length:Int) != 2)=false:=bne_eq_false_iff_eq.mpr c5
     clear c5
     by_cases c6:0 < (l0.length:Int)
     ·rw [if_pos c6] at H
      have c6b0:decide (0 < (l0.length:Int))=true:=decide_eq_true c6
      have c6b1:decide (0 < l0.length)=true:=decide_eq_true (by omega)
      clear c6
      by_cases c7:1 < (l0.length:Int)
      ·rw [if_pos c7] at H
       have c7b0:decide (1 < (l0.length:Int))=true:=decide_eq_true c7
       have c7b1:decide (1 < l0.length)=true:=decide_eq_true (by omega)
       clear c7
       by_cases c8:(bU ByteArray.empty l0 0).size+(bU ByteArray.empty l0 1).size≤9223372036854775807
       ·rw [if_pos c8] at H
        have c8b0:=eq_true c8
        have c8b1:decide ((bU ByteArray.empty l0 0).size+(bU ByteArray.empty l0 1).size≤9223372036854775807)=true:=decide_eq_true c8
        try have c8b2:(9223372036854775807 < (bU ByteArray.empty l0 0).size+(bU ByteArray.empty l0 1).size)=False:=eq_false (Nat.not_lt.2 c8)
        have H':=aa.mk H
        clear H
        have p113:0≤(0:Int):=(by omega)
        have q113:0 < (l0.length:Int):=of_decide_eq_true (by first|(with_reducible assumption)|assumption)
        obtain ⟨ad113,e113,hx113_0⟩:=Kd.fA HR0.out 0 p113 q113
        cases e113
        have qi113:(0 < l0.length)=True:=eq_true (by omega)
        (try rw [show ((0:Int)).toNat=0 from rfl] at hx113_0)
        (try rw [Addr.add_zero'] at hx113_0)
        replace p113:=eq_true p113
        replace q113:=eq_true q113
        have p114:0≤(1:Int):=(by omega)
        have q114:1 < (l0.length:Int):=of_decide_eq_true (by first|(with_reducible assumption)|assumption)
        obtain ⟨ad114,e114,hx114_0⟩:=Kd.fA HR0.out 1 p114 q114
        obtain rfl:ad113=ad114:=(by injection e114)
        (try simp only [show (1:Int).toNat=1 from rfl,Nat.reduceMul,Nat.reduceEqDiff,Go.Addr.add,↓reduceIte] at hx114_0)
        have qi114:(1 < l0.length)=True:=eq_true (by omega)
        (try rw [show ((1:Int)).toNat=1 from rfl] at hx114_0)
        replace p114:=eq_true p114
        replace q114:=eq_true q114
        go_wp2
        repeat (go_quiet (fail);try go_wp2)
        go_meet
        case rel=>exact ⟨_,((((bU ByteArray.empty l0 0)++(bU ByteArray.empty l0 1)).toList == ([]:List UInt8))),(by first|rfl|(simp;done)|(simp [*];done)|(simp [*,aK,aM,bX];done)|(simp only [au,ak];done)|(simp only [au,ak];simp;done)|(simp only [au,ak];simp [*];done)),H',⟨by first|omega|exact Nat.le_refl _⟩,by repeat (first|exact aJ.refl _|apply aJ.step)⟩
       ·rw [if_neg c8] at H
        exact absurd H (by simp)
      ·rw [if_neg c7] at H
       exact absurd H (by simp)
     ·rw [if_neg c6] at H
      exact absurd H (by simp)
    ·rw [if_neg c5] at H
     have c5b0:((l0.length:Int) == 2)=false:=beq_eq_false_iff_ne.mpr c5
     have c5b1:((l0.length:Int) != 2)=true:=bne_iff_ne.mpr c5
     have H':=aa.mk H
     clear H
     go_wp2
     repeat (go_quiet (fail);try go_wp2)
     go_meet
     case rel=>exact ⟨_,(false),(by first|rfl|(simp;done)|(simp [*];done)|(simp [*,aK,aM,bX];done)|(simp only [au,ak];done)|(simp only [au,ak];simp;done)|(simp only [au,ak];simp [*];done)),H',⟨by first|omega|exact Nat.le_refl _⟩,by repeat (first|exact aJ.refl _|apply aJ.step)⟩
 case rest =>
  clear HC2
  try clear p1
  try clear q1
  try clear hx1
  try clear qi1
  try clear p2
  try clear c3
  try clear c3b0
  try clear c3b1
  try clear c4
  try clear c4b0
  try clear c4b1
  try clear c5
  try clear c5b0
  try clear c5b1
  try clear c6
  try clear c6b0
  try clear c6b1
  try clear c7
  try clear c7b0
  try clear c7b1
  try clear c8
  try clear c8b0
  try clear c8b1
  try clear c8b2
  try clear hx113_0
  try clear hx114_0
  try clear p113
  try clear p114
  try clear q113
  try clear q114
  obtain ⟨kq,x27_1,rfl,HA,HJ1,⟨mc1,rfl⟩⟩:=hcut
  cases kq with
  | zero=>exact absurd HA.out (by simp [aY.j0])
  | succ kj1 =>
   have H:=HA.out
   clear HA
   simp only [aY.j0] at H
   by_cases c9:x27_1=true
   ·subst c9
    have H1:(some false)=some r:=by rw [if_pos rfl] at H;exact H
    clear H
    have H:=H1
    clear H1
    obtain rfl:=Option.some.inj H
    go_wp2
    repeat (go_quiet (fail);try go_wp2)
    go_ret
    exact ⟨by first|rfl|(simp;done)|(simp [*];done)|(simp [*,aK,aM,bX];done)|(simp only [au,ak];done)|(simp only [au,ak];simp;done)|(simp only [au,ak];simp [*];done),by repeat (first|exact aJ.refl _|apply aJ.step)⟩
   ·replace c9:=Bool.eq_false_iff.mpr c9
    subst c9
    have H1:(aY.l0 kj1 l0 l0 (l0.length:Int) 0)=some r:=by rw [if_neg (show ¬ (false=true) by decide)] at H;exact H
    clear H
    have H:=H1
    clear H1
    have H':=aa.mk H
    clear H
    go_wp2
    repeat (go_quiet (fail);try go_wp2)
    go_loopg [30] kj1 (fun kq v30 w'=>∃ (x30_2:Int),v30=.int .i64 x30_2∧aa (aY.l0 kq l0 l0 (l0.length:Int) x30_2=some r)∧aa (kq≤kj1)∧aJ w w')
    case atStart=>exact ⟨(0),(by first|rfl|(simp;done)|(simp [*];done)|(simp [*,aK,aM,bX];done)|(simp only [au,ak];done)|(simp only [au,ak];simp;done)|(simp only [au,ak];simp [*];done)),H',⟨Nat.le_refl _⟩,by repeat (first|exact aJ.refl _|apply aJ.step)⟩
    case round =>
     clear H'
     try clear c1
     try clear p1
     try clear q1
     try clear hx1
     try clear qi1
     try clear p2
     try clear c3
     try clear c3b0
     try clear c3b1
     try clear c4
     try clear c4b0
     try clear c4b1
     try clear c5
     try clear c5b0
     try clear c5b1
     try clear c6
     try clear c6b0
     try clear c6b1
     try clear c7
     try clear c7b0
     try clear c7b1
     try clear c8
     try clear c8b0
     try clear c8b1
     try clear c8b2
     try clear c9
     try clear hx113_0
     try clear hx114_0
     try clear p1
     try clear p113
     try clear p114
     try clear p2
     try clear q1
     try clear q113
     try clear q114
     obtain ⟨x30_2,rfl,HA,HK2,⟨m2,rfl⟩⟩:=hrel
     cases gk with
     | zero=>exact absurd HA.out (by simp [aY.l0])
     | succ k2 =>
      have H:=HA.out
      clear HA
      simp only [aY.l0] at H
      by_cases c10:x30_2 < (l0.length:Int)
      ·rw [if_pos c10] at H
       have c10b0:decide (x30_2 < (l0.length:Int))=true:=decide_eq_true c10
       clear c10
       by_cases c11:0≤x30_2
       ·rw [if_pos c11] at H
        have c11b0:decide (0≤x30_2)=true:=decide_eq_true c11
        clear c11
        by_cases c12:x30_2 < (l0.length:Int)
        ·rw [if_pos c12] at H
         have c12b0:decide (x30_2 < (l0.length:Int))=true:=decide_eq_true c12
         clear c12
         by_cases c13:((bU ByteArray.empty l0 x30_2).size:Int) > 100
         ·rw [if_pos c13] at H
          have c13b0:decide (100 < ((bU ByteArray.empty l0 x30_2).size:Int))=true:=decide_eq_true c13
          have c13b1:decide (100 < (bU ByteArray.empty l0 x30_2).size)=true:=decide_eq_true (by omega)
          clear c13
          obtain rfl:=Option.some.inj H
          have p115:0≤(x30_2:Int):=of_decide_eq_true (by first|(with_reducible assumption)|assumption)
          have q115:x30_2 < (l0.length:Int):=of_decide_eq_true (by first|(with_reducible assumption)|assumption)
          obtain ⟨ad115,e115,hx115_0⟩:=Kd.fA HR0.out x30_2 p115 q115
          cases e115
          replace p115:=eq_true p115
          replace q115:=eq_true q115
          go_wp2
          repeat (go_quiet (fail);try go_wp2)
          go_ret
          exact ⟨by first|rfl|(simp;done)|(simp [*];done)|(simp [*,aK,aM,bX];done)|(simp only [au,ak];done)|(simp only [au,ak];simp;done)|(simp only [au,ak];simp [*];done),by repeat (first|exact aJ.refl _|apply aJ.step)⟩
         ·rw [if_neg c13] at H
          have c13b0:decide (100 < ((bU ByteArray.empty l0 x30_2).size:Int))=false:=decide_eq_false c13
          have c13b1:decide (100 < (bU ByteArray.empty l0 x30_2).size)=false:=decide_eq_false (by omega)
          clear c13
          by_cases c14:(bU ByteArray.empty l0 x30_2).toList=([]:List UInt8)
          ·rw [if_pos c14] at H
           have c14b0:((bU ByteArray.empty l0 x30_2).toList == ([]:List UInt8))=true:=beq_iff_eq.mpr c14
           have c14b1:((bU ByteArray.empty l0 x30_2).toList != ([]:List UInt8))=false:=bne_eq_false_iff_eq.mpr c14
           clear c14
           by_cases c15:x30_2 > 0
           ·rw [if_pos c15] at H
            have c15b0:decide (0 < x30_2)=true:=decide_eq_true c15
            clear c15
            by_cases c16:x30_2 < (wrap64 ((l0.length:Int) - 1))
            ·rw [if_pos c16] at H
             have c16b0:decide (x30_2 < (wrap64 ((l0.length:Int) - 1)))=true:=decide_eq_true c16
             clear c16
             obtain rfl:=Option.some.inj H
             have p115:0≤(x30_2:Int):=of_decide_eq_true (by first|(with_reducible assumption)|assumption)
             have q115:x30_2 < (l0.length:Int):=of_decide_eq_true (by first|(with_reducible assumption)|assumption)
             obtain ⟨ad115,e115,hx115_0⟩:=Kd.fA HR0.out x30_2 p115 q115
             cases e115
             replace p115:=eq_true p115
             replace q115:=eq_true q115
             go_wp2
             repeat (go_quiet (fail);try go_wp2)
             go_ret
             exact ⟨by first|rfl|(simp;done)|(simp [*];done)|(simp [*,aK,aM,bX];done)|(simp only [au,ak];done)|(simp only [au,ak];simp;done)|(simp only [au,ak];simp [*];done),by repeat (first|exact aJ.refl _|apply aJ.step)⟩
            ·rw [if_neg c16] at H
             have c16b0:decide (x30_2 < (wrap64 ((l0.length:Int) - 1)))=false:=decide_eq_false c16
             clear c16
             have H':=aa.mk H
             clear H
             have p115:0≤(x30_2:Int):=of_decide_eq_true (by first|(with_reducible assumption)|assumption)
             have q115:x30_2 < (l0.length:Int):=of_decide_eq_true (by first|(with_reducible assumption)|assumption)
             obtain ⟨ad115,e115,hx115_0⟩:=Kd.fA HR0.out x30_2 p115 q115
             cases e115
             replace p115:=eq_true p115
             replace q115:=eq_true q115
             go_wp2
             repeat (go_quiet (fail);try go_wp2)
             go_roundg k2
             case measure=>have:=HJ1.out;have:=HK2.out;omega
             case rel=>exact ⟨(wrap64 (x30_2+1)),(by first|rfl|(simp;done)|(simp [*];done)|(simp [*,aK,aM,bX];done)|(simp only [au,ak];done)|(simp only [au,ak];simp;done)|(simp only [au,ak];simp [*];done)),H',⟨by have:=HJ1.out;have:=HK2.out;omega⟩,by repeat (first|exact aJ.refl _|apply aJ.step)⟩
           ·rw [if_neg c15] at H
            have c15b0:decide (0 < x30_2)=false:=decide_eq_false c15
            clear c15
            have H':=aa.mk H
            clear H
            have p115:0≤(x30_2:Int):=of_decide_eq_true (by first|(with_reducible assumption)|assumption)
            have q115:x30_2 < (l0.length:Int):=of_decide_eq_true (by first|(with_reducible assumption)|assumption)
            obtain ⟨ad115,e115,hx115_0⟩:=Kd.fA HR0.out x30_2 p115 q115
            cases e115
            replace p115:=eq_true p115
            replace q115:=eq_true q115
            go_wp2
            repeat (go_quiet (fail);try go_wp2)
            go_roundg k2
            case measure=>have:=HJ1.out;have:=HK2.out;omega
            case rel=>exact ⟨(wrap64 (x30_2+1)),(by first|rfl|(simp;done)|(simp [*];done)|(simp [*,aK,aM,bX];done)|(simp only [au,ak];done)|(simp only [au,ak];simp;done)|(simp only [au,ak];simp [*];done)),H',⟨by have:=HJ1.out;have:=HK2.out;omega⟩,by repeat (first|exact aJ.refl _|apply aJ.step)⟩
          ·rw [if_neg c14] at H
           have c14b0:((bU ByteArray.empty l0 x30_2).toList == ([]:List UInt8))=false:=beq_eq_false_iff_ne.mpr c14
           have c14b1:((bU ByteArray.empty l0 x30_2).toList != ([]:List UInt8))=true:=bne_iff_ne.mpr c14
           have H':=aa.mk H
           clear H
           have p115:0≤(x30_2:Int):=of_decide_eq_true (by first|(with_reducible assumption)|assumption)
           have q115:x30_2 < (l0.length:Int):=of_decide_eq_true (by first|(with_reducible assumption)|assumption)
           obtain ⟨ad115,e115,hx115_0⟩:=Kd.fA HR0.out x30_2 p115 q115
           cases e115
           replace p115:=eq_true p115
           replace q115:=eq_true q115
           go_wp2
           repeat (go_quiet (fail);try go_wp2)
           go_roundg k2
           case measure=>have:=HJ1.out;have:=HK2.out;omega
           case rel=>exact ⟨(wrap64 (x30_2+1)),(by first|rfl|(simp;done)|(simp [*];done)|(simp [*,aK,aM,bX];done)|(simp only [au,ak];done)|(simp only [au,ak];simp;done)|(simp only [au,ak];simp [*];done)),H',⟨by have:=HJ1.out;have:=HK2.out;omega⟩,by repeat (first|exact aJ.refl _|apply aJ.step)⟩
        ·rw [if_neg c12] at H
         exact absurd H (by simp)
       ·rw [if_neg c11] at H
        exact absurd H (by simp)
      ·rw [if_neg c10] at H
       have c10b0:decide (x30_2 < (l0.length:Int))=false:=decide_eq_false c10
       clear c10
       obtain rfl:=Option.some.inj H
       go_wp2
       repeat (go_quiet (fail);try go_wp2)
       go_ret
       exact ⟨by first|rfl|(simp;done)|(simp [*];done)|(simp [*,aK,aM,bX];done)|(simp only [au,ak];done)|(simp only [au,ak];simp;done)|(simp only [au,ak];simp [*];done),by repeat (first|exact aJ.refl _|apply aJ.step)⟩
end Go.Proofs.YthfpaoacjpjnfaaGreatDoor.P


namespace Go.Proofs.YthfpaoacjpjnfaaGreatDoor.P
open Go.RowKit Go.Proofs.YthfpaoacjpjnfaaGreatDoorW.PrintWords Go.Proofs.YthfpaoacjpjnfaaGreatDoorW.PrintLast Go.Proofs.YthfpaoacjpjnfaaGreatDoorW.PrintMore
def kz (l:List ByteArray) (i:Nat):Bool:=decide ((bU ByteArray.empty l (i:Int)).size≤100) && !(decide ((bU ByteArray.empty l (i:Int)).toList=[]) && decide (0 < i) && decide (i+1 < l.length))
def fO (l:List ByteArray) (i:Nat):Nat→Bool
  | 0=>true
  | n+1=>kz l i && fO l (i+1) n
def gG (l:List ByteArray):Bool:=decide (2≤l.length) && decide (l.length≤8) && !(decide (l.length=2) && (decide ((bU ByteArray.empty l 0).toList=[]) && decide ((bU ByteArray.empty l 1).toList=[]))) && fO l 0 l.length
theorem uU (l:List ByteArray) (hl:l.length≤8):∀ (n i:Nat),l.length - i=n→i≤l.length→Ev (fun k=>aY.l0 k l l (l.length:Int) (i:Int)) (fO l i n):=by
  intro n
  induction n with
  | zero =>
    intro i hn hi
    have h1:¬ ((i:Int) < (l.length:Int)):=by omega
    exact Ev.step (fun k=>by rw [aY.l0]) (Ev.ifn (c:=(i:Int) < (l.length:Int)) h1 (Ev.now true))
  | succ n ih =>
    intro i hn hi
    have h1:(i:Int) < (l.length:Int):=by omega
    have hw:wrap64 ((i:Int)+1)=((i+1:Nat):Int):=by unfold wrap64;omega
    have hw2:wrap64 ((l.length:Int) - 1)=(l.length:Int) - 1:=by unfold wrap64;omega
    have hih:=ih (i+1) (by omega) (by omega)
    rw [← hw] at hih
    unfold fO kz
    refine Ev.step (fun k=>by rw [aY.l0]) (Ev.ifp h1 (Ev.ifp (by omega) (Ev.ifp h1 ?_)))
    by_cases c1:(bU ByteArray.empty l (i:Int)).size≤100
    · rw [decide_eq_true c1]
      refine Ev.ifn (by omega) ?_
      by_cases c2:(bU ByteArray.empty l (i:Int)).toList=[]
      · rw [decide_eq_true c2]
        refine Ev.ifp c2 ?_
        by_cases c3:0 < i
        · rw [decide_eq_true c3]
          refine Ev.ifp (by omega) ?_
          by_cases c4:i+1 < l.length
          · rw [decide_eq_true c4]
            exact Ev.ifp (by rw [hw2];omega) (Ev.now _)
          · rw [decide_eq_false c4]
            exact Ev.ifn (by rw [hw2];omega) hih
        · rw [decide_eq_false c3]
          exact Ev.ifn (by omega) hih
      · rw [decide_eq_false c2]
        exact Ev.ifn c2 hih
    · rw [decide_eq_false c1]
      exact Ev.ifp (by omega) (Ev.now _)
theorem nW (a b:ByteArray):(a++b).toList=[]↔a.toList=[]∧b.toList=[]:=by
  rw [toList_data,toList_data,toList_data,iK,List.append_eq_nil_iff]
theorem sD (l:List ByteArray) (hb:∀ i:Nat,i < l.length→(bU ByteArray.empty l (i:Int)).size≤4611686018427387903):Ev (fun k=>aY.f k l) (gG l):=by
  have jt:Ev (fun k=>aY.j0 k l true) false:=Ev.step (fun k=>by rw [aY.j0]) (Ev.ifp rfl (Ev.now _))
  unfold aY.f gG
  by_cases c1:2≤l.length
  · rw [decide_eq_true c1]
    refine Ev.ifn (by omega) ?_
    by_cases c2:l.length≤8
    · rw [decide_eq_true c2]
      refine Ev.ifn (by omega) ?_
      have jl:Ev (fun k=>aY.l0 k l l (l.length:Int) 0) (fO l 0 l.length):=uU l c2 l.length 0 (by omega) (by omega)
      have jf:Ev (fun k=>aY.j0 k l false) (fO l 0 l.length):=Ev.step (fun k=>by rw [aY.j0]) (Ev.ifn (c:=false=true) Bool.false_ne_true jl)
      by_cases c3:l.length=2
      · rw [decide_eq_true c3]
        have b0:=hb 0 (by omega)
        have b1:=hb 1 (by omega)
        refine Ev.ifp (by omega) (Ev.ifp (by omega) (Ev.ifp (by omega) (Ev.ifp (by
          have e0:(bU ByteArray.empty l ((0:Nat):Int))=bU ByteArray.empty l 0:=rfl
          have e1:(bU ByteArray.empty l ((1:Nat):Int))=bU ByteArray.empty l 1:=rfl
          rw [e0] at b0
          rw [e1] at b1
          omega) ?_)))
        by_cases c4:(bU ByteArray.empty l 0).toList=[]∧(bU ByteArray.empty l 1).toList=[]
        · rw [decide_eq_true c4.1,decide_eq_true c4.2]
          have e:((bU ByteArray.empty l 0++bU ByteArray.empty l 1).toList == ([]:List UInt8))=true:=beq_iff_eq.2 ((nW _ _).2 c4)
          rw [e]
          exact jt
        · have e:((bU ByteArray.empty l 0++bU ByteArray.empty l 1).toList == ([]:List UInt8))=false:=beq_eq_false_iff_ne.2 (fun h=>c4 ((nW _ _).1 h))
          rw [e]
          have e2:(decide ((bU ByteArray.empty l 0).toList=[]) && decide ((bU ByteArray.empty l 1).toList=[]))=false:=by
            cases h:(decide ((bU ByteArray.empty l 0).toList=[]) && decide ((bU ByteArray.empty l 1).toList=[])) with
            | false=>rfl
            | true=>rw [Bool.and_eq_true,decide_eq_true_eq,decide_eq_true_eq] at h;exact absurd h c4
          rw [e2]
          exact jf
      · rw [decide_eq_false c3]
        exact Ev.ifn (by omega) jf
    · rw [decide_eq_false c2]
      exact Ev.ifp (by omega) jt
  · rw [decide_eq_false c1]
    exact Ev.ifp (by omega) jt
def mh (a1 a2:ByteArray) (l3:List ByteArray):Bool:=decide (a1.toList=[]) && decide (a2.toList=[]) && decide (l3.length=0)
def gU (a1:ByteArray) (l4:List S25):Bool:=cZ a1.data.toList && decide (l4.length=0)
def bZ (a0:Int) (a1 a2:ByteArray) (l3:List ByteArray) (l4:List S25) (deepOk kidsOk:Bool):Bool :=
  if a0=1∨a0=2 then mh a1 a2 l3 && decide (l4.length≤40) && (deepOk && kidsOk)
  else if a0=3 then mh a1 a2 l3 && decide (l4.length=1) && (deepOk && kidsOk)
  else if a0=4∨a0=6∨a0=7 then gU a1 l4 && decide (l3.length=0) && decide (a2.size≤100)
  else if a0=5 then gU a1 l4 && decide (a2.toList=[]) && gG l3
  else if a0=8 then gU a1 l4 && decide (a2.toList=[]) && decide (l3.length=0)
  else false
def jP:Nat→S25→Bool
  | 0,f=>bZ f.f0 f.f1 f.f2 f.f3 f.f4 (decide (f.f4.length=0)) true
  | n+1,f=>bZ f.f0 f.f1 f.f2 f.f3 f.f4 true (f.f4.all (jP n))
def szF:Nat→S25→Prop
  | 0,f=>∀ i:Nat,i < f.f3.length→(bU ByteArray.empty f.f3 (i:Int)).size≤4611686018427387903
  | n+1,f=>(∀ i:Nat,i < f.f3.length→(bU ByteArray.empty f.f3 (i:Int)).size≤4611686018427387903)∧∀ x ∈ f.f4,szF n x
theorem qy {n:Nat} {f:S25} (h:szF n f):∀ i:Nat,i < f.f3.length→(bU ByteArray.empty f.f3 (i:Int)).size≤4611686018427387903:=by
  cases n with
  | zero=>exact h
  | succ n=>exact h.1
theorem xZ {l:List S25} {i:Nat} (h:i < l.length):bi l (i:Int) ∈ l:=by
  unfold bi
  rw [Int.toNat_natCast,List.getD_eq_getElem?_getD,List.getElem?_eq_getElem h]
  exact List.getElem_mem h
theorem rX (l:List S25) (q:S25→Bool):gD (fun i=>!q (bi l (i:Int))) l.length=!l.all q:=by
  unfold gD
  induction l with
  | nil=>rfl
  | cons a r ih =>
    rw [List.length_cons,List.range_succ_eq_map,List.any_cons,List.any_map,List.all_cons]
    have:((fun i:Nat=>!q (bi (a :: r) (i:Int))) ∘ Nat.succ)=fun i:Nat=>!q (bi r (i:Int)):=by
      funext j
      show (!q (bi (a :: r) ((j+1:Nat):Int)))=_
      unfold bi
      rw [Int.toNat_natCast,Int.toNat_natCast]
      rfl
    rw [this,ih]
    have h0:bi (a :: r) ((0:Nat):Int)=a:=rfl
    rw [h0]
    cases q a <;> simp
set_option maxHeartbeats 2000000 in
theorem yN (B n0 cap:Nat) (f:Nat→Int) (g:Nat) (lb:Array Value) (p:Nat→Bool) (w:World) (eg:∀ args w,(callFunc g args).run Tryz.prog w=.ok (.enter g args) w)
    (hr:iR w B n0 f) (hB:B < w.heap.size) (hl:n0≤4611686018427387904)
    (hp:∀ i:Nat,i < n0→∀ (W:World),Below w.heap.size w W→Calls Tryz.prog g (#[.int .u8 (f i)]++lb) W fun e w'=>e=.returned (.bool (p i))∧Below w.heap.size w w') :
    Calls Tryz.prog 96 #[.slice (some ⟨B,0,none⟩) n0 cap,.func (.func g) #[] lb] w fun e w'=>e=.returned (.int .i64 (dY p n0))∧Below w.heap.size w w':=by
  obtain ⟨n,hn⟩:∃ n,n0=n:=⟨_,rfl⟩
  go_enter Tryz.func96,Tryz.ntmps96
  go_wp2
  rw [hn]
  go_loopg [5,8] n (fun gg _ s8 wr=>∃ kk:Nat,kk≤n∧n - kk≤gg∧s8=.int .i64 kk∧aa (Below w.heap.size w wr)∧aa (∀ j,j < kk→p j=false))
  case atStart=>exact ⟨0,Nat.zero_le _,by omega,rfl,⟨Below.refl _ w⟩,⟨fun j hj=>absurd hj (Nat.not_lt_zero _)⟩⟩
  case round =>
    obtain ⟨kk,hkk,hg,rfl,BW,AW⟩:=hrel
    by_cases hlt:kk < n
    · have hltz:(kk:Int) < (n:Int):=by omega
      have x0:=(tX hr hB BW.out).cell kk (by omega)
      have hcall:=hp kk (by omega) wr BW.out
      clear hr
      clear hp
      cases hq:p kk with
      | true =>
        rw [hq] at hcall
        have HQ:=Lib.hid hq
        clear hq
        go_wp2_with (go_at_fn g;refine hcall.mono ?_;rintro e w' ⟨rfl,hb'⟩)
        go_ret
        refine ⟨?_,hb'⟩
        first|rw [show dY p (n0)=(kk:Int) from by rw [hn];exact fT p n kk hlt HQ.out AW.out]|rw [fT p n kk hlt HQ.out AW.out]
        first|rfl|simp
      | false =>
        rw [hq] at hcall
        have HQ:=Lib.hid hq
        clear hq
        go_wp2_with (go_at_fn g;refine hcall.mono ?_;rintro e w' ⟨rfl,hb'⟩)
        go_roundg (n - (kk+1))
        case measure=>omega
        case rel =>
          refine ⟨kk+1,by omega,by omega,by go_num,⟨hb'⟩,⟨fun j hj=>?_⟩⟩
          by_cases e:j=kk
          · subst e;exact HQ.out
          · exact AW.out j (by omega)
    · have hltz:¬ (kk:Int) < (n:Int):=by omega
      have:kk=n:=by omega
      subst this
      clear hp
      go_wp2
      go_ret
      refine ⟨?_,BW.out⟩
      first|rw [show dY p kk=-1 from fq p kk AW.out]|rw [show dY p (n0)=-1 from by rw [hn];exact fq p kk AW.out]
      first|rfl|simp
theorem qi (B n0 cap:Nat) (f:Nat→Int) (g:Nat) (lb:Array Value) (p:Nat→Bool) (w:World) (eg:∀ args w,(callFunc g args).run Tryz.prog w=.ok (.enter g args) w)
    (hr:iR w B n0 f) (hB:B < w.heap.size) (hl:n0≤4611686018427387904)
    (hp:∀ i:Nat,i < n0→∀ (W:World),Below w.heap.size w W→Calls Tryz.prog g (#[.int .u8 (f i)]++lb) W fun e w'=>e=.returned (.bool (p i))∧Below w.heap.size w w') :
    Calls Tryz.prog 76 #[.slice (some ⟨B,0,none⟩) n0 cap,.func (.func g) #[] lb] w fun e w'=>e=.returned (.bool (gD p (n0)))∧Below w.heap.size w w':=by
  rw [← kG]
  have hI:=yN B n0 cap f g lb p w eg hr hB hl hp
  clear hp
  go_enter Tryz.func76,Tryz.ntmps76
  go_wp2_with (go_at_call 96;refine hI.mono ?_;rintro e w' ⟨rfl,hb'⟩)
  go_ret
  exact ⟨rfl,hb'⟩
end Go.Proofs.YthfpaoacjpjnfaaGreatDoor.P

namespace Go.Proofs.YthfpaoacjpjnfaaGreatDoor.P
open Go.RowKit Go.Proofs.YthfpaoacjpjnfaaGreatDoorW.PrintWords Go.Proofs.YthfpaoacjpjnfaaGreatDoorW.PrintLast Go.Proofs.YthfpaoacjpjnfaaGreatDoorW.PrintMore
attribute [local go_sem] dP dS eP eO dE dD dQ dR
def dK.f (a0:Int):Option (Bool):=if 97≤a0 then (if a0≤122 then (some true) else (if 65≤a0 then (some (decide (a0≤90))) else (some false))) else (if 65≤a0 then (some (decide (a0≤90))) else (some false))
set_option maxHeartbeats 8000000 in
set_option maxRecDepth 100000 in
theorem dK.calls (a0:Int) (r:Bool) (w:World) (h:dK.f a0=some r) :
  Calls Tryz.prog 75 #[.int .u8 a0] w fun e w'=>e=.returned (.bool r)∧aJ w w':=by
 have H:(if 97≤a0 then (if a0≤122 then (some true) else (if 65≤a0 then (some (decide (a0≤90))) else (some false))) else (if 65≤a0 then (some (decide (a0≤90))) else (some false)))=some r:=h
 clear h
 by_cases c2:97≤a0
 ·rw [if_pos c2] at H
  have c2b0:decide (97≤a0)=true:=decide_eq_true c2
  clear c2
  by_cases c3:a0≤122
  ·rw [if_pos c3] at H
   have c3b0:decide (a0≤122)=true:=decide_eq_true c3
   clear c3
   obtain rfl:=Option.some.inj H
   go_enter Tryz.func75,Tryz.ntmps75
   go_wp2
   go_ret
   exact ⟨by first|rfl|(simp;done)|(simp [*];done)|(simp [*,aK,aM,bX];done)|(simp only [au,ak];done)|(simp only [au,ak];simp;done)|(simp only [au,ak];simp [*];done),by repeat (first|exact aJ.refl _|apply aJ.step)⟩
  ·rw [if_neg c3] at H
   have c3b0:decide (a0≤122)=false:=decide_eq_false c3
   clear c3
   by_cases c4:65≤a0
   ·rw [if_pos c4] at H
    have c4b0:decide (65≤a0)=true:=decide_eq_true c4
    clear c4
    obtain rfl:=Option.some.inj H
    go_enter Tryz.func75,Tryz.ntmps75
    go_wp2
    go_ret
    exact ⟨by first|rfl|(simp;done)|(simp [*];done)|(simp [*,aK,aM,bX];done)|(simp only [au,ak];done)|(simp only [au,ak];simp;done)|(simp only [au,ak];simp [*];done),by repeat (first|exact aJ.refl _|apply aJ.step)⟩
   ·rw [if_neg c4] at H
    have c4b0:decide (65≤a0)=false:=decide_eq_false c4
    clear c4
    obtain rfl:=Option.some.inj H
    go_enter Tryz.func75,Tryz.ntmps75
    go_wp2
    go_ret
    exact ⟨by first|rfl|(simp;done)|(simp [*];done)|(simp [*,aK,aM,bX];done)|(simp only [au,ak];done)|(simp only [au,ak];simp;done)|(simp only [au,ak];simp [*];done),by repeat (first|exact aJ.refl _|apply aJ.step)⟩
 ·rw [if_neg c2] at H
  have c2b0:decide (97≤a0)=false:=decide_eq_false c2
  clear c2
  by_cases c5:65≤a0
  ·rw [if_pos c5] at H
   have c5b0:decide (65≤a0)=true:=decide_eq_true c5
   clear c5
   obtain rfl:=Option.some.inj H
   go_enter Tryz.func75,Tryz.ntmps75
   go_wp2
   go_ret
   exact ⟨by first|rfl|(simp;done)|(simp [*];done)|(simp [*,aK,aM,bX];done)|(simp only [au,ak];done)|(simp only [au,ak];simp;done)|(simp only [au,ak];simp [*];done),by repeat (first|exact aJ.refl _|apply aJ.step)⟩
  ·rw [if_neg c5] at H
   have c5b0:decide (65≤a0)=false:=decide_eq_false c5
   clear c5
   obtain rfl:=Option.some.inj H
   go_enter Tryz.func75,Tryz.ntmps75
   go_wp2
   go_ret
   exact ⟨by first|rfl|(simp;done)|(simp [*];done)|(simp [*,aK,aM,bX];done)|(simp only [au,ak];done)|(simp only [au,ak];simp;done)|(simp only [au,ak];simp [*];done),by repeat (first|exact aJ.refl _|apply aJ.step)⟩
def iM.f (a0:Int):Option (Bool):=(dK.f a0).bind fun t116=>(if t116=true then (some true) else (if 48≤a0 then (if a0≤57 then (some true) else (some (a0 == 45))) else (some (a0 == 45))))
set_option maxHeartbeats 8000000 in
set_option maxRecDepth 100000 in
theorem iM.calls (a0:Int) (r:Bool) (w:World) (h:iM.f a0=some r) :
  Calls Tryz.prog 78 #[.int .u8 a0] w fun e w'=>e=.returned (.bool r)∧aJ w w':=by
 have H:((dK.f a0).bind fun t116=>(if t116=true then (some true) else (if 48≤a0 then (if a0≤57 then (some true) else (some (a0 == 45))) else (some (a0 == 45)))))=some r:=h
 clear h
 replace H:=Option.bind_eq_some_iff.mp H
 obtain ⟨t116,A20,H⟩:=H
 replace H:(if t116=true then (some true) else (if 48≤a0 then (if a0≤57 then (some true) else (some (a0 == 45))) else (some (a0 == 45))))=some r:=H
 have A2:=aa.mk A20
 clear A20
 by_cases c3:t116=true
 ·subst c3
  have H1:(some true)=some r:=by rw [if_pos rfl] at H;exact H
  clear H
  have H:=H1
  clear H1
  obtain rfl:=Option.some.inj H
  go_enter Tryz.func78,Tryz.ntmps78
  go_wp2_with (first|((with_reducible refine aH (f:=75) rfl ?_);refine bq (some 4) rfl rfl Tryz.func75 (by kernel_rfl) rfl #[.int .u8 a0] rfl (by (try simp only [List.map_toArray,List.map_cons,List.map_nil]);first|done|rfl|(simp only [List.length_drop,List.length_take];rfl)) ?_;(with_reducible refine (dK.calls a0 true _ A2.out).mono ?_);rintro e w' ⟨rfl,⟨nd,rfl⟩⟩;refine ⟨_,rfl,?_⟩))
  go_ret
  exact ⟨by first|rfl|(simp;done)|(simp [*];done)|(simp [*,aK,aM,bX];done)|(simp only [au,ak];done)|(simp only [au,ak];simp;done)|(simp only [au,ak];simp [*];done),by repeat (first|exact aJ.refl _|apply aJ.step)⟩
 ·replace c3:=Bool.eq_false_iff.mpr c3
  subst c3
  have H1:(if 48≤a0 then (if a0≤57 then (some true) else (some (a0 == 45))) else (some (a0 == 45)))=some r:=by rw [if_neg (show ¬ (false=true) by decide)] at H;exact H
  clear H
  have H:=H1
  clear H1
  by_cases c4:48≤a0
  ·rw [if_pos c4] at H
   have c4b0:decide (48≤a0)=true:=decide_eq_true c4
   clear c4
   by_cases c5:a0≤57
   ·rw [if_pos c5] at H
    have c5b0:decide (a0≤57)=true:=decide_eq_true c5
    clear c5
    obtain rfl:=Option.some.inj H
    go_enter Tryz.func78,Tryz.ntmps78
    go_wp2_with (first|((with_reducible refine aH (f:=75) rfl ?_);refine bq (some 4) rfl rfl Tryz.func75 (by kernel_rfl) rfl #[.int .u8 a0] rfl (by (try simp only [List.map_toArray,List.map_cons,List.map_nil]);first|done|rfl|(simp only [List.length_drop,List.length_take];rfl)) ?_;(with_reducible refine (dK.calls a0 false _ A2.out).mono ?_);rintro e w' ⟨rfl,⟨nd,rfl⟩⟩;refine ⟨_,rfl,?_⟩))
    go_ret
    exact ⟨by first|rfl|(simp;done)|(simp [*];done)|(simp [*,aK,aM,bX];done)|(simp only [au,ak];done)|(simp only [au,ak];simp;done)|(simp only [au,ak];simp [*];done),by repeat (first|exact aJ.refl _|apply aJ.step)⟩
   ·rw [if_neg c5] at H
    have c5b0:decide (a0≤57)=false:=decide_eq_false c5
    clear c5
    obtain rfl:=Option.some.inj H
    go_enter Tryz.func78,Tryz.ntmps78
    go_wp2_with (first|((with_reducible refine aH (f:=75) rfl ?_);refine bq (some 4) rfl rfl Tryz.func75 (by kernel_rfl) rfl #[.int .u8 a0] rfl (by (try simp only [List.map_toArray,List.map_cons,List.map_nil]);first|done|rfl|(simp only [List.length_drop,List.length_take];rfl)) ?_;(with_reducible refine (dK.calls a0 false _ A2.out).mono ?_);rintro e w' ⟨rfl,⟨nd,rfl⟩⟩;refine ⟨_,rfl,?_⟩))
    go_ret
    exact ⟨by first|rfl|(simp;done)|(simp [*];done)|(simp [*,aK,aM,bX];done)|(simp only [au,ak];done)|(simp only [au,ak];simp;done)|(simp only [au,ak];simp [*];done),by repeat (first|exact aJ.refl _|apply aJ.step)⟩
  ·rw [if_neg c4] at H
   have c4b0:decide (48≤a0)=false:=decide_eq_false c4
   clear c4
   obtain rfl:=Option.some.inj H
   go_enter Tryz.func78,Tryz.ntmps78
   go_wp2_with (first|((with_reducible refine aH (f:=75) rfl ?_);refine bq (some 4) rfl rfl Tryz.func75 (by kernel_rfl) rfl #[.int .u8 a0] rfl (by (try simp only [List.map_toArray,List.map_cons,List.map_nil]);first|done|rfl|(simp only [List.length_drop,List.length_take];rfl)) ?_;(with_reducible refine (dK.calls a0 false _ A2.out).mono ?_);rintro e w' ⟨rfl,⟨nd,rfl⟩⟩;refine ⟨_,rfl,?_⟩))
   go_ret
   exact ⟨by first|rfl|(simp;done)|(simp [*];done)|(simp [*,aK,aM,bX];done)|(simp only [au,ak];done)|(simp only [au,ak];simp;done)|(simp only [au,ak];simp [*];done),by repeat (first|exact aJ.refl _|apply aJ.step)⟩
end Go.Proofs.YthfpaoacjpjnfaaGreatDoor.P


namespace Go.Proofs.YthfpaoacjpjnfaaGreatDoor.P
open Go.RowKit Go.Proofs.YthfpaoacjpjnfaaGreatDoorW.PrintWords Go.Proofs.YthfpaoacjpjnfaaGreatDoorW.PrintLast Go.Proofs.YthfpaoacjpjnfaaGreatDoorW.PrintMore
theorem ul (c:UInt8):dK.f (c.toNat:Int)=some (iJ c):=dL (p:=fun c=>dK.f (c.toNat:Int)=some (iJ c)) (by decide +kernel) c
theorem xx (c:UInt8):iM.f (c.toNat:Int)=some (dH c):=dL (p:=fun c=>iM.f (c.toNat:Int)=some (dH c)) (by decide +kernel) c
theorem su (c:UInt8) (w:World) :
    Calls Tryz.prog 77 (#[.int .u8 (c.toNat:Int)]++#[]) w fun e w'=>e=.returned (.bool (!dH c))∧Below w.heap.size w w':=by
  have HN:=aa.mk (xx c)
  show Calls Tryz.prog 77 #[.int .u8 (c.toNat:Int)] w _
  go_enter Tryz.func77,Tryz.ntmps77
  go_wp2_with (go_at_call 78;refine (iM.calls _ _ _ HN.out).mono ?_;rintro e w' ⟨rfl,⟨nq,rfl⟩⟩)
  go_ret
  exact ⟨rfl,ae (Below.refl _ _) _⟩
theorem qf (l:List UInt8):(List.range l.length).any (fun j=>!dH (l.getD j 0))=!l.all dH:=by
  have:∀ (m:List UInt8) (k:Nat),((List.range m.length).any fun j=>!dH (m.getD j 0))=!m.all dH:=by
    intro m k
    induction m with
    | nil=>rfl
    | cons a r ih =>
      rw [List.length_cons,List.range_succ_eq_map,List.any_cons,List.any_map,List.all_cons]
      have:((fun j=>!dH ((a :: r).getD j 0)) ∘ Nat.succ)=fun j=>!dH (r.getD j 0):=by funext j;rfl
      rw [this,ih]
      cases h:dH a <;> simp [h]
  exact this l 0
set_option maxHeartbeats 8000000 in
theorem mW (a0:ByteArray) (w:World) :
    Calls Tryz.prog 49 #[.string a0] w fun e w'=>e=.returned (.bool (cZ a0.data.toList))∧Below w.heap.size w w':=by
  have hcv:=fun W=>Lib.run_convert_string_bytes (P:=Tryz.prog) W 9 34 5 a0 (u:=.string) Tryz.underlying9 Tryz.underlying34 Tryz.underlying5
  by_cases h0:a0.toList=[]
  · have hr:cZ a0.data.toList=false:=by rw [← toList_data,h0];rfl
    have b0:(a0.toList == ([]:List UInt8))=true:=beq_iff_eq.2 h0
    rw [hr]
    clear hr h0
    go_enter Tryz.func49,Tryz.ntmps49
    go_wp2
    go_ret
    exact ⟨rfl,Below.refl _ _⟩
  · have b0:(a0.toList == ([]:List UInt8))=false:=beq_eq_false_iff_ne.2 h0
    have hp:0 < a0.size:=Nat.pos_of_ne_zero fun h=>h0 ((kL a0).2 h)
    have he:a0.data.toList.isEmpty=false:=by rw [← toList_data];cases hh:a0.toList with|nil=>exact absurd hh h0|cons _ _=>rfl
    by_cases h3:a0.size≤30
    · have d3:decide (30 < a0.size)=false:=decide_eq_false (by omega)
      have d3':decide ((30:Int) < (a0.size:Int))=false:=decide_eq_false (by omega)
      have hx0:∀ h:0 < a0.size,((a0[0]'h).toNat:Int)=bt a0 0:=dJ a0 0
      have qi0:((0:Int) < (a0.size:Int))=True:=eq_true (by omega)
      have q0:(0 < a0.size)=True:=eq_true hp
      clear hp
      have hL0:=ul (a0.data.toList.getD 0 0)
      rw [← oP a0 0] at hL0
      have HL0:=Lib.hid hL0
      clear hL0
      by_cases hl:iJ (a0.data.toList.getD 0 0)=true
      · rw [hl] at HL0
        have hr:cZ a0.data.toList=!(!a0.data.toList.all dH):=by
          unfold cZ
          rw [he,hl,decide_eq_true (by rw [← bL];exact h3)]
          cases a0.data.toList.all dH <;> rfl
        rw [hr,← qf]
        clear hr
        have eg:∀ args w,(callFunc 77 args).run Tryz.prog w=.ok (.enter 77 args) w:=enters_of Tryz.func77 (by kernel_rfl) rfl
        have ct:∀ (W:World) (nq cap:Nat),W=Lib.bytesWorld (w.drewN nq) 5 a0→Calls Tryz.prog 76 #[.slice (some ⟨w.heap.size,0,none⟩) a0.size cap,.func (.func 77) #[] #[]] W fun e w'=>e=.returned (.bool ((List.range a0.data.toList.length).any fun j=>!dH (a0.data.toList.getD j 0)))∧Below w.heap.size w w':=by
          intro W nq cap hW
          subst hW
          have hlt:w.heap.size < (Lib.bytesWorld (w.drewN nq) 5 a0).heap.size:=by
            have h:=(lX w nq a0).cell 0 (of_eq_true q0)
            exact World.block_lt_of_cell? (Lib.bytesWorld (w.drewN nq) 5 a0) _ h
          have h:=qi w.heap.size a0.size cap (fun j=>((a0.data.toList.getD j 0).toNat:Int)) 77 #[] (fun j=>!dH (a0.data.toList.getD j 0)) (Lib.bytesWorld (w.drewN nq) 5 a0) eg (lX w nq a0) hlt (by omega) (fun i hi W' hb'=>by
            refine (su (a0.data.toList.getD i 0) W').mono ?_
            rintro e w' ⟨rfl,hb2⟩
            exact ⟨rfl,aA hb' hb2⟩)
          refine h.mono ?_
          rintro e w' ⟨rfl,hb⟩
          refine ⟨?_,jT (nV w nq a0) (Nat.le_of_lt hlt) hb⟩
          unfold gD
          rw [bL]
        have CT:=aa.mk ct
        clear ct eg h3
        obtain ⟨R,hR⟩:∃ R,((List.range a0.data.toList.length).any fun j=>!dH (a0.data.toList.getD j 0))=R:=⟨_,rfl⟩
        rw [hR] at CT ⊢
        clear hR
        go_enter Tryz.func49,Tryz.ntmps49
        go_wp2_with (first|(go_at_call 75;refine (dK.calls _ _ _ HL0.out).mono ?_;rintro e w' ⟨rfl,⟨nq,rfl⟩⟩)|(go_at_call 76;refine (CT.out _ nq _ (by rfl)).mono ?_;rintro e w2 ⟨rfl,hb⟩))
        go_ret
        exact ⟨rfl,hb⟩
      · replace hl:=Bool.eq_false_iff.2 hl
        rw [hl] at HL0
        have hr:cZ a0.data.toList=false:=by
          unfold cZ
          rw [he,hl]
          simp
        rw [hr]
        clear hr h3
        go_enter Tryz.func49,Tryz.ntmps49
        go_wp2_with (go_at_call 75;refine (dK.calls _ _ _ HL0.out).mono ?_;rintro e w' ⟨rfl,⟨nq,rfl⟩⟩)
        go_ret
        exact ⟨rfl,ae (Below.refl _ _) _⟩
    · have d3:decide (30 < a0.size)=true:=decide_eq_true (by omega)
      have d3':decide ((30:Int) < (a0.size:Int))=true:=decide_eq_true (by omega)
      have hr:cZ a0.data.toList=false:=by
        unfold cZ
        rw [decide_eq_false (by rw [← bL];exact h3)]
        simp
      rw [hr]
      clear hr h3 hp
      go_enter Tryz.func49,Tryz.ntmps49
      go_wp2
      go_ret
      exact ⟨rfl,Below.refl _ _⟩
set_option maxHeartbeats 2000000 in
theorem uF (A0:Option Addr) (c0:Nat) (l0:List S25) (g:Nat) (lb:Array Value) (p:Nat→Bool) (w:World) (eg:∀ args w,(callFunc g args).run Tryz.prog w=.ok (.enter g args) w)
    (hr:Kd.C k25 w A0 l0.length l0) (hp:∀ i:Nat,i < l0.length→∀ (W:World) (A3:Option Addr) (c3:Nat) (A4:Option Addr) (c4:Nat),Below w.heap.size w W→(bi l0 (i:Int)).f3.length≤c3→Kd.string.C W A3 (bi l0 (i:Int)).f3.length (bi l0 (i:Int)).f3→(bi l0 (i:Int)).f4.length≤c4→Kd.C k25 W A4 (bi l0 (i:Int)).f4.length (bi l0 (i:Int)).f4→Calls Tryz.prog g (#[.agg #[.int .i64 (bi l0 (i:Int)).f0,.string (bi l0 (i:Int)).f1,.string (bi l0 (i:Int)).f2,.slice A3 (bi l0 (i:Int)).f3.length c3,.slice A4 (bi l0 (i:Int)).f4.length c4]]++lb) W fun e w'=>e=.returned (.bool (p i))∧Below w.heap.size w w') :
    Calls Tryz.prog 79 #[.slice A0 l0.length c0,.func (.func g) #[] lb] w fun e w'=>e=.returned (.int .i64 (dY p l0.length))∧Below w.heap.size w w':=by
  have hl:=hr.2.1
  obtain ⟨n,hn⟩:∃ n,l0.length=n:=⟨_,rfl⟩
  go_enter Tryz.func79,Tryz.ntmps79
  go_wp2
  rw [hn]
  go_loopg [5,8] n (fun gg _ s8 wr=>∃ kk:Nat,kk≤n∧n - kk≤gg∧s8=.int .i64 kk∧aa (Below w.heap.size w wr)∧aa (∀ j,j < kk→p j=false))
  case atStart=>exact ⟨0,Nat.zero_le _,by omega,rfl,⟨Below.refl _ w⟩,⟨fun j hj=>absurd hj (Nat.not_lt_zero _)⟩⟩
  case round =>
    obtain ⟨kk,hkk,hg,rfl,BW,AW⟩:=hrel
    by_cases hlt:kk < n
    · have hltz:(kk:Int) < (n:Int):=by omega
      obtain ⟨ad,A3,c3,A4,c4,rfl,x0,x1,x2,x3,x4,lc3,g3,lc4,g4⟩:=uM (Kd.bP hr BW.out) (kk:Int) (by omega) (by omega)
      rw [Int.toNat_natCast] at x0 x1 x2 x3 x4
      have hcall:=hp kk (by omega) wr A3 c3 A4 c4 BW.out lc3 g3 lc4 g4
      clear g3 g4 hr
      clear hp
      cases hq:p kk with
      | true =>
        rw [hq] at hcall
        have HQ:=Lib.hid hq
        clear hq
        go_wp2_with (go_at_fn g;refine hcall.mono ?_;rintro e w' ⟨rfl,hb'⟩)
        go_ret
        refine ⟨?_,hb'⟩
        first|rw [show dY p (l0.length)=(kk:Int) from by rw [hn];exact fT p n kk hlt HQ.out AW.out]|rw [fT p n kk hlt HQ.out AW.out]
        first|rfl|simp
      | false =>
        rw [hq] at hcall
        have HQ:=Lib.hid hq
        clear hq
        go_wp2_with (go_at_fn g;refine hcall.mono ?_;rintro e w' ⟨rfl,hb'⟩)
        go_roundg (n - (kk+1))
        case measure=>omega
        case rel =>
          refine ⟨kk+1,by omega,by omega,by go_num,⟨hb'⟩,⟨fun j hj=>?_⟩⟩
          by_cases e:j=kk
          · subst e;exact HQ.out
          · exact AW.out j (by omega)
    · have hltz:¬ (kk:Int) < (n:Int):=by omega
      have:kk=n:=by omega
      subst this
      clear hp
      go_wp2
      go_ret
      refine ⟨?_,BW.out⟩
      first|rw [show dY p kk=-1 from fq p kk AW.out]|rw [show dY p (l0.length)=-1 from by rw [hn];exact fq p kk AW.out]
      first|rfl|simp
theorem kw (A0:Option Addr) (c0:Nat) (l0:List S25) (g:Nat) (lb:Array Value) (p:Nat→Bool) (w:World) (eg:∀ args w,(callFunc g args).run Tryz.prog w=.ok (.enter g args) w)
    (hr:Kd.C k25 w A0 l0.length l0) (hp:∀ i:Nat,i < l0.length→∀ (W:World) (A3:Option Addr) (c3:Nat) (A4:Option Addr) (c4:Nat),Below w.heap.size w W→(bi l0 (i:Int)).f3.length≤c3→Kd.string.C W A3 (bi l0 (i:Int)).f3.length (bi l0 (i:Int)).f3→(bi l0 (i:Int)).f4.length≤c4→Kd.C k25 W A4 (bi l0 (i:Int)).f4.length (bi l0 (i:Int)).f4→Calls Tryz.prog g (#[.agg #[.int .i64 (bi l0 (i:Int)).f0,.string (bi l0 (i:Int)).f1,.string (bi l0 (i:Int)).f2,.slice A3 (bi l0 (i:Int)).f3.length c3,.slice A4 (bi l0 (i:Int)).f4.length c4]]++lb) W fun e w'=>e=.returned (.bool (p i))∧Below w.heap.size w w') :
    Calls Tryz.prog 51 #[.slice A0 l0.length c0,.func (.func g) #[] lb] w fun e w'=>e=.returned (.bool (gD p (l0.length)))∧Below w.heap.size w w':=by
  rw [← kG]
  have hI:=uF A0 c0 l0 g lb p w eg hr  hp
  clear hp
  go_enter Tryz.func51,Tryz.ntmps51
  go_wp2_with (go_at_call 79;refine hI.mono ?_;rintro e w' ⟨rfl,hb'⟩)
  go_ret
  exact ⟨rfl,hb'⟩
theorem zX (a:ByteArray):(a.toList == ([]:List UInt8))=decide (a.toList=[]):=by
  by_cases h:a.toList=[]
  · rw [decide_eq_true h];exact beq_iff_eq.2 h
  · rw [decide_eq_false h];exact beq_eq_false_iff_ne.2 h
theorem Aa (n m:Nat):((n:Int) == (m:Int))=decide (n=m):=by
  by_cases h:n=m
  · rw [decide_eq_true h];exact beq_iff_eq.2 (by omega)
  · rw [decide_eq_false h];exact beq_eq_false_iff_ne.2 (by omega)
set_option maxHeartbeats 4000000 in
set_option maxRecDepth 100000 in
theorem tC (n:Nat) (deepOk kidsOk:Bool) (a0:Int) (a1 a2:ByteArray) (A3:Option Addr) (c3:Nat) (l3:List ByteArray) (A4:Option Addr) (c4:Nat) (l4:List S25) (w:World)
    (hr3:Kd.C Kd.string w A3 l3.length l3) (hc3:l3.length≤c3) (hd:deepOk=!(decide (0 < l4.length) && decide (n < 1)))
    (hsz:∀ i:Nat,i < l3.length→(bU ByteArray.empty l3 (i:Int)).size≤4611686018427387903)
    (hk:deepOk=true→∀ W:World,Below w.heap.size w W→W.cell? ⟨w.heap.size+1,0,none⟩=some (.int .i64 (n:Int)) →
        Calls Tryz.prog 51 #[.slice A4 l4.length c4,.func (.func 52) #[] #[.pointer (some ⟨w.heap.size+1,0,none⟩)]] W fun e w'=>e=.returned (.bool (!kidsOk))∧Below W.heap.size W w') :
    Calls Tryz.prog 33 #[.agg #[.int .i64 a0,.string a1,.string a2,.slice A3 l3.length c3,.slice A4 l4.length c4],.int .i64 (n:Int)] w fun e w'=>e=.returned (.bool (bZ a0 a1 a2 l3 l4 deepOk kidsOk))∧Below w.heap.size w w':=by
  have hu:=Tryz.underlying25
  have HR:=aa.mk hr3
  have HC:=aa.mk hc3
  have HK:=aa.mk hk
  have HD:=aa.mk hd
  have HS:=aa.mk hsz
  clear hr3 hc3 hk hd hsz
  go_enter Tryz.func33,Tryz.ntmps33
  go_upto_region 1 with (fail)
  obtain ⟨w0,hw0⟩:∃ w0,(w.alloc (.cells #[.int .i64 a0,.string a1,.string a2,.slice A3 l3.length c3,.slice A4 l4.length c4] 25)).alloc (.cells #[.int .i64 (n:Int)] 3)=w0:=⟨_,rfl⟩
  have k0:w0.cell? ⟨w.heap.size,0,none⟩=some (.int .i64 a0):=by rw [← hw0];simp [go_sem]
  have k1:w0.cell? ⟨w.heap.size,1,none⟩=some (.string a1):=by rw [← hw0];simp [go_sem]
  have k2:w0.cell? ⟨w.heap.size,2,none⟩=some (.string a2):=by rw [← hw0];simp [go_sem]
  have k3:w0.cell? ⟨w.heap.size,3,none⟩=some (.slice A3 l3.length c3):=by rw [← hw0];simp [go_sem]
  have k4:w0.cell? ⟨w.heap.size,4,none⟩=some (.slice A4 l4.length c4):=by rw [← hw0];simp [go_sem]
  have kd:w0.cell? ⟨w.heap.size+1,0,none⟩=some (.int .i64 (n:Int)):=by rw [← hw0];simp [go_sem]
  have kB:Below w.heap.size w w0:=by rw [← hw0];exact af (af (Below.refl _ _) _) _
  rw [hw0]
  clear hw0
  have KB:=aa.mk kB
  clear kB
  have QB:=aa.mk (show mh a1 a2 l3=((a1.toList == ([]:List UInt8)) && (a2.toList == ([]:List UInt8)) && ((l3.length:Int) == 0)) by
    unfold mh;rw [zX,zX,← Aa];rfl)
  go_cut [5] from 7 to 20 (fun s wx=>s=.bool (mh a1 a2 l3)∧wx=w0)
  case first =>
    obtain ⟨x1,b1⟩:∃ x,(a1.toList == ([]:List UInt8))=x:=⟨_,rfl⟩
    obtain ⟨x2,b2⟩:∃ x,(a2.toList == ([]:List UInt8))=x:=⟨_,rfl⟩
    obtain ⟨x3,b3⟩:∃ x,((l3.length:Int) == 0)=x:=⟨_,rfl⟩
    cases x1 <;> cases x2 <;> cases x3 <;> (go_wp2;go_meet;exact ⟨congrArg Value.bool (by rw [QB.out,b1,b2,b3];rfl),rfl⟩)
  case rest =>
    obtain ⟨rfl,rfl⟩:=hcut
    clear QB
    have QL:=aa.mk (show gU a1 l4=(cZ a1.data.toList && ((l4.length:Int) == 0)) by unfold gU;rw [← Aa];rfl)
    go_upto_region 2 with (fail)
    go_cut [6] from 21 to 29 (fun s wx=>s=.bool (gU a1 l4)∧Below w.heap.size w wx∧(wx.cell? ⟨w.heap.size,0,none⟩=some (.int .i64 a0)∧wx.cell? ⟨w.heap.size,2,none⟩=some (.string a2)∧wx.cell? ⟨w.heap.size,3,none⟩=some (.slice A3 l3.length c3)∧wx.cell? ⟨w.heap.size,4,none⟩=some (.slice A4 l4.length c4)∧wx.cell? ⟨w.heap.size+1,0,none⟩=some (.int .i64 (n:Int))))
    case first =>
      obtain ⟨x1,b1⟩:∃ x,cZ a1.data.toList=x:=⟨_,rfl⟩
      cases x1
      · have q:=aa.mk (show false=gU a1 l4 by rw [QL.out,b1];rfl)
        have B1:=aa.mk b1
        clear b1
        go_wp2_with (go_at_call 49;refine (mW a1 _).mono ?_;rintro e w1 ⟨rfl,hb⟩;rw [B1.out];have KB1:=aa.mk (aA KB.out hb);have HB1:=aa.mk hb;clear hb)
        go_meet
        exact ⟨congrArg Value.bool q.out,KB1.out,bC (W0:=wc) k0 HB1.out,bC (W0:=wc) k2 HB1.out,bC (W0:=wc) k3 HB1.out,bC (W0:=wc) k4 HB1.out,bC (W0:=wc) kd HB1.out⟩
      · have B1:=aa.mk b1
        clear b1
        obtain ⟨x2,b2⟩:∃ x,((l4.length:Int) == 0)=x:=⟨_,rfl⟩
        have q:=aa.mk (show x2=gU a1 l4 by rw [QL.out,B1.out,b2];rfl)
        cases x2 <;> (go_wp2_with (go_at_call 49;refine (mW a1 _).mono ?_;rintro e w1 ⟨rfl,hb⟩;rw [B1.out];have KB1:=aa.mk (aA KB.out hb);have j0:=bC (W0:=wc) k0 hb;have j2:=bC (W0:=wc) k2 hb;have j3:=bC (W0:=wc) k3 hb;have j4:=bC (W0:=wc) k4 hb;have jd:=bC (W0:=wc) kd hb;clear hb k0 k1 k2 k3 k4 kd);go_meet;exact ⟨congrArg Value.bool q.out,KB1.out,j0,j2,j3,j4,jd⟩)
    case rest =>
      obtain ⟨rfl,kB2,j0,j2,j3,j4,jd⟩:=hcut
      have KB2:=aa.mk kB2
      clear KB kB2 k0 k1 k2 k3 k4 kd QL
      have HDC:=aa.mk (show (deepOk=false∧0 < l4.length∧n < 1)∨(deepOk=true∧¬ 0 < l4.length)∨(deepOk=true∧0 < l4.length∧¬ n < 1) by
        rw [HD.out]
        by_cases c1:0 < l4.length
        · by_cases c2:n < 1
          · exact .inl ⟨by rw [decide_eq_true c1,decide_eq_true c2];rfl,c1,c2⟩
          · exact .inr (.inr ⟨by rw [decide_eq_false c2,Bool.and_false];rfl,c1,c2⟩)
        · exact .inr (.inl ⟨by rw [decide_eq_false c1];rfl,c1⟩))
      clear HD
      have hkind:a0=1∨a0=2∨a0=3∨a0=4∨a0=5∨a0=6∨a0=7∨a0=8∨¬ (a0=1∨a0=2∨a0=3∨a0=4∨a0=5∨a0=6∨a0=7∨a0=8):=by omega
      rcases hkind with ek|ek|ek|ek|ek|ek|ek|ek|ek
      · subst ek
        obtain ⟨x,hx⟩:∃ x,mh a1 a2 l3=x:=⟨_,rfl⟩
        rw [hx]
        have XB:=aa.mk hx
        clear hx
        cases x
        · have HM:=aa.mk (show bZ 1 a1 a2 l3 l4 deepOk kidsOk=false by unfold bZ;simp [XB.out])
          go_wp2
          go_ret
          exact ⟨congrArg (fun b=>Ending.returned (.bool b)) HM.out.symm,KB2.out⟩
        · by_cases hc:l4.length≤40
          · have HC2:=aa.mk hc
            have p1:decide ((40:Int) < (l4.length:Int))=false:=decide_eq_false (by omega)
            have p2:((40:Int) < (l4.length:Int))=False:=eq_false (by omega)
            clear hc
            rcases HDC.out with ⟨d1,d2,d3⟩|⟨d1,d2⟩|⟨d1,d2,d3⟩
            · have HM:=aa.mk (show bZ 1 a1 a2 l3 l4 deepOk kidsOk=false by unfold bZ;simp [d1])
              have q1:decide ((0:Int) < (l4.length:Int))=true:=decide_eq_true (by omega)
              have q2:decide ((n:Int) < 1)=true:=decide_eq_true (by omega)
              have q3:(0 < l4.length)=True:=eq_true (by omega)
              have q4:((n:Int) < 1)=True:=eq_true (by omega)
              clear d1 d2 d3
              go_wp2
              go_ret
              exact ⟨congrArg (fun b=>Ending.returned (.bool b)) HM.out.symm,KB2.out⟩
            · have HM:=aa.mk (show bZ 1 a1 a2 l3 l4 deepOk kidsOk=kidsOk by unfold bZ;simp [d1,XB.out,HC2.out])
              have q1:decide ((0:Int) < (l4.length:Int))=false:=decide_eq_false (by omega)
              have q3:(0 < l4.length)=False:=eq_false (by omega)
              have HK2:=aa.mk (HK.out d1)
              clear d1 d2
              go_wp2_with (go_at_call 51;refine (HK2.out _ KB2.out jd).mono ?_;rintro e w3 ⟨rfl,hb⟩;have KB3:=aa.mk (aA KB2.out hb);clear hb)
              go_ret
              exact ⟨congrArg (fun b=>Ending.returned (.bool b)) HM.out.symm,KB3.out⟩
            · have HM:=aa.mk (show bZ 1 a1 a2 l3 l4 deepOk kidsOk=kidsOk by unfold bZ;simp [d1,XB.out,HC2.out])
              have q1:decide ((0:Int) < (l4.length:Int))=true:=decide_eq_true (by omega)
              have q2:decide ((n:Int) < 1)=false:=decide_eq_false (by omega)
              have q3:(0 < l4.length)=True:=eq_true (by omega)
              have q4:((n:Int) < 1)=False:=eq_false (by omega)
              have HK2:=aa.mk (HK.out d1)
              clear d1 d2 d3
              go_wp2_with (go_at_call 51;refine (HK2.out _ KB2.out jd).mono ?_;rintro e w3 ⟨rfl,hb⟩;have KB3:=aa.mk (aA KB2.out hb);clear hb)
              go_ret
              exact ⟨congrArg (fun b=>Ending.returned (.bool b)) HM.out.symm,KB3.out⟩
          · have HM:=aa.mk (show bZ 1 a1 a2 l3 l4 deepOk kidsOk=false by unfold bZ;simp [XB.out,hc])
            have p1:decide ((40:Int) < (l4.length:Int))=true:=decide_eq_true (by omega)
            have p2:((40:Int) < (l4.length:Int))=True:=eq_true (by omega)
            clear hc
            go_wp2
            go_ret
            exact ⟨congrArg (fun b=>Ending.returned (.bool b)) HM.out.symm,KB2.out⟩
      · subst ek
        obtain ⟨x,hx⟩:∃ x,mh a1 a2 l3=x:=⟨_,rfl⟩
        rw [hx]
        have XB:=aa.mk hx
        clear hx
        cases x
        · have HM:=aa.mk (show bZ 2 a1 a2 l3 l4 deepOk kidsOk=false by unfold bZ;simp [XB.out])
          go_wp2
          go_ret
          exact ⟨congrArg (fun b=>Ending.returned (.bool b)) HM.out.symm,KB2.out⟩
        · by_cases hc:l4.length≤40
          · have HC2:=aa.mk hc
            have p1:decide ((40:Int) < (l4.length:Int))=false:=decide_eq_false (by omega)
            have p2:((40:Int) < (l4.length:Int))=False:=eq_false (by omega)
            clear hc
            rcases HDC.out with ⟨d1,d2,d3⟩|⟨d1,d2⟩|⟨d1,d2,d3⟩
            · have HM:=aa.mk (show bZ 2 a1 a2 l3 l4 deepOk kidsOk=false by unfold bZ;simp [d1])
              have q1:decide ((0:Int) < (l4.length:Int))=true:=decide_eq_true (by omega)
              have q2:decide ((n:Int) < 1)=true:=decide_eq_true (by omega)
              have q3:(0 < l4.length)=True:=eq_true (by omega)
              have q4:((n:Int) < 1)=True:=eq_true (by omega)
              clear d1 d2 d3
              go_wp2
              go_ret
              exact ⟨congrArg (fun b=>Ending.returned (.bool b)) HM.out.symm,KB2.out⟩
            · have HM:=aa.mk (show bZ 2 a1 a2 l3 l4 deepOk kidsOk=kidsOk by unfold bZ;simp [d1,XB.out,HC2.out])
              have q1:decide ((0:Int) < (l4.length:Int))=false:=decide_eq_false (by omega)
              have q3:(0 < l4.length)=False:=eq_false (by omega)
              have HK2:=aa.mk (HK.out d1)
              clear d1 d2
              go_wp2_with (go_at_call 51;refine (HK2.out _ KB2.out jd).mono ?_;rintro e w3 ⟨rfl,hb⟩;have KB3:=aa.mk (aA KB2.out hb);clear hb)
              go_ret
              exact ⟨congrArg (fun b=>Ending.returned (.bool b)) HM.out.symm,KB3.out⟩
            · have HM:=aa.mk (show bZ 2 a1 a2 l3 l4 deepOk kidsOk=kidsOk by unfold bZ;simp [d1,XB.out,HC2.out])
              have q1:decide ((0:Int) < (l4.length:Int))=true:=decide_eq_true (by omega)
              have q2:decide ((n:Int) < 1)=false:=decide_eq_false (by omega)
              have q3:(0 < l4.length)=True:=eq_true (by omega)
              have q4:((n:Int) < 1)=False:=eq_false (by omega)
              have HK2:=aa.mk (HK.out d1)
              clear d1 d2 d3
              go_wp2_with (go_at_call 51;refine (HK2.out _ KB2.out jd).mono ?_;rintro e w3 ⟨rfl,hb⟩;have KB3:=aa.mk (aA KB2.out hb);clear hb)
              go_ret
              exact ⟨congrArg (fun b=>Ending.returned (.bool b)) HM.out.symm,KB3.out⟩
          · have HM:=aa.mk (show bZ 2 a1 a2 l3 l4 deepOk kidsOk=false by unfold bZ;simp [XB.out,hc])
            have p1:decide ((40:Int) < (l4.length:Int))=true:=decide_eq_true (by omega)
            have p2:((40:Int) < (l4.length:Int))=True:=eq_true (by omega)
            clear hc
            go_wp2
            go_ret
            exact ⟨congrArg (fun b=>Ending.returned (.bool b)) HM.out.symm,KB2.out⟩
      · subst ek
        obtain ⟨x,hx⟩:∃ x,mh a1 a2 l3=x:=⟨_,rfl⟩
        rw [hx]
        have XB:=aa.mk hx
        clear hx
        cases x
        · have HM:=aa.mk (show bZ 3 a1 a2 l3 l4 deepOk kidsOk=false by unfold bZ;simp [XB.out])
          go_wp2
          go_ret
          exact ⟨congrArg (fun b=>Ending.returned (.bool b)) HM.out.symm,KB2.out⟩
        · by_cases hc:l4.length=1
          · have HC2:=aa.mk hc
            have p1:((l4.length:Int) == 1)=true:=beq_iff_eq.2 (by omega)
            have p2:((l4.length:Int) != 1)=false:=by rw [bne,p1];rfl
            clear hc
            rcases HDC.out with ⟨d1,d2,d3⟩|⟨d1,d2⟩|⟨d1,d2,d3⟩
            · have HM:=aa.mk (show bZ 3 a1 a2 l3 l4 deepOk kidsOk=false by unfold bZ;simp [d1])
              have q1:decide ((0:Int) < (l4.length:Int))=true:=decide_eq_true (by omega)
              have q2:decide ((n:Int) < 1)=true:=decide_eq_true (by omega)
              have q3:(0 < l4.length)=True:=eq_true (by omega)
              have q4:((n:Int) < 1)=True:=eq_true (by omega)
              clear d1 d2 d3
              go_wp2
              go_ret
              exact ⟨congrArg (fun b=>Ending.returned (.bool b)) HM.out.symm,KB2.out⟩
            · have HM:=aa.mk (show bZ 3 a1 a2 l3 l4 deepOk kidsOk=kidsOk by unfold bZ;simp [d1,XB.out,HC2.out])
              have q1:decide ((0:Int) < (l4.length:Int))=false:=decide_eq_false (by omega)
              have q3:(0 < l4.length)=False:=eq_false (by omega)
              have HK2:=aa.mk (HK.out d1)
              clear d1 d2
              go_wp2_with (go_at_call 51;refine (HK2.out _ KB2.out jd).mono ?_;rintro e w3 ⟨rfl,hb⟩;have KB3:=aa.mk (aA KB2.out hb);clear hb)
              go_ret
              exact ⟨congrArg (fun b=>Ending.returned (.bool b)) HM.out.symm,KB3.out⟩
            · have HM:=aa.mk (show bZ 3 a1 a2 l3 l4 deepOk kidsOk=kidsOk by unfold bZ;simp [d1,XB.out,HC2.out])
              have q1:decide ((0:Int) < (l4.length:Int))=true:=decide_eq_true (by omega)
              have q2:decide ((n:Int) < 1)=false:=decide_eq_false (by omega)
              have q3:(0 < l4.length)=True:=eq_true (by omega)
              have q4:((n:Int) < 1)=False:=eq_false (by omega)
              have HK2:=aa.mk (HK.out d1)
              clear d1 d2 d3
              go_wp2_with (go_at_call 51;refine (HK2.out _ KB2.out jd).mono ?_;rintro e w3 ⟨rfl,hb⟩;have KB3:=aa.mk (aA KB2.out hb);clear hb)
              go_ret
              exact ⟨congrArg (fun b=>Ending.returned (.bool b)) HM.out.symm,KB3.out⟩
          · have HM:=aa.mk (show bZ 3 a1 a2 l3 l4 deepOk kidsOk=false by unfold bZ;simp [XB.out,hc])
            have p1:((l4.length:Int) == 1)=false:=beq_eq_false_iff_ne.2 (by omega)
            have p2:((l4.length:Int) != 1)=true:=by rw [bne,p1];rfl
            clear hc
            go_wp2
            go_ret
            exact ⟨congrArg (fun b=>Ending.returned (.bool b)) HM.out.symm,KB2.out⟩
      · subst ek
        obtain ⟨x,hx⟩:∃ x,gU a1 l4=x:=⟨_,rfl⟩
        rw [hx]
        have XB:=aa.mk hx
        clear hx
        cases x
        · have HM:=aa.mk (show bZ 4 a1 a2 l3 l4 deepOk kidsOk=false by unfold bZ;simp [XB.out])
          go_wp2
          go_ret
          exact ⟨congrArg (fun b=>Ending.returned (.bool b)) HM.out.symm,KB2.out⟩
        · by_cases h0:l3.length=0
          case neg =>
            have HM:=aa.mk (show bZ 4 a1 a2 l3 l4 deepOk kidsOk=false by unfold bZ;simp [XB.out,h0])
            have r1:((l3.length:Int) == 0)=false:=beq_eq_false_iff_ne.2 (by omega)
            clear h0
            go_wp2
            go_ret
            exact ⟨congrArg (fun b=>Ending.returned (.bool b)) HM.out.symm,KB2.out⟩
          have r1:((l3.length:Int) == 0)=true:=beq_iff_eq.2 (by omega)
          have H0:=aa.mk h0
          clear h0
          · by_cases h1:a2.size≤100
            case neg =>
              have HM:=aa.mk (show bZ 4 a1 a2 l3 l4 deepOk kidsOk=false by unfold bZ;simp [XB.out,H0.out,h1])
              have s1:decide ((a2.size:Int)≤100)=false:=decide_eq_false (by omega)
              have s2:((a2.size:Int)≤100)=False:=eq_false (by omega)
              clear h1
              go_wp2
              go_ret
              exact ⟨congrArg (fun b=>Ending.returned (.bool b)) HM.out.symm,KB2.out⟩
            have s1:decide ((a2.size:Int)≤100)=true:=decide_eq_true (by omega)
            have s2:((a2.size:Int)≤100)=True:=eq_true (by omega)
            have H1:=aa.mk h1
            clear h1
            have HM:=aa.mk (show bZ 4 a1 a2 l3 l4 deepOk kidsOk=true by unfold bZ;simp [XB.out,H0.out,H1.out])
            go_wp2
            go_ret
            exact ⟨congrArg (fun b=>Ending.returned (.bool b)) HM.out.symm,KB2.out⟩
      · subst ek
        obtain ⟨x,hx⟩:∃ x,gU a1 l4=x:=⟨_,rfl⟩
        rw [hx]
        have XB:=aa.mk hx
        clear hx
        cases x
        · have HM:=aa.mk (show bZ 5 a1 a2 l3 l4 deepOk kidsOk=false by unfold bZ;simp [XB.out])
          go_wp2
          go_ret
          exact ⟨congrArg (fun b=>Ending.returned (.bool b)) HM.out.symm,KB2.out⟩
        · by_cases h0:a2.toList=[]
          case neg =>
            have HM:=aa.mk (show bZ 5 a1 a2 l3 l4 deepOk kidsOk=false by unfold bZ;simp [XB.out,h0])
            have s1:(a2.toList == ([]:List UInt8))=false:=beq_eq_false_iff_ne.2 (by assumption)
            clear h0
            go_wp2
            go_ret
            exact ⟨congrArg (fun b=>Ending.returned (.bool b)) HM.out.symm,KB2.out⟩
          have s1:(a2.toList == ([]:List UInt8))=true:=beq_iff_eq.2 (by assumption)
          have H0:=aa.mk h0
          clear h0
          have HM:=aa.mk (show bZ 5 a1 a2 l3 l4 deepOk kidsOk=gG l3 by unfold bZ;simp [XB.out,H0.out])
          obtain ⟨m,hm⟩:=sD l3 HS.out
          have HP:=aa.mk (hm m (Nat.le_refl m))
          clear hm
          go_wp2_with (go_at_call 50;refine (aY.calls m A3 c3 l3 (gG l3) _ (Kd.bP HR.out KB2.out) HC.out HP.out).mono ?_;rintro e w3 ⟨rfl,⟨nq,rfl⟩⟩;have KB3:=aa.mk (ae KB2.out nq))
          go_ret
          exact ⟨congrArg (fun b=>Ending.returned (.bool b)) HM.out.symm,KB3.out⟩
      · subst ek
        obtain ⟨x,hx⟩:∃ x,gU a1 l4=x:=⟨_,rfl⟩
        rw [hx]
        have XB:=aa.mk hx
        clear hx
        cases x
        · have HM:=aa.mk (show bZ 6 a1 a2 l3 l4 deepOk kidsOk=false by unfold bZ;simp [XB.out])
          go_wp2
          go_ret
          exact ⟨congrArg (fun b=>Ending.returned (.bool b)) HM.out.symm,KB2.out⟩
        · by_cases h0:l3.length=0
          case neg =>
            have HM:=aa.mk (show bZ 6 a1 a2 l3 l4 deepOk kidsOk=false by unfold bZ;simp [XB.out,h0])
            have r1:((l3.length:Int) == 0)=false:=beq_eq_false_iff_ne.2 (by omega)
            clear h0
            go_wp2
            go_ret
            exact ⟨congrArg (fun b=>Ending.returned (.bool b)) HM.out.symm,KB2.out⟩
          have r1:((l3.length:Int) == 0)=true:=beq_iff_eq.2 (by omega)
          have H0:=aa.mk h0
          clear h0
          · by_cases h1:a2.size≤100
            case neg =>
              have HM:=aa.mk (show bZ 6 a1 a2 l3 l4 deepOk kidsOk=false by unfold bZ;simp [XB.out,H0.out,h1])
              have s1:decide ((a2.size:Int)≤100)=false:=decide_eq_false (by omega)
              have s2:((a2.size:Int)≤100)=False:=eq_false (by omega)
              clear h1
              go_wp2
              go_ret
              exact ⟨congrArg (fun b=>Ending.returned (.bool b)) HM.out.symm,KB2.out⟩
            have s1:decide ((a2.size:Int)≤100)=true:=decide_eq_true (by omega)
            have s2:((a2.size:Int)≤100)=True:=eq_true (by omega)
            have H1:=aa.mk h1
            clear h1
            have HM:=aa.mk (show bZ 6 a1 a2 l3 l4 deepOk kidsOk=true by unfold bZ;simp [XB.out,H0.out,H1.out])
            go_wp2
            go_ret
            exact ⟨congrArg (fun b=>Ending.returned (.bool b)) HM.out.symm,KB2.out⟩
      · subst ek
        obtain ⟨x,hx⟩:∃ x,gU a1 l4=x:=⟨_,rfl⟩
        rw [hx]
        have XB:=aa.mk hx
        clear hx
        cases x
        · have HM:=aa.mk (show bZ 7 a1 a2 l3 l4 deepOk kidsOk=false by unfold bZ;simp [XB.out])
          go_wp2
          go_ret
          exact ⟨congrArg (fun b=>Ending.returned (.bool b)) HM.out.symm,KB2.out⟩
        · by_cases h0:l3.length=0
          case neg =>
            have HM:=aa.mk (show bZ 7 a1 a2 l3 l4 deepOk kidsOk=false by unfold bZ;simp [XB.out,h0])
            have r1:((l3.length:Int) == 0)=false:=beq_eq_false_iff_ne.2 (by omega)
            clear h0
            go_wp2
            go_ret
            exact ⟨congrArg (fun b=>Ending.returned (.bool b)) HM.out.symm,KB2.out⟩
          have r1:((l3.length:Int) == 0)=true:=beq_iff_eq.2 (by omega)
          have H0:=aa.mk h0
          clear h0
          · by_cases h1:a2.size≤100
            case neg =>
              have HM:=aa.mk (show bZ 7 a1 a2 l3 l4 deepOk kidsOk=false by unfold bZ;simp [XB.out,H0.out,h1])
              have s1:decide ((a2.size:Int)≤100)=false:=decide_eq_false (by omega)
              have s2:((a2.size:Int)≤100)=False:=eq_false (by omega)
              clear h1
              go_wp2
              go_ret
              exact ⟨congrArg (fun b=>Ending.returned (.bool b)) HM.out.symm,KB2.out⟩
            have s1:decide ((a2.size:Int)≤100)=true:=decide_eq_true (by omega)
            have s2:((a2.size:Int)≤100)=True:=eq_true (by omega)
            have H1:=aa.mk h1
            clear h1
            have HM:=aa.mk (show bZ 7 a1 a2 l3 l4 deepOk kidsOk=true by unfold bZ;simp [XB.out,H0.out,H1.out])
            go_wp2
            go_ret
            exact ⟨congrArg (fun b=>Ending.returned (.bool b)) HM.out.symm,KB2.out⟩
      · subst ek
        obtain ⟨x,hx⟩:∃ x,gU a1 l4=x:=⟨_,rfl⟩
        rw [hx]
        have XB:=aa.mk hx
        clear hx
        cases x
        · have HM:=aa.mk (show bZ 8 a1 a2 l3 l4 deepOk kidsOk=false by unfold bZ;simp [XB.out])
          go_wp2
          go_ret
          exact ⟨congrArg (fun b=>Ending.returned (.bool b)) HM.out.symm,KB2.out⟩
        · by_cases h0:a2.toList=[]
          case neg =>
            have HM:=aa.mk (show bZ 8 a1 a2 l3 l4 deepOk kidsOk=false by unfold bZ;simp [XB.out,h0])
            have s1:(a2.toList == ([]:List UInt8))=false:=beq_eq_false_iff_ne.2 (by assumption)
            clear h0
            go_wp2
            go_ret
            exact ⟨congrArg (fun b=>Ending.returned (.bool b)) HM.out.symm,KB2.out⟩
          have s1:(a2.toList == ([]:List UInt8))=true:=beq_iff_eq.2 (by assumption)
          have H0:=aa.mk h0
          clear h0
          · by_cases h1:l3.length=0
            case neg =>
              have HM:=aa.mk (show bZ 8 a1 a2 l3 l4 deepOk kidsOk=false by unfold bZ;simp [XB.out,H0.out,h1])
              have r1:((l3.length:Int) == 0)=false:=beq_eq_false_iff_ne.2 (by omega)
              clear h1
              go_wp2
              go_ret
              exact ⟨congrArg (fun b=>Ending.returned (.bool b)) HM.out.symm,KB2.out⟩
            have r1:((l3.length:Int) == 0)=true:=beq_iff_eq.2 (by omega)
            have H1:=aa.mk h1
            clear h1
            have HM:=aa.mk (show bZ 8 a1 a2 l3 l4 deepOk kidsOk=true by unfold bZ;simp [XB.out,H0.out,H1.out])
            go_wp2
            go_ret
            exact ⟨congrArg (fun b=>Ending.returned (.bool b)) HM.out.symm,KB2.out⟩
      · have HM:=aa.mk (show bZ a0 a1 a2 l3 l4 deepOk kidsOk=false by
          unfold bZ
          rw [if_neg (by omega),if_neg (by omega),if_neg (by omega),if_neg (by omega),if_neg (by omega)])
        have e1:(a0 == 1)=false:=beq_eq_false_iff_ne.2 (by omega)
        have e2:(a0 == 2)=false:=beq_eq_false_iff_ne.2 (by omega)
        have e3:(a0 == 3)=false:=beq_eq_false_iff_ne.2 (by omega)
        have e4:(a0 == 4)=false:=beq_eq_false_iff_ne.2 (by omega)
        have e5:(a0 == 5)=false:=beq_eq_false_iff_ne.2 (by omega)
        have e6:(a0 == 6)=false:=beq_eq_false_iff_ne.2 (by omega)
        have e7:(a0 == 7)=false:=beq_eq_false_iff_ne.2 (by omega)
        have e8:(a0 == 8)=false:=beq_eq_false_iff_ne.2 (by omega)
        clear ek
        go_wp2
        go_ret
        exact ⟨congrArg (fun b=>Ending.returned (.bool b)) HM.out.symm,KB2.out⟩
theorem xO (n B:Nat) (x:S25) (A3:Option Addr) (c3:Nat) (A4:Option Addr) (c4:Nat) (W:World) (ok:Bool) (hc:W.cell? ⟨B,0,none⟩=some (.int .i64 ((n+1:Nat):Int))) (hn:n≤1000)
    (hm:∀ W':World,Below W.heap.size W W'→Calls Tryz.prog 33 #[.agg #[.int .i64 x.f0,.string x.f1,.string x.f2,.slice A3 x.f3.length c3,.slice A4 x.f4.length c4],.int .i64 (n:Int)] W' fun e w'=>e=.returned (.bool ok)∧Below W'.heap.size W' w') :
    Calls Tryz.prog 52 (#[.agg #[.int .i64 x.f0,.string x.f1,.string x.f2,.slice A3 x.f3.length c3,.slice A4 x.f4.length c4]]++#[.pointer (some ⟨B,0,none⟩)]) W fun e w'=>e=.returned (.bool (!ok))∧Below W.heap.size W w':=by
  have hu:=Tryz.underlying25
  have HM:=aa.mk hm
  clear hm
  show Calls Tryz.prog 52 #[.agg #[.int .i64 x.f0,.string x.f1,.string x.f2,.slice A3 x.f3.length c3,.slice A4 x.f4.length c4],.pointer (some ⟨B,0,none⟩)] W _
  have hw:wrap64 (((n+1:Nat):Int) - 1)=(n:Int):=by unfold wrap64;omega
  go_enter Tryz.func52,Tryz.ntmps52
  go_upto_region 1 with (fail)
  obtain ⟨w0,hw0⟩:∃ w0,W.alloc (.cells #[.int .i64 x.f0,.string x.f1,.string x.f2,.slice A3 x.f3.length c3,.slice A4 x.f4.length c4] 25)=w0:=⟨_,rfl⟩
  have kd:w0.cell? ⟨B,0,none⟩=some (.int .i64 ((n+1:Nat):Int)):=by rw [← hw0];exact bC (W0:=W) hc (af (Below.refl _ _) _)
  have k0:w0.cell? ⟨W.heap.size,0,none⟩=some (.int .i64 x.f0):=by rw [← hw0];simp [go_sem]
  have k1:w0.cell? ⟨W.heap.size,1,none⟩=some (.string x.f1):=by rw [← hw0];simp [go_sem]
  have k2:w0.cell? ⟨W.heap.size,2,none⟩=some (.string x.f2):=by rw [← hw0];simp [go_sem]
  have k3:w0.cell? ⟨W.heap.size,3,none⟩=some (.slice A3 x.f3.length c3):=by rw [← hw0];simp [go_sem]
  have k4:w0.cell? ⟨W.heap.size,4,none⟩=some (.slice A4 x.f4.length c4):=by rw [← hw0];simp [go_sem]
  have kB:Below W.heap.size W w0:=by rw [← hw0];exact af (Below.refl _ _) _
  rw [hw0]
  clear hw0 hc
  have KB:=aa.mk kB
  clear kB
  have HW:=aa.mk hw
  clear hw
  go_wp2_with (go_at_call 33;(try rw [show IntKind.i64.wrap (((n+1:Nat):Int) - 1)=(n:Int) from HW.out]);refine (HM.out _ KB.out).mono ?_;rintro e w1 ⟨rfl,hb⟩;have KB1:=aa.mk (aA KB.out hb);clear hb)
  go_ret
  exact ⟨rfl,KB1.out⟩
set_option maxHeartbeats 2000000 in
set_option maxRecDepth 100000 in
theorem wM:∀ (n:Nat),n≤1000→∀ (x:S25) (A3:Option Addr) (c3:Nat) (A4:Option Addr) (c4:Nat) (w:World)
    (hr3:Kd.C Kd.string w A3 x.f3.length x.f3) (hc3:x.f3.length≤c3) (hr4:Kd.C k25 w A4 x.f4.length x.f4) (hs:szF n x),
    Calls Tryz.prog 33 #[.agg #[.int .i64 x.f0,.string x.f1,.string x.f2,.slice A3 x.f3.length c3,.slice A4 x.f4.length c4],.int .i64 (n:Int)] w fun e w'=>e=.returned (.bool (jP n x))∧Below w.heap.size w w':=by
  have eg:∀ args w,(callFunc 52 args).run Tryz.prog w=.ok (.enter 52 args) w:=enters_of Tryz.func52 (by kernel_rfl) rfl
  intro n
  induction n with
  | zero =>
    intro hn x A3 c3 A4 c4 w hr3 hc3 hr4 hs
    refine tC 0 (decide (x.f4.length=0)) true x.f0 x.f1 x.f2 A3 c3 x.f3 A4 c4 x.f4 w hr3 hc3 ?_ (qy hs) ?_
    · by_cases h:x.f4.length=0
      · rw [decide_eq_true h,decide_eq_false (show ¬ 0 < x.f4.length by omega)];rfl
      · rw [decide_eq_false h,decide_eq_true (show 0 < x.f4.length by omega)];rfl
    · intro hd W hb hc
      have h0:x.f4.length=0:=of_decide_eq_true hd
      have h1:x.f4=[]:=List.length_eq_zero_iff.1 h0
      refine (kw A4 c4 x.f4 52 _ (fun _=>false) W eg (Kd.bP hr4 hb) (fun i hi=>absurd hi (by omega))).mono ?_
      rintro e w' ⟨rfl,hb2⟩
      exact ⟨by rw [h1];rfl,hb2⟩
  | succ n ih =>
    intro hn x A3 c3 A4 c4 w hr3 hc3 hr4 hs
    refine tC (n+1) true (x.f4.all (jP n)) x.f0 x.f1 x.f2 A3 c3 x.f3 A4 c4 x.f4 w hr3 hc3 ?_ (qy hs) ?_
    · rw [decide_eq_false (show ¬ n+1 < 1 by omega),Bool.and_false];rfl
    · intro _ W hb hc
      rw [← rX]
      refine kw A4 c4 x.f4 52 _ (fun i=>!jP n (bi x.f4 (i:Int))) W eg (Kd.bP hr4 hb) (fun i hi W' B3 d3 B4 d4 hb' g3 r3 g4 r4=>?_)
      refine (xO n (w.heap.size+1) (bi x.f4 (i:Int)) B3 d3 B4 d4 W' (jP n (bi x.f4 (i:Int))) (bC (W0:=W) hc hb') (by omega) (fun W2 hb2=>ih (by omega) (bi x.f4 (i:Int)) B3 d3 B4 d4 W2 (Kd.bP r3 hb2) g3 (Kd.bP r4 hb2) (hs.2 _ (xZ hi)))).mono ?_
      rintro e w' ⟨rfl,hb2⟩
      exact ⟨rfl,aA hb' hb2⟩
def szF.dec:(n:Nat)→(f:S25)→Decidable (szF n f)
  | 0,f=>by unfold szF;infer_instance
  | n+1,f=>by
    unfold szF
    have:=fun x=>szF.dec n x
    infer_instance
instance (n:Nat) (f:S25):Decidable (szF n f):=szF.dec n f
def eH.f (a0_0:Int) (a0_1 a0_2:ByteArray) (l0_3:List ByteArray) (l0_4:List S25):Option Bool :=
  if szF 12 ⟨a0_0,a0_1,a0_2,l0_3,l0_4⟩ then some (jP 12 ⟨a0_0,a0_1,a0_2,l0_3,l0_4⟩) else none
theorem eH.calls (a0_0:Int) (a0_1:ByteArray) (a0_2:ByteArray) (A0_3:Option Addr) (c0_3:Nat) (l0_3:List ByteArray) (A0_4:Option Addr) (c0_4:Nat) (l0_4:List S25) (r:Bool) (w:World) (hr0_3:Kd.C Kd.string w A0_3 l0_3.length l0_3) (hc0_3:l0_3.length≤c0_3) (hr0_4:Kd.C k25 w A0_4 l0_4.length l0_4) (hc0_4:l0_4.length≤c0_4) (h:eH.f a0_0 a0_1 a0_2 l0_3 l0_4=some r) :
    Calls Tryz.prog 26 #[.agg #[.int .i64 a0_0,.string a0_1,.string a0_2,.slice A0_3 l0_3.length c0_3,.slice A0_4 l0_4.length c0_4]] w fun e w'=>e=.returned (.bool r)∧Below w.heap.size w w':=by
  unfold eH.f at h
  by_cases hs:szF 12 ⟨a0_0,a0_1,a0_2,l0_3,l0_4⟩
  · rw [if_pos hs] at h
    obtain rfl:=Option.some.inj h
    have hu:=Tryz.underlying25
    have M:=aa.mk (fun W' (hb:Below w.heap.size w W')=>wM 12 (by omega) ⟨a0_0,a0_1,a0_2,l0_3,l0_4⟩ A0_3 c0_3 A0_4 c0_4 W' (Kd.bP hr0_3 hb) hc0_3 (Kd.bP hr0_4 hb) hs)
    obtain ⟨b,hb⟩:∃ b,jP 12 ⟨a0_0,a0_1,a0_2,l0_3,l0_4⟩=b:=⟨_,rfl⟩
    rw [hb] at M ⊢
    clear hb h hs hr0_3 hr0_4
    go_enter Tryz.func26,Tryz.ntmps26
    go_upto_region 1 with (fail)
    obtain ⟨w0,hw0⟩:∃ w0,w.alloc (.cells #[.int .i64 a0_0,.string a0_1,.string a0_2,.slice A0_3 l0_3.length c0_3,.slice A0_4 l0_4.length c0_4] 25)=w0:=⟨_,rfl⟩
    have k0:w0.cell? ⟨w.heap.size,0,none⟩=some (.int .i64 a0_0):=by rw [← hw0];simp [go_sem]
    have k1:w0.cell? ⟨w.heap.size,1,none⟩=some (.string a0_1):=by rw [← hw0];simp [go_sem]
    have k2:w0.cell? ⟨w.heap.size,2,none⟩=some (.string a0_2):=by rw [← hw0];simp [go_sem]
    have k3:w0.cell? ⟨w.heap.size,3,none⟩=some (.slice A0_3 l0_3.length c0_3):=by rw [← hw0];simp [go_sem]
    have k4:w0.cell? ⟨w.heap.size,4,none⟩=some (.slice A0_4 l0_4.length c0_4):=by rw [← hw0];simp [go_sem]
    have kB:Below w.heap.size w w0:=by rw [← hw0];exact af (Below.refl _ _) _
    rw [hw0]
    clear hw0
    have KB:=aa.mk kB
    clear kB
    go_wp2_with (go_at_call 33;refine (M.out _ KB.out).mono ?_;rintro e w1 ⟨rfl,hb⟩;have KB1:=aa.mk (aA KB.out hb);clear hb)
    go_ret
    exact ⟨rfl,KB1.out⟩
  · rw [if_neg hs] at h
    cases h
end Go.Proofs.YthfpaoacjpjnfaaGreatDoor.P

namespace Go.Proofs.YthfpaoacjpjnfaaGreatDoor.P
open Go.RowKit Go.Proofs.YthfpaoacjpjnfaaGreatDoorW.PrintWords Go.Proofs.YthfpaoacjpjnfaaGreatDoorW.PrintLast Go.Proofs.YthfpaoacjpjnfaaGreatDoorW.PrintMore
attribute [local go_sem] dP dS eP eO dE dD dQ dR
def bS.f (k:Nat) (a0_0:Int) (a0_1:ByteArray) (a0_2:ByteArray) (l0_3:List ByteArray) (l0_4:List (S25)) (a1_0:ByteArray) (l1_1:List (S45)):Option (Int):=(eH.f a0_0 a0_1 a0_2 l0_3 l0_4).bind fun t224=>(if t224=true then ((bG.f k a0_0 a0_1 a0_2 l0_3 l0_4 a1_0 l1_1).bind fun t225=>(some t225)) else (some 2))
set_option maxHeartbeats 8000000 in
set_option maxRecDepth 100000 in
theorem bS.calls (k:Nat) (a0_0:Int) (a0_1:ByteArray) (a0_2:ByteArray) (A0_3:Option Addr) (c0_3:Nat) (l0_3:List ByteArray) (A0_4:Option Addr) (c0_4:Nat) (l0_4:List (S25)) (a1_0:ByteArray) (A1_1:Option Addr) (c1_1:Nat) (l1_1:List (S45)) (r:Int) (w:World) (hr0_3:Kd.C Kd.string w A0_3 l0_3.length l0_3) (hc0_3:l0_3.length≤c0_3) (hr0_4:Kd.C k25 w A0_4 l0_4.length l0_4) (hc0_4:l0_4.length≤c0_4) (hr1_1:Kd.C k45 w A1_1 l1_1.length l1_1) (hc1_1:l1_1.length≤c1_1) (hG:Gl w) (h:bS.f k a0_0 a0_1 a0_2 l0_3 l0_4 a1_0 l1_1=some r) :
  Calls Tryz.prog 13 #[.agg #[.int .i64 a0_0,.string a0_1,.string a0_2,.slice A0_3 l0_3.length c0_3,.slice A0_4 l0_4.length c0_4],.agg #[.string a1_0,.slice A1_1 l1_1.length c1_1]] w fun e w'=>e=.returned (.int .i64 r)∧Below w.heap.size w w':=by
 have hu25:=Tryz.underlying25
 have hu28:=Tryz.underlying28
 have HR0_3:=aa.mk hr0_3
 have HC0_3:=aa.mk hc0_3
 clear hr0_3 hc0_3
 have HR0_4:=aa.mk hr0_4
 have HC0_4:=aa.mk hc0_4
 clear hr0_4 hc0_4
 have HR1_1:=aa.mk hr1_1
 have HC1_1:=aa.mk hc1_1
 clear hr1_1 hc1_1
 have HB:=aa.mk (Below.refl w.heap.size w)
 have HG:=aa.mk hG
 clear hG
 have H:((eH.f a0_0 a0_1 a0_2 l0_3 l0_4).bind fun t224=>(if t224=true then ((bG.f k a0_0 a0_1 a0_2 l0_3 l0_4 a1_0 l1_1).bind fun t225=>(some t225)) else (some 2)))=some r:=h
 clear h
 replace H:=Option.bind_eq_some_iff.mp H
 obtain ⟨t224,A30,H⟩:=H
 replace H:(if t224=true then ((bG.f k a0_0 a0_1 a0_2 l0_3 l0_4 a1_0 l1_1).bind fun t225=>(some t225)) else (some 2))=some r:=H
 have A3:=aa.mk A30
 clear A30
 by_cases c4:t224=true
 ·subst c4
  have H1:((bG.f k a0_0 a0_1 a0_2 l0_3 l0_4 a1_0 l1_1).bind fun t225=>(some t225))=some r:=by rw [if_pos rfl] at H;exact H
  clear H
  have H:=H1
  clear H1
  replace H:=Option.bind_eq_some_iff.mp H
  obtain ⟨t225,A50,H⟩:=H
  replace H:(some t225)=some r:=H
  have A5:=aa.mk A50
  clear A50
  obtain rfl:=Option.some.inj H
  go_enter Tryz.func13,Tryz.ntmps13
  go_wp2_with (first|((with_reducible refine cz (N:=2) rfl ?_);refine dO ?hg (N:=2) ?hd (cs:=#[.int .i64 a0_0,.string a0_1,.string a0_2,.slice A0_3 l0_3.length c0_3,.slice A0_4 l0_4.length c0_4]) (t:=25) ?hr ?_;(case hd=>rfl);(case hg=>rfl);(case hr=>first|(go_simp;done)|(go_simp;rfl));intro gb222 hg w6 hbox hb;have n0_:=aa.mk (aA (by repeat (first|(with_reducible first|exact HB.out|apply af|apply ae|apply ag)|exact HB.out)) hb);have n1_:=aa.mk (hbox);have n2_:=aa.mk ((by rw [hg];exact (aC (by repeat (first|(with_reducible first|exact HB.out|apply af|apply ae|apply ag)|exact HB.out))):w.heap.size≤gb222));have n3_:=aa.mk ((by rw [hg];exact (aC (by repeat (first|(with_reducible first|exact HB.out|apply af|apply ae|apply ag)|exact HB.out))):w.heap.size≤gb222));clear HB;have HB:=n0_;have BK222:=n1_;have GW222:=n2_;have GE222:=n3_;clear n0_ n1_ n2_ n3_;clear hb hbox hg)|((with_reducible refine cz (N:=3) rfl ?_);refine dO ?hg (N:=3) ?hd (cs:=#[.string a1_0,.slice A1_1 l1_1.length c1_1]) (t:=28) ?hr ?_;(case hd=>rfl);(case hg=>rfl);(case hr=>first|(go_simp;done)|(go_simp;rfl));intro gb223 hg w7 hbox hb;have n0_:=aa.mk (aI (g:=gb222) (o:=.cells #[.int .i64 a0_0,.string a0_1,.string a0_2,.slice A0_3 l0_3.length c0_3,.slice A0_4 l0_4.length c0_4] 25 (0,0)) (by (with_reducible repeat (first|refine aj ?_ _|refine ax ?_|refine ai ?_ _));exact BK222.out) hb);have n1_:=aa.mk (aA (by repeat (first|(with_reducible first|exact HB.out|apply af|apply ae|apply ag|refine ah ?_ GE222.out)|exact HB.out)) hb);have n2_:=aa.mk (hbox);have n3_:=aa.mk ((by rw [hg];exact (aC (by repeat (first|(with_reducible first|exact HB.out|apply af|apply ae|apply ag|refine ah ?_ GE222.out)|exact HB.out))):w.heap.size≤gb223));have n4_:=aa.mk ((by rw [hg];exact (aC (by repeat (first|(with_reducible first|exact HB.out|apply af|apply ae|apply ag|refine ah ?_ GE222.out)|exact HB.out))):w.heap.size≤gb223));have n5_:=aa.mk ((by rw [hg];exact Nat.ne_of_lt (gK (g:=gb222) (o:=.cells #[.int .i64 a0_0,.string a0_1,.string a0_2,.slice A0_3 l0_3.length c0_3,.slice A0_4 l0_4.length c0_4] 25 (0,0)) (by (with_reducible repeat (first|refine aj ?_ _|refine ax ?_|refine ai ?_ _));exact BK222.out)):gb222≠gb223));have n6_:=aa.mk ((by rw [hg];exact Nat.ne_of_gt (gK (g:=gb222) (o:=.cells #[.int .i64 a0_0,.string a0_1,.string a0_2,.slice A0_3 l0_3.length c0_3,.slice A0_4 l0_4.length c0_4] 25 (0,0)) (by (with_reducible repeat (first|refine aj ?_ _|refine ax ?_|refine ai ?_ _));exact BK222.out)):gb223≠gb222));clear BK222;clear HB;have BK222:=n0_;have HB:=n1_;have BK223:=n2_;have GW223:=n3_;have GE223:=n4_;have NB222_223:=n5_;have NB223_222:=n6_;clear n0_ n1_ n2_ n3_ n4_ n5_ n6_;clear hb hbox hg;have hnb8:=NB222_223.out;have hnc8:=NB223_222.out;have hcz9_0:w7.cell? ⟨gb222,0,none⟩=some (.int .i64 a0_0):=(az BK222.out 0).trans rfl;have hcz9_1:w7.cell? ⟨gb222,1,none⟩=some (.string a0_1):=(az BK222.out 1).trans rfl;have hcz9_2:w7.cell? ⟨gb222,2,none⟩=some (.string a0_2):=(az BK222.out 2).trans rfl;have hcz9_3:w7.cell? ⟨gb222,3,none⟩=some (.slice A0_3 l0_3.length c0_3):=(az BK222.out 3).trans rfl;have hcz9_4:w7.cell? ⟨gb222,4,none⟩=some (.slice A0_4 l0_4.length c0_4):=(az BK222.out 4).trans rfl;have hfz9_0:=ay BK222.out 0;have hfz9_1:=ay BK222.out 1;have hfz9_2:=ay BK222.out 2;have hfz9_3:=ay BK222.out 3;have hfz9_4:=ay BK222.out 4)|((with_reducible refine aH (f:=26) rfl ?_);refine bq (some 7) rfl rfl Tryz.func26 (by kernel_rfl) rfl #[.agg #[.int .i64 a0_0,.string a0_1,.string a0_2,.slice A0_3 l0_3.length c0_3,.slice A0_4 l0_4.length c0_4]] rfl (by (try simp only [List.map_toArray,List.map_cons,List.map_nil]);first|done|rfl|(simp only [List.length_drop,List.length_take];rfl)) ?_;(with_reducible refine (eH.calls a0_0 a0_1 a0_2 _ _ l0_3 _ _ l0_4 true _ ?side1 ?side2 ?side3 ?side4 A3.out).mono ?_);(case side1=>repeat (first|exact (Kd.bP HR0_3.out HB.out)|(with_reducible refine Kd.dA ?_ _)|(with_reducible refine Kd.dG ?_ _)|(with_reducible refine Kd.eu ?_)));(case side2=>exact HC0_3.out);(case side3=>repeat (first|exact (Kd.bP HR0_4.out HB.out)|(with_reducible refine Kd.dA ?_ _)|(with_reducible refine Kd.dG ?_ _)|(with_reducible refine Kd.eu ?_)));(case side4=>exact HC0_4.out);rintro e w10 ⟨rfl,hb⟩;refine ⟨_,rfl,?_⟩;have n0_:=aa.mk (aI (g:=gb222) (o:=.cells #[.int .i64 a0_0,.string a0_1,.string a0_2,.slice A0_3 l0_3.length c0_3,.slice A0_4 l0_4.length c0_4] 25 (0,0)) (by (with_reducible repeat (first|refine aj ?_ _|refine ax ?_|refine ai ?_ _));exact BK222.out) hb);have n1_:=aa.mk (aI (g:=gb223) (o:=.cells #[.string a1_0,.slice A1_1 l1_1.length c1_1] 28 (0,0)) (by (with_reducible repeat (first|refine aj ?_ _|refine ax ?_|refine ai ?_ _));exact BK223.out) hb);have n2_:=aa.mk (aA (by repeat (first|(with_reducible first|exact HB.out|apply af|apply ae|apply ag|refine ah ?_ GE222.out|refine ah ?_ GE223.out)|exact HB.out)) hb);clear BK222;clear BK223;clear HB;have BK222:=n0_;have BK223:=n1_;have HB:=n2_;clear n0_ n1_ n2_;(try clear hb);(try clear hb2);(try clear hk);(try clear hi);have hcz11_0:w10.cell? ⟨gb222,0,none⟩=some (.int .i64 a0_0):=(az BK222.out 0).trans rfl;have hcz11_1:w10.cell? ⟨gb222,1,none⟩=some (.string a0_1):=(az BK222.out 1).trans rfl;have hcz11_2:w10.cell? ⟨gb222,2,none⟩=some (.string a0_2):=(az BK222.out 2).trans rfl;have hcz11_3:w10.cell? ⟨gb222,3,none⟩=some (.slice A0_3 l0_3.length c0_3):=(az BK222.out 3).trans rfl;have hcz11_4:w10.cell? ⟨gb222,4,none⟩=some (.slice A0_4 l0_4.length c0_4):=(az BK222.out 4).trans rfl;have hfz11_0:=ay BK222.out 0;have hfz11_1:=ay BK222.out 1;have hfz11_2:=ay BK222.out 2;have hfz11_3:=ay BK222.out 3;have hfz11_4:=ay BK222.out 4;have hcz12_0:w10.cell? ⟨gb223,0,none⟩=some (.string a1_0):=(az BK223.out 0).trans rfl;have hcz12_1:w10.cell? ⟨gb223,1,none⟩=some (.slice A1_1 l1_1.length c1_1):=(az BK223.out 1).trans rfl;have hfz12_0:=ay BK223.out 0;have hfz12_1:=ay BK223.out 1)|((with_reducible refine aH (f:=27) rfl ?_);refine bq (some 10) rfl rfl Tryz.func27 (by kernel_rfl) rfl #[.agg #[.int .i64 a0_0,.string a0_1,.string a0_2,.slice A0_3 l0_3.length c0_3,.slice A0_4 l0_4.length c0_4],.agg #[.string a1_0,.slice A1_1 l1_1.length c1_1]] rfl (by (try simp only [List.map_toArray,List.map_cons,List.map_nil]);first|done|rfl|(simp only [List.length_drop,List.length_take];rfl)) ?_;(with_reducible refine (bG.calls k a0_0 a0_1 a0_2 _ _ l0_3 _ _ l0_4 a1_0 _ _ l1_1 t225 _ ?side1 ?side2 ?side3 ?side4 ?side5 ?side6 ?side7 A5.out).mono ?_);(case side1=>repeat (first|exact (Kd.bP HR0_3.out HB.out)|(with_reducible refine Kd.dA ?_ _)|(with_reducible refine Kd.dG ?_ _)|(with_reducible refine Kd.eu ?_)));(case side2=>exact HC0_3.out);(case side3=>repeat (first|exact (Kd.bP HR0_4.out HB.out)|(with_reducible refine Kd.dA ?_ _)|(with_reducible refine Kd.dG ?_ _)|(with_reducible refine Kd.eu ?_)));(case side4=>exact HC0_4.out);(case side5=>repeat (first|exact (Kd.bP HR1_1.out HB.out)|(with_reducible refine Kd.dA ?_ _)|(with_reducible refine Kd.dG ?_ _)|(with_reducible refine Kd.eu ?_)));(case side6=>exact HC1_1.out);(case side7=>first|exact HG.out|exact Gl.drewN HG.out _|exact Gl.below HG.out (by repeat (first|(with_reducible first|exact HB.out|apply af|apply ae|apply ag|refine ah ?_ GE222.out|refine ah ?_ GE223.out)|exact HB.out)));rintro e w13 ⟨rfl,hb⟩;refine ⟨_,rfl,?_⟩;have n0_:=aa.mk (aI (g:=gb222) (o:=.cells #[.int .i64 a0_0,.string a0_1,.string a0_2,.slice A0_3 l0_3.length c0_3,.slice A0_4 l0_4.length c0_4] 25 (0,0)) (by (with_reducible repeat (first|refine aj ?_ _|refine ax ?_|refine ai ?_ _));exact BK222.out) hb);have n1_:=aa.mk (aI (g:=gb223) (o:=.cells #[.string a1_0,.slice A1_1 l1_1.length c1_1] 28 (0,0)) (by (with_reducible repeat (first|refine aj ?_ _|refine ax ?_|refine ai ?_ _));exact BK223.out) hb);have n2_:=aa.mk (aA (by repeat (first|(with_reducible first|exact HB.out|apply af|apply ae|apply ag|refine ah ?_ GE222.out|refine ah ?_ GE223.out)|exact HB.out)) hb);clear BK222;clear BK223;clear HB;have BK222:=n0_;have BK223:=n1_;have HB:=n2_;clear n0_ n1_ n2_;(try clear hb);(try clear hb2);(try clear hk);(try clear hi)))
  go_ret
  exact ⟨by first|rfl|(simp [aD,aG] <;> rfl)|(simp [*,aD,aG] <;> rfl),by repeat (first|(with_reducible first|exact HB.out|apply af|apply ae|apply ag|refine ah ?_ GE222.out|refine ah ?_ GE223.out)|exact HB.out)⟩
 ·replace c4:=Bool.eq_false_iff.mpr c4
  subst c4
  have H1:(some 2)=some r:=by rw [if_neg (show ¬ (false=true) by decide)] at H;exact H
  clear H
  have H:=H1
  clear H1
  obtain rfl:=Option.some.inj H
  go_enter Tryz.func13,Tryz.ntmps13
  go_wp2_with (first|((with_reducible refine cz (N:=2) rfl ?_);refine dO ?hg (N:=2) ?hd (cs:=#[.int .i64 a0_0,.string a0_1,.string a0_2,.slice A0_3 l0_3.length c0_3,.slice A0_4 l0_4.length c0_4]) (t:=25) ?hr ?_;(case hd=>rfl);(case hg=>rfl);(case hr=>first|(go_simp;done)|(go_simp;rfl));intro gb222 hg w14 hbox hb;have n0_:=aa.mk (aA (by repeat (first|(with_reducible first|exact HB.out|apply af|apply ae|apply ag)|exact HB.out)) hb);have n1_:=aa.mk (hbox);have n2_:=aa.mk ((by rw [hg];exact (aC (by repeat (first|(with_reducible first|exact HB.out|apply af|apply ae|apply ag)|exact HB.out))):w.heap.size≤gb222));have n3_:=aa.mk ((by rw [hg];exact (aC (by repeat (first|(with_reducible first|exact HB.out|apply af|apply ae|apply ag)|exact HB.out))):w.heap.size≤gb222));clear HB;have HB:=n0_;have BK222:=n1_;have GW222:=n2_;have GE222:=n3_;clear n0_ n1_ n2_ n3_;clear hb hbox hg)|((with_reducible refine cz (N:=3) rfl ?_);refine dO ?hg (N:=3) ?hd (cs:=#[.string a1_0,.slice A1_1 l1_1.length c1_1]) (t:=28) ?hr ?_;(case hd=>rfl);(case hg=>rfl);(case hr=>first|(go_simp;done)|(go_simp;rfl));intro gb223 hg w15 hbox hb;have n0_:=aa.mk (aI (g:=gb222) (o:=.cells #[.int .i64 a0_0,.string a0_1,.string a0_2,.slice A0_3 l0_3.length c0_3,.slice A0_4 l0_4.length c0_4] 25 (0,0)) (by (with_reducible repeat (first|refine aj ?_ _|refine ax ?_|refine ai ?_ _));exact BK222.out) hb);have n1_:=aa.mk (aA (by repeat (first|(with_reducible first|exact HB.out|apply af|apply ae|apply ag|refine ah ?_ GE222.out)|exact HB.out)) hb);have n2_:=aa.mk (hbox);have n3_:=aa.mk ((by rw [hg];exact (aC (by repeat (first|(with_reducible first|exact HB.out|apply af|apply ae|apply ag|refine ah ?_ GE222.out)|exact HB.out))):w.heap.size≤gb223));have n4_:=aa.mk ((by rw [hg];exact (aC (by repeat (first|(with_reducible first|exact HB.out|apply af|apply ae|apply ag|refine ah ?_ GE222.out)|exact HB.out))):w.heap.size≤gb223));have n5_:=aa.mk ((by rw [hg];exact Nat.ne_of_lt (gK (g:=gb222) (o:=.cells #[.int .i64 a0_0,.string a0_1,.string a0_2,.slice A0_3 l0_3.length c0_3,.slice A0_4 l0_4.length c0_4] 25 (0,0)) (by (with_reducible repeat (first|refine aj ?_ _|refine ax ?_|refine ai ?_ _));exact BK222.out)):gb222≠gb223));have n6_:=aa.mk ((by rw [hg];exact Nat.ne_of_gt (gK (g:=gb222) (o:=.cells #[.int .i64 a0_0,.string a0_1,.string a0_2,.slice A0_3 l0_3.length c0_3,.slice A0_4 l0_4.length c0_4] 25 (0,0)) (by (with_reducible repeat (first|refine aj ?_ _|refine ax ?_|refine ai ?_ _));exact BK222.out)):gb223≠gb222));clear BK222;clear HB;have BK222:=n0_;have HB:=n1_;have BK223:=n2_;have GW223:=n3_;have GE223:=n4_;have NB222_223:=n5_;have NB223_222:=n6_;clear n0_ n1_ n2_ n3_ n4_ n5_ n6_;clear hb hbox hg;have hnb16:=NB222_223.out;have hnc16:=NB223_222.out;have hcz17_0:w15.cell? ⟨gb222,0,none⟩=some (.int .i64 a0_0):=(az BK222.out 0).trans rfl;have hcz17_1:w15.cell? ⟨gb222,1,none⟩=some (.string a0_1):=(az BK222.out 1).trans rfl;have hcz17_2:w15.cell? ⟨gb222,2,none⟩=some (.string a0_2):=(az BK222.out 2).trans rfl;have hcz17_3:w15.cell? ⟨gb222,3,none⟩=some (.slice A0_3 l0_3.length c0_3):=(az BK222.out 3).trans rfl;have hcz17_4:w15.cell? ⟨gb222,4,none⟩=some (.slice A0_4 l0_4.length c0_4):=(az BK222.out 4).trans rfl;have hfz17_0:=ay BK222.out 0;have hfz17_1:=ay BK222.out 1;have hfz17_2:=ay BK222.out 2;have hfz17_3:=ay BK222.out 3;have hfz17_4:=ay BK222.out 4)|((with_reducible refine aH (f:=26) rfl ?_);refine bq (some 7) rfl rfl Tryz.func26 (by kernel_rfl) rfl #[.agg #[.int .i64 a0_0,.string a0_1,.string a0_2,.slice A0_3 l0_3.length c0_3,.slice A0_4 l0_4.length c0_4]] rfl (by (try simp only [List.map_toArray,List.map_cons,List.map_nil]);first|done|rfl|(simp only [List.length_drop,List.length_take];rfl)) ?_;(with_reducible refine (eH.calls a0_0 a0_1 a0_2 _ _ l0_3 _ _ l0_4 false _ ?side1 ?side2 ?side3 ?side4 A3.out).mono ?_);(case side1=>repeat (first|exact (Kd.bP HR0_3.out HB.out)|(with_reducible refine Kd.dA ?_ _)|(with_reducible refine Kd.dG ?_ _)|(with_reducible refine Kd.eu ?_)));(case side2=>exact HC0_3.out);(case side3=>repeat (first|exact (Kd.bP HR0_4.out HB.out)|(with_reducible refine Kd.dA ?_ _)|(with_reducible refine Kd.dG ?_ _)|(with_reducible refine Kd.eu ?_)));(case side4=>exact HC0_4.out);rintro e w18 ⟨rfl,hb⟩;refine ⟨_,rfl,?_⟩;have n0_:=aa.mk (aI (g:=gb222) (o:=.cells #[.int .i64 a0_0,.string a0_1,.string a0_2,.slice A0_3 l0_3.length c0_3,.slice A0_4 l0_4.length c0_4] 25 (0,0)) (by (with_reducible repeat (first|refine aj ?_ _|refine ax ?_|refine ai ?_ _));exact BK222.out) hb);have n1_:=aa.mk (aI (g:=gb223) (o:=.cells #[.string a1_0,.slice A1_1 l1_1.length c1_1] 28 (0,0)) (by (with_reducible repeat (first|refine aj ?_ _|refine ax ?_|refine ai ?_ _));exact BK223.out) hb);have n2_:=aa.mk (aA (by repeat (first|(with_reducible first|exact HB.out|apply af|apply ae|apply ag|refine ah ?_ GE222.out|refine ah ?_ GE223.out)|exact HB.out)) hb);clear BK222;clear BK223;clear HB;have BK222:=n0_;have BK223:=n1_;have HB:=n2_;clear n0_ n1_ n2_;(try clear hb);(try clear hb2);(try clear hk);(try clear hi)))
  go_ret
  exact ⟨by first|rfl|(simp [aD,aG] <;> rfl)|(simp [*,aD,aG] <;> rfl),by repeat (first|(with_reducible first|exact HB.out|apply af|apply ae|apply ag|refine ah ?_ GE222.out|refine ah ?_ GE223.out)|exact HB.out)⟩
end Go.Proofs.YthfpaoacjpjnfaaGreatDoor.P


namespace Go.Proofs.YthfpaoacjpjnfaaGreatDoor.P
open Go.RowKit Go.Proofs.YthfpaoacjpjnfaaGreatDoorW.PrintWords Go.Proofs.YthfpaoacjpjnfaaGreatDoorW.PrintLast Go.Proofs.YthfpaoacjpjnfaaGreatDoorW.PrintMore
def ky (kind:Int) (typ val:ByteArray) (vs:List ByteArray):Int :=
  if kind=4 then (if (eQ typ.data.toList val.data.toList).isSome=true then (if gD (qo vs typ val) vs.length=true then 1 else 0) else 2)
  else (if (iV typ val val).2=false then 2 else (if gD (oU kind vs typ val) vs.length=true then 1 else 0))
theorem vH (o:Option (List UInt8)):(iq o).2=o.isSome:=by cases o <;> rfl
theorem xJ (kind:Int) (typ val:ByteArray) (hk:kind=4∨kind=6∨kind=7) (ht:cZ typ.data.toList=true) (hv:val.size≤100) :
    eH.f kind typ val [] []=some true:=by
  unfold eH.f
  rw [if_pos (show szF 12 ⟨kind,typ,val,[],[]⟩ from ⟨fun i hi=>absurd hi (Nat.not_lt_zero _),fun x hx=>by cases hx⟩)]
  congr 1
  unfold jP bZ gU
  dsimp only
  rw [if_neg (by omega),if_neg (by omega),if_pos hk,ht,decide_eq_true hv]
  rfl
theorem vU (kind:Int) (typ val a0:ByteArray) (l1:List S45) (vs:List ByteArray) (hk:kind=4∨kind=6∨kind=7) (ht:cZ typ.data.toList=true) (hts:typ.size≤9223372036854775807) (hv:val.size≤100)
    (hR:dI typ.data.toList≠0) (hvs:dF.f a0 l1 typ=some vs) (hl:vs.length≤1000000000) :
    Ev (fun k=>bS.f k kind typ val [] [] a0 l1) (ky kind typ val vs):=by
  unfold bS.f
  rw [xJ kind typ val hk ht hv]
  refine Ev.bs (Ev.congr (fun k=>if_pos rfl) ?_)
  suffices h:Ev (fun k=>bG.f k kind typ val [] [] a0 l1) (ky kind typ val vs) from h.bind (Ev.now _)
  refine Ev.step (fun k=>by rw [bG.f]) ?_
  have hc:cO.f typ=some (gm typ,true):=by rw [mO typ hts,if_neg hR]
  refine Ev.step (fun k=>by rw [bG.l0]) ?_
  refine Ev.ifn (c:=(0:Int) < (([]:List S25).length:Int)) (by decide) ?_
  refine Ev.ifn (c:=kind=1) (by omega) (Ev.ifn (c:=kind=2) (by omega) (Ev.ifn (c:=kind=3) (by omega) ?_))
  rw [hc]
  refine Ev.bs (Ev.congr (fun k=>if_pos rfl) ?_)
  refine Ev.ifn (c:=kind=8) (by omega) (Ev.ifn (c:=kind=5) (by omega) ?_)
  unfold ky
  by_cases h4:kind=4
  · rw [if_pos h4]
    refine Ev.ifp h4 ((jv typ val hts).bind ?_)
    rw [vH]
    cases hn:(eQ typ.data.toList val.data.toList).isSome with
    | false=>exact Ev.congr (fun k=>if_neg (by decide)) (Ev.now _)
    | true =>
      have hh:fJ.f a0 l1 typ val=some (gD (qo vs typ val) vs.length):=by
        unfold fJ.f
        rw [hvs]
        exact if_pos ⟨hl,hts⟩
      refine Ev.congr (fun k=>if_pos rfl) ?_
      rw [hh]
      refine Ev.bs ?_
      rw [kU]
      exact Ev.bs (Ev.now _)
  · rw [if_neg h4]
    refine Ev.ifn h4 ?_
    have ho:fB.f kind typ val [] [] a0 l1=some (if (iV typ val val).2=false then 2 else (if gD (oU kind vs typ val) vs.length=true then 1 else 0)):=by
      unfold fB.f
      rw [if_pos hts]
      cases hL:(iV typ val val).2 with
      | false=>rw [if_pos rfl,if_pos rfl]
      | true =>
        rw [if_neg (by decide),if_neg (by decide),hvs]
        exact if_pos hl
    rw [ho]
    exact Ev.bs (Ev.now _)
def fE (l:List S45) (typ:ByteArray):List ByteArray:=if dY (jq l typ) l.length < 0 then [] else (bQ l (dY (jq l typ) l.length)).f1
structure kK (l:List S45):Prop where
  len:l.length≤1000
  each:∀ i:Nat,i < l.length→(bQ l (i:Int)).f0.size≤1000∧(bQ l (i:Int)).f1.length≤1000
theorem Ap (a0:ByteArray) {l:List S45} (h:kK l) (typ:ByteArray) (ht:typ.size≤9223372036854775807):dF.f a0 l typ=some (fE l typ):=by
  unfold dF.f fE
  have h1:=h.len
  rw [if_pos ⟨by omega,fun i hi=>⟨by have:=(h.each i hi).1;omega,by have:=(h.each i hi).2;omega⟩,ht⟩]
theorem qI {l:List S45} (h:kK l) (typ:ByteArray):(fE l typ).length≤1000:=by
  unfold fE
  rcases jS (jq l typ) l.length with ⟨k,hk,_,_,e⟩|⟨_,e⟩
  · rw [e,if_neg (by omega)]
    exact (h.each k hk).2
  · rw [e,if_pos (by decide)]
    exact Nat.zero_le _
theorem yZ (l:List Int) (a:Int) (hl:l.length≤1000000):∀ (n i:Nat),l.length - i=n→i≤l.length→∃ r:Int,Ev (fun k=>aT.l0 k l a (l.length:Int) (i:Int)) r∧decide (r ≥ 0)=decide (a ∈ l.drop i):=by
  intro n
  induction n with
  | zero =>
    intro i hn hi
    refine ⟨-1,Ev.step (fun k=>by rw [aT.l0]) (Ev.ifn (c:=(i:Int) < (l.length:Int)) (by omega) (Ev.now _)),?_⟩
    rw [List.drop_eq_nil_of_le (by omega)]
    simp
  | succ n ih =>
    intro i hn hi
    have hd:l.drop i=rd l (i:Int) :: l.drop (i+1):=by
      rw [List.drop_eq_getElem_cons (by omega)]
      congr 1
      unfold rd
      rw [Int.toNat_natCast,List.getD_eq_getElem?_getD,List.getElem?_eq_getElem (by omega)]
      rfl
    by_cases he:a=rd l (i:Int)
    · refine ⟨(i:Int),Ev.step (fun k=>by rw [aT.l0]) (Ev.ifp (c:=(i:Int) < (l.length:Int)) (by omega) (Ev.ifp (c:=0≤(i:Int)) (by omega) (Ev.ifp (c:=(i:Int) < (l.length:Int)) (by omega) (Ev.ifp he (Ev.now _))))),?_⟩
      rw [hd,decide_eq_true (show ((i:Int) ≥ 0) by omega),decide_eq_true (by rw [he];exact List.mem_cons_self)]
    · obtain ⟨r,hr,hm⟩:=ih (i+1) (by omega) (by omega)
      have hw:wrap64 ((i:Int)+1)=((i+1:Nat):Int):=by unfold wrap64;omega
      rw [← hw] at hr
      refine ⟨r,Ev.step (fun k=>by rw [aT.l0]) (Ev.ifp (c:=(i:Int) < (l.length:Int)) (by omega) (Ev.ifp (c:=0≤(i:Int)) (by omega) (Ev.ifp (c:=(i:Int) < (l.length:Int)) (by omega) (Ev.ifn he hr)))),?_⟩
      rw [hm,hd]
      simp [he]
theorem kJ (l:List Int) (a:Int) (hl:l.length≤1000000):Ev (fun k=>aZ.f k l a) (decide (a ∈ l)):=by
  obtain ⟨r,hr,hm⟩:=yZ l a hl l.length 0 (by omega) (by omega)
  rw [List.drop_zero] at hm
  rw [← hm]
  exact hr.bind (Ev.now _)
def firstT (l:List Int) (is other:Int):Int:=if is ∈ l then is else if (2:Int) ∈ l then 2 else other
theorem sN (l:List Int) (a b:Int) (hl:l.length≤1000000):Ev (fun k=>gy.f k l a b) (firstT l a b):=by
  unfold firstT gy.f
  by_cases h1:a ∈ l
  · rw [if_pos h1]
    refine (kJ l a hl).bind ?_
    rw [decide_eq_true h1]
    exact Ev.ifp rfl (Ev.now _)
  · rw [if_neg h1]
    refine (kJ l a hl).bind ?_
    rw [decide_eq_false h1]
    refine Ev.ifn (by decide) ((kJ l 2 hl).bind ?_)
    by_cases h2:(2:Int) ∈ l
    · rw [if_pos h2,decide_eq_true h2]
      exact Ev.ifp rfl (Ev.now _)
    · rw [if_neg h2,decide_eq_false h2]
      exact Ev.ifn (by decide) (Ev.now _)
theorem je (l:List Int) (a b:Int) (ha:a=0∨a=1∨a=2) (hb:b=0∨b=1∨b=2):firstT l a b=0∨firstT l a b=1∨firstT l a b=2:=by
  unfold firstT
  split
  · exact ha
  · split
    · exact .inr (.inr rfl)
    · exact hb
def vQ (x:Int):Int:=rd [1,0,2] x
def jC (kind:Int) (typ val:ByteArray) (parts vs:List ByteArray):Int :=
  if kind=8 then (if 0 < vs.length then 1 else 0)
  else if kind=5 then (if dI typ.data.toList≠1 then 2 else if gD (pU typ (parts.map gm) vs) vs.length=true then 1 else 0)
  else ky kind typ val vs
theorem nY (kind:Int) (typ val:ByteArray) (parts vs:List ByteArray):jC kind typ val parts vs=0∨jC kind typ val parts vs=1∨jC kind typ val parts vs=2:=by
  unfold jC ky
  repeat' split
  all_goals simp
def evG (V:ByteArray→List ByteArray) (f:S25) (ks:List Int):Int :=
  if f.f0=1 then firstT ks 0 1 else if f.f0=2 then firstT ks 1 0 else if f.f0=3 then vQ (rd ks 0) else
  if dI f.f1.data.toList=0 then 2 else jC f.f0 f.f1 f.f2 f.f3 (V f.f1)
def evD (V:ByteArray→List ByteArray):Nat→S25→Int
  | 0,f=>evG V f []
  | n+1,f=>evG V f (f.f4.map (evD V n))
theorem xe (V:ByteArray→List ByteArray):∀ (n:Nat) (f:S25),jP n f=true→evD V n f=0∨evD V n f=1∨evD V n f=2:=by
  intro n
  induction n with
  | zero =>
    intro f hm
    unfold evD evG
    split
    · exact je _ _ _ (.inl rfl) (.inr (.inl rfl))
    · split
      · exact je _ _ _ (.inr (.inl rfl)) (.inl rfl)
      · split
        · exact .inr (.inl rfl)
        · split
          · exact .inr (.inr rfl)
          · exact nY _ _ _ _ _
  | succ n ih =>
    intro f hm
    unfold evD evG
    split
    · exact je _ _ _ (.inl rfl) (.inr (.inl rfl))
    · rename_i h1
      split
      · exact je _ _ _ (.inr (.inl rfl)) (.inl rfl)
      · rename_i h2
        split
        · rename_i h3
          unfold jP bZ at hm
          rw [if_neg (by omega),if_pos h3,Bool.and_eq_true,Bool.and_eq_true,Bool.and_eq_true,decide_eq_true_eq] at hm
          obtain ⟨⟨_,hl⟩,_,hk⟩:=hm
          obtain ⟨x,hx⟩:=List.length_eq_one_iff.1 hl
          rw [hx,List.all_cons,Bool.and_eq_true] at hk
          rw [hx]
          have:=ih x hk.1
          show vQ (evD V n x)=0∨vQ (evD V n x)=1∨vQ (evD V n x)=2
          rcases this with h|h|h <;> rw [h] <;> decide
        · split
          · exact .inr (.inr rfl)
          · exact nY _ _ _ _ _
theorem wI (l:List ByteArray):∀ (n i:Nat),fO l i n=true→∀ j,i≤j→j < i+n→kz l j=true:=by
  intro n
  induction n with
  | zero=>intro i _ j h1 h2;omega
  | succ n ih =>
    intro i h j h1 h2
    unfold fO at h
    rw [Bool.and_eq_true] at h
    by_cases e:j=i
    · rw [e];exact h.1
    · exact ih (i+1) h.2 j (by omega) (by omega)
theorem nQ {l:List ByteArray} (h:gG l=true):2≤l.length∧l.length≤8∧∀ i:Nat,i < l.length→(bU ByteArray.empty l (i:Int)).size≤100:=by
  unfold gG at h
  rw [Bool.and_eq_true,Bool.and_eq_true,Bool.and_eq_true,decide_eq_true_eq,decide_eq_true_eq] at h
  obtain ⟨⟨⟨h2,h8⟩,_⟩,hm⟩:=h
  refine ⟨h2,h8,fun i hi=>?_⟩
  have:=wI l _ 0 hm i (by omega) (by omega)
  unfold kz at this
  rw [Bool.and_eq_true,decide_eq_true_eq] at this
  exact this.1
theorem tT (t v:List UInt8) (hr:dI t=1):(iq (eQ t v)).1.size≤100:=by
  unfold eQ jM
  split
  · exact Nat.zero_le _
  · rename_i h
    try rw [if_pos hr]
    split
    · exact Nat.zero_le _
    · show (mk (fu v)).size≤100
      rw [dZ]
      have:=lu v
      rw [not_or] at h
      omega
theorem Ay {l:List S45} (hE:kK l) (typ:ByteArray) (hr:dI typ.data.toList=1) {parts:List ByteArray} (hp:gG parts=true):qF typ parts (fE l typ):=by
  obtain ⟨h2,h8,hs⟩:=nQ hp
  have hv:=qI hE typ
  exact ⟨h2,by omega,fun i hi=>by have:=hs i hi;omega,by omega,fun i hi=>by have:=tT typ.data.toList (bU ByteArray.empty (fE l typ) (i:Int)).data.toList hr;omega⟩
theorem zQ (a0:ByteArray) {l1:List S45} (hE:kK l1) (kind:Int) (typ val:ByteArray) (parts:List ByteArray) (kids:List S25) (kn:Int) (hk:kind≠1∧kind≠2∧kind≠3) (ht:typ.size≤1000) (hp:kind=5→gG parts=true) (i:Int) (hi:¬ i < kn) (x5:List Int) (x13:List S25) :
    Ev (fun k=>bG.l0 k x5 x13 kn i kind typ val parts kids a0 l1) (if dI typ.data.toList=0 then 2 else jC kind typ val parts (fE l1 typ)):=by
  have hts:typ.size≤9223372036854775807:=by omega
  have hvs:=Ap a0 hE typ hts
  have hvl:=qI hE typ
  refine Ev.step (fun k=>by rw [bG.l0]) (Ev.ifn hi (Ev.ifn hk.1 (Ev.ifn hk.2.1 (Ev.ifn hk.2.2 ?_))))
  by_cases hR:dI typ.data.toList=0
  · rw [if_pos hR,mO typ hts,if_pos hR]
    exact Ev.bs (Ev.ifn (by decide) (Ev.now _))
  rw [if_neg hR,mO typ hts,if_neg hR]
  refine Ev.bs (Ev.ifp rfl ?_)
  unfold jC
  by_cases h8:kind=8
  · rw [if_pos h8]
    refine Ev.ifp h8 ?_
    rw [hvs]
    refine Ev.bs ?_
    rw [kU]
    refine Ev.bs ?_
    by_cases h0:0 < (fE l1 typ).length
    · rw [if_pos h0,decide_eq_true (show ((fE l1 typ).length:Int) > 0 by omega)];exact Ev.now _
    · rw [if_neg h0,decide_eq_false (show ¬ ((fE l1 typ).length:Int) > 0 by omega)];exact Ev.now _
  rw [if_neg h8]
  refine Ev.ifn h8 ?_
  by_cases h5:kind=5
  · rw [if_pos h5]
    refine Ev.ifp h5 ?_
    have ho:iA.f kind typ val parts kids a0 l1=some (if dI typ.data.toList≠1 then 2 else if gD (pU typ (parts.map gm) (fE l1 typ)) (fE l1 typ).length=true then 1 else 0):=by
      unfold iA.f
      rw [if_pos hts]
      by_cases h1:dI typ.data.toList=1
      · rw [if_neg (fun h=>h h1),if_neg (fun h=>h h1),hvs]
        exact if_pos (Ay hE typ h1 (hp h5))
      · rw [if_pos h1,if_pos h1]
    rw [ho]
    exact Ev.bs (Ev.now _)
  rw [if_neg h5]
  refine Ev.ifn h5 ?_
  unfold ky
  by_cases h4:kind=4
  · rw [if_pos h4]
    refine Ev.ifp h4 ((jv typ val hts).bind ?_)
    rw [vH]
    cases hn:(eQ typ.data.toList val.data.toList).isSome with
    | false=>exact Ev.congr (fun k=>if_neg (by decide)) (Ev.now _)
    | true =>
      have hh:fJ.f a0 l1 typ val=some (gD (qo (fE l1 typ) typ val) (fE l1 typ).length):=by
        unfold fJ.f
        rw [hvs]
        exact if_pos ⟨by omega,hts⟩
      refine Ev.congr (fun k=>if_pos rfl) ?_
      rw [hh]
      refine Ev.bs ?_
      rw [kU]
      exact Ev.bs (Ev.now _)
  · rw [if_neg h4]
    refine Ev.ifn h4 ?_
    have ho:fB.f kind typ val parts kids a0 l1=some (if (iV typ val val).2=false then 2 else (if gD (oU kind (fE l1 typ) typ val) (fE l1 typ).length=true then 1 else 0)):=by
      unfold fB.f
      rw [if_pos hts]
      cases hL:(iV typ val val).2 with
      | false=>rw [if_pos rfl,if_pos rfl]
      | true =>
        rw [if_neg (by decide),if_neg (by decide),hvs]
        exact if_pos (by omega)
    rw [ho]
    exact Ev.bs (Ev.now _)
theorem zJ (a0:ByteArray) {l1:List S45} (ev:S25→Int) (f:S25) (r:Int) (hl:f.f4.length≤40) (hk:∀ x ∈ f.f4,Ev (fun k=>bG.f k x.f0 x.f1 x.f2 x.f3 x.f4 a0 l1) (ev x))
    (hend:Ev (fun k=>bG.l0 k (f.f4.map ev) f.f4 (f.f4.length:Int) (f.f4.length:Int) f.f0 f.f1 f.f2 f.f3 f.f4 a0 l1) r):∀ (n i:Nat),f.f4.length - i=n→i≤f.f4.length →
    Ev (fun k=>bG.l0 k ((f.f4.take i).map ev) f.f4 (f.f4.length:Int) (i:Int) f.f0 f.f1 f.f2 f.f3 f.f4 a0 l1) r:=by
  intro n
  induction n with
  | zero =>
    intro i hn hi
    obtain rfl:i=f.f4.length:=by omega
    rw [List.take_length]
    exact hend
  | succ n ih =>
    intro i hn hi
    have c1:(i:Int) < (f.f4.length:Int):=by omega
    have hw:wrap64 ((i:Int)+1)=((i+1:Nat):Int):=by unfold wrap64;omega
    have hx:bi f.f4 (i:Int) ∈ f.f4:=xZ (by omega)
    have e:(f.f4.take (i+1)).map ev=(f.f4.take i).map ev++[ev (bi f.f4 (i:Int))]:=by
      rw [List.take_succ_eq_append_getElem (by omega),List.map_append]
      congr 1
      unfold bi
      rw [Int.toNat_natCast,List.getD_eq_getElem?_getD,List.getElem?_eq_getElem (by omega)]
      rfl
    have h:=ih (i+1) (by omega) (by omega)
    rw [← hw,e] at h
    refine Ev.step (fun k=>by rw [bG.l0]) (Ev.ifp c1 (Ev.ifp (c:=0≤(i:Int)) (by omega) (Ev.ifp c1 ((hk _ hx).bind (Ev.ifp ?_ h)))))
    rw [List.length_map,List.length_take]
    omega
theorem Ai (a0:ByteArray) {l1:List S45} (hE:kK l1):∀ (n:Nat) (f:S25),jP n f=true→Ev (fun k=>bG.f k f.f0 f.f1 f.f2 f.f3 f.f4 a0 l1) (evD (fE l1) n f):=by
  have fin:∀ (f:S25) (ks:List Int) (n:Nat),ks.length≤40→(f.f0=3→0 < ks.length∧(rd ks 0=0∨rd ks 0=1∨rd ks 0=2))→(f.f0=1∨f.f0=2∨f.f0=3∨(f.f1.size≤1000∧(f.f0=5→gG f.f3=true))) →
      Ev (fun k=>bG.l0 k ks f.f4 (f.f4.length:Int) (f.f4.length:Int) f.f0 f.f1 f.f2 f.f3 f.f4 a0 l1) (evG (fE l1) f ks):=by
    intro f ks n hks h3 hc
    by_cases c1:f.f0=1
    · unfold evG
      rw [if_pos c1]
      exact Ev.step (fun k=>by rw [bG.l0]) (Ev.ifn (Int.lt_irrefl _) (Ev.ifp c1 ((sN ks 0 1 (by omega)).bind (Ev.now _))))
    by_cases c2:f.f0=2
    · unfold evG
      rw [if_neg c1,if_pos c2]
      exact Ev.step (fun k=>by rw [bG.l0]) (Ev.ifn (Int.lt_irrefl _) (Ev.ifn c1 (Ev.ifp c2 ((sN ks 1 0 (by omega)).bind (Ev.now _)))))
    by_cases c3:f.f0=3
    · unfold evG
      rw [if_neg c1,if_neg c2,if_pos c3]
      obtain ⟨hl,hr⟩:=h3 c3
      refine Ev.step (fun k=>by rw [bG.l0]) ?_
      refine Ev.ifn (Int.lt_irrefl _) (Ev.ifn c1 (Ev.ifn c2 (Ev.ifp c3 ?_)))
      refine Ev.bs ?_
      exact Ev.ifp (by omega) (Ev.ifp (by omega) (Ev.ifp (show rd ks 0 < (3:Int) by omega) (Ev.now _)))
    · unfold evG
      rw [if_neg c1,if_neg c2,if_neg c3]
      obtain ⟨ht,hp⟩:f.f1.size≤1000∧(f.f0=5→gG f.f3=true):=by rcases hc with h|h|h|h <;> first|exact absurd h (by assumption)|exact h
      exact zQ a0 hE f.f0 f.f1 f.f2 f.f3 f.f4 _ ⟨c1,c2,c3⟩ ht hp _ (Int.lt_irrefl _) ks f.f4
  have leafs:∀ (f:S25) (d o:Bool),bZ f.f0 f.f1 f.f2 f.f3 f.f4 d o=true→f.f0=1∨f.f0=2∨f.f0=3∨(f.f1.size≤1000∧(f.f0=5→gG f.f3=true)):=by
    intro f d o hm
    by_cases c1:f.f0=1∨f.f0=2
    · rcases c1 with h|h
      · exact .inl h
      · exact .inr (.inl h)
    by_cases c3:f.f0=3
    · exact .inr (.inr (.inl c3))
    refine .inr (.inr (.inr ?_))
    have ty:∀ {b:Bool},(gU f.f1 f.f4 && b)=true→f.f1.size≤1000:=by
      intro b h
      unfold gU cZ at h
      rw [Bool.and_eq_true,Bool.and_eq_true,Bool.and_eq_true,Bool.and_eq_true,Bool.and_eq_true,decide_eq_true_eq] at h
      have:=h.1.1.1.1.2
      rw [← bL] at this
      omega
    unfold bZ at hm
    rw [if_neg c1,if_neg c3] at hm
    split at hm
    · rename_i h4
      rw [Bool.and_assoc] at hm
      exact ⟨ty hm,fun h=>by omega⟩
    · split at hm
      · rw [Bool.and_assoc] at hm
        refine ⟨ty hm,fun _=>?_⟩
        rw [Bool.and_eq_true,Bool.and_eq_true] at hm
        exact hm.2.2
      · rename_i h5
        split at hm
        · rw [Bool.and_assoc] at hm
          exact ⟨ty hm,fun h=>absurd h h5⟩
        · exact absurd hm (by decide)
  intro n
  induction n with
  | zero =>
    intro f hm
    unfold jP at hm
    have hlf:=leafs f _ _ hm
    have h0:f.f4=[]:=by
      unfold bZ gU at hm
      have:f.f4.length=0:=by
        repeat' split at hm
        all_goals try simp only [Bool.and_eq_true,decide_eq_true_eq] at hm
        all_goals first|exact hm.2.1|exact hm.1.1.2|exact absurd hm (by decide)
      exact List.length_eq_zero_iff.1 this
    have h3:f.f0≠3:=by
      intro h3
      unfold bZ at hm
      rw [if_neg (by omega),if_pos h3,h0,Bool.and_eq_true,Bool.and_eq_true] at hm
      exact absurd hm.1.2 (by decide)
    have:=fin f [] 0 (by decide) (fun h=>absurd h h3) hlf
    rw [h0] at this
    unfold evD
    refine Ev.step (fun k=>by rw [bG.f]) ?_
    rw [h0]
    exact this
  | succ n ih =>
    intro f hm
    unfold jP at hm
    have hlf:=leafs f _ _ hm
    have hall:(f.f0=1∨f.f0=2∨f.f0=3)→f.f4.length≤40∧f.f4.all (jP n)=true∧(f.f0=3→f.f4.length=1):=by
      intro hk
      unfold bZ at hm
      by_cases c1:f.f0=1∨f.f0=2
      · rw [if_pos c1] at hm
        simp only [Bool.and_eq_true,decide_eq_true_eq] at hm
        exact ⟨hm.1.2,hm.2.2,fun h=>by omega⟩
      · have c3:f.f0=3:=by omega
        rw [if_neg c1,if_pos c3] at hm
        simp only [Bool.and_eq_true,decide_eq_true_eq] at hm
        exact ⟨by omega,hm.2.2,fun _=>hm.1.2⟩
    unfold evD
    refine Ev.step (fun k=>by rw [bG.f]) ?_
    by_cases hk:f.f0=1∨f.f0=2∨f.f0=3
    · obtain ⟨hl,ha,h1⟩:=hall hk
      have hx:∀ x ∈ f.f4,jP n x=true:=List.all_eq_true.1 ha
      have hend:=fin f (f.f4.map (evD (fE l1) n)) 0 (by rw [List.length_map];exact hl) (fun h=>by
        obtain ⟨x,hxx⟩:=List.length_eq_one_iff.1 (h1 h)
        rw [hxx]
        exact ⟨by simp,xe (fE l1) n x (hx x (by rw [hxx];exact List.mem_cons_self))⟩) hlf
      exact zJ a0 (evD (fE l1) n) f _ hl (fun x hm=>ih x (hx x hm)) hend f.f4.length 0 (by omega) (by omega)
    · have h0:f.f4=[]:=by
        unfold bZ gU at hm
        rw [if_neg (by omega),if_neg (by omega)] at hm
        have:f.f4.length=0:=by
          repeat' split at hm
          all_goals try simp only [Bool.and_eq_true,decide_eq_true_eq] at hm
          all_goals first|exact hm.1.1.2|exact absurd hm (by decide)
        exact List.length_eq_zero_iff.1 this
      have:=fin f [] 0 (by decide) (fun h=>absurd (.inr (.inr h)) hk) hlf
      rw [h0] at this ⊢
      exact this
theorem uW (a0:ByteArray) {l1:List S45} (hE:kK l1) (f:S25) (hs:szF 12 f):Ev (fun k=>bS.f k f.f0 f.f1 f.f2 f.f3 f.f4 a0 l1) (if jP 12 f=true then evD (fE l1) 12 f else 2):=by
  unfold bS.f
  have hm:eH.f f.f0 f.f1 f.f2 f.f3 f.f4=some (jP 12 f):=by
    unfold eH.f
    exact if_pos hs
  rw [hm]
  refine Ev.bs ?_
  by_cases h:jP 12 f=true
  · rw [if_pos h]
    exact Ev.ifp h ((Ai a0 hE 12 f h).bind (Ev.now _))
  · rw [if_neg h]
    exact Ev.ifn h (Ev.now _)
end Go.Proofs.YthfpaoacjpjnfaaGreatDoor.P

namespace Go.Proofs.YthfpaoacjpjnfaaGreatDoor.P
open Go.RowKit Go.Proofs.YthfpaoacjpjnfaaGreatDoorW.PrintWords Go.Proofs.YthfpaoacjpjnfaaGreatDoorW.PrintLast Go.Proofs.YthfpaoacjpjnfaaGreatDoorW.PrintMore
attribute [local go_sem] dP dS eP eO dE dD dQ dR
end Go.Proofs.YthfpaoacjpjnfaaGreatDoor.P


namespace Go.Proofs.YthfpaoacjpjnfaaGreatDoor.P
open Go.RowKit Go.Proofs.YthfpaoacjpjnfaaGreatDoorW.PrintWords Go.Proofs.YthfpaoacjpjnfaaGreatDoorW.PrintLast Go.Proofs.YthfpaoacjpjnfaaGreatDoorW.PrintMore
theorem yI (V:ByteArray→List ByteArray) (n:Nat) (kind:Int) (typ val:ByteArray) (parts:List ByteArray) (hk:kind≠1∧kind≠2∧kind≠3) :
    evD V n ⟨kind,typ,val,parts,[]⟩=if dI typ.data.toList=0 then 2 else jC kind typ val parts (V typ):=by
  cases n <;> (unfold evD evG;rw [if_neg hk.1,if_neg hk.2.1,if_neg hk.2.2])
theorem qx (n:Nat) (kind:Int) (typ val:ByteArray) (parts:List ByteArray):jP n ⟨kind,typ,val,parts,[]⟩=bZ kind typ val parts [] true true:=by
  cases n <;> rfl
theorem sO (n:Nat) (kind:Int) (typ val:ByteArray) (parts:List ByteArray) (h:∀ i:Nat,i < parts.length→(bU ByteArray.empty parts (i:Int)).size≤4611686018427387903):szF n ⟨kind,typ,val,parts,[]⟩:=by
  cases n with
  | zero=>exact h
  | succ n=>exact ⟨h,fun x hx=>by cases hx⟩
theorem qm (a0:ByteArray) {l1:List S45} (hE:kK l1) (kind:Int) (typ val:ByteArray) (parts:List ByteArray) (hk:kind≠1∧kind≠2∧kind≠3) (hm:bZ kind typ val parts [] true true=true)
    (hs:∀ i:Nat,i < parts.length→(bU ByteArray.empty parts (i:Int)).size≤4611686018427387903) :
    Ev (fun k=>bS.f k kind typ val parts [] a0 l1) (if dI typ.data.toList=0 then 2 else jC kind typ val parts (fE l1 typ)):=by
  have h:=uW a0 hE ⟨kind,typ,val,parts,[]⟩ (sO 12 kind typ val parts hs)
  rw [qx,hm,if_pos rfl,yI _ _ _ _ _ _ hk] at h
  exact h
theorem sJ (a0:ByteArray) {l1:List S45} (hE:kK l1) (kind:Int) (typ val:ByteArray) (parts:List ByteArray) (hm:bZ kind typ val parts [] true true=false)
    (hs:∀ i:Nat,i < parts.length→(bU ByteArray.empty parts (i:Int)).size≤4611686018427387903) :
    Ev (fun k=>bS.f k kind typ val parts [] a0 l1) 2:=by
  have h:=uW a0 hE ⟨kind,typ,val,parts,[]⟩ (sO 12 kind typ val parts hs)
  rw [qx,hm,if_neg (by decide)] at h
  exact h
theorem gM:∀ i:Nat,i < ([]:List ByteArray).length→(bU ByteArray.empty [] (i:Int)).size≤4611686018427387903:=fun i hi=>absurd hi (Nat.not_lt_zero _)
theorem pO:(⟨#[]⟩:ByteArray).toList=[]:=by rw [toList_data]
theorem Bb {typ:ByteArray} (ht:cZ typ.data.toList=true):bZ 8 typ (⟨#[]⟩:ByteArray) [] [] true true=true:=by
  unfold bZ gU
  rw [if_neg (by decide),if_neg (by decide),if_neg (by decide),if_neg (by decide),if_pos rfl,ht,pO]
  rfl
theorem lW {kind:Int} {typ val:ByteArray} (hk:kind=4∨kind=6∨kind=7) (ht:cZ typ.data.toList=true) (hv:val.size≤100):bZ kind typ val [] [] true true=true:=by
  unfold bZ gU
  rw [if_neg (by omega),if_neg (by omega),if_pos hk,ht,decide_eq_true hv]
  rfl
theorem Bl {typ:ByteArray} {parts:List ByteArray} (ht:cZ typ.data.toList=true) (hp:gG parts=true):bZ 5 typ (⟨#[]⟩:ByteArray) parts [] true true=true:=by
  unfold bZ gU
  rw [if_neg (by decide),if_neg (by decide),if_neg (by decide),if_pos rfl,ht,hp,pO]
  rfl
theorem sH (a0:ByteArray) {l1:List S45} (hE:kK l1) (typ:ByteArray) (ht:cZ typ.data.toList=true) (hR:dI typ.data.toList≠0) :
    Ev (fun k=>bS.f k 8 typ (⟨#[]⟩:ByteArray) [] [] a0 l1) (if 0 < (fE l1 typ).length then 1 else 0):=by
  have h:=qm a0 hE 8 typ (⟨#[]⟩:ByteArray) [] (by decide) (Bb ht) gM
  rw [if_neg hR] at h
  exact h
def subK {α:Type} (d:Kd α) (p:α→List Value→Prop):Kd α where
  sz:=d.sz
  E:=d.E
  K w x cs:=d.K w x cs∧p x cs
  M w base ok x cs:=d.M w base ok x cs∧p x cs
  K_len h:=d.K_len h.1
  K_one h:=d.K_one h.1
  K_below hb h:=⟨d.K_below hb h.1,h.2⟩
  K_of_M h:=⟨d.K_of_M h.1,h.2⟩
  M_mono hk h:=⟨d.M_mono hk h.1,h.2⟩
  M_bound h:=⟨d.M_bound h.1,h.2⟩
  M_move hm h:=⟨d.M_move hm h.1,h.2⟩
  M_lower hb h:=⟨d.M_lower hb h.1,h.2⟩
def Bi (x:S45) (cs:List Value):Prop:=∃ A,cs=[.string x.f0,.slice A x.f1.length x.f1.length]
def ktA:Kd S45:=subK k45 Bi
theorem mq {W:World} {ok:Nat→Prop} {x:S45} {c:List Value} (h:Kd.FK ktA W ok x c):Kd.FK k45 W ok x c:=fun W' hW=>(h W' hW).1
theorem vv {w:World} {base:Nat} {ok:Nat→Prop} {v:Value} {xs:List S45} (h:Kd.N ktA 45 w base ok v xs):Kd.N k45 45 w base ok v xs:=by
  obtain ⟨h0,rows,hl,hR,hf⟩:=h
  exact ⟨h0,rows,hl,hR,fun j x c hx hc=>mq (hf j x c hx hc)⟩
theorem wH {W:World} {ok:Nat→Prop} {x:S45} {cs:List Value} (h:Kd.FK ktA W ok x cs):∃ A1,cs=[.string x.f0,.slice A1 x.f1.length x.f1.length]∧Kd.F Kd.string W ok A1 x.f1.length x.f1:=by
  obtain ⟨A1,c1,rfl,l1,g1⟩:=jN (mq h)
  obtain ⟨A,e⟩:=(Kd.iE h).2
  injection (Option.some.inj (show some (Value.slice A1 x.f1.length c1)=some (Value.slice A x.f1.length x.f1.length) from congrArg (fun l=>l[1]?) e)) with ea eb ec
  subst ec
  exact ⟨A1,rfl,g1⟩
theorem kY (W:World) (ok:Nat→Prop) (x:S45) {A1:Option Addr} {c1:Nat} (e:∃ a n,Value.slice A1 x.f1.length c1=.slice a n n) (l1:x.f1.length≤c1) (g1:Kd.F Kd.string W ok A1 x.f1.length x.f1):Kd.FK ktA W ok x [.string x.f0,.slice A1 x.f1.length c1]:=fun W2 hW=>by
  refine ⟨xy W2 x l1 (g1 W2 hW),A1,?_⟩
  obtain ⟨a,n,e⟩:=e
  injection e with e1 e2 e3
  rw [e3,← e2]
theorem vJ {α:Type} (d:Kd α) {W:World} (base e:Nat) {xs:List α} {inner:List Value} {ok okp:Nat→Prop}
    (hrep:bF (d.M W base okp) d.sz xs inner) (hok:∀ k,okp k→ok k) (hfresh:ok W.heap.size) (hbase:base≤W.heap.size) (hm:xs.length≤9223372036854775807) :
    d.R e (W.alloc (.cells inner.toArray e)) base ok (.slice (some ⟨W.heap.size,0,none⟩) xs.length xs.length) xs:=by
  have own:∀ k,(Value.slice (some ⟨W.heap.size,0,none⟩) xs.length xs.length).ownBlock=some k→W.heap.size=k:=fun k hk=>by simpa [Value.ownBlock] using hk
  refine ⟨fun k hk=>own k hk ▸ hfresh,inner,?_,hrep.imp_ (fun p c hp=>d.M_mono (fun k hk=>⟨hok k hk.1,fun he=>?_⟩) (Kd.ry (d.M_bound hp) (af (Below.refl _ _) _)))⟩
  · have h2:=World.ownsRow_lit (base:=base) (e:=e) (size:=d.sz) W inner.toArray xs.length hbase (by simpa [maxLen] using hm) (by simpa using hrep.1)
    simpa using h2
  · have h3:=own k he.symm
    have:=hk.2.2.1
    omega
section
variable {P:Program} {ops:Array Oper} {rest:List Oper} {o:Oper} {a:Act} {Q:Exit→Act→World→Prop} {Kc:Act→World→Prop} {α:Type}
theorem qX (d:Kd α) {w0 W:World} (base e:Nat) (hgd:o.guard=none) {N:Tmp} (_hd:o.dst=some N) {xs:List α} {inner:List Value} {ok okp:Nat→Prop}
    (hrun:(execOp a.eval o).run P W=.ok (.value (.slice (some ⟨W.heap.size,0,none⟩) xs.length xs.length)) (W.alloc (.cells inner.toArray e)))
    (hrep:bF (d.M W base okp) d.sz xs inner) (hok:∀ k,okp k→ok k) (hfresh:ok W.heap.size) (HB:Below base w0 W) (hbase:base≤W.heap.size) (hm:xs.length≤9223372036854775807)
    (h:∀ v1 w1,d.R e w1 base ok v1 xs→Below base w0 w1→W.grownBy w1 none→(∃ b,v1.ownBlock=some b∧W.heap.size≤b)→(∃ a n,v1=.slice a n n)→wpList P ops Q rest (a.put o.dst v1) w1):wpList P ops Q (o :: rest) a W :=
  Kd.mZ hgd hrun (h _ _ (vJ d base e hrep hok hfresh hbase hm) (HB.alloc hbase _) (World.grownBy_alloc W _ none) ⟨W.heap.size,by simp [Value.ownBlock],Nat.le_refl _⟩ ⟨_,_,rfl⟩)
theorem nX (d:Kd α) {w0 W:World} (base e:Nat) (hw:Region.wanted o (yielded ops a.tmps)=true) {N:Tmp} (_hd:o.dst=some N) {xs:List α} {inner:List Value} {ok okp:Nat→Prop}
    (hrun:(execOp a.eval o).run P W=.ok (.value (.slice (some ⟨W.heap.size,0,none⟩) xs.length xs.length)) (W.alloc (.cells inner.toArray e)))
    (hrep:bF (d.M W base okp) d.sz xs inner) (hok:∀ k,okp k→ok k) (hfresh:ok W.heap.size) (HB:Below base w0 W) (hbase:base≤W.heap.size) (hm:xs.length≤9223372036854775807)
    (h:∀ v1 w1,d.R e w1 base ok v1 xs→Below base w0 w1→W.grownBy w1 none→(∃ b,v1.ownBlock=some b∧W.heap.size≤b)→(∃ a n,v1=.slice a n n)→Kc (a.put o.dst v1) w1):if Region.wanted o (yielded ops a.tmps)=true then Oper.wp P o a W Kc Q else Kc (a.put o.dst undef) W :=
  pg hw hrun (h _ _ (vJ d base e hrep hok hfresh hbase hm) (HB.alloc hbase _) (World.grownBy_alloc W _ none) ⟨W.heap.size,by simp [Value.ownBlock],Nat.le_refl _⟩ ⟨_,_,rfl⟩)
theorem grow_step {w0 W:World} (base:Nat) (hg:o.guard=none) (s x:Operand) (t:TypeId) (hop:o.op=Op.call { callee:=Callee.builtin Builtin.append,args:=#[s,x],argTypes:=#[t,t] })
    (i:TypeInfo) (z:Value) (h1:P.underlying t=some (.slice 9)) (h2:P.info? 9=some i) (h3:i.zero=some z) (h4:i.size=1) (h5:i.bytes=16) (h6:z.cells.size=1)
    (A:Option Addr) (xs:List ByteArray) (p:ByteArray) (ad:Addr) (ok:Nat→Prop) (hC:Kd.string.C W A xs.length xs) (hs:a.eval s=.slice A xs.length xs.length) (hx:a.eval x=.slice (some ad) 1 1) (hc:W.cell? ad=some (.string p))
    (hfresh:∀ k,W.heap.size≤k→ok k) (HB:Below base w0 W) (hbase:base≤W.heap.size) (hl:xs.length≤1000)
    (h:∀ v1 w1,Kd.string.R 9 w1 base ok v1 (xs++[p])→Below base w0 w1→W.grownBy w1 none→(∃ b,v1.ownBlock=some b∧W.heap.size≤b)→Kc (a.put o.dst v1) w1) {E:Prop} :
    if Region.wanted o (yielded ops a.tmps)=true then Oper.wp P o a W Kc Q else E:=by
  refine step_append_grows hg s x t hop 9 i z 1 16 h1 h2 h3 h4 h5 h6 (by decide) A xs.length xs.length (xs.map Value.string) hs ?_ (by simp) ?_ ad 1 1 [.string p] hx rfl ?_ ?_ (by omega) (by simp only [maxLen];omega) (by omega) ?_
  · intro hA
    subst hA
    by_cases h0:0 < xs.length
    · obtain ⟨ad',he,_⟩:=hC.2.2 h0
      cases he
    · omega
  · intro b hb j u hj
    subst hb
    rw [List.getElem?_map,Option.map_eq_some_iff] at hj
    obtain ⟨q,hq,rfl⟩:=hj
    have hjl:=(List.getElem?_eq_some_iff.1 hq).1
    obtain ⟨ad',he,hcell⟩:=hC.2.2 (by omega)
    cases he
    obtain ⟨c,hcl,hK,hcc⟩:=hcell j q hq
    obtain rfl:c=[.string q]:=hK
    have:=hcc 0 _ rfl
    rwa [show j * Kd.string.sz+0=j from by show j * 1+0=j;omega] at this
  · intro j u hj
    rcases j with _|j
    · simp only [List.getElem?_cons_zero,Option.some.injEq] at hj
      subst hj
      rw [Addr.add_zero']
      exact hc
    · simp at hj
  · intro u hu
    simp only [List.mem_singleton] at hu
    subst hu
    rfl
  · intro v1 w1 hown hgr
    obtain ⟨b,cap,cur,hv,hb,hh⟩:∃ b cap cur,v1=.slice (some ⟨b,0,none⟩) (xs.length+1) cap∧W.heap.size≤b∧w1.heap[b]?=some (.cells cur 9 (0,0)):=by
      rcases hown.2 with ⟨_,h0⟩|⟨g,cap,cur,rfl,hg',hh,_⟩
      · omega
      · exact ⟨g,cap,cur,rfl,hg',hh⟩
    have hob:v1.ownBlock=some b:=by rw [hv];simp [Value.ownBlock]
    refine h v1 w1 ⟨fun k hk=>?_,xs.map Value.string++[.string p],?_,?_⟩ (HB.grown hgr hbase (fun k hk=>by cases hk)) hgr ⟨b,hob,hb⟩
    · rw [hob] at hk
      injection hk with hk
      exact hfresh k (by omega)
    · rw [List.length_append]
      exact pz hown hbase
    · refine bF.snoc (R:=Kd.string.M w1 base _) ⟨by rw [List.length_map];exact (Nat.mul_one _).symm,fun j q hj=>?_⟩ (show [Value.string p]=[Value.string p] from rfl) rfl
      show ((xs.map Value.string).drop (j * 1)).take 1=[Value.string q]
      have hjl:=(List.getElem?_eq_some_iff.1 hj).1
      rw [Nat.mul_one,List.drop_eq_getElem_cons (by rw [List.length_map];exact hjl),List.take_succ_cons,List.take_zero,List.getElem_map]
      rw [List.getElem?_eq_getElem hjl] at hj
      rw [Option.some.inj hj]
end
end Go.Proofs.YthfpaoacjpjnfaaGreatDoor.P

namespace Go.Proofs.YthfpaoacjpjnfaaGreatDoor.P
open Go.RowKit Go.Proofs.YthfpaoacjpjnfaaGreatDoorW.PrintWords Go.Proofs.YthfpaoacjpjnfaaGreatDoorW.PrintLast Go.Proofs.YthfpaoacjpjnfaaGreatDoorW.PrintMore
attribute [local go_sem] dP dS eP eO dE dD dQ dR
def bR.f (a0:ByteArray):Option (ByteArray × (List (S45))):=if 3+a0.size≤9223372036854775807 then (if ((⟨#[99,110,61]⟩:ByteArray)++a0).size+4≤9223372036854775807 then (some (((⟨#[99,110,61]⟩:ByteArray)++a0)++(⟨#[44,111,61,120]⟩:ByteArray),(([(⟨(⟨#[99,110]⟩:ByteArray),(([a0]:List ByteArray))⟩:S45),(⟨(⟨#[111,98,106,101,99,116,99,108,97,115,115]⟩:ByteArray),(([(⟨#[112,101,114,115,111,110]⟩:ByteArray)]:List ByteArray))⟩:S45),(⟨(⟨#[115,110]⟩:ByteArray),(([(⟨#[115]⟩:ByteArray)]:List ByteArray))⟩:S45)]:List (S45))))) else (none)) else (none)
set_option maxHeartbeats 8000000 in
set_option maxRecDepth 100000 in
theorem bR.calls (a0:ByteArray) (r1:ByteArray) (r2:List (S45)) (w:World) (h:bR.f a0=some (r1,r2)) :
  Calls Tryz.prog 29 #[.string a0] w fun e w'=>∃ v1_:Value,e=.returned (.agg #[.string r1,v1_])∧Kd.N k45 45 w' w.heap.size (fun k_=>(w.heap.size≤k_)) v1_ r2∧Below w.heap.size w w':=by
 have hu28:=Tryz.underlying28
 have hu45:=Tryz.underlying45
 have HB:=aa.mk (Below.refl w.heap.size w)
 have H:(if 3+a0.size≤9223372036854775807 then (if ((⟨#[99,110,61]⟩:ByteArray)++a0).size+4≤9223372036854775807 then (some (((⟨#[99,110,61]⟩:ByteArray)++a0)++(⟨#[44,111,61,120]⟩:ByteArray),(([(⟨(⟨#[99,110]⟩:ByteArray),(([a0]:List ByteArray))⟩:S45),(⟨(⟨#[111,98,106,101,99,116,99,108,97,115,115]⟩:ByteArray),(([(⟨#[112,101,114,115,111,110]⟩:ByteArray)]:List ByteArray))⟩:S45),(⟨(⟨#[115,110]⟩:ByteArray),(([(⟨#[115]⟩:ByteArray)]:List ByteArray))⟩:S45)]:List (S45))))) else (none)) else (none))=some (r1,r2):=h
 clear h
 by_cases c2:3+a0.size≤9223372036854775807
 ·rw [if_pos c2] at H
  have c2b0:=eq_true c2
  have c2b1:decide (3+a0.size≤9223372036854775807)=true:=decide_eq_true c2
  try have c2b2:(9223372036854775807 < 3+a0.size)=False:=eq_false (Nat.not_lt.2 c2)
  by_cases c3:((⟨#[99,110,61]⟩:ByteArray)++a0).size+4≤9223372036854775807
  ·rw [if_pos c3] at H
   have c3b0:=eq_true c3
   have c3b1:decide (((⟨#[99,110,61]⟩:ByteArray)++a0).size+4≤9223372036854775807)=true:=decide_eq_true c3
   try have c3b2:(9223372036854775807 < ((⟨#[99,110,61]⟩:ByteArray)++a0).size+4)=False:=eq_false (Nat.not_lt.2 c3)
   try (have c3b3:=c3b2;simp only [ByteArray.size_append,show ∀ a:UInt8,(⟨#[a]⟩:ByteArray).size=1 from fun _=>rfl,show ∀ a b:UInt8,(⟨#[a,b]⟩:ByteArray).size=2 from fun _ _=>rfl,show ∀ a b c:UInt8,(⟨#[a,b,c]⟩:ByteArray).size=3 from fun _ _ _=>rfl] at c3b3)
   obtain ⟨y395,hy395⟩:∃ y_:List ByteArray,y_=(([a0]:List ByteArray)):=⟨_,rfl⟩
   replace H:(some (((⟨#[99,110,61]⟩:ByteArray)++a0)++(⟨#[44,111,61,120]⟩:ByteArray),(([(⟨(⟨#[99,110]⟩:ByteArray),y395⟩:S45),(⟨(⟨#[111,98,106,101,99,116,99,108,97,115,115]⟩:ByteArray),(([(⟨#[112,101,114,115,111,110]⟩:ByteArray)]:List ByteArray))⟩:S45),(⟨(⟨#[115,110]⟩:ByteArray),(([(⟨#[115]⟩:ByteArray)]:List ByteArray))⟩:S45)]:List (S45)))))=some (r1,r2):=by first|(rw [hy395];with_reducible exact H)|(have H2_:=(Option.bind_some _ _).symm.trans H;rw [hy395];with_reducible exact H2_)|(have H2_:=(Option.bind_some _ _).symm.trans H;with_reducible exact H2_)|with_reducible exact H|(rw [hy395];exact H)|exact H
   have Ny395:=aa.mk hy395
   clear hy395
   obtain ⟨y398,hy398⟩:∃ y_:List ByteArray,y_=(([(⟨#[112,101,114,115,111,110]⟩:ByteArray)]:List ByteArray)):=⟨_,rfl⟩
   replace H:(some (((⟨#[99,110,61]⟩:ByteArray)++a0)++(⟨#[44,111,61,120]⟩:ByteArray),(([(⟨(⟨#[99,110]⟩:ByteArray),y395⟩:S45),(⟨(⟨#[111,98,106,101,99,116,99,108,97,115,115]⟩:ByteArray),y398⟩:S45),(⟨(⟨#[115,110]⟩:ByteArray),(([(⟨#[115]⟩:ByteArray)]:List ByteArray))⟩:S45)]:List (S45)))))=some (r1,r2):=by first|(rw [hy398];with_reducible exact H)|(have H2_:=(Option.bind_some _ _).symm.trans H;rw [hy398];with_reducible exact H2_)|(have H2_:=(Option.bind_some _ _).symm.trans H;with_reducible exact H2_)|with_reducible exact H|(rw [hy398];exact H)|exact H
   have Ny398:=aa.mk hy398
   clear hy398
   obtain ⟨y401,hy401⟩:∃ y_:List ByteArray,y_=(([(⟨#[115]⟩:ByteArray)]:List ByteArray)):=⟨_,rfl⟩
   replace H:(some (((⟨#[99,110,61]⟩:ByteArray)++a0)++(⟨#[44,111,61,120]⟩:ByteArray),(([(⟨(⟨#[99,110]⟩:ByteArray),y395⟩:S45),(⟨(⟨#[111,98,106,101,99,116,99,108,97,115,115]⟩:ByteArray),y398⟩:S45),(⟨(⟨#[115,110]⟩:ByteArray),y401⟩:S45)]:List (S45)))))=some (r1,r2):=by first|(rw [hy401];with_reducible exact H)|(have H2_:=(Option.bind_some _ _).symm.trans H;rw [hy401];with_reducible exact H2_)|(have H2_:=(Option.bind_some _ _).symm.trans H;with_reducible exact H2_)|with_reducible exact H|(rw [hy401];exact H)|exact H
   have Ny401:=aa.mk hy401
   clear hy401
   obtain ⟨y404,hy404⟩:∃ y_:List (S45),y_=(([(⟨(⟨#[99,110]⟩:ByteArray),y395⟩:S45),(⟨(⟨#[111,98,106,101,99,116,99,108,97,115,115]⟩:ByteArray),y398⟩:S45),(⟨(⟨#[115,110]⟩:ByteArray),y401⟩:S45)]:List (S45))):=⟨_,rfl⟩
   replace H:(some (((⟨#[99,110,61]⟩:ByteArray)++a0)++(⟨#[44,111,61,120]⟩:ByteArray),y404))=some (r1,r2):=by first|(rw [hy404];with_reducible exact H)|(have H2_:=(Option.bind_some _ _).symm.trans H;rw [hy404];with_reducible exact H2_)|(have H2_:=(Option.bind_some _ _).symm.trans H;with_reducible exact H2_)|with_reducible exact H|(rw [hy404];exact H)|exact H
   have Ny404:=aa.mk hy404
   clear hy404
   simp only [Option.some.injEq,Prod.mk.injEq] at H
   obtain ⟨rfl,rfl⟩:=H
   go_enter Tryz.func29,Tryz.ntmps29
   go_wp2_with (first|((with_reducible refine cz (N:=2) rfl ?_);refine dO ?hg (N:=2) ?hd (cs:=#[.string (⟨#[]⟩:ByteArray),.slice none 0 0]) (t:=28) ?hr ?_;(case hd=>rfl);(case hg=>rfl);(case hr=>first|(go_simp;done)|(go_simp;rfl));intro gb394 hg w4 hbox hb;have n0_:=aa.mk (aA (by repeat (first|(with_reducible first|exact HB.out|apply af|apply ae|apply ag)|exact HB.out)) hb);have n1_:=aa.mk (hbox);have n2_:=aa.mk ((by rw [hg];exact (aC (by repeat (first|(with_reducible first|exact HB.out|apply af|apply ae|apply ag)|exact HB.out))):w.heap.size≤gb394));have n3_:=aa.mk ((by rw [hg];exact (aC (by repeat (first|(with_reducible first|exact HB.out|apply af|apply ae|apply ag)|exact HB.out))):w.heap.size≤gb394));clear HB;have HB:=n0_;have BK394:=n1_;have GW394:=n2_;have GE394:=n3_;clear n0_ n1_ n2_ n3_;clear hb hbox hg)|((with_reducible refine cz (N:=7) rfl ?_);refine Kd.oH Kd.string _ 9 ?hg (N:=7) ?hd (xs:=([a0]:List ByteArray)) (inner:=[.string a0]) (ok:=fun _=>True) (okp:=fun _=>True) ?hr ?hp (fun _ hk=>hk) trivial (Below.refl _ _) (Nat.le_refl _) (by simp) ?_;(case hd=>rfl);(case hg=>rfl);(case hr=>first|(go_simp;done)|(go_simp;rfl));(case hp=>exact (bF.one (show Kd.M Kd.string _ _ _ a0 [.string a0] from rfl) (bF.none _ _)));intro v396 w5 ho6 hb hg_ hnew_;clear hg_ hnew_;(first|rw [← Ny395.out] at ho6|(simp only [Int.reduceToNat] at ho6;rw [← Ny395.out] at ho6));have n0_:=aa.mk (Kd.dM (Kd.gH (M:=fun k_=>(w.heap.size≤k_)) ho6 (aC (by repeat (first|(with_reducible first|exact HB.out|apply af|apply ae|apply ag|refine ah ?_ GE394.out)|exact HB.out))) (fun k_ h_=>h_)) (aC (by repeat (first|(with_reducible first|exact HB.out|apply af|apply ae|apply ag|refine ah ?_ GE394.out)|exact HB.out))));have n1_:=aa.mk (aI (g:=gb394) (o:=.cells #[.string (⟨#[]⟩:ByteArray),.slice none 0 0] 28 (0,0)) (by (with_reducible repeat (first|refine aj ?_ _|refine ax ?_|refine ai ?_ _));exact BK394.out) hb);have n2_:=aa.mk (aA (by repeat (first|(with_reducible first|exact HB.out|apply af|apply ae|apply ag|refine ah ?_ GE394.out)|exact HB.out)) hb);clear BK394;clear HB;have HO397:=n0_;have BK394:=n1_;have HB:=n2_;clear n0_ n1_ n2_;clear hb ho6;obtain ⟨Ao7,co7,eo7⟩:=Kd.cu HO397.out;subst eo7)|((with_reducible refine cz (N:=9) rfl ?_);refine Kd.oH Kd.string _ 9 ?hg (N:=9) ?hd (xs:=([(⟨#[112,101,114,115,111,110]⟩:ByteArray)]:List ByteArray)) (inner:=[.string (⟨#[112,101,114,115,111,110]⟩:ByteArray)]) (ok:=fun _=>True) (okp:=fun _=>True) ?hr ?hp (fun _ hk=>hk) trivial (Below.refl _ _) (Nat.le_refl _) (by simp) ?_;(case hd=>rfl);(case hg=>rfl);(case hr=>first|(go_simp;done)|(go_simp;rfl));(case hp=>exact (bF.one (show Kd.M Kd.string _ _ _ (⟨#[112,101,114,115,111,110]⟩:ByteArray) [.string (⟨#[112,101,114,115,111,110]⟩:ByteArray)] from rfl) (bF.none _ _)));intro v399 w8 ho9 hb hg_ hnew_;clear hg_ hnew_;(first|rw [← Ny398.out] at ho9|(simp only [Int.reduceToNat] at ho9;rw [← Ny398.out] at ho9));have n0_:=aa.mk (Kd.gT (by (with_reducible repeat (first|apply Kd.aQ|apply Kd.aN|apply Kd.aU));exact HO397.out) (Kd.fG ho9) hb);have n1_:=aa.mk (Kd.dM (Kd.jK (Kd.gH (M:=fun k_=>(w.heap.size≤k_)) ho9 (aC (by repeat (first|(with_reducible first|exact HB.out|apply af|apply ae|apply ag|refine ah ?_ GE394.out)|exact HB.out))) (fun k_ h_=>h_)) (Kd.kW (by (with_reducible repeat (first|apply Kd.aQ|apply Kd.aN|apply Kd.aU));exact HO397.out))) (aC (by repeat (first|(with_reducible first|exact HB.out|apply af|apply ae|apply ag|refine ah ?_ GE394.out)|exact HB.out))));have n2_:=aa.mk (aI (g:=gb394) (o:=.cells #[.string (⟨#[]⟩:ByteArray),.slice none 0 0] 28 (0,0)) (by (with_reducible repeat (first|refine aj ?_ _|refine ax ?_|refine ai ?_ _));exact BK394.out) hb);have n3_:=aa.mk (aA (by repeat (first|(with_reducible first|exact HB.out|apply af|apply ae|apply ag|refine ah ?_ GE394.out)|exact HB.out)) hb);clear HO397;clear BK394;clear HB;have HO397:=n0_;have HO400:=n1_;have BK394:=n2_;have HB:=n3_;clear n0_ n1_ n2_ n3_;clear hb ho9;obtain ⟨Ao10,co10,eo10⟩:=Kd.cu HO400.out;subst eo10)|((with_reducible refine cz (N:=11) rfl ?_);refine Kd.oH Kd.string _ 9 ?hg (N:=11) ?hd (xs:=([(⟨#[115]⟩:ByteArray)]:List ByteArray)) (inner:=[.string (⟨#[115]⟩:ByteArray)]) (ok:=fun _=>True) (okp:=fun _=>True) ?hr ?hp (fun _ hk=>hk) trivial (Below.refl _ _) (Nat.le_refl _) (by simp) ?_;(case hd=>rfl);(case hg=>rfl);(case hr=>first|(go_simp;done)|(go_simp;rfl));(case hp=>exact (bF.one (show Kd.M Kd.string _ _ _ (⟨#[115]⟩:ByteArray) [.string (⟨#[115]⟩:ByteArray)] from rfl) (bF.none _ _)));intro v402 w11 ho12 hb hg_ hnew_;clear hg_ hnew_;(first|rw [← Ny401.out] at ho12|(simp only [Int.reduceToNat] at ho12;rw [← Ny401.out] at ho12));have n0_:=aa.mk (Kd.gT (by (with_reducible repeat (first|apply Kd.aQ|apply Kd.aN|apply Kd.aU));exact HO397.out) (Kd.fG ho12) hb);have n1_:=aa.mk (Kd.gT (by (with_reducible repeat (first|apply Kd.aQ|apply Kd.aN|apply Kd.aU));exact HO400.out) (Kd.fG ho12) hb);have n2_:=aa.mk (Kd.dM (Kd.jK (Kd.jK (Kd.gH (M:=fun k_=>(w.heap.size≤k_)) ho12 (aC (by repeat (first|(with_reducible first|exact HB.out|apply af|apply ae|apply ag|refine ah ?_ GE394.out)|exact HB.out))) (fun k_ h_=>h_)) (Kd.kW (by (with_reducible repeat (first|apply Kd.aQ|apply Kd.aN|apply Kd.aU));exact HO397.out))) (Kd.kW (by (with_reducible repeat (first|apply Kd.aQ|apply Kd.aN|apply Kd.aU));exact HO400.out))) (aC (by repeat (first|(with_reducible first|exact HB.out|apply af|apply ae|apply ag|refine ah ?_ GE394.out)|exact HB.out))));have n3_:=aa.mk (aI (g:=gb394) (o:=.cells #[.string (⟨#[]⟩:ByteArray),.slice none 0 0] 28 (0,0)) (by (with_reducible repeat (first|refine aj ?_ _|refine ax ?_|refine ai ?_ _));exact BK394.out) hb);have n4_:=aa.mk (aA (by repeat (first|(with_reducible first|exact HB.out|apply af|apply ae|apply ag|refine ah ?_ GE394.out)|exact HB.out)) hb);clear HO397;clear HO400;clear BK394;clear HB;have HO397:=n0_;have HO400:=n1_;have HO403:=n2_;have BK394:=n3_;have HB:=n4_;clear n0_ n1_ n2_ n3_ n4_;clear hb ho12;obtain ⟨Ao13,co13,eo13⟩:=Kd.cu HO403.out;subst eo13)|((with_reducible refine cz (N:=13) rfl ?_);refine Kd.zZ k45 _ 45 ?hg (N':=13) ?hd (xs:=([(⟨(⟨#[99,110]⟩:ByteArray),y395⟩:S45),(⟨(⟨#[111,98,106,101,99,116,99,108,97,115,115]⟩:ByteArray),y398⟩:S45),(⟨(⟨#[115,110]⟩:ByteArray),y401⟩:S45)]:List (S45))) (inner:=[.string (⟨#[99,110]⟩:ByteArray),.slice Ao7 y395.length co7,.string (⟨#[111,98,106,101,99,116,99,108,97,115,115]⟩:ByteArray),.slice Ao10 y398.length co10,.string (⟨#[115,110]⟩:ByteArray),.slice Ao13 y401.length co13]) (ok:=(fun k_=>(w.heap.size≤k_)∧k_≠gb394)) (okp:=(fun k_=>(w.heap.size≤k_)∧k_≠gb394)) ?hr ?hp (fun _ hk=>hk) ((show ∀ k_,w11.heap.size≤k_→(fun k_=>(w.heap.size≤k_)∧k_≠gb394) k_ from fun k_ hk=>⟨(Nat.le_trans (aC (by repeat (first|(with_reducible first|exact HB.out|apply af|apply ae|apply ag|refine ah ?_ GE394.out)|exact HB.out))) hk),Kd.ig (g:=gb394) (o:=.cells #[.string (⟨#[]⟩:ByteArray),.slice none 0 0] 28 (0,0)) (by (with_reducible repeat (first|refine aj ?_ _|refine ax ?_|refine ai ?_ _));exact BK394.out) k_ hk⟩) _ (Nat.le_refl _)) (Below.refl _ _) (Nat.le_refl _) (by simp) ?_;(case hd=>rfl);(case hg=>rfl);(case hr=>first|(go_simp;done)|(go_simp;rfl));(case hp=>exact (bF.c2 (show Kd.FK k45 _ _ (⟨(⟨#[99,110]⟩:ByteArray),y395⟩:S45) [.string (⟨#[99,110]⟩:ByteArray),.slice Ao7 y395.length co7] from (ku _ _ (⟨(⟨#[99,110]⟩:ByteArray),y395⟩:S45) (Kd.bn (Kd.bK (ok':=(fun k_=>(w.heap.size≤k_)∧k_≠gb394)) (Kd.bM (HO397.out) BK394.out (by decide)) (fun k_ hk=>⟨hk.1.1.1.1,hk.2⟩))).2.1 (Kd.R_F (Kd.bK (ok':=(fun k_=>(w.heap.size≤k_)∧k_≠gb394)) (Kd.bM (HO397.out) BK394.out (by decide)) (fun k_ hk=>⟨hk.1.1.1.1,hk.2⟩))))) (bF.c2 (show Kd.FK k45 _ _ (⟨(⟨#[111,98,106,101,99,116,99,108,97,115,115]⟩:ByteArray),y398⟩:S45) [.string (⟨#[111,98,106,101,99,116,99,108,97,115,115]⟩:ByteArray),.slice Ao10 y398.length co10] from (ku _ _ (⟨(⟨#[111,98,106,101,99,116,99,108,97,115,115]⟩:ByteArray),y398⟩:S45) (Kd.bn (Kd.bK (ok':=(fun k_=>(w.heap.size≤k_)∧k_≠gb394)) (Kd.bM (HO400.out) BK394.out (by decide)) (fun k_ hk=>⟨hk.1.1.1.1,hk.2⟩))).2.1 (Kd.R_F (Kd.bK (ok':=(fun k_=>(w.heap.size≤k_)∧k_≠gb394)) (Kd.bM (HO400.out) BK394.out (by decide)) (fun k_ hk=>⟨hk.1.1.1.1,hk.2⟩))))) (bF.c2 (show Kd.FK k45 _ _ (⟨(⟨#[115,110]⟩:ByteArray),y401⟩:S45) [.string (⟨#[115,110]⟩:ByteArray),.slice Ao13 y401.length co13] from (ku _ _ (⟨(⟨#[115,110]⟩:ByteArray),y401⟩:S45) (Kd.bn (Kd.bK (ok':=(fun k_=>(w.heap.size≤k_)∧k_≠gb394)) (Kd.bM (HO403.out) BK394.out (by decide)) (fun k_ hk=>⟨hk.1.1.1.1,hk.2⟩))).2.1 (Kd.R_F (Kd.bK (ok':=(fun k_=>(w.heap.size≤k_)∧k_≠gb394)) (Kd.bM (HO403.out) BK394.out (by decide)) (fun k_ hk=>⟨hk.1.1.1.1,hk.2⟩))))) (bF.none _ _)))));intro v405 w14 ho15 hb hg_ hnew_;clear hg_ hnew_;(first|rw [← Ny404.out] at ho15|(simp only [Int.reduceToNat] at ho15;rw [← Ny404.out] at ho15));have n0_:=aa.mk (Kd.mP ho15 (aC (by repeat (first|(with_reducible first|exact HB.out|apply af|apply ae|apply ag|refine ah ?_ GE394.out)|exact HB.out))));have n1_:=aa.mk (aI (g:=gb394) (o:=.cells #[.string (⟨#[]⟩:ByteArray),.slice none 0 0] 28 (0,0)) (by (with_reducible repeat (first|refine aj ?_ _|refine ax ?_|refine ai ?_ _));exact BK394.out) hb);have n2_:=aa.mk (aA (by repeat (first|(with_reducible first|exact HB.out|apply af|apply ae|apply ag|refine ah ?_ GE394.out)|exact HB.out)) hb);clear BK394;clear HB;clear HO397;clear HO400;clear HO403;have HO406:=n0_;have BK394:=n1_;have HB:=n2_;clear n0_ n1_ n2_;clear hb ho15;obtain ⟨Ao16,co16,eo16⟩:=Kd.gN HO406.out;subst eo16;have hcz17_0:w14.cell? ⟨gb394,0,none⟩=some (.string (⟨#[]⟩:ByteArray)):=(az BK394.out 0).trans rfl;have hcz17_1:w14.cell? ⟨gb394,1,none⟩=some (.slice none 0 0):=(az BK394.out 1).trans rfl;have hfz17_0:=ay BK394.out 0;have hfz17_1:=ay BK394.out 1))
   refine bodyPost_ret (results_cell_row rfl _ _ gb394 28 #[.string (((⟨#[99,110,61]⟩:ByteArray)++a0)++(⟨#[44,111,61,120]⟩:ByteArray)),.slice Ao16 y404.length co16] (0,0) _ rfl (by (with_reducible repeat (first|refine aj ?_ _|refine ax ?_|refine ai ?_ _));refine bT (cs:=#[.string (((⟨#[99,110,61]⟩:ByteArray)++a0)++(⟨#[44,111,61,120]⟩:ByteArray)),.slice none 0 0]) ?_ 1 _ (by first|rfl|(simp only [au,ak];rfl)|simp [au,ak]);(with_reducible repeat (first|refine aj ?_ _|refine ax ?_|refine ai ?_ _));refine bT (cs:=#[.string (⟨#[]⟩:ByteArray),.slice none 0 0]) ?_ 0 _ (by first|rfl|(simp only [au,ak];rfl)|simp [au,ak]);(with_reducible repeat (first|refine aj ?_ _|refine ax ?_|refine ai ?_ _));exact BK394.out) Tryz.underlying28 rfl (by kernel_rfl)) rfl ?_
   exact ⟨_,by first|rfl|(simp [aD,aG] <;> rfl)|(simp [*,aD,aG] <;> rfl),by (with_reducible repeat (first|apply Kd.bO|apply Kd.bN|apply Kd.bV));exact Kd.di (Kd.ik (p:=⟨gb394,1,none⟩) (Kd.ik (p:=⟨gb394,0,none⟩) (Kd.di HO406.out (fun k_ hk=>(⟨hk,hk.2⟩:_∧k_≠gb394))) (fun _ hk=>hk.2) (.string (((⟨#[99,110,61]⟩:ByteArray)++a0)++(⟨#[44,111,61,120]⟩:ByteArray)))) (fun _ hk=>hk.2) (.slice Ao16 y404.length co16)) (fun _ hk=>hk.1.1),by repeat (first|(with_reducible first|exact HB.out|apply af|apply ae|apply ag|refine ah ?_ GE394.out)|exact HB.out)⟩
  ·rw [if_neg c3] at H
   exact absurd H (by simp)
 ·rw [if_neg c2] at H
  exact absurd H (by simp)
end Go.Proofs.YthfpaoacjpjnfaaGreatDoor.P
