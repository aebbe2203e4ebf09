/- Part 4 of 7 of the proof. See the last part. -/
import Derived.Test.YthfpaoacjpjnfaaGreatDoorMELogic2
import Derived.Test.YthfpaoacjpjnfaaGreatDoorMELogic3
import Derived.Deep.RegionLawGrows
set_option linter.unusedVariables false
set_option linter.unusedSimpArgs false
namespace Go.Proofs.YthfpaoacjpjnfaaGreatDoor.P
open Go.RowKit Go.Proofs.YthfpaoacjpjnfaaGreatDoorW.PrintWords Go.Proofs.YthfpaoacjpjnfaaGreatDoorW.PrintLast Go.Proofs.YthfpaoacjpjnfaaGreatDoorW.PrintMore
attribute [local go_sem] dW dZ eP eQ dL dM dY dX
def bT.f (k:Nat) (a0_0:Int) (a0_1:ByteArray) (a0_2:ByteArray) (l0_3:List ByteArray) (l0_4:List (S25)) (a1_0:ByteArray) (l1_1:List (S45)):Option (Int):=(eX.f a0_0 a0_1 a0_2 l0_3 l0_4).bind fun t224=>(if t224=true then ((bP.f k a0_0 a0_1 a0_2 l0_3 l0_4 a1_0 l1_1).bind fun t225=>(some t225)) else (some 2))
set_option maxHeartbeats 8000000 in
set_option maxRecDepth 100000 in
theorem bT.calls (k:Nat) (a0_0:Int) (a0_1:ByteArray) (a0_2:ByteArray) (A0_3:Option Addr) (c0_3:Nat) (l0_3:List ByteArray) (A0_4:Option Addr) (c0_4:Nat) (l0_4:List (S25)) (a1_0:ByteArray) (A1_1:Option Addr) (c1_1:Nat) (l1_1:List (S45)) (r:Int) (w:World) (hr0_3:Kd.C Kd.string w A0_3 l0_3.length l0_3) (hc0_3:l0_3.length≤c0_3) (hr0_4:Kd.C k25 w A0_4 l0_4.length l0_4) (hc0_4:l0_4.length≤c0_4) (hr1_1:Kd.C k45 w A1_1 l1_1.length l1_1) (hc1_1:l1_1.length≤c1_1) (hG:Gl w) (h:bT.f k a0_0 a0_1 a0_2 l0_3 l0_4 a1_0 l1_1=some r) :
  Calls Tryz.prog 13 #[.agg #[.int .i64 a0_0,.string a0_1,.string a0_2,.slice A0_3 l0_3.length c0_3,.slice A0_4 l0_4.length c0_4],.agg #[.string a1_0,.slice A1_1 l1_1.length c1_1]] w fun e w'=>e=.returned (.int .i64 r)∧Below w.heap.size w w':=by
 have hu25:=Tryz.underlying25
 have hu28:=Tryz.underlying28
 have HR0_3:=aa.mk hr0_3
 have HC0_3:=aa.mk hc0_3
 clear hr0_3 hc0_3
 have HR0_4:=aa.mk hr0_4
 have HC0_4:=aa.mk hc0_4
 clear hr0_4 hc0_4
 have HR1_1:=aa.mk hr1_1
 have HC1_1:=aa.mk hc1_1
 clear hr1_1 hc1_1
 have HB:=aa.mk (Below.refl w.heap.size w)
 have HG:=aa.mk hG
 clear hG
 have H:((eX.f a0_0 a0_1 a0_2 l0_3 l0_4).bind fun t224=>(if t224=true then ((bP.f k a0_0 a0_1 a0_2 l0_3 l0_4 a1_0 l1_1).bind fun t225=>(some t225)) else (some 2)))=some r:=h
 clear h
 replace H:=Option.bind_eq_some_iff.mp H
 obtain ⟨t224,A30,H⟩:=H
 replace H:(if t224=true then ((bP.f k a0_0 a0_1 a0_2 l0_3 l0_4 a1_0 l1_1).bind fun t225=>(some t225)) else (some 2))=some r:=H
 have A3:=aa.mk A30
 clear A30
 by_cases c4:t224=true
 ·subst c4
  have H1:((bP.f k a0_0 a0_1 a0_2 l0_3 l0_4 a1_0 l1_1).bind fun t225=>(some t225))=some r:=by rw [if_pos rfl] at H;exact H
  clear H
  have H:=H1
  clear H1
  replace H:=Option.bind_eq_some_iff.mp H
  obtain ⟨t225,A50,H⟩:=H
  replace H:(some t225)=some r:=H
  have A5:=aa.mk A50
  clear A50
  obtain rfl:=Option.some.inj H
  go_enter Tryz.func13,Tryz.ntmps13
  go_wp2_with (first|((with_reducible refine bS (N:=2) rfl ?_);refine eu ?hg (N:=2) ?hd (cs:=#[.int .i64 a0_0,.string a0_1,.string a0_2,.slice A0_3 l0_3.length c0_3,.slice A0_4 l0_4.length c0_4]) (t:=25) ?hr ?_;(case hd=>rfl);(case hg=>rfl);(case hr=>first|(go_simp;done)|(go_simp;rfl));intro gb222 hg w6 hbox hb;have n0_:=aa.mk (aD (by repeat (first|(with_reducible first|exact HB.out|apply af|apply ae|apply ag)|exact HB.out)) hb);have n1_:=aa.mk (hbox);have n2_:=aa.mk ((by rw [hg];exact (aG (by repeat (first|(with_reducible first|exact HB.out|apply af|apply ae|apply ag)|exact HB.out))):w.heap.size≤gb222));have n3_:=aa.mk ((by rw [hg];exact (aG (by repeat (first|(with_reducible first|exact HB.out|apply af|apply ae|apply ag)|exact HB.out))):w.heap.size≤gb222));clear HB;have HB:=n0_;have BK222:=n1_;have GW222:=n2_;have GE222:=n3_;clear n0_ n1_ n2_ n3_;clear hb hbox hg)|((with_reducible refine bS (N:=3) rfl ?_);refine eu ?hg (N:=3) ?hd (cs:=#[.string a1_0,.slice A1_1 l1_1.length c1_1]) (t:=28) ?hr ?_;(case hd=>rfl);(case hg=>rfl);(case hr=>first|(go_simp;done)|(go_simp;rfl));intro gb223 hg w7 hbox hb;have n0_:=aa.mk (aI (g:=gb222) (o:=.cells #[.int .i64 a0_0,.string a0_1,.string a0_2,.slice A0_3 l0_3.length c0_3,.slice A0_4 l0_4.length c0_4] 25 (0,0)) (by (with_reducible repeat (first|refine au ?_ _|refine av ?_|refine ak ?_ _));exact BK222.out) hb);have n1_:=aa.mk (aD (by repeat (first|(with_reducible first|exact HB.out|apply af|apply ae|apply ag|refine ah ?_ GE222.out)|exact HB.out)) hb);have n2_:=aa.mk (hbox);have n3_:=aa.mk ((by rw [hg];exact (aG (by repeat (first|(with_reducible first|exact HB.out|apply af|apply ae|apply ag|refine ah ?_ GE222.out)|exact HB.out))):w.heap.size≤gb223));have n4_:=aa.mk ((by rw [hg];exact (aG (by repeat (first|(with_reducible first|exact HB.out|apply af|apply ae|apply ag|refine ah ?_ GE222.out)|exact HB.out))):w.heap.size≤gb223));have n5_:=aa.mk ((by rw [hg];exact Nat.ne_of_lt (fO (g:=gb222) (o:=.cells #[.int .i64 a0_0,.string a0_1,.string a0_2,.slice A0_3 l0_3.length c0_3,.slice A0_4 l0_4.length c0_4] 25 (0,0)) (by (with_reducible repeat (first|refine au ?_ _|refine av ?_|refine ak ?_ _));exact BK222.out)):gb222≠gb223));have n6_:=aa.mk ((by rw [hg];exact Nat.ne_of_gt (fO (g:=gb222) (o:=.cells #[.int .i64 a0_0,.string a0_1,.string a0_2,.slice A0_3 l0_3.length c0_3,.slice A0_4 l0_4.length c0_4] 25 (0,0)) (by (with_reducible repeat (first|refine au ?_ _|refine av ?_|refine ak ?_ _));exact BK222.out)):gb223≠gb222));clear BK222;clear HB;have BK222:=n0_;have HB:=n1_;have BK223:=n2_;have GW223:=n3_;have GE223:=n4_;have NB222_223:=n5_;have NB223_222:=n6_;clear n0_ n1_ n2_ n3_ n4_ n5_ n6_;clear hb hbox hg;have hnb8:=NB222_223.out;have hnc8:=NB223_222.out;have hcz9_0:w7.cell? ⟨gb222,0,none⟩=some (.int .i64 a0_0):=(aj BK222.out 0).trans rfl;have hcz9_1:w7.cell? ⟨gb222,1,none⟩=some (.string a0_1):=(aj BK222.out 1).trans rfl;have hcz9_2:w7.cell? ⟨gb222,2,none⟩=some (.string a0_2):=(aj BK222.out 2).trans rfl;have hcz9_3:w7.cell? ⟨gb222,3,none⟩=some (.slice A0_3 l0_3.length c0_3):=(aj BK222.out 3).trans rfl;have hcz9_4:w7.cell? ⟨gb222,4,none⟩=some (.slice A0_4 l0_4.length c0_4):=(aj BK222.out 4).trans rfl;have hfz9_0:=ai BK222.out 0;have hfz9_1:=ai BK222.out 1;have hfz9_2:=ai BK222.out 2;have hfz9_3:=ai BK222.out 3;have hfz9_4:=ai BK222.out 4)|((with_reducible refine aV (f:=26) rfl ?_);refine bJ (some 7) rfl rfl Tryz.func26 (by kernel_rfl) rfl #[.agg #[.int .i64 a0_0,.string a0_1,.string a0_2,.slice A0_3 l0_3.length c0_3,.slice A0_4 l0_4.length c0_4]] rfl (by (try simp only [List.map_toArray,List.map_cons,List.map_nil]);first|done|rfl|(simp only [List.length_drop,List.length_take];rfl)) ?_;(with_reducible refine (eX.calls a0_0 a0_1 a0_2 _ _ l0_3 _ _ l0_4 true _ ?side1 ?side2 ?side3 ?side4 A3.out).mono ?_);(case side1=>repeat (first|exact (Kd.bf HR0_3.out HB.out)|(with_reducible refine Kd.aN ?_ _)|(with_reducible refine Kd.aQ ?_ _)|(with_reducible refine Kd.aW ?_)));(case side2=>exact HC0_3.out);(case side3=>repeat (first|exact (Kd.bf HR0_4.out HB.out)|(with_reducible refine Kd.aN ?_ _)|(with_reducible refine Kd.aQ ?_ _)|(with_reducible refine Kd.aW ?_)));(case side4=>exact HC0_4.out);rintro e w10 ⟨rfl,hb⟩;refine ⟨_,rfl,?_⟩;have n0_:=aa.mk (aI (g:=gb222) (o:=.cells #[.int .i64 a0_0,.string a0_1,.string a0_2,.slice A0_3 l0_3.length c0_3,.slice A0_4 l0_4.length c0_4] 25 (0,0)) (by (with_reducible repeat (first|refine au ?_ _|refine av ?_|refine ak ?_ _));exact BK222.out) hb);have n1_:=aa.mk (aI (g:=gb223) (o:=.cells #[.string a1_0,.slice A1_1 l1_1.length c1_1] 28 (0,0)) (by (with_reducible repeat (first|refine au ?_ _|refine av ?_|refine ak ?_ _));exact BK223.out) hb);have n2_:=aa.mk (aD (by repeat (first|(with_reducible first|exact HB.out|apply af|apply ae|apply ag|refine ah ?_ GE222.out|refine ah ?_ GE223.out)|exact HB.out)) hb);clear BK222;clear BK223;clear HB;have BK222:=n0_;have BK223:=n1_;have HB:=n2_;clear n0_ n1_ n2_;(try clear hb);(try clear hb2);(try clear hk);(try clear hi);have hcz11_0:w10.cell? ⟨gb222,0,none⟩=some (.int .i64 a0_0):=(aj BK222.out 0).trans rfl;have hcz11_1:w10.cell? ⟨gb222,1,none⟩=some (.string a0_1):=(aj BK222.out 1).trans rfl;have hcz11_2:w10.cell? ⟨gb222,2,none⟩=some (.string a0_2):=(aj BK222.out 2).trans rfl;have hcz11_3:w10.cell? ⟨gb222,3,none⟩=some (.slice A0_3 l0_3.length c0_3):=(aj BK222.out 3).trans rfl;have hcz11_4:w10.cell? ⟨gb222,4,none⟩=some (.slice A0_4 l0_4.length c0_4):=(aj BK222.out 4).trans rfl;have hfz11_0:=ai BK222.out 0;have hfz11_1:=ai BK222.out 1;have hfz11_2:=ai BK222.out 2;have hfz11_3:=ai BK222.out 3;have hfz11_4:=ai BK222.out 4;have hcz12_0:w10.cell? ⟨gb223,0,none⟩=some (.string a1_0):=(aj BK223.out 0).trans rfl;have hcz12_1:w10.cell? ⟨gb223,1,none⟩=some (.slice A1_1 l1_1.length c1_1):=(aj BK223.out 1).trans rfl;have hfz12_0:=ai BK223.out 0;have hfz12_1:=ai BK223.out 1)|((with_reducible refine aV (f:=27) rfl ?_);refine bJ (some 10) rfl rfl Tryz.func27 (by kernel_rfl) rfl #[.agg #[.int .i64 a0_0,.string a0_1,.string a0_2,.slice A0_3 l0_3.length c0_3,.slice A0_4 l0_4.length c0_4],.agg #[.string a1_0,.slice A1_1 l1_1.length c1_1]] rfl (by (try simp only [List.map_toArray,List.map_cons,List.map_nil]);first|done|rfl|(simp only [List.length_drop,List.length_take];rfl)) ?_;(with_reducible refine (bP.calls k a0_0 a0_1 a0_2 _ _ l0_3 _ _ l0_4 a1_0 _ _ l1_1 t225 _ ?side1 ?side2 ?side3 ?side4 ?side5 ?side6 ?side7 A5.out).mono ?_);(case side1=>repeat (first|exact (Kd.bf HR0_3.out HB.out)|(with_reducible refine Kd.aN ?_ _)|(with_reducible refine Kd.aQ ?_ _)|(with_reducible refine Kd.aW ?_)));(case side2=>exact HC0_3.out);(case side3=>repeat (first|exact (Kd.bf HR0_4.out HB.out)|(with_reducible refine Kd.aN ?_ _)|(with_reducible refine Kd.aQ ?_ _)|(with_reducible refine Kd.aW ?_)));(case side4=>exact HC0_4.out);(case side5=>repeat (first|exact (Kd.bf HR1_1.out HB.out)|(with_reducible refine Kd.aN ?_ _)|(with_reducible refine Kd.aQ ?_ _)|(with_reducible refine Kd.aW ?_)));(case side6=>exact HC1_1.out);(case side7=>first|exact HG.out|exact Gl.drewN HG.out _|exact Gl.below HG.out (by repeat (first|(with_reducible first|exact HB.out|apply af|apply ae|apply ag|refine ah ?_ GE222.out|refine ah ?_ GE223.out)|exact HB.out)));rintro e w13 ⟨rfl,hb⟩;refine ⟨_,rfl,?_⟩;have n0_:=aa.mk (aI (g:=gb222) (o:=.cells #[.int .i64 a0_0,.string a0_1,.string a0_2,.slice A0_3 l0_3.length c0_3,.slice A0_4 l0_4.length c0_4] 25 (0,0)) (by (with_reducible repeat (first|refine au ?_ _|refine av ?_|refine ak ?_ _));exact BK222.out) hb);have n1_:=aa.mk (aI (g:=gb223) (o:=.cells #[.string a1_0,.slice A1_1 l1_1.length c1_1] 28 (0,0)) (by (with_reducible repeat (first|refine au ?_ _|refine av ?_|refine ak ?_ _));exact BK223.out) hb);have n2_:=aa.mk (aD (by repeat (first|(with_reducible first|exact HB.out|apply af|apply ae|apply ag|refine ah ?_ GE222.out|refine ah ?_ GE223.out)|exact HB.out)) hb);clear BK222;clear BK223;clear HB;have BK222:=n0_;have BK223:=n1_;have HB:=n2_;clear n0_ n1_ n2_;(try clear hb);(try clear hb2);(try clear hk);(try clear hi)))
  go_ret
  exact ⟨by first|rfl|(simp [aM,aK] <;> rfl)|(simp [*,aM,aK] <;> rfl),by repeat (first|(with_reducible first|exact HB.out|apply af|apply ae|apply ag|refine ah ?_ GE222.out|refine ah ?_ GE223.out)|exact HB.out)⟩
 ·replace c4:=Bool.eq_false_iff.mpr c4
  subst c4
  have H1:(some 2)=some r:=by rw [if_neg (show ¬ (false=true) by decide)] at H;exact H
  clear H
  have H:=H1
  clear H1
  obtain rfl:=Option.some.inj H
  go_enter Tryz.func13,Tryz.ntmps13
  go_wp2_with (first|((with_reducible refine bS (N:=2) rfl ?_);refine eu ?hg (N:=2) ?hd (cs:=#[.int .i64 a0_0,.string a0_1,.string a0_2,.slice A0_3 l0_3.length c0_3,.slice A0_4 l0_4.length c0_4]) (t:=25) ?hr ?_;(case hd=>rfl);(case hg=>rfl);(case hr=>first|(go_simp;done)|(go_simp;rfl));intro gb222 hg w14 hbox hb;have n0_:=aa.mk (aD (by repeat (first|(with_reducible first|exact HB.out|apply af|apply ae|apply ag)|exact HB.out)) hb);have n1_:=aa.mk (hbox);have n2_:=aa.mk ((by rw [hg];exact (aG (by repeat (first|(with_reducible first|exact HB.out|apply af|apply ae|apply ag)|exact HB.out))):w.heap.size≤gb222));have n3_:=aa.mk ((by rw [hg];exact (aG (by repeat (first|(with_reducible first|exact HB.out|apply af|apply ae|apply ag)|exact HB.out))):w.heap.size≤gb222));clear HB;have HB:=n0_;have BK222:=n1_;have GW222:=n2_;have GE222:=n3_;clear n0_ n1_ n2_ n3_;clear hb hbox hg)|((with_reducible refine bS (N:=3) rfl ?_);refine eu ?hg (N:=3) ?hd (cs:=#[.string a1_0,.slice A1_1 l1_1.length c1_1]) (t:=28) ?hr ?_;(case hd=>rfl);(case hg=>rfl);(case hr=>first|(go_simp;done)|(go_simp;rfl));intro gb223 hg w15 hbox hb;have n0_:=aa.mk (aI (g:=gb222) (o:=.cells #[.int .i64 a0_0,.string a0_1,.string a0_2,.slice A0_3 l0_3.length c0_3,.slice A0_4 l0_4.length c0_4] 25 (0,0)) (by (with_reducible repeat (first|refine au ?_ _|refine av ?_|refine ak ?_ _));exact BK222.out) hb);have n1_:=aa.mk (aD (by repeat (first|(with_reducible first|exact HB.out|apply af|apply ae|apply ag|refine ah ?_ GE222.out)|exact HB.out)) hb);have n2_:=aa.mk (hbox);have n3_:=aa.mk ((by rw [hg];exact (aG (by repeat (first|(with_reducible first|exact HB.out|apply af|apply ae|apply ag|refine ah ?_ GE222.out)|exact HB.out))):w.heap.size≤gb223));have n4_:=aa.mk ((by rw [hg];exact (aG (by repeat (first|(with_reducible first|exact HB.out|apply af|apply ae|apply ag|refine ah ?_ GE222.out)|exact HB.out))):w.heap.size≤gb223));have n5_:=aa.mk ((by rw [hg];exact Nat.ne_of_lt (fO (g:=gb222) (o:=.cells #[.int .i64 a0_0,.string a0_1,.string a0_2,.slice A0_3 l0_3.length c0_3,.slice A0_4 l0_4.length c0_4] 25 (0,0)) (by (with_reducible repeat (first|refine au ?_ _|refine av ?_|refine ak ?_ _));exact BK222.out)):gb222≠gb223));have n6_:=aa.mk ((by rw [hg];exact Nat.ne_of_gt (fO (g:=gb222) (o:=.cells #[.int .i64 a0_0,.string a0_1,.string a0_2,.slice A0_3 l0_3.length c0_3,.slice A0_4 l0_4.length c0_4] 25 (0,0)) (by (with_reducible repeat (first|refine au ?_ _|refine av ?_|refine ak ?_ _));exact BK222.out)):gb223≠gb222));clear BK222;clear HB;have BK222:=n0_;have HB:=n1_;have BK223:=n2_;have GW223:=n3_;have GE223:=n4_;have NB222_223:=n5_;have NB223_222:=n6_;clear n0_ n1_ n2_ n3_ n4_ n5_ n6_;clear hb hbox hg;have hnb16:=NB222_223.out;have hnc16:=NB223_222.out;have hcz17_0:w15.cell? ⟨gb222,0,none⟩=some (.int .i64 a0_0):=(aj BK222.out 0).trans rfl;have hcz17_1:w15.cell? ⟨gb222,1,none⟩=some (.string a0_1):=(aj BK222.out 1).trans rfl;have hcz17_2:w15.cell? ⟨gb222,2,none⟩=some (.string a0_2):=(aj BK222.out 2).trans rfl;have hcz17_3:w15.cell? ⟨gb222,3,none⟩=some (.slice A0_3 l0_3.length c0_3):=(aj BK222.out 3).trans rfl;have hcz17_4:w15.cell? ⟨gb222,4,none⟩=some (.slice A0_4 l0_4.length c0_4):=(aj BK222.out 4).trans rfl;have hfz17_0:=ai BK222.out 0;have hfz17_1:=ai BK222.out 1;have hfz17_2:=ai BK222.out 2;have hfz17_3:=ai BK222.out 3;have hfz17_4:=ai BK222.out 4)|((with_reducible refine aV (f:=26) rfl ?_);refine bJ (some 7) rfl rfl Tryz.func26 (by kernel_rfl) rfl #[.agg #[.int .i64 a0_0,.string a0_1,.string a0_2,.slice A0_3 l0_3.length c0_3,.slice A0_4 l0_4.length c0_4]] rfl (by (try simp only [List.map_toArray,List.map_cons,List.map_nil]);first|done|rfl|(simp only [List.length_drop,List.length_take];rfl)) ?_;(with_reducible refine (eX.calls a0_0 a0_1 a0_2 _ _ l0_3 _ _ l0_4 false _ ?side1 ?side2 ?side3 ?side4 A3.out).mono ?_);(case side1=>repeat (first|exact (Kd.bf HR0_3.out HB.out)|(with_reducible refine Kd.aN ?_ _)|(with_reducible refine Kd.aQ ?_ _)|(with_reducible refine Kd.aW ?_)));(case side2=>exact HC0_3.out);(case side3=>repeat (first|exact (Kd.bf HR0_4.out HB.out)|(with_reducible refine Kd.aN ?_ _)|(with_reducible refine Kd.aQ ?_ _)|(with_reducible refine Kd.aW ?_)));(case side4=>exact HC0_4.out);rintro e w18 ⟨rfl,hb⟩;refine ⟨_,rfl,?_⟩;have n0_:=aa.mk (aI (g:=gb222) (o:=.cells #[.int .i64 a0_0,.string a0_1,.string a0_2,.slice A0_3 l0_3.length c0_3,.slice A0_4 l0_4.length c0_4] 25 (0,0)) (by (with_reducible repeat (first|refine au ?_ _|refine av ?_|refine ak ?_ _));exact BK222.out) hb);have n1_:=aa.mk (aI (g:=gb223) (o:=.cells #[.string a1_0,.slice A1_1 l1_1.length c1_1] 28 (0,0)) (by (with_reducible repeat (first|refine au ?_ _|refine av ?_|refine ak ?_ _));exact BK223.out) hb);have n2_:=aa.mk (aD (by repeat (first|(with_reducible first|exact HB.out|apply af|apply ae|apply ag|refine ah ?_ GE222.out|refine ah ?_ GE223.out)|exact HB.out)) hb);clear BK222;clear BK223;clear HB;have BK222:=n0_;have BK223:=n1_;have HB:=n2_;clear n0_ n1_ n2_;(try clear hb);(try clear hb2);(try clear hk);(try clear hi)))
  go_ret
  exact ⟨by first|rfl|(simp [aM,aK] <;> rfl)|(simp [*,aM,aK] <;> rfl),by repeat (first|(with_reducible first|exact HB.out|apply af|apply ae|apply ag|refine ah ?_ GE222.out|refine ah ?_ GE223.out)|exact HB.out)⟩
end Go.Proofs.YthfpaoacjpjnfaaGreatDoor.P


namespace Go.Proofs.YthfpaoacjpjnfaaGreatDoor.P
open Go.RowKit Go.Proofs.YthfpaoacjpjnfaaGreatDoorW.PrintWords Go.Proofs.YthfpaoacjpjnfaaGreatDoorW.PrintLast Go.Proofs.YthfpaoacjpjnfaaGreatDoorW.PrintMore
def nu (kind:Int) (typ val:ByteArray) (vs:List ByteArray):Int :=
  if kind=4 then (if (fK typ.data.toList val.data.toList).isSome=true then (if fZ (oQ vs typ val) vs.length=true then 1 else 0) else 2)
  else (if (iU typ val val).2=false then 2 else (if fZ (nI kind vs typ val) vs.length=true then 1 else 0))
theorem rE (o:Option (List UInt8)):(iC o).2=o.isSome:=by cases o <;> rfl
theorem vB (kind:Int) (typ val:ByteArray) (hk:kind=4∨kind=6∨kind=7) (ht:gp typ.data.toList=true) (hv:val.size≤100) :
    eX.f kind typ val [] []=some true:=by
  unfold eX.f
  rw [if_pos (show szF 12 ⟨kind,typ,val,[],[]⟩ from ⟨fun i hi=>absurd hi (Nat.not_lt_zero _),fun x hx=>by cases hx⟩)]
  congr 1
  unfold fC dh gH
  dsimp only
  rw [if_neg (by omega),if_neg (by omega),if_pos hk,ht,decide_eq_true hv]
  rfl
theorem tX (kind:Int) (typ val a0:ByteArray) (l1:List S45) (vs:List ByteArray) (hk:kind=4∨kind=6∨kind=7) (ht:gp typ.data.toList=true) (hts:typ.size≤9223372036854775807) (hv:val.size≤100)
    (hR:dO typ.data.toList≠0) (h3:dO typ.data.toList≠3) (hvs:dP.f a0 l1 typ=some vs) (hl:vs.length≤1000000000) :
    Ev (fun k=>bT.f k kind typ val [] [] a0 l1) (nu kind typ val vs):=by
  unfold bT.f
  rw [vB kind typ val hk ht hv]
  refine Ev.bs (Ev.congr (fun k=>if_pos rfl) ?_)
  suffices h:Ev (fun k=>bP.f k kind typ val [] [] a0 l1) (nu kind typ val vs) from h.bind (Ev.now _)
  refine Ev.step (fun k=>by rw [bP.f]) ?_
  have hc:dA.f typ=some (gq typ,true):=by rw [lJ typ hts,if_neg hR]
  refine Ev.step (fun k=>by rw [bP.l0]) ?_
  refine Ev.ifn (c:=(0:Int) < (([]:List S25).length:Int)) (by decide) ?_
  refine Ev.ifn (c:=kind=1) (by omega) (Ev.ifn (c:=kind=2) (by omega) (Ev.ifn (c:=kind=3) (by omega) ?_))
  rw [hc]
  refine Ev.bs (Ev.congr (fun k=>if_pos rfl) ?_)
  refine Ev.ifn (c:=kind=8) (by omega) (Ev.ifn (c:=kind=5) (by omega) ?_)
  unfold nu
  by_cases h4:kind=4
  · rw [if_pos h4]
    refine Ev.ifp h4 ((iq typ val ⟨hts,h3⟩).bind ?_)
    rw [rE]
    cases hn:(fK typ.data.toList val.data.toList).isSome with
    | false=>exact Ev.congr (fun k=>if_neg (by decide)) (Ev.now _)
    | true =>
      have hh:fI.f a0 l1 typ val=some (fZ (oQ vs typ val) vs.length):=by
        unfold fI.f
        rw [hvs]
        exact if_pos ⟨hl,hts,h3⟩
      refine Ev.congr (fun k=>if_pos rfl) ?_
      rw [hh]
      refine Ev.bs ?_
      rw [jY]
      exact Ev.bs (Ev.now _)
  · rw [if_neg h4]
    refine Ev.ifn h4 ?_
    have ho:fE.f kind typ val [] [] a0 l1=some (if (iU typ val val).2=false then 2 else (if fZ (nI kind vs typ val) vs.length=true then 1 else 0)):=by
      unfold fE.f
      rw [if_pos (show ic typ from ⟨hts,h3⟩)]
      cases hL:(iU typ val val).2 with
      | false=>rw [if_pos rfl,if_pos rfl]
      | true =>
        rw [if_neg (by decide),if_neg (by decide),hvs]
        exact if_pos hl
    rw [ho]
    exact Ev.bs (Ev.now _)
def dS (l:List S45) (typ:ByteArray):List ByteArray:=if eH (j6 l typ) l.length < 0 then [] else (bZ l (eH (j6 l typ) l.length)).f1
structure kW (l:List S45):Prop where
  len:l.length≤1000
  each:∀ i:Nat,i < l.length→(bZ l (i:Int)).f0.size≤1000∧(bZ l (i:Int)).f1.length≤1000
theorem xy (a0:ByteArray) {l:List S45} (h:kW l) (typ:ByteArray) (ht:typ.size≤9223372036854775807):dP.f a0 l typ=some (dS l typ):=by
  unfold dP.f dS
  have h1:=h.len
  rw [if_pos ⟨by omega,fun i hi=>⟨by have:=(h.each i hi).1;omega,by have:=(h.each i hi).2;omega⟩,ht⟩]
theorem oF {l:List S45} (h:kW l) (typ:ByteArray):(dS l typ).length≤1000:=by
  unfold dS
  rcases jN (j6 l typ) l.length with ⟨k,hk,_,_,e⟩|⟨_,e⟩
  · rw [e,if_neg (by omega)]
    exact (h.each k hk).2
  · rw [e,if_pos (by decide)]
    exact Nat.zero_le _
theorem uF (l:List Int) (a:Int) (hl:l.length≤1000000):∀ (n i:Nat),l.length - i=n→i≤l.length→∃ r:Int,Ev (fun k=>bA.l0 k l a (l.length:Int) (i:Int)) r∧decide (r ≥ 0)=decide (a ∈ l.drop i):=by
  intro n
  induction n with
  | zero =>
    intro i hn hi
    refine ⟨-1,Ev.step (fun k=>by rw [bA.l0]) (Ev.ifn (c:=(i:Int) < (l.length:Int)) (by omega) (Ev.now _)),?_⟩
    rw [List.drop_eq_nil_of_le (by omega)]
    simp
  | succ n ih =>
    intro i hn hi
    have hd:l.drop i=rd l (i:Int) :: l.drop (i+1):=by
      rw [List.drop_eq_getElem_cons (by omega)]
      congr 1
      unfold rd
      rw [Int.toNat_natCast,List.getD_eq_getElem?_getD,List.getElem?_eq_getElem (by omega)]
      rfl
    by_cases he:a=rd l (i:Int)
    · refine ⟨(i:Int),Ev.step (fun k=>by rw [bA.l0]) (Ev.ifp (c:=(i:Int) < (l.length:Int)) (by omega) (Ev.ifp (c:=0≤(i:Int)) (by omega) (Ev.ifp (c:=(i:Int) < (l.length:Int)) (by omega) (Ev.ifp he (Ev.now _))))),?_⟩
      rw [hd,decide_eq_true (show ((i:Int) ≥ 0) by omega),decide_eq_true (by rw [he];exact List.mem_cons_self)]
    · obtain ⟨r,hr,hm⟩:=ih (i+1) (by omega) (by omega)
      have hw:wrap64 ((i:Int)+1)=((i+1:Nat):Int):=by unfold wrap64;omega
      rw [← hw] at hr
      refine ⟨r,Ev.step (fun k=>by rw [bA.l0]) (Ev.ifp (c:=(i:Int) < (l.length:Int)) (by omega) (Ev.ifp (c:=0≤(i:Int)) (by omega) (Ev.ifp (c:=(i:Int) < (l.length:Int)) (by omega) (Ev.ifn he hr)))),?_⟩
      rw [hm,hd]
      simp [he]
theorem jX (l:List Int) (a:Int) (hl:l.length≤1000000):Ev (fun k=>bD.f k l a) (decide (a ∈ l)):=by
  obtain ⟨r,hr,hm⟩:=uF l a hl l.length 0 (by omega) (by omega)
  rw [List.drop_zero] at hm
  rw [← hm]
  exact hr.bind (Ev.now _)
def firstT (l:List Int) (is other:Int):Int:=if is ∈ l then is else if (2:Int) ∈ l then 2 else other
theorem qw (l:List Int) (a b:Int) (hl:l.length≤1000000):Ev (fun k=>fT.f k l a b) (firstT l a b):=by
  unfold firstT fT.f
  by_cases h1:a ∈ l
  · rw [if_pos h1]
    refine (jX l a hl).bind ?_
    rw [decide_eq_true h1]
    exact Ev.ifp rfl (Ev.now _)
  · rw [if_neg h1]
    refine (jX l a hl).bind ?_
    rw [decide_eq_false h1]
    refine Ev.ifn (by decide) ((jX l 2 hl).bind ?_)
    by_cases h2:(2:Int) ∈ l
    · rw [if_pos h2,decide_eq_true h2]
      exact Ev.ifp rfl (Ev.now _)
    · rw [if_neg h2,decide_eq_false h2]
      exact Ev.ifn (by decide) (Ev.now _)
theorem gF (l:List Int) (a b:Int) (ha:a=0∨a=1∨a=2) (hb:b=0∨b=1∨b=2):firstT l a b=0∨firstT l a b=1∨firstT l a b=2:=by
  unfold firstT
  split
  · exact ha
  · split
    · exact .inr (.inr rfl)
    · exact hb
def rF (x:Int):Int:=rd [1,0,2] x
def mZ (kind:Int) (typ val:ByteArray) (parts vs:List ByteArray):Int :=
  if kind=8 then (if 0 < vs.length then 1 else 0)
  else if kind=5 then (if dO typ.data.toList≠1 then 2 else if fZ (nU typ (parts.map gq) vs) vs.length=true then 1 else 0)
  else nu kind typ val vs
theorem mE (kind:Int) (typ val:ByteArray) (parts vs:List ByteArray):mZ kind typ val parts vs=0∨mZ kind typ val parts vs=1∨mZ kind typ val parts vs=2:=by
  unfold mZ nu
  repeat' split
  all_goals simp
def evG (V:ByteArray→List ByteArray) (f:S25) (ks:List Int):Int :=
  if f.f0=1 then firstT ks 0 1 else if f.f0=2 then firstT ks 1 0 else if f.f0=3 then rF (rd ks 0) else
  if dO f.f1.data.toList=0 then 2 else mZ f.f0 f.f1 f.f2 f.f3 (V f.f1)
def evD (V:ByteArray→List ByteArray):Nat→S25→Int
  | 0,f=>evG V f []
  | n+1,f=>evG V f (f.f4.map (evD V n))
theorem jv (V:ByteArray→List ByteArray):∀ (n:Nat) (f:S25),fC n f=true→evD V n f=0∨evD V n f=1∨evD V n f=2:=by
  intro n
  induction n with
  | zero =>
    intro f hm
    unfold evD evG
    split
    · exact gF _ _ _ (.inl rfl) (.inr (.inl rfl))
    · split
      · exact gF _ _ _ (.inr (.inl rfl)) (.inl rfl)
      · split
        · exact .inr (.inl rfl)
        · split
          · exact .inr (.inr rfl)
          · exact mE _ _ _ _ _
  | succ n ih =>
    intro f hm
    unfold evD evG
    split
    · exact gF _ _ _ (.inl rfl) (.inr (.inl rfl))
    · rename_i h1
      split
      · exact gF _ _ _ (.inr (.inl rfl)) (.inl rfl)
      · rename_i h2
        split
        · rename_i h3
          unfold fC dh at hm
          rw [if_neg (by omega),if_pos h3,Bool.and_eq_true,Bool.and_eq_true,Bool.and_eq_true,decide_eq_true_eq] at hm
          obtain ⟨⟨_,hl⟩,_,hk⟩:=hm
          obtain ⟨x,hx⟩:=List.length_eq_one_iff.1 hl
          rw [hx,List.all_cons,Bool.and_eq_true] at hk
          rw [hx]
          have:=ih x hk.1
          show rF (evD V n x)=0∨rF (evD V n x)=1∨rF (evD V n x)=2
          rcases this with h|h|h <;> rw [h] <;> decide
        · split
          · exact .inr (.inr rfl)
          · exact mE _ _ _ _ _
theorem tK (l:List ByteArray):∀ (n i:Nat),fV l i n=true→∀ j,i≤j→j < i+n→qf l j=true:=by
  intro n
  induction n with
  | zero=>intro i _ j h1 h2;omega
  | succ n ih =>
    intro i h j h1 h2
    unfold fV at h
    rw [Bool.and_eq_true] at h
    by_cases e:j=i
    · rw [e];exact h.1
    · exact ih (i+1) h.2 j (by omega) (by omega)
theorem qo {l:List ByteArray} (h:il l=true):2≤l.length∧l.length≤8∧∀ i:Nat,i < l.length→(bE ByteArray.empty l (i:Int)).size≤100:=by
  unfold il at h
  rw [Bool.and_eq_true,Bool.and_eq_true,Bool.and_eq_true,decide_eq_true_eq,decide_eq_true_eq] at h
  obtain ⟨⟨⟨h2,h8⟩,_⟩,hm⟩:=h
  refine ⟨h2,h8,fun i hi=>?_⟩
  have:=tK l _ 0 hm i (by omega) (by omega)
  unfold qf at this
  rw [Bool.and_eq_true,decide_eq_true_eq] at this
  exact this.1
theorem qY (t v:List UInt8) (hr:dO t=1):(iC (fK t v)).1.size≤100:=by
  unfold fK lg
  split
  · exact Nat.zero_le _
  · rename_i h
    try rw [if_pos hr]
    split
    · exact Nat.zero_le _
    · show (mk (iH v)).size≤100
      rw [iX]
      have:=tT v
      rw [not_or] at h
      omega
theorem xz {l:List S45} (hE:kW l) (typ:ByteArray) (hr:dO typ.data.toList=1) {parts:List ByteArray} (hp:il parts=true):oI typ parts (dS l typ):=by
  obtain ⟨h2,h8,hs⟩:=qo hp
  have hv:=oF hE typ
  exact ⟨h2,by omega,fun i hi=>by have:=hs i hi;omega,by omega,fun i hi=>by have:=qY typ.data.toList (bE ByteArray.empty (dS l typ) (i:Int)).data.toList hr;omega⟩
theorem vU (a0:ByteArray) {l1:List S45} (hE:kW l1) (kind:Int) (typ val:ByteArray) (parts:List ByteArray) (kids:List S25) (kn:Int) (hk:kind≠1∧kind≠2∧kind≠3) (ht:typ.size≤1000) (h3:dO typ.data.toList≠3) (hp:kind=5→il parts=true) (i:Int) (hi:¬ i < kn) (x5:List Int) (x13:List S25) :
    Ev (fun k=>bP.l0 k x5 x13 kn i kind typ val parts kids a0 l1) (if dO typ.data.toList=0 then 2 else mZ kind typ val parts (dS l1 typ)):=by
  have hts:typ.size≤9223372036854775807:=by omega
  have hvs:=xy a0 hE typ hts
  have hvl:=oF hE typ
  refine Ev.step (fun k=>by rw [bP.l0]) (Ev.ifn hi (Ev.ifn hk.1 (Ev.ifn hk.2.1 (Ev.ifn hk.2.2 ?_))))
  by_cases hR:dO typ.data.toList=0
  · rw [if_pos hR,lJ typ hts,if_pos hR]
    exact Ev.bs (Ev.ifn (by decide) (Ev.now _))
  rw [if_neg hR,lJ typ hts,if_neg hR]
  refine Ev.bs (Ev.ifp rfl ?_)
  unfold mZ
  by_cases h8:kind=8
  · rw [if_pos h8]
    refine Ev.ifp h8 ?_
    rw [hvs]
    refine Ev.bs ?_
    rw [jY]
    refine Ev.bs ?_
    by_cases h0:0 < (dS l1 typ).length
    · rw [if_pos h0,decide_eq_true (show ((dS l1 typ).length:Int) > 0 by omega)];exact Ev.now _
    · rw [if_neg h0,decide_eq_false (show ¬ ((dS l1 typ).length:Int) > 0 by omega)];exact Ev.now _
  rw [if_neg h8]
  refine Ev.ifn h8 ?_
  by_cases h5:kind=5
  · rw [if_pos h5]
    refine Ev.ifp h5 ?_
    have ho:ib.f kind typ val parts kids a0 l1=some (if dO typ.data.toList≠1 then 2 else if fZ (nU typ (parts.map gq) (dS l1 typ)) (dS l1 typ).length=true then 1 else 0):=by
      unfold ib.f
      rw [if_pos hts]
      by_cases h1:dO typ.data.toList=1
      · rw [if_neg (fun h=>h h1),if_neg (fun h=>h h1),hvs]
        exact if_pos (xz hE typ h1 (hp h5))
      · rw [if_pos h1,if_pos h1]
    rw [ho]
    exact Ev.bs (Ev.now _)
  rw [if_neg h5]
  refine Ev.ifn h5 ?_
  unfold nu
  by_cases h4:kind=4
  · rw [if_pos h4]
    refine Ev.ifp h4 ((iq typ val ⟨hts,h3⟩).bind ?_)
    rw [rE]
    cases hn:(fK typ.data.toList val.data.toList).isSome with
    | false=>exact Ev.congr (fun k=>if_neg (by decide)) (Ev.now _)
    | true =>
      have hh:fI.f a0 l1 typ val=some (fZ (oQ (dS l1 typ) typ val) (dS l1 typ).length):=by
        unfold fI.f
        rw [hvs]
        exact if_pos ⟨by omega,hts,h3⟩
      refine Ev.congr (fun k=>if_pos rfl) ?_
      rw [hh]
      refine Ev.bs ?_
      rw [jY]
      exact Ev.bs (Ev.now _)
  · rw [if_neg h4]
    refine Ev.ifn h4 ?_
    have ho:fE.f kind typ val parts kids a0 l1=some (if (iU typ val val).2=false then 2 else (if fZ (nI kind (dS l1 typ) typ val) (dS l1 typ).length=true then 1 else 0)):=by
      unfold fE.f
      rw [if_pos (show ic typ from ⟨hts,h3⟩)]
      cases hL:(iU typ val val).2 with
      | false=>rw [if_pos rfl,if_pos rfl]
      | true =>
        rw [if_neg (by decide),if_neg (by decide),hvs]
        exact if_pos (by omega)
    rw [ho]
    exact Ev.bs (Ev.now _)
theorem vQ (a0:ByteArray) {l1:List S45} (ev:S25→Int) (f:S25) (r:Int) (hl:f.f4.length≤40) (hk:∀ x ∈ f.f4,Ev (fun k=>bP.f k x.f0 x.f1 x.f2 x.f3 x.f4 a0 l1) (ev x))
    (hend:Ev (fun k=>bP.l0 k (f.f4.map ev) f.f4 (f.f4.length:Int) (f.f4.length:Int) f.f0 f.f1 f.f2 f.f3 f.f4 a0 l1) r):∀ (n i:Nat),f.f4.length - i=n→i≤f.f4.length →
    Ev (fun k=>bP.l0 k ((f.f4.take i).map ev) f.f4 (f.f4.length:Int) (i:Int) f.f0 f.f1 f.f2 f.f3 f.f4 a0 l1) r:=by
  intro n
  induction n with
  | zero =>
    intro i hn hi
    obtain rfl:i=f.f4.length:=by omega
    rw [List.take_length]
    exact hend
  | succ n ih =>
    intro i hn hi
    have c1:(i:Int) < (f.f4.length:Int):=by omega
    have hw:wrap64 ((i:Int)+1)=((i+1:Nat):Int):=by unfold wrap64;omega
    have hx:az f.f4 (i:Int) ∈ f.f4:=pE (by omega)
    have e:(f.f4.take (i+1)).map ev=(f.f4.take i).map ev++[ev (az f.f4 (i:Int))]:=by
      rw [List.take_succ_eq_append_getElem (by omega),List.map_append]
      congr 1
      unfold az
      rw [Int.toNat_natCast,List.getD_eq_getElem?_getD,List.getElem?_eq_getElem (by omega)]
      rfl
    have h:=ih (i+1) (by omega) (by omega)
    rw [← hw,e] at h
    refine Ev.step (fun k=>by rw [bP.l0]) (Ev.ifp c1 (Ev.ifp (c:=0≤(i:Int)) (by omega) (Ev.ifp c1 ((hk _ hx).bind (Ev.ifp ?_ h)))))
    rw [List.length_map,List.length_take]
    omega
def noM:Nat→S25→Prop
  | 0,f=>dO f.f1.data.toList≠3
  | n+1,f=>dO f.f1.data.toList≠3∧∀ x ∈ f.f4,noM n x
theorem xE (a0:ByteArray) {l1:List S45} (hE:kW l1):∀ (n:Nat) (f:S25),fC n f=true→noM n f→Ev (fun k=>bP.f k f.f0 f.f1 f.f2 f.f3 f.f4 a0 l1) (evD (dS l1) n f):=by
  have fin:∀ (f:S25) (ks:List Int) (n:Nat),ks.length≤40→(f.f0=3→0 < ks.length∧(rd ks 0=0∨rd ks 0=1∨rd ks 0=2))→(f.f0=1∨f.f0=2∨f.f0=3∨(f.f1.size≤1000∧(f.f0=5→il f.f3=true)))→dO f.f1.data.toList≠3 →
      Ev (fun k=>bP.l0 k ks f.f4 (f.f4.length:Int) (f.f4.length:Int) f.f0 f.f1 f.f2 f.f3 f.f4 a0 l1) (evG (dS l1) f ks):=by
    intro f ks n hks h3 hc hn3
    by_cases c1:f.f0=1
    · unfold evG
      rw [if_pos c1]
      exact Ev.step (fun k=>by rw [bP.l0]) (Ev.ifn (Int.lt_irrefl _) (Ev.ifp c1 ((qw ks 0 1 (by omega)).bind (Ev.now _))))
    by_cases c2:f.f0=2
    · unfold evG
      rw [if_neg c1,if_pos c2]
      exact Ev.step (fun k=>by rw [bP.l0]) (Ev.ifn (Int.lt_irrefl _) (Ev.ifn c1 (Ev.ifp c2 ((qw ks 1 0 (by omega)).bind (Ev.now _)))))
    by_cases c3:f.f0=3
    · unfold evG
      rw [if_neg c1,if_neg c2,if_pos c3]
      obtain ⟨hl,hr⟩:=h3 c3
      refine Ev.step (fun k=>by rw [bP.l0]) ?_
      refine Ev.ifn (Int.lt_irrefl _) (Ev.ifn c1 (Ev.ifn c2 (Ev.ifp c3 ?_)))
      refine Ev.bs ?_
      exact Ev.ifp (by omega) (Ev.ifp (by omega) (Ev.ifp (show rd ks 0 < (3:Int) by omega) (Ev.now _)))
    · unfold evG
      rw [if_neg c1,if_neg c2,if_neg c3]
      obtain ⟨ht,hp⟩:f.f1.size≤1000∧(f.f0=5→il f.f3=true):=by rcases hc with h|h|h|h <;> first|exact absurd h (by assumption)|exact h
      exact vU a0 hE f.f0 f.f1 f.f2 f.f3 f.f4 _ ⟨c1,c2,c3⟩ ht hn3 hp _ (Int.lt_irrefl _) ks f.f4
  have leafs:∀ (f:S25) (d o:Bool),dh f.f0 f.f1 f.f2 f.f3 f.f4 d o=true→f.f0=1∨f.f0=2∨f.f0=3∨(f.f1.size≤1000∧(f.f0=5→il f.f3=true)):=by
    intro f d o hm
    by_cases c1:f.f0=1∨f.f0=2
    · rcases c1 with h|h
      · exact .inl h
      · exact .inr (.inl h)
    by_cases c3:f.f0=3
    · exact .inr (.inr (.inl c3))
    refine .inr (.inr (.inr ?_))
    have ty:∀ {b:Bool},(gH f.f1 f.f4 && b)=true→f.f1.size≤1000:=by
      intro b h
      unfold gH gp at h
      rw [Bool.and_eq_true,Bool.and_eq_true,Bool.and_eq_true,Bool.and_eq_true,Bool.and_eq_true,decide_eq_true_eq] at h
      have:=h.1.1.1.1.2
      rw [← dU] at this
      omega
    unfold dh at hm
    rw [if_neg c1,if_neg c3] at hm
    split at hm
    · rename_i h4
      rw [Bool.and_assoc] at hm
      exact ⟨ty hm,fun h=>by omega⟩
    · split at hm
      · rw [Bool.and_assoc] at hm
        refine ⟨ty hm,fun _=>?_⟩
        rw [Bool.and_eq_true,Bool.and_eq_true] at hm
        exact hm.2.2
      · rename_i h5
        split at hm
        · rw [Bool.and_assoc] at hm
          exact ⟨ty hm,fun h=>absurd h h5⟩
        · exact absurd hm (by decide)
  intro n
  induction n with
  | zero =>
    intro f hm hno
    unfold fC at hm
    have hlf:=leafs f _ _ hm
    have h0:f.f4=[]:=by
      unfold dh gH at hm
      have:f.f4.length=0:=by
        repeat' split at hm
        all_goals try simp only [Bool.and_eq_true,decide_eq_true_eq] at hm
        all_goals first|exact hm.2.1|exact hm.1.1.2|exact absurd hm (by decide)
      exact List.length_eq_zero_iff.1 this
    have h3:f.f0≠3:=by
      intro h3
      unfold dh at hm
      rw [if_neg (by omega),if_pos h3,h0,Bool.and_eq_true,Bool.and_eq_true] at hm
      exact absurd hm.1.2 (by decide)
    have:=fin f [] 0 (by decide) (fun h=>absurd h h3) hlf hno
    rw [h0] at this
    unfold evD
    refine Ev.step (fun k=>by rw [bP.f]) ?_
    rw [h0]
    exact this
  | succ n ih =>
    intro f hm hno
    unfold fC at hm
    have hlf:=leafs f _ _ hm
    have hall:(f.f0=1∨f.f0=2∨f.f0=3)→f.f4.length≤40∧f.f4.all (fC n)=true∧(f.f0=3→f.f4.length=1):=by
      intro hk
      unfold dh at hm
      by_cases c1:f.f0=1∨f.f0=2
      · rw [if_pos c1] at hm
        simp only [Bool.and_eq_true,decide_eq_true_eq] at hm
        exact ⟨hm.1.2,hm.2.2,fun h=>by omega⟩
      · have c3:f.f0=3:=by omega
        rw [if_neg c1,if_pos c3] at hm
        simp only [Bool.and_eq_true,decide_eq_true_eq] at hm
        exact ⟨by omega,hm.2.2,fun _=>hm.1.2⟩
    unfold evD
    refine Ev.step (fun k=>by rw [bP.f]) ?_
    by_cases hk:f.f0=1∨f.f0=2∨f.f0=3
    · obtain ⟨hl,ha,h1⟩:=hall hk
      have hx:∀ x ∈ f.f4,fC n x=true:=List.all_eq_true.1 ha
      have hend:=fin f (f.f4.map (evD (dS l1) n)) 0 (by rw [List.length_map];exact hl) (fun h=>by
        obtain ⟨x,hxx⟩:=List.length_eq_one_iff.1 (h1 h)
        rw [hxx]
        exact ⟨by simp,jv (dS l1) n x (hx x (by rw [hxx];exact List.mem_cons_self))⟩) hlf hno.1
      exact vQ a0 (evD (dS l1) n) f _ hl (fun x hm=>ih x (hx x hm) (hno.2 x hm)) hend f.f4.length 0 (by omega) (by omega)
    · have h0:f.f4=[]:=by
        unfold dh gH at hm
        rw [if_neg (by omega),if_neg (by omega)] at hm
        have:f.f4.length=0:=by
          repeat' split at hm
          all_goals try simp only [Bool.and_eq_true,decide_eq_true_eq] at hm
          all_goals first|exact hm.1.1.2|exact absurd hm (by decide)
        exact List.length_eq_zero_iff.1 this
      have:=fin f [] 0 (by decide) (fun h=>absurd (.inr (.inr h)) hk) hlf hno.1
      rw [h0] at this ⊢
      exact this
theorem o8 (a0:ByteArray) {l1:List S45} (hE:kW l1) (f:S25) (hs:szF 12 f) (hno:noM 12 f):Ev (fun k=>bT.f k f.f0 f.f1 f.f2 f.f3 f.f4 a0 l1) (if fC 12 f=true then evD (dS l1) 12 f else 2):=by
  unfold bT.f
  have hm:eX.f f.f0 f.f1 f.f2 f.f3 f.f4=some (fC 12 f):=by
    unfold eX.f
    exact if_pos hs
  rw [hm]
  refine Ev.bs ?_
  by_cases h:fC 12 f=true
  · rw [if_pos h]
    exact Ev.ifp h ((xE a0 hE 12 f h hno).bind (Ev.now _))
  · rw [if_neg h]
    exact Ev.ifn h (Ev.now _)
end Go.Proofs.YthfpaoacjpjnfaaGreatDoor.P

namespace Go.Proofs.YthfpaoacjpjnfaaGreatDoor.P
open Go.RowKit Go.Proofs.YthfpaoacjpjnfaaGreatDoorW.PrintWords Go.Proofs.YthfpaoacjpjnfaaGreatDoorW.PrintLast Go.Proofs.YthfpaoacjpjnfaaGreatDoorW.PrintMore
attribute [local go_sem] dW dZ eP eQ dL dM dY dX
end Go.Proofs.YthfpaoacjpjnfaaGreatDoor.P


namespace Go.Proofs.YthfpaoacjpjnfaaGreatDoor.P
open Go.RowKit Go.Proofs.YthfpaoacjpjnfaaGreatDoorW.PrintWords Go.Proofs.YthfpaoacjpjnfaaGreatDoorW.PrintLast Go.Proofs.YthfpaoacjpjnfaaGreatDoorW.PrintMore
end Go.Proofs.YthfpaoacjpjnfaaGreatDoor.P

namespace Go.Proofs.YthfpaoacjpjnfaaGreatDoor.P
open Go.RowKit Go.Proofs.YthfpaoacjpjnfaaGreatDoorW.PrintWords Go.Proofs.YthfpaoacjpjnfaaGreatDoorW.PrintLast Go.Proofs.YthfpaoacjpjnfaaGreatDoorW.PrintMore
attribute [local go_sem] dW dZ eP eQ dL dM dY dX
mutual
def aJ.j0:Nat→Bool→Int→ByteArray→ByteArray→List ByteArray→List (S25)→Option (Bool)
 | 0,_,_,_,_,_,_=>none
 | k+1,x14,x229000,x229001,x229002,x229003,x229004=>if x14=true then (some false) else (if x229000=4 then (aJ.j1 k x229000 (x229000 == 4) x229000 x229001 x229002 x229003 x229004) else (if x229000=6 then (aJ.j1 k x229000 (x229000 == 6) x229000 x229001 x229002 x229003 x229004) else (aJ.j1 k x229000 (x229000 == 7) x229000 x229001 x229002 x229003 x229004)))
def aJ.j1:Nat→Int→Bool→Int→ByteArray→ByteArray→List ByteArray→List (S25)→Option (Bool)
 | 0,_,_,_,_,_,_,_=>none
 | k+1,x16,x17,x229000,x229001,x229002,x229003,x229004=>if x17=true then (some ((x229003.length:Int) == 0)) else (if x16=8 then (if x229002.toList=([]:List UInt8) then (some ((x229003.length:Int) == 0)) else (some false)) else (if x16=5 then (if x229002.toList=([]:List UInt8) then (if (x229003.length:Int) < 2 then (aJ.j2 k (x229003.length:Int) true x229000 x229001 x229002 x229003 x229004) else (if (x229003.length:Int) > 8 then (aJ.j2 k (x229003.length:Int) true x229000 x229001 x229002 x229003 x229004) else (if (x229003.length:Int)=2 then (if 0 < (x229003.length:Int) then (if (bE ByteArray.empty x229003 0).toList=([]:List UInt8) then (if 1 < (x229003.length:Int) then (aJ.j2 k (x229003.length:Int) ((bE ByteArray.empty x229003 1).toList == ([]:List UInt8)) x229000 x229001 x229002 x229003 x229004) else (none)) else (aJ.j2 k (x229003.length:Int) false x229000 x229001 x229002 x229003 x229004)) else (none)) else (aJ.j2 k (x229003.length:Int) false x229000 x229001 x229002 x229003 x229004)))) else (aJ.j2 k (x229003.length:Int) true x229000 x229001 x229002 x229003 x229004)) else (some false)))
def aJ.j2:Nat→Int→Bool→Int→ByteArray→ByteArray→List ByteArray→List (S25)→Option (Bool)
 | 0,_,_,_,_,_,_,_=>none
 | k+1,x3,x69,x229000,x229001,x229002,x229003,x229004=>if x69=true then (some false) else (aJ.l0 k x3 0 x229000 x229001 x229002 x229003 x229004)
def aJ.l0:Nat→Int→Int→Int→ByteArray→ByteArray→List ByteArray→List (S25)→Option (Bool)
 | 0,_,_,_,_,_,_,_=>none
 | k+1,x3,x4,x229000,x229001,x229002,x229003,x229004=>if x4 < x3 then (if 0≤x4 then (if x4 < (x229003.length:Int) then (if ((bE ByteArray.empty x229003 x4).size:Int) > 100 then (some false) else (if x4 > 0 then (if x4 < (wrap64 (x3 - 1)) then (if (bE ByteArray.empty x229003 x4).toList=([]:List UInt8) then (some false) else (aJ.l0 k x3 (wrap64 (x4+1)) x229000 x229001 x229002 x229003 x229004)) else (aJ.l0 k x3 (wrap64 (x4+1)) x229000 x229001 x229002 x229003 x229004)) else (aJ.l0 k x3 (wrap64 (x4+1)) x229000 x229001 x229002 x229003 x229004))) else (none)) else (none)) else (some true)
end
def aJ.f (k:Nat) (a0_0:Int) (a0_1:ByteArray) (a0_2:ByteArray) (l0_3:List ByteArray) (l0_4:List (S25)):Option (Bool):=(bi.f k a0_1).bind fun t229=>(if t229=true then (aJ.j0 k (decide ((a0_2.size:Int) > 100)) a0_0 a0_1 a0_2 l0_3 l0_4) else (aJ.j0 k true a0_0 a0_1 a0_2 l0_3 l0_4))
set_option maxHeartbeats 8000000 in
set_option maxRecDepth 100000 in
theorem aJ.calls (k:Nat) (a0_0:Int) (a0_1:ByteArray) (a0_2:ByteArray) (A0_3:Option Addr) (c0_3:Nat) (l0_3:List ByteArray) (A0_4:Option Addr) (c0_4:Nat) (l0_4:List (S25)) (r:Bool) (w:World) (hr0_3:Kd.C Kd.string w A0_3 l0_3.length l0_3) (hc0_3:l0_3.length≤c0_3) (hr0_4:Kd.C k25 w A0_4 l0_4.length l0_4) (hc0_4:l0_4.length≤c0_4) (h:aJ.f k a0_0 a0_1 a0_2 l0_3 l0_4=some r) :
  Calls Tryz.prog 48 #[.agg #[.int .i64 a0_0,.string a0_1,.string a0_2,.slice A0_3 l0_3.length c0_3,.slice A0_4 l0_4.length c0_4]] w fun e w'=>e=.returned (.bool r)∧Below w.heap.size w w':=by
 have hu25:=Tryz.underlying25
 have HR0_3:=aa.mk hr0_3
 have HC0_3:=aa.mk hc0_3
 clear hr0_3 hc0_3
 have HR0_4:=aa.mk hr0_4
 have HC0_4:=aa.mk hc0_4
 clear hr0_4 hc0_4
 have HB:=aa.mk (Below.refl w.heap.size w)
 have H:((bi.f k a0_1).bind fun t229=>(if t229=true then (aJ.j0 k (decide ((a0_2.size:Int) > 100)) a0_0 a0_1 a0_2 l0_3 l0_4) else (aJ.j0 k true a0_0 a0_1 a0_2 l0_3 l0_4)))=some r:=h
 clear h
 have HC2:=aa.mk H
 clear H
 go_enter Tryz.func48,Tryz.ntmps48
 go_upto_region 1 with (first|((with_reducible refine bS (N:=1) rfl ?_);(try (refine eU (by rfl) ?_;dsimp only));refine eu ?hg (N:=1) ?hd (cs:=#[.int .i64 a0_0,.string a0_1,.string a0_2,.slice A0_3 l0_3.length c0_3,.slice A0_4 l0_4.length c0_4]) (t:=25) ?hr ?_;(case hd=>rfl);(case hg=>rfl);(case hr=>first|(go_simp;done)|(go_simp;rfl));intro gb228 hg w3 hbox hb;have n0_:=aa.mk (aD (by repeat (first|(with_reducible first|exact HB.out|apply af|apply ae|apply ag)|exact HB.out)) hb);have n1_:=aa.mk (hbox);have n2_:=aa.mk ((by rw [hg];exact (aG (by repeat (first|(with_reducible first|exact HB.out|apply af|apply ae|apply ag)|exact HB.out))):w.heap.size≤gb228));have n3_:=aa.mk ((by rw [hg];exact (aG (by repeat (first|(with_reducible first|exact HB.out|apply af|apply ae|apply ag)|exact HB.out))):w.heap.size≤gb228));clear HB;have HB:=n0_;have BK228:=n1_;have GW228:=n2_;have GE228:=n3_;clear n0_ n1_ n2_ n3_;clear hb hbox hg))
 (try simp only [Act.put,List.setIfInBounds_toArray,List.set_cons_zero,List.set_cons_succ])
 go_cut [14] (fun v14 wc=>∃ (kq:Nat) (x14_1:Bool),v14=.bool x14_1∧aa (aJ.j0 kq x14_1 a0_0 a0_1 a0_2 l0_3 l0_4=some r)∧aa (kq≤k)∧aa (wc.heap[gb228]?=some (.cells #[.int .i64 a0_0,.string a0_1,.string a0_2,(.slice A0_3 l0_3.length c0_3),(.slice A0_4 l0_4.length c0_4)] 25 (0,0)))∧aa (Below w.heap.size w wc))
 case first =>
  have H:=HC2.out
  clear HC2
  replace H:=Option.bind_eq_some_iff.mp H
  obtain ⟨t229,A40,H⟩:=H
  replace H:(if t229=true then (aJ.j0 k (decide ((a0_2.size:Int) > 100)) a0_0 a0_1 a0_2 l0_3 l0_4) else (aJ.j0 k true a0_0 a0_1 a0_2 l0_3 l0_4))=some r:=H
  have A4:=aa.mk A40
  clear A40
  by_cases c5:t229=true
  ·subst c5
   have H1:(aJ.j0 k (decide ((a0_2.size:Int) > 100)) a0_0 a0_1 a0_2 l0_3 l0_4)=some r:=by rw [if_pos rfl] at H;exact H
   clear H
   have H:=H1
   clear H1
   have H':=aa.mk H
   clear H
   have hcz6_0:w3.cell? ⟨gb228,0,none⟩=some (.int .i64 a0_0):=(aj BK228.out 0).trans rfl
   have hcz6_1:w3.cell? ⟨gb228,1,none⟩=some (.string a0_1):=(aj BK228.out 1).trans rfl
   have hcz6_2:w3.cell? ⟨gb228,2,none⟩=some (.string a0_2):=(aj BK228.out 2).trans rfl
   have hcz6_3:w3.cell? ⟨gb228,3,none⟩=some (.slice A0_3 l0_3.length c0_3):=(aj BK228.out 3).trans rfl
   have hcz6_4:w3.cell? ⟨gb228,4,none⟩=some (.slice A0_4 l0_4.length c0_4):=(aj BK228.out 4).trans rfl
   have hfz6_0:=ai BK228.out 0
   have hfz6_1:=ai BK228.out 1
   have hfz6_2:=ai BK228.out 2
   have hfz6_3:=ai BK228.out 3
   have hfz6_4:=ai BK228.out 4
   go_wp2_with (first|((with_reducible refine aV (f:=74) rfl ?_);refine bJ (some 7) rfl rfl Tryz.func74 (by kernel_rfl) rfl #[.string a0_1] rfl (by (try simp only [List.map_toArray,List.map_cons,List.map_nil]);first|done|rfl|(simp only [List.length_drop,List.length_take];rfl)) ?_;(with_reducible refine (bi.calls k a0_1 true _ A4.out).mono ?_);rintro e w' ⟨rfl,⟨nd,rfl⟩⟩;refine ⟨_,rfl,?_⟩))
   go_meet
   case rel=>exact ⟨_,(decide ((a0_2.size:Int) > 100)),(by first|rfl|(simp;done)|(simp [*];done)|(simp [*,aT,aU,bU];done)|(simp only [ay,ax];done)|(simp only [ay,ax];simp;done)|(simp only [ay,ax];simp [*];done)),H',⟨by first|omega|exact Nat.le_refl _⟩,⟨by (with_reducible repeat (first|refine au ?_ _|refine av ?_|refine ak ?_ _));exact BK228.out⟩,⟨by repeat (first|(with_reducible first|exact HB.out|apply af|apply ae|apply ag|refine ah ?_ GE228.out)|exact HB.out)⟩⟩
  ·replace c5:=Bool.eq_false_iff.mpr c5
   subst c5
   have H1:(aJ.j0 k true a0_0 a0_1 a0_2 l0_3 l0_4)=some r:=by rw [if_neg (show ¬ (false=true) by decide)] at H;exact H
   clear H
   have H:=H1
   clear H1
   have H':=aa.mk H
   clear H
   have hcz7_0:w3.cell? ⟨gb228,0,none⟩=some (.int .i64 a0_0):=(aj BK228.out 0).trans rfl
   have hcz7_1:w3.cell? ⟨gb228,1,none⟩=some (.string a0_1):=(aj BK228.out 1).trans rfl
   have hcz7_2:w3.cell? ⟨gb228,2,none⟩=some (.string a0_2):=(aj BK228.out 2).trans rfl
   have hcz7_3:w3.cell? ⟨gb228,3,none⟩=some (.slice A0_3 l0_3.length c0_3):=(aj BK228.out 3).trans rfl
   have hcz7_4:w3.cell? ⟨gb228,4,none⟩=some (.slice A0_4 l0_4.length c0_4):=(aj BK228.out 4).trans rfl
   have hfz7_0:=ai BK228.out 0
   have hfz7_1:=ai BK228.out 1
   have hfz7_2:=ai BK228.out 2
   have hfz7_3:=ai BK228.out 3
   have hfz7_4:=ai BK228.out 4
   go_wp2_with (first|((with_reducible refine aV (f:=74) rfl ?_);refine bJ (some 7) rfl rfl Tryz.func74 (by kernel_rfl) rfl #[.string a0_1] rfl (by (try simp only [List.map_toArray,List.map_cons,List.map_nil]);first|done|rfl|(simp only [List.length_drop,List.length_take];rfl)) ?_;(with_reducible refine (bi.calls k a0_1 false _ A4.out).mono ?_);rintro e w' ⟨rfl,⟨nd,rfl⟩⟩;refine ⟨_,rfl,?_⟩))
   go_meet
   case rel=>exact ⟨_,(true),(by first|rfl|(simp;done)|(simp [*];done)|(simp [*,aT,aU,bU];done)|(simp only [ay,ax];done)|(simp only [ay,ax];simp;done)|(simp only [ay,ax];simp [*];done)),H',⟨by first|omega|exact Nat.le_refl _⟩,⟨by (with_reducible repeat (first|refine au ?_ _|refine av ?_|refine ak ?_ _));exact BK228.out⟩,⟨by repeat (first|(with_reducible first|exact HB.out|apply af|apply ae|apply ag|refine ah ?_ GE228.out)|exact HB.out)⟩⟩
 case rest =>
  clear HC2
  try clear p2
  try clear c4
  try clear c5
  try clear c7
  try clear hcz6_0
  try clear hcz6_1
  try clear hcz6_2
  try clear hcz6_3
  try clear hcz6_4
  try clear hcz7_0
  try clear hcz7_1
  try clear hcz7_2
  try clear hcz7_3
  try clear hcz7_4
  try clear hfz6_0
  try clear hfz6_1
  try clear hfz6_2
  try clear hfz6_3
  try clear hfz6_4
  try clear hfz7_0
  try clear hfz7_1
  try clear hfz7_2
  try clear hfz7_3
  try clear hfz7_4
  obtain ⟨kq,x14_1,rfl,HA,HJ1,BK228,HB⟩:=hcut
  cases kq with
  | zero=>exact absurd HA.out (by simp [aJ.j0])
  | succ kj1 =>
   have H:=HA.out
   clear HA
   simp only [aJ.j0] at H
   by_cases c8:x14_1=true
   ·subst c8
    have H1:(some false)=some r:=by rw [if_pos rfl] at H;exact H
    clear H
    have H:=H1
    clear H1
    obtain rfl:=Option.some.inj H
    go_wp2
    go_ret
    exact ⟨by first|rfl|(simp [aM,aK] <;> rfl)|(simp [*,aM,aK] <;> rfl),by repeat (first|(with_reducible first|exact HB.out|apply af|apply ae|apply ag|refine ah ?_ GE228.out)|exact HB.out)⟩
   ·replace c8:=Bool.eq_false_iff.mpr c8
    subst c8
    have H1:(if a0_0=4 then (aJ.j1 kj1 a0_0 (a0_0 == 4) a0_0 a0_1 a0_2 l0_3 l0_4) else (if a0_0=6 then (aJ.j1 kj1 a0_0 (a0_0 == 6) a0_0 a0_1 a0_2 l0_3 l0_4) else (aJ.j1 kj1 a0_0 (a0_0 == 7) a0_0 a0_1 a0_2 l0_3 l0_4)))=some r:=by rw [if_neg (show ¬ (false=true) by decide)] at H;exact H
    clear H
    have H:=H1
    clear H1
    have HC9:=aa.mk H
    clear H
    have hcz10_0:wc.cell? ⟨gb228,0,none⟩=some (.int .i64 a0_0):=(aj BK228.out 0).trans rfl
    have hcz10_1:wc.cell? ⟨gb228,1,none⟩=some (.string a0_1):=(aj BK228.out 1).trans rfl
    have hcz10_2:wc.cell? ⟨gb228,2,none⟩=some (.string a0_2):=(aj BK228.out 2).trans rfl
    have hcz10_3:wc.cell? ⟨gb228,3,none⟩=some (.slice A0_3 l0_3.length c0_3):=(aj BK228.out 3).trans rfl
    have hcz10_4:wc.cell? ⟨gb228,4,none⟩=some (.slice A0_4 l0_4.length c0_4):=(aj BK228.out 4).trans rfl
    have hfz10_0:=ai BK228.out 0
    have hfz10_1:=ai BK228.out 1
    have hfz10_2:=ai BK228.out 2
    have hfz10_3:=ai BK228.out 3
    have hfz10_4:=ai BK228.out 4
    go_upto_if 17 with (fail)
    go_cut [17] (fun v17 wc=>∃ (kq:Nat) (x17_8:Bool),v17=.bool x17_8∧aa (aJ.j1 kq a0_0 x17_8 a0_0 a0_1 a0_2 l0_3 l0_4=some r)∧aa (kq≤kj1)∧aa (wc.heap[gb228]?=some (.cells #[.int .i64 a0_0,.string a0_1,.string a0_2,(.slice A0_3 l0_3.length c0_3),(.slice A0_4 l0_4.length c0_4)] 25 (0,0)))∧aa (Below w.heap.size w wc))
    case first =>
     have H:=HC9.out
     clear HC9
     by_cases c11:a0_0=4
     ·rw [if_pos c11] at H
      have c11b0:(a0_0 == 4)=true:=beq_iff_eq.mpr c11
      have c11b1:(a0_0 != 4)=false:=bne_eq_false_iff_eq.mpr c11
      clear c11
      (first|rw [c11b0]|(simp only [aT,aU];rw [c11b0])|skip)
      have H':=aa.mk H
      clear H
      go_wp2
      go_meet
      case rel=>exact ⟨_,((a0_0 == 4)),(by first|rfl|(simp;done)|(simp [*];done)|(simp [*,aT,aU,bU];done)|(simp only [ay,ax];done)|(simp only [ay,ax];simp;done)|(simp only [ay,ax];simp [*];done)),H',⟨by have:=HJ1.out;first|omega|exact Nat.le_refl _⟩,⟨by (with_reducible repeat (first|refine au ?_ _|refine av ?_|refine ak ?_ _));exact BK228.out⟩,⟨by repeat (first|(with_reducible first|exact HB.out|apply af|apply ae|apply ag|refine ah ?_ GE228.out)|exact HB.out)⟩⟩
     ·rw [if_neg c11] at H
      have c11b0:(a0_0 == 4)=false:=beq_eq_false_iff_ne.mpr c11
      have c11b1:(a0_0 != 4)=true:=bne_iff_ne.mpr c11
      (first|rw [c11b0]|(simp only [aT,aU];rw [c11b0])|skip)
      by_cases c12:a0_0=6
      ·rw [if_pos c12] at H
       have c12b0:(a0_0 == 6)=true:=beq_iff_eq.mpr c12
       have c12b1:(a0_0 != 6)=false:=bne_eq_false_iff_eq.mpr c12
       clear c12
       have H':=aa.mk H
       clear H
       go_wp2
       go_meet
       case rel=>exact ⟨_,((a0_0 == 6)),(by first|rfl|(simp;done)|(simp [*];done)|(simp [*,aT,aU,bU];done)|(simp only [ay,ax];done)|(simp only [ay,ax];simp;done)|(simp only [ay,ax];simp [*];done)),H',⟨by have:=HJ1.out;first|omega|exact Nat.le_refl _⟩,⟨by (with_reducible repeat (first|refine au ?_ _|refine av ?_|refine ak ?_ _));exact BK228.out⟩,⟨by repeat (first|(with_reducible first|exact HB.out|apply af|apply ae|apply ag|refine ah ?_ GE228.out)|exact HB.out)⟩⟩
      ·rw [if_neg c12] at H
       have c12b0:(a0_0 == 6)=false:=beq_eq_false_iff_ne.mpr c12
       have c12b1:(a0_0 != 6)=true:=bne_iff_ne.mpr c12
       have H':=aa.mk H
       clear H
       go_wp2
       go_meet
       case rel=>exact ⟨_,((a0_0 == 7)),(by first|rfl|(simp;done)|(simp [*];done)|(simp [*,aT,aU,bU];done)|(simp only [ay,ax];done)|(simp only [ay,ax];simp;done)|(simp only [ay,ax];simp [*];done)),H',⟨by have:=HJ1.out;first|omega|exact Nat.le_refl _⟩,⟨by (with_reducible repeat (first|refine au ?_ _|refine av ?_|refine ak ?_ _));exact BK228.out⟩,⟨by repeat (first|(with_reducible first|exact HB.out|apply af|apply ae|apply ag|refine ah ?_ GE228.out)|exact HB.out)⟩⟩
    case rest =>
     clear HC9
     try clear c1
     try clear p2
     try clear c4
     try clear c5
     try clear c7
     try clear c8
     try clear c11
     try clear c11b0
     try clear c11b1
     try clear c12
     try clear c12b0
     try clear c12b1
     try clear hcz10_0
     try clear hcz10_1
     try clear hcz10_2
     try clear hcz10_3
     try clear hcz10_4
     try clear hcz6_0
     try clear hcz6_1
     try clear hcz6_2
     try clear hcz6_3
     try clear hcz6_4
     try clear hcz7_0
     try clear hcz7_1
     try clear hcz7_2
     try clear hcz7_3
     try clear hcz7_4
     try clear hfz10_0
     try clear hfz10_1
     try clear hfz10_2
     try clear hfz10_3
     try clear hfz10_4
     try clear hfz6_0
     try clear hfz6_1
     try clear hfz6_2
     try clear hfz6_3
     try clear hfz6_4
     try clear hfz7_0
     try clear hfz7_1
     try clear hfz7_2
     try clear hfz7_3
     try clear hfz7_4
     try clear p2
     obtain ⟨kq,x17_8,rfl,HA,HJ8,BK228,HB⟩:=hcut
     cases kq with
     | zero=>exact absurd HA.out (by simp [aJ.j1])
     | succ kj8 =>
      have H:=HA.out
      clear HA
      simp only [aJ.j1] at H
      by_cases c13:x17_8=true
      ·subst c13
       have H1:(some ((l0_3.length:Int) == 0))=some r:=by rw [if_pos rfl] at H;exact H
       clear H
       have H:=H1
       clear H1
       obtain rfl:=Option.some.inj H
       have hcz14_0:wc.cell? ⟨gb228,0,none⟩=some (.int .i64 a0_0):=(aj BK228.out 0).trans rfl
       have hcz14_1:wc.cell? ⟨gb228,1,none⟩=some (.string a0_1):=(aj BK228.out 1).trans rfl
       have hcz14_2:wc.cell? ⟨gb228,2,none⟩=some (.string a0_2):=(aj BK228.out 2).trans rfl
       have hcz14_3:wc.cell? ⟨gb228,3,none⟩=some (.slice A0_3 l0_3.length c0_3):=(aj BK228.out 3).trans rfl
       have hcz14_4:wc.cell? ⟨gb228,4,none⟩=some (.slice A0_4 l0_4.length c0_4):=(aj BK228.out 4).trans rfl
       have hfz14_0:=ai BK228.out 0
       have hfz14_1:=ai BK228.out 1
       have hfz14_2:=ai BK228.out 2
       have hfz14_3:=ai BK228.out 3
       have hfz14_4:=ai BK228.out 4
       go_wp2
       go_ret
       exact ⟨by first|rfl|(simp [aM,aK] <;> rfl)|(simp [*,aM,aK] <;> rfl),by repeat (first|(with_reducible first|exact HB.out|apply af|apply ae|apply ag|refine ah ?_ GE228.out)|exact HB.out)⟩
      ·replace c13:=Bool.eq_false_iff.mpr c13
       subst c13
       have H1:(if a0_0=8 then (if a0_2.toList=([]:List UInt8) then (some ((l0_3.length:Int) == 0)) else (some false)) else (if a0_0=5 then (if a0_2.toList=([]:List UInt8) then (if (l0_3.length:Int) < 2 then (aJ.j2 kj8 (l0_3.length:Int) true a0_0 a0_1 a0_2 l0_3 l0_4) else (if (l0_3.length:Int) > 8 then (aJ.j2 kj8 (l0_3.length:Int) true a0_0 a0_1 a0_2 l0_3 l0_4) else (if (l0_3.length:Int)=2 then (if 0 < (l0_3.length:Int) then (if (bE ByteArray.empty l0_3 0).toList=([]:List UInt8) then (if 1 < (l0_3.length:Int) then (aJ.j2 kj8 (l0_3.length:Int) ((bE ByteArray.empty l0_3 1).toList == ([]:List UInt8)) a0_0 a0_1 a0_2 l0_3 l0_4) else (none)) else (aJ.j2 kj8 (l0_3.length:Int) false a0_0 a0_1 a0_2 l0_3 l0_4)) else (none)) else (aJ.j2 kj8 (l0_3.length:Int) false a0_0 a0_1 a0_2 l0_3 l0_4)))) else (aJ.j2 kj8 (l0_3.length:Int) true a0_0 a0_1 a0_2 l0_3 l0_4)) else (some false)))=some r:=by rw [if_neg (show ¬ (false=true) by decide)] at H;exact H
       clear H
       have H:=H1
       clear H1
       by_cases c15:a0_0=8
       ·rw [if_pos c15] at H
        have c15b0:(a0_0 == 8)=true:=beq_iff_eq.mpr c15
        have c15b1:(a0_0 != 8)=false:=bne_eq_false_iff_eq.mpr c15
        clear c15
        by_cases c16:a0_2.toList=([]:List UInt8)
        ·rw [if_pos c16] at H
         have c16b0:(a0_2.toList == ([]:List UInt8))=true:=beq_iff_eq.mpr c16
         have c16b1:(a0_2.toList != ([]:List UInt8))=false:=bne_eq_false_iff_eq.mpr c16
         clear c16
         obtain rfl:=Option.some.inj H
         have hcz17_0:wc.cell? ⟨gb228,0,none⟩=some (.int .i64 a0_0):=(aj BK228.out 0).trans rfl
         have hcz17_1:wc.cell? ⟨gb228,1,none⟩=some (.string a0_1):=(aj BK228.out 1).trans rfl
         have hcz17_2:wc.cell? ⟨gb228,2,none⟩=some (.string a0_2):=(aj BK228.out 2).trans rfl
         have hcz17_3:wc.cell? ⟨gb228,3,none⟩=some (.slice A0_3 l0_3.length c0_3):=(aj BK228.out 3).trans rfl
         have hcz17_4:wc.cell? ⟨gb228,4,none⟩=some (.slice A0_4 l0_4.length c0_4):=(aj BK228.out 4).trans rfl
         have hfz17_0:=ai BK228.out 0
         have hfz17_1:=ai BK228.out 1
         have hfz17_2:=ai BK228.out 2
         have hfz17_3:=ai BK228.out 3
         have hfz17_4:=ai BK228.out 4
         go_wp2
         go_ret
         exact ⟨by first|rfl|(simp [aM,aK] <;> rfl)|(simp [*,aM,aK] <;> rfl),by repeat (first|(with_reducible first|exact HB.out|apply af|apply ae|apply ag|refine ah ?_ GE228.out)|exact HB.out)⟩
        ·rw [if_neg c16] at H
         have c16b0:(a0_2.toList == ([]:List UInt8))=false:=beq_eq_false_iff_ne.mpr c16
         have c16b1:(a0_2.toList != ([]:List UInt8))=true:=bne_iff_ne.mpr c16
         obtain rfl:=Option.some.inj H
         have hcz18_0:wc.cell? ⟨gb228,0,none⟩=some (.int .i64 a0_0):=(aj BK228.out 0).trans rfl
         have hcz18_1:wc.cell? ⟨gb228,1,none⟩=some (.string a0_1):=(aj BK228.out 1).trans rfl
         have hcz18_2:wc.cell? ⟨gb228,2,none⟩=some (.string a0_2):=(aj BK228.out 2).trans rfl
         have hcz18_3:wc.cell? ⟨gb228,3,none⟩=some (.slice A0_3 l0_3.length c0_3):=(aj BK228.out 3).trans rfl
         have hcz18_4:wc.cell? ⟨gb228,4,none⟩=some (.slice A0_4 l0_4.length c0_4):=(aj BK228.out 4).trans rfl
         have hfz18_0:=ai BK228.out 0
         have hfz18_1:=ai BK228.out 1
         have hfz18_2:=ai BK228.out 2
         have hfz18_3:=ai BK228.out 3
         have hfz18_4:=ai BK228.out 4
         go_wp2
         go_ret
         exact ⟨by first|rfl|(simp [aM,aK] <;> rfl)|(simp [*,aM,aK] <;> rfl),by repeat (first|(with_reducible first|exact HB.out|apply af|apply ae|apply ag|refine ah ?_ GE228.out)|exact HB.out)⟩
       ·rw [if_neg c15] at H
        have c15b0:(a0_0 == 8)=false:=beq_eq_false_iff_ne.mpr c15
        have c15b1:(a0_0 != 8)=true:=bne_iff_ne.mpr c15
        by_cases c19:a0_0=5
        ·rw [if_pos c19] at H
         have c19b0:(a0_0 == 5)=true:=beq_iff_eq.mpr c19
         have c19b1:(a0_0 != 5)=false:=bne_eq_false_iff_eq.mpr c19
         clear c19
         have HC20:=aa.mk H
         clear H
         have hcz21_0:wc.cell? ⟨gb228,0,none⟩=some (.int .i64 a0_0):=(aj BK228.out 0).trans rfl
         have hcz21_1:wc.cell? ⟨gb228,1,none⟩=some (.string a0_1):=(aj BK228.out 1).trans rfl
         have hcz21_2:wc.cell? ⟨gb228,2,none⟩=some (.string a0_2):=(aj BK228.out 2).trans rfl
         have hcz21_3:wc.cell? ⟨gb228,3,none⟩=some (.slice A0_3 l0_3.length c0_3):=(aj BK228.out 3).trans rfl
         have hcz21_4:wc.cell? ⟨gb228,4,none⟩=some (.slice A0_4 l0_4.length c0_4):=(aj BK228.out 4).trans rfl
         have hfz21_0:=ai BK228.out 0
         have hfz21_1:=ai BK228.out 1
         have hfz21_2:=ai BK228.out 2
         have hfz21_3:=ai BK228.out 3
         have hfz21_4:=ai BK228.out 4
         go_upto_region 12 with (fail)
         go_cut [69] (fun v69 wc=>∃ (kq:Nat) (x69_19:Bool),v69=.bool x69_19∧aa (aJ.j2 kq (l0_3.length:Int) x69_19 a0_0 a0_1 a0_2 l0_3 l0_4=some r)∧aa (kq≤kj8)∧aa (wc.heap[gb228]?=some (.cells #[.int .i64 a0_0,.string a0_1,.string a0_2,(.slice A0_3 l0_3.length c0_3),(.slice A0_4 l0_4.length c0_4)] 25 (0,0)))∧aa (Below w.heap.size w wc))
         case first =>
          have H:=HC20.out
          clear HC20
          by_cases c22:a0_2.toList=([]:List UInt8)
          ·rw [if_pos c22] at H
           have c22b0:(a0_2.toList == ([]:List UInt8))=true:=beq_iff_eq.mpr c22
           have c22b1:(a0_2.toList != ([]:List UInt8))=false:=bne_eq_false_iff_eq.mpr c22
           clear c22
           (first|rw [c22b0]|(simp only [aT,aU];rw [c22b0])|skip)
           by_cases c23:(l0_3.length:Int) < 2
           ·rw [if_pos c23] at H
            have c23b0:decide ((l0_3.length:Int) < 2)=true:=decide_eq_true c23
            have c23b1:decide (l0_3.length < 2)=true:=decide_eq_true (by omega)
            clear c23
            have H':=aa.mk H
            clear H
            have hcz24_0:wc.cell? ⟨gb228,0,none⟩=some (.int .i64 a0_0):=(aj BK228.out 0).trans rfl
            have hcz24_1:wc.cell? ⟨gb228,1,none⟩=some (.string a0_1):=(aj BK228.out 1).trans rfl
            have hcz24_2:wc.cell? ⟨gb228,2,none⟩=some (.string a0_2):=(aj BK228.out 2).trans rfl
            have hcz24_3:wc.cell? ⟨gb228,3,none⟩=some (.slice A0_3 l0_3.length c0_3):=(aj BK228.out 3).trans rfl
            have hcz24_4:wc.cell? ⟨gb228,4,none⟩=some (.slice A0_4 l0_4.length c0_4):=(aj BK228.out 4).trans rfl
            have hfz24_0:=ai BK228.out 0
            have hfz24_1:=ai BK228.out 1
            have hfz24_2:=ai BK228.out 2
            have hfz24_3:=ai BK228.out 3
            have hfz24_4:=ai BK228.out 4
            go_wp2
            go_meet
            case rel=>exact ⟨_,(true),(by first|rfl|(simp;done)|(simp [*];done)|(simp [*,aT,aU,bU];done)|(simp only [ay,ax];done)|(simp only [ay,ax];simp;done)|(simp only [ay,ax];simp [*];done)),H',⟨by have:=HJ1.out;have:=HJ8.out;first|omega|exact Nat.le_refl _⟩,⟨by (with_reducible repeat (first|refine au ?_ _|refine av ?_|refine ak ?_ _));exact BK228.out⟩,⟨by repeat (first|(with_reducible first|exact HB.out|apply af|apply ae|apply ag|refine ah ?_ GE228.out)|exact HB.out)⟩⟩
           ·rw [if_neg c23] at H
            have c23b0:decide ((l0_3.length:Int) < 2)=false:=decide_eq_false c23
            have c23b1:decide (l0_3.length < 2)=false:=decide_eq_false (by omega)
            clear c23
            by_cases c25:(l0_3.length:Int) > 8
            ·rw [if_pos c25] at H
             have c25b0:decide (8 < (l0_3.length:Int))=true:=decide_eq_true c25
             have c25b1:decide (8 < l0_3.length)=true:=decide_eq_true (by omega)
             clear c25
             have H':=aa.mk H
             clear H
             have hcz26_0:wc.cell? ⟨gb228,0,none⟩=some (.int .i64 a0_0):=(aj BK228.out 0).trans rfl
             have hcz26_1:wc.cell? ⟨gb228,1,none⟩=some (.string a0_1):=(aj BK228.out 1).trans rfl
             have hcz26_2:wc.cell? ⟨gb228,2,none⟩=some (.string a0_2):=(aj BK228.out 2).trans rfl
             have hcz26_3:wc.cell? ⟨gb228,3,none⟩=some (.slice A0_3 l0_3.length c0_3):=(aj BK228.out 3).trans rfl
             have hcz26_4:wc.cell? ⟨gb228,4,none⟩=some (.slice A0_4 l0_4.length c0_4):=(aj BK228.out 4).trans rfl
             have hfz26_0:=ai BK228.out 0
             have hfz26_1:=ai BK228.out 1
             have hfz26_2:=ai BK228.out 2
             have hfz26_3:=ai BK228.out 3
             have hfz26_4:=ai BK228.out 4
             go_wp2
             go_meet
             case rel=>exact ⟨_,(true),(by first|rfl|(simp;done)|(simp [*];done)|(simp [*,aT,aU,bU];done)|(simp only [ay,ax];done)|(simp only [ay,ax];simp;done)|(simp only [ay,ax];simp [*];done)),H',⟨by have:=HJ1.out;have:=HJ8.out;first|omega|exact Nat.le_refl _⟩,⟨by (with_reducible repeat (first|refine au ?_ _|refine av ?_|refine ak ?_ _));exact BK228.out⟩,⟨by repeat (first|(with_reducible first|exact HB.out|apply af|apply ae|apply ag|refine ah ?_ GE228.out)|exact HB.out)⟩⟩
            ·rw [if_neg c25] at H
             have c25b0:decide (8 < (l0_3.length:Int))=false:=decide_eq_false c25
             have c25b1:decide (8 < l0_3.length)=false:=decide_eq_false (by omega)
             clear c25
             by_cases c27:(l0_3.length:Int)=2
             ·rw [if_pos c27] at H
              have c27b0:((l0_3.length:Int) == 2)=true:=beq_iff_eq.mpr c27
              have c27b1:((l0_3.length:Int) != 2)=false:=bne_eq_false_iff_eq.mpr c27
              clear c27
              by_cases c28:0 < (l0_3.length:Int)
              ·rw [if_pos c28] at H
               have c28b0:decide (0 < (l0_3.length:Int))=true:=decide_eq_true c28
               have c28b1:decide (0 < l0_3.length)=true:=decide_eq_true (by omega)
               clear c28
               by_cases c29:(bE ByteArray.empty l0_3 0).toList=([]:List UInt8)
               ·rw [if_pos c29] at H
                have c29b0:((bE ByteArray.empty l0_3 0).toList == ([]:List UInt8))=true:=beq_iff_eq.mpr c29
                have c29b1:((bE ByteArray.empty l0_3 0).toList != ([]:List UInt8))=false:=bne_eq_false_iff_eq.mpr c29
                clear c29
                by_cases c30:1 < (l0_3.length:Int)
                ·rw [if_pos c30] at H
                 have c30b0:decide (1 < (l0_3.length:Int))=true:=decide_eq_true c30
                 have c30b1:decide (1 < l0_3.length)=true:=decide_eq_true (by omega)
                 clear c30
                 have H':=aa.mk H
                 clear H
                 have hcz31_0:wc.cell? ⟨gb228,0,none⟩=some (.int .i64 a0_0):=(aj BK228.out 0).trans rfl
                 have hcz31_1:wc.cell? ⟨gb228,1,none⟩=some (.string a0_1):=(aj BK228.out 1).trans rfl
                 have hcz31_2:wc.cell? ⟨gb228,2,none⟩=some (.string a0_2):=(aj BK228.out 2).trans rfl
                 have hcz31_3:wc.cell? ⟨gb228,3,none⟩=some (.slice A0_3 l0_3.length c0_3):=(aj BK228.out 3).trans rfl
                 have hcz31_4:wc.cell? ⟨gb228,4,none⟩=some (.slice A0_4 l0_4.length c0_4):=(aj BK228.out 4).trans rfl
                 have hfz31_0:=ai BK228.out 0
                 have hfz31_1:=ai BK228.out 1
                 have hfz31_2:=ai BK228.out 2
                 have hfz31_3:=ai BK228.out 3
                 have hfz31_4:=ai BK228.out 4
                 have p230:0≤(0:Int):=(by omega)
                 have q230:0 < (l0_3.length:Int):=of_decide_eq_true (by first|(with_reducible assumption)|assumption)
                 obtain ⟨ad230,e230,hx230_0⟩:=Kd.dz HR0_3.out 0 p230 q230
                 cases e230
                 have qi230:(0 < l0_3.length)=True:=eq_true (by omega)
                 (try rw [show ((0:Int)).toNat=0 from rfl] at hx230_0)
                 (try rw [Addr.add_zero'] at hx230_0)
                 replace hx230_0:=(HB.out.cell (World.block_lt_of_cell? w _ hx230_0)).trans hx230_0
                 replace p230:=eq_true p230
                 replace q230:=eq_true q230
                 have p231:0≤(1:Int):=(by omega)
                 have q231:1 < (l0_3.length:Int):=of_decide_eq_true (by first|(with_reducible assumption)|assumption)
                 obtain ⟨ad231,e231,hx231_0⟩:=Kd.dz HR0_3.out 1 p231 q231
                 obtain rfl:ad230=ad231:=(by injection e231)
                 (try simp only [show (1:Int).toNat=1 from rfl,Nat.reduceMul,Nat.reduceEqDiff,Go.Addr.add,↓reduceIte] at hx231_0)
                 have qi231:(1 < l0_3.length)=True:=eq_true (by omega)
                 (try rw [show ((1:Int)).toNat=1 from rfl] at hx231_0)
                 replace hx231_0:=(HB.out.cell (World.block_lt_of_cell? w _ hx231_0)).trans hx231_0
                 replace p231:=eq_true p231
                 replace q231:=eq_true q231
                 go_wp2
                 go_meet
                 case rel=>exact ⟨_,(((bE ByteArray.empty l0_3 1).toList == ([]:List UInt8))),(by first|rfl|(simp;done)|(simp [*];done)|(simp [*,aT,aU,bU];done)|(simp only [ay,ax];done)|(simp only [ay,ax];simp;done)|(simp only [ay,ax];simp [*];done)),H',⟨by have:=HJ1.out;have:=HJ8.out;first|omega|exact Nat.le_refl _⟩,⟨by (with_reducible repeat (first|refine au ?_ _|refine av ?_|refine ak ?_ _));exact BK228.out⟩,⟨by repeat (first|(with_reducible first|exact HB.out|apply af|apply ae|apply ag|refine ah ?_ GE228.out)|exact HB.out)⟩⟩
                ·rw [if_neg c30] at H
                 exact absurd H (by simp)
               ·rw [if_neg c29] at H
                have c29b0:((bE ByteArray.empty l0_3 0).toList == ([]:List UInt8))=false:=beq_eq_false_iff_ne.mpr c29
                have c29b1:((bE ByteArray.empty l0_3 0).toList != ([]:List UInt8))=true:=bne_iff_ne.mpr c29
                have H':=aa.mk H
                clear H
                have hcz32_0:wc.cell? ⟨gb228,0,none⟩=some (.int .i64 a0_0):=(aj BK228.out 0).trans rfl
                have hcz32_1:wc.cell? ⟨gb228,1,none⟩=some (.string a0_1):=(aj BK228.out 1).trans rfl
                have hcz32_2:wc.cell? ⟨gb228,2,none⟩=some (.string a0_2):=(aj BK228.out 2).trans rfl
                have hcz32_3:wc.cell? ⟨gb228,3,none⟩=some (.slice A0_3 l0_3.length c0_3):=(aj BK228.out 3).trans rfl
                have hcz32_4:wc.cell? ⟨gb228,4,none⟩=some (.slice A0_4 l0_4.length c0_4):=(aj BK228.out 4).trans rfl
                have hfz32_0:=ai BK228.out 0
                have hfz32_1:=ai BK228.out 1
                have hfz32_2:=ai BK228.out 2
                have hfz32_3:=ai BK228.out 3
                have hfz32_4:=ai BK228.out 4
                have p230:0≤(0:Int):=(by omega)
                have q230:0 < (l0_3.length:Int):=of_decide_eq_true (by first|(with_reducible assumption)|assumption)
                obtain ⟨ad230,e230,hx230_0⟩:=Kd.dz HR0_3.out 0 p230 q230
                cases e230
                have qi230:(0 < l0_3.length)=True:=eq_true (by omega)
                (try rw [show ((0:Int)).toNat=0 from rfl] at hx230_0)
                (try rw [Addr.add_zero'] at hx230_0)
                replace hx230_0:=(HB.out.cell (World.block_lt_of_cell? w _ hx230_0)).trans hx230_0
                replace p230:=eq_true p230
                replace q230:=eq_true q230
                go_wp2
                go_meet
                case rel=>exact ⟨_,(false),(by first|rfl|(simp;done)|(simp [*];done)|(simp [*,aT,aU,bU];done)|(simp only [ay,ax];done)|(simp only [ay,ax];simp;done)|(simp only [ay,ax];simp [*];done)),H',⟨by have:=HJ1.out;have:=HJ8.out;first|omega|exact Nat.le_refl _⟩,⟨by (with_reducible repeat (first|refine au ?_ _|refine av ?_|refine ak ?_ _));exact BK228.out⟩,⟨by repeat (first|(with_reducible first|exact HB.out|apply af|apply ae|apply ag|refine ah ?_ GE228.out)|exact HB.out)⟩⟩
              ·rw [if_neg c28] at H
               exact absurd H (by simp)
             ·rw [if_neg c27] at H
              have c27b0:((l0_3.length:Int) == 2)=false:=beq_eq_false_iff_ne.mpr c27
              have c27b1:((l0_3.length:Int) != 2)=true:=bne_iff_ne.mpr c27
              have H':=aa.mk H
              clear H
              have hcz33_0:wc.cell? ⟨gb228,0,none⟩=some (.int .i64 a0_0):=(aj BK228.out 0).trans rfl
              have hcz33_1:wc.cell? ⟨gb228,1,none⟩=some (.string a0_1):=(aj BK228.out 1).trans rfl
              have hcz33_2:wc.cell? ⟨gb228,2,none⟩=some (.string a0_2):=(aj BK228.out 2).trans rfl
              have hcz33_3:wc.cell? ⟨gb228,3,none⟩=some (.slice A0_3 l0_3.length c0_3):=(aj BK228.out 3).trans rfl
              have hcz33_4:wc.cell? ⟨gb228,4,none⟩=some (.slice A0_4 l0_4.length c0_4):=(aj BK228.out 4).trans rfl
              have hfz33_0:=ai BK228.out 0
              have hfz33_1:=ai BK228.out 1
              have hfz33_2:=ai BK228.out 2
              have hfz33_3:=ai BK228.out 3
              have hfz33_4:=ai BK228.out 4
              go_wp2
              go_meet
              case rel=>exact ⟨_,(false),(by first|rfl|(simp;done)|(simp [*];done)|(simp [*,aT,aU,bU];done)|(simp only [ay,ax];done)|(simp only [ay,ax];simp;done)|(simp only [ay,ax];simp [*];done)),H',⟨by have:=HJ1.out;have:=HJ8.out;first|omega|exact Nat.le_refl _⟩,⟨by (with_reducible repeat (first|refine au ?_ _|refine av ?_|refine ak ?_ _));exact BK228.out⟩,⟨by repeat (first|(with_reducible first|exact HB.out|apply af|apply ae|apply ag|refine ah ?_ GE228.out)|exact HB.out)⟩⟩
          ·rw [if_neg c22] at H
           have c22b0:(a0_2.toList == ([]:List UInt8))=false:=beq_eq_false_iff_ne.mpr c22
           have c22b1:(a0_2.toList != ([]:List UInt8))=true:=bne_iff_ne.mpr c22
           (first|rw [c22b0]|(simp only [aT,aU];rw [c22b0])|skip)
           have H':=aa.mk H
           clear H
           have hcz34_0:wc.cell? ⟨gb228,0,none⟩=some (.int .i64 a0_0):=(aj BK228.out 0).trans rfl
           have hcz34_1:wc.cell? ⟨gb228,1,none⟩=some (.string a0_1):=(aj BK228.out 1).trans rfl
           have hcz34_2:wc.cell? ⟨gb228,2,none⟩=some (.string a0_2):=(aj BK228.out 2).trans rfl
           have hcz34_3:wc.cell? ⟨gb228,3,none⟩=some (.slice A0_3 l0_3.length c0_3):=(aj BK228.out 3).trans rfl
           have hcz34_4:wc.cell? ⟨gb228,4,none⟩=some (.slice A0_4 l0_4.length c0_4):=(aj BK228.out 4).trans rfl
           have hfz34_0:=ai BK228.out 0
           have hfz34_1:=ai BK228.out 1
           have hfz34_2:=ai BK228.out 2
           have hfz34_3:=ai BK228.out 3
           have hfz34_4:=ai BK228.out 4
           go_wp2
           go_meet
           case rel=>exact ⟨_,(true),(by first|rfl|(simp;done)|(simp [*];done)|(simp [*,aT,aU,bU];done)|(simp only [ay,ax];done)|(simp only [ay,ax];simp;done)|(simp only [ay,ax];simp [*];done)),H',⟨by have:=HJ1.out;have:=HJ8.out;first|omega|exact Nat.le_refl _⟩,⟨by (with_reducible repeat (first|refine au ?_ _|refine av ?_|refine ak ?_ _));exact BK228.out⟩,⟨by repeat (first|(with_reducible first|exact HB.out|apply af|apply ae|apply ag|refine ah ?_ GE228.out)|exact HB.out)⟩⟩
         case rest =>
          clear HC20
          try clear c1
          try clear c2
          try clear p2
          try clear q2
          try clear hx2
          try clear qi2
          try clear c3
          try clear c4
          try clear c5
          try clear c7
          try clear c8
          try clear c11
          try clear c11b0
          try clear c11b1
          try clear c12
          try clear c12b0
          try clear c12b1
          try clear c13
          try clear c15
          try clear c15b0
          try clear c15b1
          try clear c16
          try clear c16b0
          try clear c16b1
          try clear c19
          try clear c19b0
          try clear c19b1
          try clear c22
          try clear c22b0
          try clear c22b1
          try clear c23
          try clear c23b0
          try clear c23b1
          try clear p23
          try clear q23
          try clear hx23
          try clear qi23
          try clear c25
          try clear c25b0
          try clear c25b1
          try clear c27
          try clear c27b0
          try clear c27b1
          try clear c28
          try clear c28b0
          try clear c28b1
          try clear c29
          try clear c29b0
          try clear c29b1
          try clear c30
          try clear c30b0
          try clear c30b1
          try clear hcz10_0
          try clear hcz10_1
          try clear hcz10_2
          try clear hcz10_3
          try clear hcz10_4
          try clear hcz14_0
          try clear hcz14_1
          try clear hcz14_2
          try clear hcz14_3
          try clear hcz14_4
          try clear hcz17_0
          try clear hcz17_1
          try clear hcz17_2
          try clear hcz17_3
          try clear hcz17_4
          try clear hcz18_0
          try clear hcz18_1
          try clear hcz18_2
          try clear hcz18_3
          try clear hcz18_4
          try clear hcz21_0
          try clear hcz21_1
          try clear hcz21_2
          try clear hcz21_3
          try clear hcz21_4
          try clear hcz24_0
          try clear hcz24_1
          try clear hcz24_2
          try clear hcz24_3
          try clear hcz24_4
          try clear hcz26_0
          try clear hcz26_1
          try clear hcz26_2
          try clear hcz26_3
          try clear hcz26_4
          try clear hcz31_0
          try clear hcz31_1
          try clear hcz31_2
          try clear hcz31_3
          try clear hcz31_4
          try clear hcz32_0
          try clear hcz32_1
          try clear hcz32_2
          try clear hcz32_3
          try clear hcz32_4
          try clear hcz33_0
          try clear hcz33_1
          try clear hcz33_2
          try clear hcz33_3
          try clear hcz33_4
          try clear hcz34_0
          try clear hcz34_1
          try clear hcz34_2
          try clear hcz34_3
          try clear hcz34_4
          try clear hcz6_0
          try clear hcz6_1
          try clear hcz6_2
          try clear hcz6_3
          try clear hcz6_4
          try clear hcz7_0
          try clear hcz7_1
          try clear hcz7_2
          try clear hcz7_3
          try clear hcz7_4
          try clear hfz10_0
          try clear hfz10_1
          try clear hfz10_2
          try clear hfz10_3
          try clear hfz10_4
          try clear hfz14_0
          try clear hfz14_1
          try clear hfz14_2
          try clear hfz14_3
          try clear hfz14_4
          try clear hfz17_0
          try clear hfz17_1
          try clear hfz17_2
          try clear hfz17_3
          try clear hfz17_4
          try clear hfz18_0
          try clear hfz18_1
          try clear hfz18_2
          try clear hfz18_3
          try clear hfz18_4
          try clear hfz21_0
          try clear hfz21_1
          try clear hfz21_2
          try clear hfz21_3
          try clear hfz21_4
          try clear hfz24_0
          try clear hfz24_1
          try clear hfz24_2
          try clear hfz24_3
          try clear hfz24_4
          try clear hfz26_0
          try clear hfz26_1
          try clear hfz26_2
          try clear hfz26_3
          try clear hfz26_4
          try clear hfz31_0
          try clear hfz31_1
          try clear hfz31_2
          try clear hfz31_3
          try clear hfz31_4
          try clear hfz32_0
          try clear hfz32_1
          try clear hfz32_2
          try clear hfz32_3
          try clear hfz32_4
          try clear hfz33_0
          try clear hfz33_1
          try clear hfz33_2
          try clear hfz33_3
          try clear hfz33_4
          try clear hfz34_0
          try clear hfz34_1
          try clear hfz34_2
          try clear hfz34_3
          try clear hfz34_4
          try clear hfz6_0
          try clear hfz6_1
          try clear hfz6_2
          try clear hfz6_3
          try clear hfz6_4
          try clear hfz7_0
          try clear hfz7_1
          try clear hfz7_2
          try clear hfz7_3
          try clear hfz7_4
          try clear hx230_0
          try clear hx231_0
          try clear p2
          try clear p230
          try clear p231
          try clear q230
          try clear q231
          obtain ⟨kq,x69_19,rfl,HA,HJ19,BK228,HB⟩:=hcut
          cases kq with
          | zero=>exact absurd HA.out (by simp [aJ.j2])
          | succ kj19 =>
           have H:=HA.out
           clear HA
           simp only [aJ.j2] at H
           by_cases c35:x69_19=true
           ·subst c35
            have H1:(some false)=some r:=by rw [if_pos rfl] at H;exact H
            clear H
            have H:=H1
            clear H1
            obtain rfl:=Option.some.inj H
            go_wp2
            go_ret
            exact ⟨by first|rfl|(simp [aM,aK] <;> rfl)|(simp [*,aM,aK] <;> rfl),by repeat (first|(with_reducible first|exact HB.out|apply af|apply ae|apply ag|refine ah ?_ GE228.out)|exact HB.out)⟩
           ·replace c35:=Bool.eq_false_iff.mpr c35
            subst c35
            have H1:(aJ.l0 kj19 (l0_3.length:Int) 0 a0_0 a0_1 a0_2 l0_3 l0_4)=some r:=by rw [if_neg (show ¬ (false=true) by decide)] at H;exact H
            clear H
            have H:=H1
            clear H1
            have H':=aa.mk H
            clear H
            go_wp2
            go_loopg [4] kj19 (fun kq v4 w'=>∃ (x4_4:Int),v4=.int .i64 x4_4∧aa (aJ.l0 kq (l0_3.length:Int) x4_4 a0_0 a0_1 a0_2 l0_3 l0_4=some r)∧aa (kq≤kj19)∧aa (w'.heap[gb228]?=some (.cells #[.int .i64 a0_0,.string a0_1,.string a0_2,(.slice A0_3 l0_3.length c0_3),(.slice A0_4 l0_4.length c0_4)] 25 (0,0)))∧aa (Below w.heap.size w w'))
            case atStart=>exact ⟨(0),(by first|rfl|(simp;done)|(simp [*];done)|(simp [*,aT,aU,bU];done)|(simp only [ay,ax];done)|(simp only [ay,ax];simp;done)|(simp only [ay,ax];simp [*];done)),H',⟨Nat.le_refl _⟩,⟨by (with_reducible repeat (first|refine au ?_ _|refine av ?_|refine ak ?_ _));exact BK228.out⟩,⟨by repeat (first|(with_reducible first|exact HB.out|apply af|apply ae|apply ag|refine ah ?_ GE228.out)|exact HB.out)⟩⟩
            case round =>
             clear H'
             try clear c1
             try clear c2
             try clear p2
             try clear q2
             try clear hx2
             try clear qi2
             try clear c3
             try clear c4
             try clear c5
             try clear c7
             try clear c8
             try clear c11
             try clear c11b0
             try clear c11b1
             try clear c12
             try clear c12b0
             try clear c12b1
             try clear c13
             try clear c15
             try clear c15b0
             try clear c15b1
             try clear c16
             try clear c16b0
             try clear c16b1
             try clear c19
             try clear c19b0
             try clear c19b1
             try clear c22
             try clear c22b0
             try clear c22b1
             try clear c23
             try clear c23b0
             try clear c23b1
             try clear p23
             try clear q23
             try clear hx23
             try clear qi23
             try clear c25
             try clear c25b0
             try clear c25b1
             try clear c27
             try clear c27b0
             try clear c27b1
             try clear c28
             try clear c28b0
             try clear c28b1
             try clear c29
             try clear c29b0
             try clear c29b1
             try clear c30
             try clear c30b0
             try clear c30b1
             try clear c35
             try clear hcz10_0
             try clear hcz10_1
             try clear hcz10_2
             try clear hcz10_3
             try clear hcz10_4
             try clear hcz14_0
             try clear hcz14_1
             try clear hcz14_2
             try clear hcz14_3
             try clear hcz14_4
             try clear hcz17_0
             try clear hcz17_1
             try clear hcz17_2
             try clear hcz17_3
             try clear hcz17_4
             try clear hcz18_0
             try clear hcz18_1
             try clear hcz18_2
             try clear hcz18_3
             try clear hcz18_4
             try clear hcz21_0
             try clear hcz21_1
             try clear hcz21_2
             try clear hcz21_3
             try clear hcz21_4
             try clear hcz24_0
             try clear hcz24_1
             try clear hcz24_2
             try clear hcz24_3
             try clear hcz24_4
             try clear hcz26_0
             try clear hcz26_1
             try clear hcz26_2
             try clear hcz26_3
             try clear hcz26_4
             try clear hcz31_0
             try clear hcz31_1
             try clear hcz31_2
             try clear hcz31_3
             try clear hcz31_4
             try clear hcz32_0
             try clear hcz32_1
             try clear hcz32_2
             try clear hcz32_3
             try clear hcz32_4
             try clear hcz33_0
             try clear hcz33_1
             try clear hcz33_2
             try clear hcz33_3
             try clear hcz33_4
             try clear hcz34_0
             try clear hcz34_1
             try clear hcz34_2
             try clear hcz34_3
             try clear hcz34_4
             try clear hcz6_0
             try clear hcz6_1
             try clear hcz6_2
             try clear hcz6_3
             try clear hcz6_4
             try clear hcz7_0
             try clear hcz7_1
             try clear hcz7_2
             try clear hcz7_3
             try clear hcz7_4
             try clear hfz10_0
             try clear hfz10_1
             try clear hfz10_2
             try clear hfz10_3
             try clear hfz10_4
             try clear hfz14_0
             try clear hfz14_1
             try clear hfz14_2
             try clear hfz14_3
             try clear hfz14_4
             try clear hfz17_0
             try clear hfz17_1
             try clear hfz17_2
             try clear hfz17_3
             try clear hfz17_4
             try clear hfz18_0
             try clear hfz18_1
             try clear hfz18_2
             try clear hfz18_3
             try clear hfz18_4
             try clear hfz21_0
             try clear hfz21_1
             try clear hfz21_2
             try clear hfz21_3
             try clear hfz21_4
             try clear hfz24_0
             try clear hfz24_1
             try clear hfz24_2
             try clear hfz24_3
             try clear hfz24_4
             try clear hfz26_0
             try clear hfz26_1
             try clear hfz26_2
             try clear hfz26_3
             try clear hfz26_4
             try clear hfz31_0
             try clear hfz31_1
             try clear hfz31_2
             try clear hfz31_3
             try clear hfz31_4
             try clear hfz32_0
             try clear hfz32_1
             try clear hfz32_2
             try clear hfz32_3
             try clear hfz32_4
             try clear hfz33_0
             try clear hfz33_1
             try clear hfz33_2
             try clear hfz33_3
             try clear hfz33_4
             try clear hfz34_0
             try clear hfz34_1
             try clear hfz34_2
             try clear hfz34_3
             try clear hfz34_4
             try clear hfz6_0
             try clear hfz6_1
             try clear hfz6_2
             try clear hfz6_3
             try clear hfz6_4
             try clear hfz7_0
             try clear hfz7_1
             try clear hfz7_2
             try clear hfz7_3
             try clear hfz7_4
             try clear hx230_0
             try clear hx231_0
             try clear p2
             try clear p23
             try clear p230
             try clear p231
             try clear q2
             try clear q23
             try clear q230
             try clear q231
             obtain ⟨x4_4,rfl,HA,HK4,BK228,HB⟩:=hrel
             cases gk with
             | zero=>exact absurd HA.out (by simp [aJ.l0])
             | succ k4 =>
              have H:=HA.out
              clear HA
              simp only [aJ.l0] at H
              by_cases c36:x4_4 < (l0_3.length:Int)
              ·rw [if_pos c36] at H
               have c36b0:decide (x4_4 < (l0_3.length:Int))=true:=decide_eq_true c36
               clear c36
               by_cases c37:0≤x4_4
               ·rw [if_pos c37] at H
                have c37b0:decide (0≤x4_4)=true:=decide_eq_true c37
                clear c37
                by_cases c38:x4_4 < (l0_3.length:Int)
                ·rw [if_pos c38] at H
                 have c38b0:decide (x4_4 < (l0_3.length:Int))=true:=decide_eq_true c38
                 clear c38
                 by_cases c39:((bE ByteArray.empty l0_3 x4_4).size:Int) > 100
                 ·rw [if_pos c39] at H
                  have c39b0:decide (100 < ((bE ByteArray.empty l0_3 x4_4).size:Int))=true:=decide_eq_true c39
                  have c39b1:decide (100 < (bE ByteArray.empty l0_3 x4_4).size)=true:=decide_eq_true (by omega)
                  clear c39
                  obtain rfl:=Option.some.inj H
                  have hcz40_0:wr.cell? ⟨gb228,0,none⟩=some (.int .i64 a0_0):=(aj BK228.out 0).trans rfl
                  have hcz40_1:wr.cell? ⟨gb228,1,none⟩=some (.string a0_1):=(aj BK228.out 1).trans rfl
                  have hcz40_2:wr.cell? ⟨gb228,2,none⟩=some (.string a0_2):=(aj BK228.out 2).trans rfl
                  have hcz40_3:wr.cell? ⟨gb228,3,none⟩=some (.slice A0_3 l0_3.length c0_3):=(aj BK228.out 3).trans rfl
                  have hcz40_4:wr.cell? ⟨gb228,4,none⟩=some (.slice A0_4 l0_4.length c0_4):=(aj BK228.out 4).trans rfl
                  have hfz40_0:=ai BK228.out 0
                  have hfz40_1:=ai BK228.out 1
                  have hfz40_2:=ai BK228.out 2
                  have hfz40_3:=ai BK228.out 3
                  have hfz40_4:=ai BK228.out 4
                  have p232:0≤(x4_4:Int):=of_decide_eq_true (by first|(with_reducible assumption)|assumption)
                  have q232:x4_4 < (l0_3.length:Int):=of_decide_eq_true (by first|(with_reducible assumption)|assumption)
                  obtain ⟨ad232,e232,hx232_0⟩:=Kd.dz HR0_3.out x4_4 p232 q232
                  cases e232
                  replace hx232_0:=(HB.out.cell (World.block_lt_of_cell? w _ hx232_0)).trans hx232_0
                  replace p232:=eq_true p232
                  replace q232:=eq_true q232
                  go_wp2
                  go_ret
                  exact ⟨by first|rfl|(simp [aM,aK] <;> rfl)|(simp [*,aM,aK] <;> rfl),by repeat (first|(with_reducible first|exact HB.out|apply af|apply ae|apply ag|refine ah ?_ GE228.out)|exact HB.out)⟩
                 ·rw [if_neg c39] at H
                  have c39b0:decide (100 < ((bE ByteArray.empty l0_3 x4_4).size:Int))=false:=decide_eq_false c39
                  have c39b1:decide (100 < (bE ByteArray.empty l0_3 x4_4).size)=false:=decide_eq_false (by omega)
                  clear c39
                  by_cases c41:x4_4 > 0
                  ·rw [if_pos c41] at H
                   have c41b0:decide (0 < x4_4)=true:=decide_eq_true c41
                   clear c41
                   by_cases c42:x4_4 < (wrap64 ((l0_3.length:Int) - 1))
                   ·rw [if_pos c42] at H
                    have c42b0:decide (x4_4 < (wrap64 ((l0_3.length:Int) - 1)))=true:=decide_eq_true c42
                    clear c42
                    by_cases c43:(bE ByteArray.empty l0_3 x4_4).toList=([]:List UInt8)
                    ·rw [if_pos c43] at H
                     have c43b0:((bE ByteArray.empty l0_3 x4_4).toList == ([]:List UInt8))=true:=beq_iff_eq.mpr c43
                     have c43b1:((bE ByteArray.empty l0_3 x4_4).toList != ([]:List UInt8))=false:=bne_eq_false_iff_eq.mpr c43
                     clear c43
                     obtain rfl:=Option.some.inj H
                     have hcz44_0:wr.cell? ⟨gb228,0,none⟩=some (.int .i64 a0_0):=(aj BK228.out 0).trans rfl
                     have hcz44_1:wr.cell? ⟨gb228,1,none⟩=some (.string a0_1):=(aj BK228.out 1).trans rfl
                     have hcz44_2:wr.cell? ⟨gb228,2,none⟩=some (.string a0_2):=(aj BK228.out 2).trans rfl
                     have hcz44_3:wr.cell? ⟨gb228,3,none⟩=some (.slice A0_3 l0_3.length c0_3):=(aj BK228.out 3).trans rfl
                     have hcz44_4:wr.cell? ⟨gb228,4,none⟩=some (.slice A0_4 l0_4.length c0_4):=(aj BK228.out 4).trans rfl
                     have hfz44_0:=ai BK228.out 0
                     have hfz44_1:=ai BK228.out 1
                     have hfz44_2:=ai BK228.out 2
                     have hfz44_3:=ai BK228.out 3
                     have hfz44_4:=ai BK228.out 4
                     have p232:0≤(x4_4:Int):=of_decide_eq_true (by first|(with_reducible assumption)|assumption)
                     have q232:x4_4 < (l0_3.length:Int):=of_decide_eq_true (by first|(with_reducible assumption)|assumption)
                     obtain ⟨ad232,e232,hx232_0⟩:=Kd.dz HR0_3.out x4_4 p232 q232
                     cases e232
                     replace hx232_0:=(HB.out.cell (World.block_lt_of_cell? w _ hx232_0)).trans hx232_0
                     replace p232:=eq_true p232
                     replace q232:=eq_true q232
                     have p233:0≤(x4_4:Int):=of_decide_eq_true (by first|(with_reducible assumption)|assumption)
                     have q233:x4_4 < (l0_3.length:Int):=of_decide_eq_true (by first|(with_reducible assumption)|assumption)
                     obtain ⟨ad233,e233,hx233_0⟩:=Kd.dz HR0_3.out x4_4 p233 q233
                     obtain rfl:ad232=ad233:=(by injection e233)
                     replace hx233_0:=(HB.out.cell (World.block_lt_of_cell? w _ hx233_0)).trans hx233_0
                     replace p233:=eq_true p233
                     replace q233:=eq_true q233
                     go_wp2
                     go_ret
                     exact ⟨by first|rfl|(simp [aM,aK] <;> rfl)|(simp [*,aM,aK] <;> rfl),by repeat (first|(with_reducible first|exact HB.out|apply af|apply ae|apply ag|refine ah ?_ GE228.out)|exact HB.out)⟩
                    ·rw [if_neg c43] at H
                     have c43b0:((bE ByteArray.empty l0_3 x4_4).toList == ([]:List UInt8))=false:=beq_eq_false_iff_ne.mpr c43
                     have c43b1:((bE ByteArray.empty l0_3 x4_4).toList != ([]:List UInt8))=true:=bne_iff_ne.mpr c43
                     have H':=aa.mk H
                     clear H
                     have hcz45_0:wr.cell? ⟨gb228,0,none⟩=some (.int .i64 a0_0):=(aj BK228.out 0).trans rfl
                     have hcz45_1:wr.cell? ⟨gb228,1,none⟩=some (.string a0_1):=(aj BK228.out 1).trans rfl
                     have hcz45_2:wr.cell? ⟨gb228,2,none⟩=some (.string a0_2):=(aj BK228.out 2).trans rfl
                     have hcz45_3:wr.cell? ⟨gb228,3,none⟩=some (.slice A0_3 l0_3.length c0_3):=(aj BK228.out 3).trans rfl
                     have hcz45_4:wr.cell? ⟨gb228,4,none⟩=some (.slice A0_4 l0_4.length c0_4):=(aj BK228.out 4).trans rfl
                     have hfz45_0:=ai BK228.out 0
                     have hfz45_1:=ai BK228.out 1
                     have hfz45_2:=ai BK228.out 2
                     have hfz45_3:=ai BK228.out 3
                     have hfz45_4:=ai BK228.out 4
                     have p232:0≤(x4_4:Int):=of_decide_eq_true (by first|(with_reducible assumption)|assumption)
                     have q232:x4_4 < (l0_3.length:Int):=of_decide_eq_true (by first|(with_reducible assumption)|assumption)
                     obtain ⟨ad232,e232,hx232_0⟩:=Kd.dz HR0_3.out x4_4 p232 q232
                     cases e232
                     replace hx232_0:=(HB.out.cell (World.block_lt_of_cell? w _ hx232_0)).trans hx232_0
                     replace p232:=eq_true p232
                     replace q232:=eq_true q232
                     have p233:0≤(x4_4:Int):=of_decide_eq_true (by first|(with_reducible assumption)|assumption)
                     have q233:x4_4 < (l0_3.length:Int):=of_decide_eq_true (by first|(with_reducible assumption)|assumption)
                     obtain ⟨ad233,e233,hx233_0⟩:=Kd.dz HR0_3.out x4_4 p233 q233
                     obtain rfl:ad232=ad233:=(by injection e233)
                     replace hx233_0:=(HB.out.cell (World.block_lt_of_cell? w _ hx233_0)).trans hx233_0
                     replace p233:=eq_true p233
                     replace q233:=eq_true q233
                     go_wp2
                     go_roundg k4
                     case measure=>have:=HJ1.out;have:=HJ8.out;have:=HJ19.out;have:=HK4.out;omega
                     case rel=>exact ⟨(wrap64 (x4_4+1)),(by first|rfl|(simp;done)|(simp [*];done)|(simp [*,aT,aU,bU];done)|(simp only [ay,ax];done)|(simp only [ay,ax];simp;done)|(simp only [ay,ax];simp [*];done)),H',⟨by have:=HJ1.out;have:=HJ8.out;have:=HJ19.out;have:=HK4.out;omega⟩,⟨by (with_reducible repeat (first|refine au ?_ _|refine av ?_|refine ak ?_ _));exact BK228.out⟩,⟨by repeat (first|(with_reducible first|exact HB.out|apply af|apply ae|apply ag|refine ah ?_ GE228.out)|exact HB.out)⟩⟩
                   ·rw [if_neg c42] at H
                    have c42b0:decide (x4_4 < (wrap64 ((l0_3.length:Int) - 1)))=false:=decide_eq_false c42
                    clear c42
                    have H':=aa.mk H
                    clear H
                    have hcz46_0:wr.cell? ⟨gb228,0,none⟩=some (.int .i64 a0_0):=(aj BK228.out 0).trans rfl
                    have hcz46_1:wr.cell? ⟨gb228,1,none⟩=some (.string a0_1):=(aj BK228.out 1).trans rfl
                    have hcz46_2:wr.cell? ⟨gb228,2,none⟩=some (.string a0_2):=(aj BK228.out 2).trans rfl
                    have hcz46_3:wr.cell? ⟨gb228,3,none⟩=some (.slice A0_3 l0_3.length c0_3):=(aj BK228.out 3).trans rfl
                    have hcz46_4:wr.cell? ⟨gb228,4,none⟩=some (.slice A0_4 l0_4.length c0_4):=(aj BK228.out 4).trans rfl
                    have hfz46_0:=ai BK228.out 0
                    have hfz46_1:=ai BK228.out 1
                    have hfz46_2:=ai BK228.out 2
                    have hfz46_3:=ai BK228.out 3
                    have hfz46_4:=ai BK228.out 4
                    have p232:0≤(x4_4:Int):=of_decide_eq_true (by first|(with_reducible assumption)|assumption)
                    have q232:x4_4 < (l0_3.length:Int):=of_decide_eq_true (by first|(with_reducible assumption)|assumption)
                    obtain ⟨ad232,e232,hx232_0⟩:=Kd.dz HR0_3.out x4_4 p232 q232
                    cases e232
                    replace hx232_0:=(HB.out.cell (World.block_lt_of_cell? w _ hx232_0)).trans hx232_0
                    replace p232:=eq_true p232
                    replace q232:=eq_true q232
                    go_wp2
                    go_roundg k4
                    case measure=>have:=HJ1.out;have:=HJ8.out;have:=HJ19.out;have:=HK4.out;omega
                    case rel=>exact ⟨(wrap64 (x4_4+1)),(by first|rfl|(simp;done)|(simp [*];done)|(simp [*,aT,aU,bU];done)|(simp only [ay,ax];done)|(simp only [ay,ax];simp;done)|(simp only [ay,ax];simp [*];done)),H',⟨by have:=HJ1.out;have:=HJ8.out;have:=HJ19.out;have:=HK4.out;omega⟩,⟨by (with_reducible repeat (first|refine au ?_ _|refine av ?_|refine ak ?_ _));exact BK228.out⟩,⟨by repeat (first|(with_reducible first|exact HB.out|apply af|apply ae|apply ag|refine ah ?_ GE228.out)|exact HB.out)⟩⟩
                  ·rw [if_neg c41] at H
                   have c41b0:decide (0 < x4_4)=false:=decide_eq_false c41
                   clear c41
                   have H':=aa.mk H
                   clear H
                   have hcz47_0:wr.cell? ⟨gb228,0,none⟩=some (.int .i64 a0_0):=(aj BK228.out 0).trans rfl
                   have hcz47_1:wr.cell? ⟨gb228,1,none⟩=some (.string a0_1):=(aj BK228.out 1).trans rfl
                   have hcz47_2:wr.cell? ⟨gb228,2,none⟩=some (.string a0_2):=(aj BK228.out 2).trans rfl
                   have hcz47_3:wr.cell? ⟨gb228,3,none⟩=some (.slice A0_3 l0_3.length c0_3):=(aj BK228.out 3).trans rfl
                   have hcz47_4:wr.cell? ⟨gb228,4,none⟩=some (.slice A0_4 l0_4.length c0_4):=(aj BK228.out 4).trans rfl
                   have hfz47_0:=ai BK228.out 0
                   have hfz47_1:=ai BK228.out 1
                   have hfz47_2:=ai BK228.out 2
                   have hfz47_3:=ai BK228.out 3
                   have hfz47_4:=ai BK228.out 4
                   have p232:0≤(x4_4:Int):=of_decide_eq_true (by first|(with_reducible assumption)|assumption)
                   have q232:x4_4 < (l0_3.length:Int):=of_decide_eq_true (by first|(with_reducible assumption)|assumption)
                   obtain ⟨ad232,e232,hx232_0⟩:=Kd.dz HR0_3.out x4_4 p232 q232
                   cases e232
                   replace hx232_0:=(HB.out.cell (World.block_lt_of_cell? w _ hx232_0)).trans hx232_0
                   replace p232:=eq_true p232
                   replace q232:=eq_true q232
                   go_wp2
                   go_roundg k4
                   case measure=>have:=HJ1.out;have:=HJ8.out;have:=HJ19.out;have:=HK4.out;omega
                   case rel=>exact ⟨(wrap64 (x4_4+1)),(by first|rfl|(simp;done)|(simp [*];done)|(simp [*,aT,aU,bU];done)|(simp only [ay,ax];done)|(simp only [ay,ax];simp;done)|(simp only [ay,ax];simp [*];done)),H',⟨by have:=HJ1.out;have:=HJ8.out;have:=HJ19.out;have:=HK4.out;omega⟩,⟨by (with_reducible repeat (first|refine au ?_ _|refine av ?_|refine ak ?_ _));exact BK228.out⟩,⟨by repeat (first|(with_reducible first|exact HB.out|apply af|apply ae|apply ag|refine ah ?_ GE228.out)|exact HB.out)⟩⟩
                ·rw [if_neg c38] at H
                 exact absurd H (by simp)
               ·rw [if_neg c37] at H
                exact absurd H (by simp)
              ·rw [if_neg c36] at H
               have c36b0:decide (x4_4 < (l0_3.length:Int))=false:=decide_eq_false c36
               clear c36
               obtain rfl:=Option.some.inj H
               go_wp2
               go_ret
               exact ⟨by first|rfl|(simp [aM,aK] <;> rfl)|(simp [*,aM,aK] <;> rfl),by repeat (first|(with_reducible first|exact HB.out|apply af|apply ae|apply ag|refine ah ?_ GE228.out)|exact HB.out)⟩
        ·rw [if_neg c19] at H
         have c19b0:(a0_0 == 5)=false:=beq_eq_false_iff_ne.mpr c19
         have c19b1:(a0_0 != 5)=true:=bne_iff_ne.mpr c19
         obtain rfl:=Option.some.inj H
         go_wp2
         go_ret
         exact ⟨by first|rfl|(simp [aM,aK] <;> rfl)|(simp [*,aM,aK] <;> rfl),by repeat (first|(with_reducible first|exact HB.out|apply af|apply ae|apply ag|refine ah ?_ GE228.out)|exact HB.out)⟩
mutual
def aX.j1:Nat→Int→Int→Int→ByteArray→ByteArray→List ByteArray→List (S25)→Option (Bool)
 | 0,_,_,_,_,_,_,_=>none
 | k+1,x1,x5,x235000,x235001,x235002,x235003,x235004=>if x235001.toList=([]:List UInt8) then (if x235002.toList=([]:List UInt8) then (if (x235003.length:Int) > 0 then (aX.j2 k x1 true x235000 x235001 x235002 x235003 x235004) else (if (x235004.length:Int) > x5 then (aX.j2 k x1 true x235000 x235001 x235002 x235003 x235004) else (if x235000=3 then (if (x235004.length:Int)=1 then (if (x235004.length:Int) > 0 then (aX.j2 k x1 (decide (x1 < 1)) x235000 x235001 x235002 x235003 x235004) else (aX.j2 k x1 false x235000 x235001 x235002 x235003 x235004)) else (aX.j2 k x1 true x235000 x235001 x235002 x235003 x235004)) else (if (x235004.length:Int) > 0 then (aX.j2 k x1 (decide (x1 < 1)) x235000 x235001 x235002 x235003 x235004) else (aX.j2 k x1 false x235000 x235001 x235002 x235003 x235004))))) else (aX.j2 k x1 true x235000 x235001 x235002 x235003 x235004)) else (aX.j2 k x1 true x235000 x235001 x235002 x235003 x235004)
def aX.j2:Nat→Int→Bool→Int→ByteArray→ByteArray→List ByteArray→List (S25)→Option (Bool)
 | 0,_,_,_,_,_,_,_=>none
 | k+1,x1,x63,x235000,x235001,x235002,x235003,x235004=>if x63=true then (some false) else (aX.l0 k x1 0 x235000 x235001 x235002 x235003 x235004)
def aX.l0:Nat→Int→Int→Int→ByteArray→ByteArray→List ByteArray→List (S25)→Option (Bool)
 | 0,_,_,_,_,_,_,_=>none
 | k+1,x1,x6,x235000,x235001,x235002,x235003,x235004=>if x6 < (x235004.length:Int) then (if 0≤x6 then ((aX.f k ((az x235004 x6).f0) ((az x235004 x6).f1) ((az x235004 x6).f2) ((az x235004 x6).f3) ((az x235004 x6).f4) (wrap64 (x1 - 1))).bind fun t237=>(if t237=true then (aX.l0 k x1 (wrap64 (x6+1)) x235000 x235001 x235002 x235003 x235004) else (some false))) else (none)) else (some true)
def aX.j0:Nat→Int→Int→Bool→Int→ByteArray→ByteArray→List ByteArray→List (S25)→Option (Bool)
 | 0,_,_,_,_,_,_,_,_=>none
 | k+1,x1,x8,x17,x235000,x235001,x235002,x235003,x235004=>if x17=true then (aX.j1 k x1 40 x235000 x235001 x235002 x235003 x235004) else (if x8=3 then (aX.j1 k x1 1 x235000 x235001 x235002 x235003 x235004) else (if (x235004.length:Int)=0 then ((aJ.f k x235000 x235001 x235002 x235003 x235004).bind fun t235=>(some t235)) else (some false)))
def aX.f:Nat→Int→ByteArray→ByteArray→List ByteArray→List (S25)→Int→Option (Bool)
 | 0,_,_,_,_,_,_=>none
 | k+1,a0_0,a0_1,a0_2,l0_3,l0_4,a1=>if a0_0=1 then (aX.j0 k a1 a0_0 (a0_0 == 1) a0_0 a0_1 a0_2 l0_3 l0_4) else (aX.j0 k a1 a0_0 (a0_0 == 2) a0_0 a0_1 a0_2 l0_3 l0_4)
end
set_option maxHeartbeats 8000000 in
set_option maxRecDepth 100000 in
theorem aX.calls (k:Nat):∀ (a0_0:Int) (a0_1:ByteArray) (a0_2:ByteArray) (A0_3:Option Addr) (c0_3:Nat) (l0_3:List ByteArray) (A0_4:Option Addr) (c0_4:Nat) (l0_4:List (S25)) (a1:Int) (r:Bool) (w:World) (hr0_3:Kd.C Kd.string w A0_3 l0_3.length l0_3) (hc0_3:l0_3.length≤c0_3) (hr0_4:Kd.C k25 w A0_4 l0_4.length l0_4) (hc0_4:l0_4.length≤c0_4) (h:aX.f k a0_0 a0_1 a0_2 l0_3 l0_4 a1=some r),
  Calls Tryz.prog 30 #[.agg #[.int .i64 a0_0,.string a0_1,.string a0_2,.slice A0_3 l0_3.length c0_3,.slice A0_4 l0_4.length c0_4],.int .i64 a1] w fun e w'=>e=.returned (.bool r)∧Below w.heap.size w w':=by
 induction k using Nat.strongRecOn with
 | _ k ih =>
 intro a0_0 a0_1 a0_2 A0_3 c0_3 l0_3 A0_4 c0_4 l0_4 a1 r w hr0_3 hc0_3 hr0_4 hc0_4 h
 cases k with
 | zero=>exact absurd h (by simp [aX.f])
 | succ k =>
 simp only [aX.f] at h
 have hu25:=Tryz.underlying25
 have HR0_3:=aa.mk hr0_3
 have HC0_3:=aa.mk hc0_3
 clear hr0_3 hc0_3
 have HR0_4:=aa.mk hr0_4
 have HC0_4:=aa.mk hc0_4
 clear hr0_4 hc0_4
 have HB:=aa.mk (Below.refl w.heap.size w)
 have H:(if a0_0=1 then (aX.j0 k a1 a0_0 (a0_0 == 1) a0_0 a0_1 a0_2 l0_3 l0_4) else (aX.j0 k a1 a0_0 (a0_0 == 2) a0_0 a0_1 a0_2 l0_3 l0_4))=some r:=h
 clear h
 have HC3:=aa.mk H
 clear H
 go_enter Tryz.func30,Tryz.ntmps30
 go_upto_block 0 with (first|((with_reducible refine bS (N:=2) rfl ?_);(try (refine eU (by rfl) ?_;dsimp only));refine eu ?hg (N:=2) ?hd (cs:=#[.int .i64 a0_0,.string a0_1,.string a0_2,.slice A0_3 l0_3.length c0_3,.slice A0_4 l0_4.length c0_4]) (t:=25) ?hr ?_;(case hd=>rfl);(case hg=>rfl);(case hr=>first|(go_simp;done)|(go_simp;rfl));intro gb234 hg w4 hbox hb;have n0_:=aa.mk (aD (by repeat (first|(with_reducible first|exact HB.out|apply af|apply ae|apply ag)|exact HB.out)) hb);have n1_:=aa.mk (hbox);have n2_:=aa.mk ((by rw [hg];exact (aG (by repeat (first|(with_reducible first|exact HB.out|apply af|apply ae|apply ag)|exact HB.out))):w.heap.size≤gb234));have n3_:=aa.mk ((by rw [hg];exact (aG (by repeat (first|(with_reducible first|exact HB.out|apply af|apply ae|apply ag)|exact HB.out))):w.heap.size≤gb234));clear HB;have HB:=n0_;have BK234:=n1_;have GW234:=n2_;have GE234:=n3_;clear n0_ n1_ n2_ n3_;clear hb hbox hg;have hcz5_0:w4.cell? ⟨gb234,0,none⟩=some (.int .i64 a0_0):=(aj BK234.out 0).trans rfl;have hcz5_1:w4.cell? ⟨gb234,1,none⟩=some (.string a0_1):=(aj BK234.out 1).trans rfl;have hcz5_2:w4.cell? ⟨gb234,2,none⟩=some (.string a0_2):=(aj BK234.out 2).trans rfl;have hcz5_3:w4.cell? ⟨gb234,3,none⟩=some (.slice A0_3 l0_3.length c0_3):=(aj BK234.out 3).trans rfl;have hcz5_4:w4.cell? ⟨gb234,4,none⟩=some (.slice A0_4 l0_4.length c0_4):=(aj BK234.out 4).trans rfl;have hfz5_0:=ai BK234.out 0;have hfz5_1:=ai BK234.out 1;have hfz5_2:=ai BK234.out 2;have hfz5_3:=ai BK234.out 3;have hfz5_4:=ai BK234.out 4))
 (try simp only [Act.put,List.setIfInBounds_toArray,List.set_cons_zero,List.set_cons_succ])
 go_cut [5] (fun v5 wc=>∃ (kq:Nat) (x5_2:Int),v5=.int .i64 x5_2∧aa (aX.j1 kq a1 x5_2 a0_0 a0_1 a0_2 l0_3 l0_4=some r)∧aa (kq≤k)∧aa (wc.heap[gb234]?=some (.cells #[.int .i64 a0_0,.string a0_1,.string a0_2,(.slice A0_3 l0_3.length c0_3),(.slice A0_4 l0_4.length c0_4)] 25 (0,0)))∧aa (Below w.heap.size w wc))
 case first =>
  have H:=HC3.out
  clear HC3
  have HC6:=aa.mk H
  clear H
  go_upto_if 17 with (fail)
  go_cut [17] (fun v17 wc=>∃ (kq:Nat) (x17_5:Bool),v17=.bool x17_5∧aa (aX.j0 kq a1 a0_0 x17_5 a0_0 a0_1 a0_2 l0_3 l0_4=some r)∧aa (kq≤k)∧aa (wc.heap[gb234]?=some (.cells #[.int .i64 a0_0,.string a0_1,.string a0_2,(.slice A0_3 l0_3.length c0_3),(.slice A0_4 l0_4.length c0_4)] 25 (0,0)))∧aa (Below w.heap.size w wc))
  case first =>
   have H:=HC6.out
   clear HC6
   by_cases c7:a0_0=1
   ·rw [if_pos c7] at H
    have c7b0:(a0_0 == 1)=true:=beq_iff_eq.mpr c7
    have c7b1:(a0_0 != 1)=false:=bne_eq_false_iff_eq.mpr c7
    clear c7
    (first|rw [c7b0]|(simp only [aT,aU];rw [c7b0])|skip)
    have H':=aa.mk H
    clear H
    go_wp2
    go_meet
    case rel=>exact ⟨_,((a0_0 == 1)),(by first|rfl|(simp;done)|(simp [*];done)|(simp [*,aT,aU,bU];done)|(simp only [ay,ax];done)|(simp only [ay,ax];simp;done)|(simp only [ay,ax];simp [*];done)),H',⟨by first|omega|exact Nat.le_refl _⟩,⟨by (with_reducible repeat (first|refine au ?_ _|refine av ?_|refine ak ?_ _));exact BK234.out⟩,⟨by repeat (first|(with_reducible first|exact HB.out|apply af|apply ae|apply ag|refine ah ?_ GE234.out)|exact HB.out)⟩⟩
   ·rw [if_neg c7] at H
    have c7b0:(a0_0 == 1)=false:=beq_eq_false_iff_ne.mpr c7
    have c7b1:(a0_0 != 1)=true:=bne_iff_ne.mpr c7
    (first|rw [c7b0]|(simp only [aT,aU];rw [c7b0])|skip)
    have H':=aa.mk H
    clear H
    go_wp2
    go_meet
    case rel=>exact ⟨_,((a0_0 == 2)),(by first|rfl|(simp;done)|(simp [*];done)|(simp [*,aT,aU,bU];done)|(simp only [ay,ax];done)|(simp only [ay,ax];simp;done)|(simp only [ay,ax];simp [*];done)),H',⟨by first|omega|exact Nat.le_refl _⟩,⟨by (with_reducible repeat (first|refine au ?_ _|refine av ?_|refine ak ?_ _));exact BK234.out⟩,⟨by repeat (first|(with_reducible first|exact HB.out|apply af|apply ae|apply ag|refine ah ?_ GE234.out)|exact HB.out)⟩⟩
  case rest =>
   clear HC6
   try clear p2
   try clear c3
   try clear c7
   try clear c7b0
   try clear c7b1
   try clear hcz5_0
   try clear hcz5_1
   try clear hcz5_2
   try clear hcz5_3
   try clear hcz5_4
   try clear hfz5_0
   try clear hfz5_1
   try clear hfz5_2
   try clear hfz5_3
   try clear hfz5_4
   obtain ⟨kq,x17_5,rfl,HA,HJ5,BK234,HB⟩:=hcut
   cases kq with
   | zero=>exact absurd HA.out (by simp [aX.j0])
   | succ kj5 =>
    have H:=HA.out
    clear HA
    simp only [aX.j0] at H
    by_cases c8:x17_5=true
    ·subst c8
     have H1:(aX.j1 kj5 a1 40 a0_0 a0_1 a0_2 l0_3 l0_4)=some r:=by rw [if_pos rfl] at H;exact H
     clear H
     have H:=H1
     clear H1
     have H':=aa.mk H
     clear H
     go_wp2
     go_meet
     case rel=>exact ⟨_,(40),(by first|rfl|(simp;done)|(simp [*];done)|(simp [*,aT,aU,bU];done)|(simp only [ay,ax];done)|(simp only [ay,ax];simp;done)|(simp only [ay,ax];simp [*];done)),H',⟨by have:=HJ5.out;first|omega|exact Nat.le_refl _⟩,⟨by (with_reducible repeat (first|refine au ?_ _|refine av ?_|refine ak ?_ _));exact BK234.out⟩,⟨by repeat (first|(with_reducible first|exact HB.out|apply af|apply ae|apply ag|refine ah ?_ GE234.out)|exact HB.out)⟩⟩
    ·replace c8:=Bool.eq_false_iff.mpr c8
     subst c8
     have H1:(if a0_0=3 then (aX.j1 kj5 a1 1 a0_0 a0_1 a0_2 l0_3 l0_4) else (if (l0_4.length:Int)=0 then ((aJ.f kj5 a0_0 a0_1 a0_2 l0_3 l0_4).bind fun t235=>(some t235)) else (some false)))=some r:=by rw [if_neg (show ¬ (false=true) by decide)] at H;exact H
     clear H
     have H:=H1
     clear H1
     by_cases c9:a0_0=3
     ·rw [if_pos c9] at H
      have c9b0:(a0_0 == 3)=true:=beq_iff_eq.mpr c9
      have c9b1:(a0_0 != 3)=false:=bne_eq_false_iff_eq.mpr c9
      clear c9
      have H':=aa.mk H
      clear H
      go_wp2
      go_meet
      case rel=>exact ⟨_,(1),(by first|rfl|(simp;done)|(simp [*];done)|(simp [*,aT,aU,bU];done)|(simp only [ay,ax];done)|(simp only [ay,ax];simp;done)|(simp only [ay,ax];simp [*];done)),H',⟨by have:=HJ5.out;first|omega|exact Nat.le_refl _⟩,⟨by (with_reducible repeat (first|refine au ?_ _|refine av ?_|refine ak ?_ _));exact BK234.out⟩,⟨by repeat (first|(with_reducible first|exact HB.out|apply af|apply ae|apply ag|refine ah ?_ GE234.out)|exact HB.out)⟩⟩
     ·rw [if_neg c9] at H
      have c9b0:(a0_0 == 3)=false:=beq_eq_false_iff_ne.mpr c9
      have c9b1:(a0_0 != 3)=true:=bne_iff_ne.mpr c9
      by_cases c10:(l0_4.length:Int)=0
      ·rw [if_pos c10] at H
       have c10b0:((l0_4.length:Int) == 0)=true:=beq_iff_eq.mpr c10
       have c10b1:((l0_4.length:Int) != 0)=false:=bne_eq_false_iff_eq.mpr c10
       clear c10
       replace H:=Option.bind_eq_some_iff.mp H
       obtain ⟨t235,A110,H⟩:=H
       replace H:(some t235)=some r:=H
       have A11:=aa.mk A110
       clear A110
       obtain rfl:=Option.some.inj H
       have hcz12_0:wc.cell? ⟨gb234,0,none⟩=some (.int .i64 a0_0):=(aj BK234.out 0).trans rfl
       have hcz12_1:wc.cell? ⟨gb234,1,none⟩=some (.string a0_1):=(aj BK234.out 1).trans rfl
       have hcz12_2:wc.cell? ⟨gb234,2,none⟩=some (.string a0_2):=(aj BK234.out 2).trans rfl
       have hcz12_3:wc.cell? ⟨gb234,3,none⟩=some (.slice A0_3 l0_3.length c0_3):=(aj BK234.out 3).trans rfl
       have hcz12_4:wc.cell? ⟨gb234,4,none⟩=some (.slice A0_4 l0_4.length c0_4):=(aj BK234.out 4).trans rfl
       have hfz12_0:=ai BK234.out 0
       have hfz12_1:=ai BK234.out 1
       have hfz12_2:=ai BK234.out 2
       have hfz12_3:=ai BK234.out 3
       have hfz12_4:=ai BK234.out 4
       go_wp2_with (first|(go_at_call 48;(with_reducible refine (aJ.calls kj5 a0_0 a0_1 a0_2 _ _ l0_3 _ _ l0_4 t235 _ ?side1 ?side2 ?side3 ?side4 A11.out).mono ?_);(case side1=>repeat (first|exact (Kd.bf HR0_3.out HB.out)|(with_reducible refine Kd.aN ?_ _)|(with_reducible refine Kd.aQ ?_ _)|(with_reducible refine Kd.aW ?_)));(case side2=>exact HC0_3.out);(case side3=>repeat (first|exact (Kd.bf HR0_4.out HB.out)|(with_reducible refine Kd.aN ?_ _)|(with_reducible refine Kd.aQ ?_ _)|(with_reducible refine Kd.aW ?_)));(case side4=>exact HC0_4.out);rintro e w13 ⟨rfl,hb⟩;have n0_:=aa.mk (aI (g:=gb234) (o:=.cells #[.int .i64 a0_0,.string a0_1,.string a0_2,.slice A0_3 l0_3.length c0_3,.slice A0_4 l0_4.length c0_4] 25 (0,0)) (by (with_reducible repeat (first|refine au ?_ _|refine av ?_|refine ak ?_ _));exact BK234.out) hb);have n1_:=aa.mk (aD (by repeat (first|(with_reducible first|exact HB.out|apply af|apply ae|apply ag|refine ah ?_ GE234.out)|exact HB.out)) hb);clear BK234;clear HB;have BK234:=n0_;have HB:=n1_;clear n0_ n1_;(try clear hb);(try clear hb2);(try clear hk);(try clear hi)))
       go_ret
       exact ⟨by first|rfl|(simp [aM,aK] <;> rfl)|(simp [*,aM,aK] <;> rfl),by repeat (first|(with_reducible first|exact HB.out|apply af|apply ae|apply ag|refine ah ?_ GE234.out)|exact HB.out)⟩
      ·rw [if_neg c10] at H
       have c10b0:((l0_4.length:Int) == 0)=false:=beq_eq_false_iff_ne.mpr c10
       have c10b1:((l0_4.length:Int) != 0)=true:=bne_iff_ne.mpr c10
       have c10b2:¬ (l0_4=[]):=fun h_=>c10 (by rw [h_];rfl)
       obtain rfl:=Option.some.inj H
       have hcz14_0:wc.cell? ⟨gb234,0,none⟩=some (.int .i64 a0_0):=(aj BK234.out 0).trans rfl
       have hcz14_1:wc.cell? ⟨gb234,1,none⟩=some (.string a0_1):=(aj BK234.out 1).trans rfl
       have hcz14_2:wc.cell? ⟨gb234,2,none⟩=some (.string a0_2):=(aj BK234.out 2).trans rfl
       have hcz14_3:wc.cell? ⟨gb234,3,none⟩=some (.slice A0_3 l0_3.length c0_3):=(aj BK234.out 3).trans rfl
       have hcz14_4:wc.cell? ⟨gb234,4,none⟩=some (.slice A0_4 l0_4.length c0_4):=(aj BK234.out 4).trans rfl
       have hfz14_0:=ai BK234.out 0
       have hfz14_1:=ai BK234.out 1
       have hfz14_2:=ai BK234.out 2
       have hfz14_3:=ai BK234.out 3
       have hfz14_4:=ai BK234.out 4
       go_wp2
       go_ret
       exact ⟨by first|rfl|(simp [aM,aK] <;> rfl)|(simp [*,aM,aK] <;> rfl),by repeat (first|(with_reducible first|exact HB.out|apply af|apply ae|apply ag|refine ah ?_ GE234.out)|exact HB.out)⟩
 case rest =>
  clear HC3
  try clear c1
  try clear p2
  try clear c3
  try clear c7
  try clear c7b0
  try clear c7b1
  try clear c8
  try clear c9
  try clear c9b0
  try clear c9b1
  try clear c10
  try clear c10b0
  try clear c10b1
  try clear c10b2
  try clear hcz12_0
  try clear hcz12_1
  try clear hcz12_2
  try clear hcz12_3
  try clear hcz12_4
  try clear hcz14_0
  try clear hcz14_1
  try clear hcz14_2
  try clear hcz14_3
  try clear hcz14_4
  try clear hcz5_0
  try clear hcz5_1
  try clear hcz5_2
  try clear hcz5_3
  try clear hcz5_4
  try clear hfz12_0
  try clear hfz12_1
  try clear hfz12_2
  try clear hfz12_3
  try clear hfz12_4
  try clear hfz14_0
  try clear hfz14_1
  try clear hfz14_2
  try clear hfz14_3
  try clear hfz14_4
  try clear hfz5_0
  try clear hfz5_1
  try clear hfz5_2
  try clear hfz5_3
  try clear hfz5_4
  try clear p2
  obtain ⟨kq,x5_2,rfl,HA,HJ2,BK234,HB⟩:=hcut
  cases kq with
  | zero=>exact absurd HA.out (by simp [aX.j1])
  | succ kj2 =>
   have H:=HA.out
   clear HA
   simp only [aX.j1] at H
   have HC15:=aa.mk H
   clear H
   go_upto_region 9 with (fail)
   go_cut [63] (fun v63 wc=>∃ (kq:Nat) (x63_14:Bool),v63=.bool x63_14∧aa (aX.j2 kq a1 x63_14 a0_0 a0_1 a0_2 l0_3 l0_4=some r)∧aa (kq≤kj2)∧aa (wc.heap[gb234]?=some (.cells #[.int .i64 a0_0,.string a0_1,.string a0_2,(.slice A0_3 l0_3.length c0_3),(.slice A0_4 l0_4.length c0_4)] 25 (0,0)))∧aa (Below w.heap.size w wc))
   case first =>
    have H:=HC15.out
    clear HC15
    by_cases c16:a0_1.toList=([]:List UInt8)
    ·rw [if_pos c16] at H
     have c16b0:(a0_1.toList == ([]:List UInt8))=true:=beq_iff_eq.mpr c16
     have c16b1:(a0_1.toList != ([]:List UInt8))=false:=bne_eq_false_iff_eq.mpr c16
     clear c16
     (first|rw [c16b0]|(simp only [aT,aU];rw [c16b0])|skip)
     by_cases c17:a0_2.toList=([]:List UInt8)
     ·rw [if_pos c17] at H
      have c17b0:(a0_2.toList == ([]:List UInt8))=true:=beq_iff_eq.mpr c17
      have c17b1:(a0_2.toList != ([]:List UInt8))=false:=bne_eq_false_iff_eq.mpr c17
      clear c17
      by_cases c18:(l0_3.length:Int) > 0
      ·rw [if_pos c18] at H
       have c18b0:decide (0 < (l0_3.length:Int))=true:=decide_eq_true c18
       have c18b1:decide (0 < l0_3.length)=true:=decide_eq_true (by omega)
       clear c18
       have H':=aa.mk H
       clear H
       have hcz19_0:wc.cell? ⟨gb234,0,none⟩=some (.int .i64 a0_0):=(aj BK234.out 0).trans rfl
       have hcz19_1:wc.cell? ⟨gb234,1,none⟩=some (.string a0_1):=(aj BK234.out 1).trans rfl
       have hcz19_2:wc.cell? ⟨gb234,2,none⟩=some (.string a0_2):=(aj BK234.out 2).trans rfl
       have hcz19_3:wc.cell? ⟨gb234,3,none⟩=some (.slice A0_3 l0_3.length c0_3):=(aj BK234.out 3).trans rfl
       have hcz19_4:wc.cell? ⟨gb234,4,none⟩=some (.slice A0_4 l0_4.length c0_4):=(aj BK234.out 4).trans rfl
       have hfz19_0:=ai BK234.out 0
       have hfz19_1:=ai BK234.out 1
       have hfz19_2:=ai BK234.out 2
       have hfz19_3:=ai BK234.out 3
       have hfz19_4:=ai BK234.out 4
       go_wp2
       go_meet
       case rel=>exact ⟨_,(true),(by first|rfl|(simp;done)|(simp [*];done)|(simp [*,aT,aU,bU];done)|(simp only [ay,ax];done)|(simp only [ay,ax];simp;done)|(simp only [ay,ax];simp [*];done)),H',⟨by have:=HJ2.out;first|omega|exact Nat.le_refl _⟩,⟨by (with_reducible repeat (first|refine au ?_ _|refine av ?_|refine ak ?_ _));exact BK234.out⟩,⟨by repeat (first|(with_reducible first|exact HB.out|apply af|apply ae|apply ag|refine ah ?_ GE234.out)|exact HB.out)⟩⟩
      ·rw [if_neg c18] at H
       have c18b0:decide (0 < (l0_3.length:Int))=false:=decide_eq_false c18
       have c18b1:decide (0 < l0_3.length)=false:=decide_eq_false (by omega)
       clear c18
       by_cases c20:(l0_4.length:Int) > x5_2
       ·rw [if_pos c20] at H
        have c20b0:decide (x5_2 < (l0_4.length:Int))=true:=decide_eq_true c20
        clear c20
        have H':=aa.mk H
        clear H
        have hcz21_0:wc.cell? ⟨gb234,0,none⟩=some (.int .i64 a0_0):=(aj BK234.out 0).trans rfl
        have hcz21_1:wc.cell? ⟨gb234,1,none⟩=some (.string a0_1):=(aj BK234.out 1).trans rfl
        have hcz21_2:wc.cell? ⟨gb234,2,none⟩=some (.string a0_2):=(aj BK234.out 2).trans rfl
        have hcz21_3:wc.cell? ⟨gb234,3,none⟩=some (.slice A0_3 l0_3.length c0_3):=(aj BK234.out 3).trans rfl
        have hcz21_4:wc.cell? ⟨gb234,4,none⟩=some (.slice A0_4 l0_4.length c0_4):=(aj BK234.out 4).trans rfl
        have hfz21_0:=ai BK234.out 0
        have hfz21_1:=ai BK234.out 1
        have hfz21_2:=ai BK234.out 2
        have hfz21_3:=ai BK234.out 3
        have hfz21_4:=ai BK234.out 4
        go_wp2
        go_meet
        case rel=>exact ⟨_,(true),(by first|rfl|(simp;done)|(simp [*];done)|(simp [*,aT,aU,bU];done)|(simp only [ay,ax];done)|(simp only [ay,ax];simp;done)|(simp only [ay,ax];simp [*];done)),H',⟨by have:=HJ2.out;first|omega|exact Nat.le_refl _⟩,⟨by (with_reducible repeat (first|refine au ?_ _|refine av ?_|refine ak ?_ _));exact BK234.out⟩,⟨by repeat (first|(with_reducible first|exact HB.out|apply af|apply ae|apply ag|refine ah ?_ GE234.out)|exact HB.out)⟩⟩
       ·rw [if_neg c20] at H
        have c20b0:decide (x5_2 < (l0_4.length:Int))=false:=decide_eq_false c20
        clear c20
        by_cases c22:a0_0=3
        ·rw [if_pos c22] at H
         have c22b0:(a0_0 == 3)=true:=beq_iff_eq.mpr c22
         have c22b1:(a0_0 != 3)=false:=bne_eq_false_iff_eq.mpr c22
         clear c22
         by_cases c23:(l0_4.length:Int)=1
         ·rw [if_pos c23] at H
          have c23b0:((l0_4.length:Int) == 1)=true:=beq_iff_eq.mpr c23
          have c23b1:((l0_4.length:Int) != 1)=false:=bne_eq_false_iff_eq.mpr c23
          clear c23
          by_cases c24:(l0_4.length:Int) > 0
          ·rw [if_pos c24] at H
           have c24b0:decide (0 < (l0_4.length:Int))=true:=decide_eq_true c24
           have c24b1:decide (0 < l0_4.length)=true:=decide_eq_true (by omega)
           clear c24
           have H':=aa.mk H
           clear H
           have hcz25_0:wc.cell? ⟨gb234,0,none⟩=some (.int .i64 a0_0):=(aj BK234.out 0).trans rfl
           have hcz25_1:wc.cell? ⟨gb234,1,none⟩=some (.string a0_1):=(aj BK234.out 1).trans rfl
           have hcz25_2:wc.cell? ⟨gb234,2,none⟩=some (.string a0_2):=(aj BK234.out 2).trans rfl
           have hcz25_3:wc.cell? ⟨gb234,3,none⟩=some (.slice A0_3 l0_3.length c0_3):=(aj BK234.out 3).trans rfl
           have hcz25_4:wc.cell? ⟨gb234,4,none⟩=some (.slice A0_4 l0_4.length c0_4):=(aj BK234.out 4).trans rfl
           have hfz25_0:=ai BK234.out 0
           have hfz25_1:=ai BK234.out 1
           have hfz25_2:=ai BK234.out 2
           have hfz25_3:=ai BK234.out 3
           have hfz25_4:=ai BK234.out 4
           go_wp2
           go_meet
           case rel=>exact ⟨_,(decide (a1 < 1)),(by first|rfl|(simp;done)|(simp [*];done)|(simp [*,aT,aU,bU];done)|(simp only [ay,ax];done)|(simp only [ay,ax];simp;done)|(simp only [ay,ax];simp [*];done)),H',⟨by have:=HJ2.out;first|omega|exact Nat.le_refl _⟩,⟨by (with_reducible repeat (first|refine au ?_ _|refine av ?_|refine ak ?_ _));exact BK234.out⟩,⟨by repeat (first|(with_reducible first|exact HB.out|apply af|apply ae|apply ag|refine ah ?_ GE234.out)|exact HB.out)⟩⟩
          ·rw [if_neg c24] at H
           have c24b0:decide (0 < (l0_4.length:Int))=false:=decide_eq_false c24
           have c24b1:decide (0 < l0_4.length)=false:=decide_eq_false (by omega)
           clear c24
           have H':=aa.mk H
           clear H
           have hcz26_0:wc.cell? ⟨gb234,0,none⟩=some (.int .i64 a0_0):=(aj BK234.out 0).trans rfl
           have hcz26_1:wc.cell? ⟨gb234,1,none⟩=some (.string a0_1):=(aj BK234.out 1).trans rfl
           have hcz26_2:wc.cell? ⟨gb234,2,none⟩=some (.string a0_2):=(aj BK234.out 2).trans rfl
           have hcz26_3:wc.cell? ⟨gb234,3,none⟩=some (.slice A0_3 l0_3.length c0_3):=(aj BK234.out 3).trans rfl
           have hcz26_4:wc.cell? ⟨gb234,4,none⟩=some (.slice A0_4 l0_4.length c0_4):=(aj BK234.out 4).trans rfl
           have hfz26_0:=ai BK234.out 0
           have hfz26_1:=ai BK234.out 1
           have hfz26_2:=ai BK234.out 2
           have hfz26_3:=ai BK234.out 3
           have hfz26_4:=ai BK234.out 4
           go_wp2
           go_meet
           case rel=>exact ⟨_,(false),(by first|rfl|(simp;done)|(simp [*];done)|(simp [*,aT,aU,bU];done)|(simp only [ay,ax];done)|(simp only [ay,ax];simp;done)|(simp only [ay,ax];simp [*];done)),H',⟨by have:=HJ2.out;first|omega|exact Nat.le_refl _⟩,⟨by (with_reducible repeat (first|refine au ?_ _|refine av ?_|refine ak ?_ _));exact BK234.out⟩,⟨by repeat (first|(with_reducible first|exact HB.out|apply af|apply ae|apply ag|refine ah ?_ GE234.out)|exact HB.out)⟩⟩
         ·rw [if_neg c23] at H
          have c23b0:((l0_4.length:Int) == 1)=false:=beq_eq_false_iff_ne.mpr c23
          have c23b1:((l0_4.length:Int) != 1)=true:=bne_iff_ne.mpr c23
          have H':=aa.mk H
          clear H
          have hcz27_0:wc.cell? ⟨gb234,0,none⟩=some (.int .i64 a0_0):=(aj BK234.out 0).trans rfl
          have hcz27_1:wc.cell? ⟨gb234,1,none⟩=some (.string a0_1):=(aj BK234.out 1).trans rfl
          have hcz27_2:wc.cell? ⟨gb234,2,none⟩=some (.string a0_2):=(aj BK234.out 2).trans rfl
          have hcz27_3:wc.cell? ⟨gb234,3,none⟩=some (.slice A0_3 l0_3.length c0_3):=(aj BK234.out 3).trans rfl
          have hcz27_4:wc.cell? ⟨gb234,4,none⟩=some (.slice A0_4 l0_4.length c0_4):=(aj BK234.out 4).trans rfl
          have hfz27_0:=ai BK234.out 0
          have hfz27_1:=ai BK234.out 1
          have hfz27_2:=ai BK234.out 2
          have hfz27_3:=ai BK234.out 3
          have hfz27_4:=ai BK234.out 4
          go_wp2
          go_meet
          case rel=>exact ⟨_,(true),(by first|rfl|(simp;done)|(simp [*];done)|(simp [*,aT,aU,bU];done)|(simp only [ay,ax];done)|(simp only [ay,ax];simp;done)|(simp only [ay,ax];simp [*];done)),H',⟨by have:=HJ2.out;first|omega|exact Nat.le_refl _⟩,⟨by (with_reducible repeat (first|refine au ?_ _|refine av ?_|refine ak ?_ _));exact BK234.out⟩,⟨by repeat (first|(with_reducible first|exact HB.out|apply af|apply ae|apply ag|refine ah ?_ GE234.out)|exact HB.out)⟩⟩
        ·rw [if_neg c22] at H
         have c22b0:(a0_0 == 3)=false:=beq_eq_false_iff_ne.mpr c22
         have c22b1:(a0_0 != 3)=true:=bne_iff_ne.mpr c22
         by_cases c28:(l0_4.length:Int) > 0
         ·rw [if_pos c28] at H
          have c28b0:decide (0 < (l0_4.length:Int))=true:=decide_eq_true c28
          have c28b1:decide (0 < l0_4.length)=true:=decide_eq_true (by omega)
          clear c28
          have H':=aa.mk H
          clear H
          have hcz29_0:wc.cell? ⟨gb234,0,none⟩=some (.int .i64 a0_0):=(aj BK234.out 0).trans rfl
          have hcz29_1:wc.cell? ⟨gb234,1,none⟩=some (.string a0_1):=(aj BK234.out 1).trans rfl
          have hcz29_2:wc.cell? ⟨gb234,2,none⟩=some (.string a0_2):=(aj BK234.out 2).trans rfl
          have hcz29_3:wc.cell? ⟨gb234,3,none⟩=some (.slice A0_3 l0_3.length c0_3):=(aj BK234.out 3).trans rfl
          have hcz29_4:wc.cell? ⟨gb234,4,none⟩=some (.slice A0_4 l0_4.length c0_4):=(aj BK234.out 4).trans rfl
          have hfz29_0:=ai BK234.out 0
          have hfz29_1:=ai BK234.out 1
          have hfz29_2:=ai BK234.out 2
          have hfz29_3:=ai BK234.out 3
          have hfz29_4:=ai BK234.out 4
          go_wp2
          go_meet
          case rel=>exact ⟨_,(decide (a1 < 1)),(by first|rfl|(simp;done)|(simp [*];done)|(simp [*,aT,aU,bU];done)|(simp only [ay,ax];done)|(simp only [ay,ax];simp;done)|(simp only [ay,ax];simp [*];done)),H',⟨by have:=HJ2.out;first|omega|exact Nat.le_refl _⟩,⟨by (with_reducible repeat (first|refine au ?_ _|refine av ?_|refine ak ?_ _));exact BK234.out⟩,⟨by repeat (first|(with_reducible first|exact HB.out|apply af|apply ae|apply ag|refine ah ?_ GE234.out)|exact HB.out)⟩⟩
         ·rw [if_neg c28] at H
          have c28b0:decide (0 < (l0_4.length:Int))=false:=decide_eq_false c28
          have c28b1:decide (0 < l0_4.length)=false:=decide_eq_false (by omega)
          clear c28
          have H':=aa.mk H
          clear H
          have hcz30_0:wc.cell? ⟨gb234,0,none⟩=some (.int .i64 a0_0):=(aj BK234.out 0).trans rfl
          have hcz30_1:wc.cell? ⟨gb234,1,none⟩=some (.string a0_1):=(aj BK234.out 1).trans rfl
          have hcz30_2:wc.cell? ⟨gb234,2,none⟩=some (.string a0_2):=(aj BK234.out 2).trans rfl
          have hcz30_3:wc.cell? ⟨gb234,3,none⟩=some (.slice A0_3 l0_3.length c0_3):=(aj BK234.out 3).trans rfl
          have hcz30_4:wc.cell? ⟨gb234,4,none⟩=some (.slice A0_4 l0_4.length c0_4):=(aj BK234.out 4).trans rfl
          have hfz30_0:=ai BK234.out 0
          have hfz30_1:=ai BK234.out 1
          have hfz30_2:=ai BK234.out 2
          have hfz30_3:=ai BK234.out 3
          have hfz30_4:=ai BK234.out 4
          go_wp2
          go_meet
          case rel=>exact ⟨_,(false),(by first|rfl|(simp;done)|(simp [*];done)|(simp [*,aT,aU,bU];done)|(simp only [ay,ax];done)|(simp only [ay,ax];simp;done)|(simp only [ay,ax];simp [*];done)),H',⟨by have:=HJ2.out;first|omega|exact Nat.le_refl _⟩,⟨by (with_reducible repeat (first|refine au ?_ _|refine av ?_|refine ak ?_ _));exact BK234.out⟩,⟨by repeat (first|(with_reducible first|exact HB.out|apply af|apply ae|apply ag|refine ah ?_ GE234.out)|exact HB.out)⟩⟩
     ·rw [if_neg c17] at H
      have c17b0:(a0_2.toList == ([]:List UInt8))=false:=beq_eq_false_iff_ne.mpr c17
      have c17b1:(a0_2.toList != ([]:List UInt8))=true:=bne_iff_ne.mpr c17
      have H':=aa.mk H
      clear H
      have hcz31_0:wc.cell? ⟨gb234,0,none⟩=some (.int .i64 a0_0):=(aj BK234.out 0).trans rfl
      have hcz31_1:wc.cell? ⟨gb234,1,none⟩=some (.string a0_1):=(aj BK234.out 1).trans rfl
      have hcz31_2:wc.cell? ⟨gb234,2,none⟩=some (.string a0_2):=(aj BK234.out 2).trans rfl
      have hcz31_3:wc.cell? ⟨gb234,3,none⟩=some (.slice A0_3 l0_3.length c0_3):=(aj BK234.out 3).trans rfl
      have hcz31_4:wc.cell? ⟨gb234,4,none⟩=some (.slice A0_4 l0_4.length c0_4):=(aj BK234.out 4).trans rfl
      have hfz31_0:=ai BK234.out 0
      have hfz31_1:=ai BK234.out 1
      have hfz31_2:=ai BK234.out 2
      have hfz31_3:=ai BK234.out 3
      have hfz31_4:=ai BK234.out 4
      go_wp2
      go_meet
      case rel=>exact ⟨_,(true),(by first|rfl|(simp;done)|(simp [*];done)|(simp [*,aT,aU,bU];done)|(simp only [ay,ax];done)|(simp only [ay,ax];simp;done)|(simp only [ay,ax];simp [*];done)),H',⟨by have:=HJ2.out;first|omega|exact Nat.le_refl _⟩,⟨by (with_reducible repeat (first|refine au ?_ _|refine av ?_|refine ak ?_ _));exact BK234.out⟩,⟨by repeat (first|(with_reducible first|exact HB.out|apply af|apply ae|apply ag|refine ah ?_ GE234.out)|exact HB.out)⟩⟩
    ·rw [if_neg c16] at H
     have c16b0:(a0_1.toList == ([]:List UInt8))=false:=beq_eq_false_iff_ne.mpr c16
     have c16b1:(a0_1.toList != ([]:List UInt8))=true:=bne_iff_ne.mpr c16
     (first|rw [c16b0]|(simp only [aT,aU];rw [c16b0])|skip)
     have H':=aa.mk H
     clear H
     have hcz32_0:wc.cell? ⟨gb234,0,none⟩=some (.int .i64 a0_0):=(aj BK234.out 0).trans rfl
     have hcz32_1:wc.cell? ⟨gb234,1,none⟩=some (.string a0_1):=(aj BK234.out 1).trans rfl
     have hcz32_2:wc.cell? ⟨gb234,2,none⟩=some (.string a0_2):=(aj BK234.out 2).trans rfl
     have hcz32_3:wc.cell? ⟨gb234,3,none⟩=some (.slice A0_3 l0_3.length c0_3):=(aj BK234.out 3).trans rfl
     have hcz32_4:wc.cell? ⟨gb234,4,none⟩=some (.slice A0_4 l0_4.length c0_4):=(aj BK234.out 4).trans rfl
     have hfz32_0:=ai BK234.out 0
     have hfz32_1:=ai BK234.out 1
     have hfz32_2:=ai BK234.out 2
     have hfz32_3:=ai BK234.out 3
     have hfz32_4:=ai BK234.out 4
     go_wp2
     go_meet
     case rel=>exact ⟨_,(true),(by first|rfl|(simp;done)|(simp [*];done)|(simp [*,aT,aU,bU];done)|(simp only [ay,ax];done)|(simp only [ay,ax];simp;done)|(simp only [ay,ax];simp [*];done)),H',⟨by have:=HJ2.out;first|omega|exact Nat.le_refl _⟩,⟨by (with_reducible repeat (first|refine au ?_ _|refine av ?_|refine ak ?_ _));exact BK234.out⟩,⟨by repeat (first|(with_reducible first|exact HB.out|apply af|apply ae|apply ag|refine ah ?_ GE234.out)|exact HB.out)⟩⟩
   case rest =>
    clear HC15
    try clear c1
    try clear c2
    try clear p2
    try clear c3
    try clear c7
    try clear c7b0
    try clear c7b1
    try clear c8
    try clear c9
    try clear c9b0
    try clear c9b1
    try clear c10
    try clear c10b0
    try clear c10b1
    try clear c10b2
    try clear c16
    try clear c16b0
    try clear c16b1
    try clear c17
    try clear c17b0
    try clear c17b1
    try clear c18
    try clear c18b0
    try clear c18b1
    try clear c20
    try clear c20b0
    try clear c22
    try clear c22b0
    try clear c22b1
    try clear c23
    try clear c23b0
    try clear c23b1
    try clear c24
    try clear c24b0
    try clear c24b1
    try clear c28
    try clear c28b0
    try clear c28b1
    try clear c30
    try clear hcz12_0
    try clear hcz12_1
    try clear hcz12_2
    try clear hcz12_3
    try clear hcz12_4
    try clear hcz14_0
    try clear hcz14_1
    try clear hcz14_2
    try clear hcz14_3
    try clear hcz14_4
    try clear hcz19_0
    try clear hcz19_1
    try clear hcz19_2
    try clear hcz19_3
    try clear hcz19_4
    try clear hcz21_0
    try clear hcz21_1
    try clear hcz21_2
    try clear hcz21_3
    try clear hcz21_4
    try clear hcz25_0
    try clear hcz25_1
    try clear hcz25_2
    try clear hcz25_3
    try clear hcz25_4
    try clear hcz26_0
    try clear hcz26_1
    try clear hcz26_2
    try clear hcz26_3
    try clear hcz26_4
    try clear hcz27_0
    try clear hcz27_1
    try clear hcz27_2
    try clear hcz27_3
    try clear hcz27_4
    try clear hcz29_0
    try clear hcz29_1
    try clear hcz29_2
    try clear hcz29_3
    try clear hcz29_4
    try clear hcz30_0
    try clear hcz30_1
    try clear hcz30_2
    try clear hcz30_3
    try clear hcz30_4
    try clear hcz31_0
    try clear hcz31_1
    try clear hcz31_2
    try clear hcz31_3
    try clear hcz31_4
    try clear hcz32_0
    try clear hcz32_1
    try clear hcz32_2
    try clear hcz32_3
    try clear hcz32_4
    try clear hcz5_0
    try clear hcz5_1
    try clear hcz5_2
    try clear hcz5_3
    try clear hcz5_4
    try clear hfz12_0
    try clear hfz12_1
    try clear hfz12_2
    try clear hfz12_3
    try clear hfz12_4
    try clear hfz14_0
    try clear hfz14_1
    try clear hfz14_2
    try clear hfz14_3
    try clear hfz14_4
    try clear hfz19_0
    try clear hfz19_1
    try clear hfz19_2
    try clear hfz19_3
    try clear hfz19_4
    try clear hfz21_0
    try clear hfz21_1
    try clear hfz21_2
    try clear hfz21_3
    try clear hfz21_4
    try clear hfz25_0
    try clear hfz25_1
    try clear hfz25_2
    try clear hfz25_3
    try clear hfz25_4
    try clear hfz26_0
    try clear hfz26_1
    try clear hfz26_2
    try clear hfz26_3
    try clear hfz26_4
    try clear hfz27_0
    try clear hfz27_1
    try clear hfz27_2
    try clear hfz27_3
    try clear hfz27_4
    try clear hfz29_0
    try clear hfz29_1
    try clear hfz29_2
    try clear hfz29_3
    try clear hfz29_4
    try clear hfz30_0
    try clear hfz30_1
    try clear hfz30_2
    try clear hfz30_3
    try clear hfz30_4
    try clear hfz31_0
    try clear hfz31_1
    try clear hfz31_2
    try clear hfz31_3
    try clear hfz31_4
    try clear hfz32_0
    try clear hfz32_1
    try clear hfz32_2
    try clear hfz32_3
    try clear hfz32_4
    try clear hfz5_0
    try clear hfz5_1
    try clear hfz5_2
    try clear hfz5_3
    try clear hfz5_4
    try clear p2
    obtain ⟨kq,x63_14,rfl,HA,HJ14,BK234,HB⟩:=hcut
    cases kq with
    | zero=>exact absurd HA.out (by simp [aX.j2])
    | succ kj14 =>
     have H:=HA.out
     clear HA
     simp only [aX.j2] at H
     by_cases c33:x63_14=true
     ·subst c33
      have H1:(some false)=some r:=by rw [if_pos rfl] at H;exact H
      clear H
      have H:=H1
      clear H1
      obtain rfl:=Option.some.inj H
      go_wp2
      go_ret
      exact ⟨by first|rfl|(simp [aM,aK] <;> rfl)|(simp [*,aM,aK] <;> rfl),by repeat (first|(with_reducible first|exact HB.out|apply af|apply ae|apply ag|refine ah ?_ GE234.out)|exact HB.out)⟩
     ·replace c33:=Bool.eq_false_iff.mpr c33
      subst c33
      have H1:(aX.l0 kj14 a1 0 a0_0 a0_1 a0_2 l0_3 l0_4)=some r:=by rw [if_neg (show ¬ (false=true) by decide)] at H;exact H
      clear H
      have H:=H1
      clear H1
      have H':=aa.mk H
      clear H
      go_wp2
      go_loopg [6] kj14 (fun kq v6 w'=>∃ (x6_3:Int),v6=.int .i64 x6_3∧aa (aX.l0 kq a1 x6_3 a0_0 a0_1 a0_2 l0_3 l0_4=some r)∧aa (kq≤kj14)∧aa (w'.heap[gb234]?=some (.cells #[.int .i64 a0_0,.string a0_1,.string a0_2,(.slice A0_3 l0_3.length c0_3),(.slice A0_4 l0_4.length c0_4)] 25 (0,0)))∧aa (Below w.heap.size w w'))
      case atStart=>exact ⟨(0),(by first|rfl|(simp;done)|(simp [*];done)|(simp [*,aT,aU,bU];done)|(simp only [ay,ax];done)|(simp only [ay,ax];simp;done)|(simp only [ay,ax];simp [*];done)),H',⟨Nat.le_refl _⟩,⟨by (with_reducible repeat (first|refine au ?_ _|refine av ?_|refine ak ?_ _));exact BK234.out⟩,⟨by repeat (first|(with_reducible first|exact HB.out|apply af|apply ae|apply ag|refine ah ?_ GE234.out)|exact HB.out)⟩⟩
      case round =>
       clear H'
       try clear c1
       try clear c2
       try clear p2
       try clear c3
       try clear c7
       try clear c7b0
       try clear c7b1
       try clear c8
       try clear c9
       try clear c9b0
       try clear c9b1
       try clear c10
       try clear c10b0
       try clear c10b1
       try clear c10b2
       try clear c16
       try clear c16b0
       try clear c16b1
       try clear c17
       try clear c17b0
       try clear c17b1
       try clear c18
       try clear c18b0
       try clear c18b1
       try clear c20
       try clear c20b0
       try clear c22
       try clear c22b0
       try clear c22b1
       try clear c23
       try clear c23b0
       try clear c23b1
       try clear c24
       try clear c24b0
       try clear c24b1
       try clear c28
       try clear c28b0
       try clear c28b1
       try clear c30
       try clear c33
       try clear hcz12_0
       try clear hcz12_1
       try clear hcz12_2
       try clear hcz12_3
       try clear hcz12_4
       try clear hcz14_0
       try clear hcz14_1
       try clear hcz14_2
       try clear hcz14_3
       try clear hcz14_4
       try clear hcz19_0
       try clear hcz19_1
       try clear hcz19_2
       try clear hcz19_3
       try clear hcz19_4
       try clear hcz21_0
       try clear hcz21_1
       try clear hcz21_2
       try clear hcz21_3
       try clear hcz21_4
       try clear hcz25_0
       try clear hcz25_1
       try clear hcz25_2
       try clear hcz25_3
       try clear hcz25_4
       try clear hcz26_0
       try clear hcz26_1
       try clear hcz26_2
       try clear hcz26_3
       try clear hcz26_4
       try clear hcz27_0
       try clear hcz27_1
       try clear hcz27_2
       try clear hcz27_3
       try clear hcz27_4
       try clear hcz29_0
       try clear hcz29_1
       try clear hcz29_2
       try clear hcz29_3
       try clear hcz29_4
       try clear hcz30_0
       try clear hcz30_1
       try clear hcz30_2
       try clear hcz30_3
       try clear hcz30_4
       try clear hcz31_0
       try clear hcz31_1
       try clear hcz31_2
       try clear hcz31_3
       try clear hcz31_4
       try clear hcz32_0
       try clear hcz32_1
       try clear hcz32_2
       try clear hcz32_3
       try clear hcz32_4
       try clear hcz5_0
       try clear hcz5_1
       try clear hcz5_2
       try clear hcz5_3
       try clear hcz5_4
       try clear hfz12_0
       try clear hfz12_1
       try clear hfz12_2
       try clear hfz12_3
       try clear hfz12_4
       try clear hfz14_0
       try clear hfz14_1
       try clear hfz14_2
       try clear hfz14_3
       try clear hfz14_4
       try clear hfz19_0
       try clear hfz19_1
       try clear hfz19_2
       try clear hfz19_3
       try clear hfz19_4
       try clear hfz21_0
       try clear hfz21_1
       try clear hfz21_2
       try clear hfz21_3
       try clear hfz21_4
       try clear hfz25_0
       try clear hfz25_1
       try clear hfz25_2
       try clear hfz25_3
       try clear hfz25_4
       try clear hfz26_0
       try clear hfz26_1
       try clear hfz26_2
       try clear hfz26_3
       try clear hfz26_4
       try clear hfz27_0
       try clear hfz27_1
       try clear hfz27_2
       try clear hfz27_3
       try clear hfz27_4
       try clear hfz29_0
       try clear hfz29_1
       try clear hfz29_2
       try clear hfz29_3
       try clear hfz29_4
       try clear hfz30_0
       try clear hfz30_1
       try clear hfz30_2
       try clear hfz30_3
       try clear hfz30_4
       try clear hfz31_0
       try clear hfz31_1
       try clear hfz31_2
       try clear hfz31_3
       try clear hfz31_4
       try clear hfz32_0
       try clear hfz32_1
       try clear hfz32_2
       try clear hfz32_3
       try clear hfz32_4
       try clear hfz5_0
       try clear hfz5_1
       try clear hfz5_2
       try clear hfz5_3
       try clear hfz5_4
       try clear p2
       obtain ⟨x6_3,rfl,HA,HK3,BK234,HB⟩:=hrel
       cases gk with
       | zero=>exact absurd HA.out (by simp [aX.l0])
       | succ k3 =>
        have H:=HA.out
        clear HA
        simp only [aX.l0] at H
        by_cases c34:x6_3 < (l0_4.length:Int)
        ·rw [if_pos c34] at H
         have c34b0:decide (x6_3 < (l0_4.length:Int))=true:=decide_eq_true c34
         clear c34
         by_cases c35:0≤x6_3
         ·rw [if_pos c35] at H
          have c35b0:decide (0≤x6_3)=true:=decide_eq_true c35
          clear c35
          replace H:=Option.bind_eq_some_iff.mp H
          obtain ⟨t237,A360,H⟩:=H
          replace H:(if t237=true then (aX.l0 k3 a1 (wrap64 (x6_3+1)) a0_0 a0_1 a0_2 l0_3 l0_4) else (some false))=some r:=H
          have A36:=aa.mk A360
          clear A360
          by_cases c37:t237=true
          ·subst c37
           have H1:(aX.l0 k3 a1 (wrap64 (x6_3+1)) a0_0 a0_1 a0_2 l0_3 l0_4)=some r:=by rw [if_pos rfl] at H;exact H
           clear H
           have H:=H1
           clear H1
           have H':=aa.mk H
           clear H
           have hcz38_0:wr.cell? ⟨gb234,0,none⟩=some (.int .i64 a0_0):=(aj BK234.out 0).trans rfl
           have hcz38_1:wr.cell? ⟨gb234,1,none⟩=some (.string a0_1):=(aj BK234.out 1).trans rfl
           have hcz38_2:wr.cell? ⟨gb234,2,none⟩=some (.string a0_2):=(aj BK234.out 2).trans rfl
           have hcz38_3:wr.cell? ⟨gb234,3,none⟩=some (.slice A0_3 l0_3.length c0_3):=(aj BK234.out 3).trans rfl
           have hcz38_4:wr.cell? ⟨gb234,4,none⟩=some (.slice A0_4 l0_4.length c0_4):=(aj BK234.out 4).trans rfl
           have hfz38_0:=ai BK234.out 0
           have hfz38_1:=ai BK234.out 1
           have hfz38_2:=ai BK234.out 2
           have hfz38_3:=ai BK234.out 3
           have hfz38_4:=ai BK234.out 4
           have p236:0≤(x6_3:Int):=of_decide_eq_true (by first|(with_reducible assumption)|assumption)
           have q236:x6_3 < (l0_4.length:Int):=of_decide_eq_true (by first|(with_reducible assumption)|assumption)
           obtain ⟨ad236,A236_3,c236_3,A236_4,c236_4,e236,hx236_0,hx236_1,hx236_2,hx236_3,hx236_4,hl236_3,hi236_3,hl236_4,hi236_4⟩:=jo HR0_4.out x6_3 p236 q236
           cases e236
           replace hx236_0:=(HB.out.cell (World.block_lt_of_cell? w _ hx236_0)).trans hx236_0
           replace hx236_1:=(HB.out.cell (World.block_lt_of_cell? w _ hx236_1)).trans hx236_1
           replace hx236_2:=(HB.out.cell (World.block_lt_of_cell? w _ hx236_2)).trans hx236_2
           replace hx236_3:=(HB.out.cell (World.block_lt_of_cell? w _ hx236_3)).trans hx236_3
           replace hx236_4:=(HB.out.cell (World.block_lt_of_cell? w _ hx236_4)).trans hx236_4
           have HR236_3:=aa.mk hi236_3
           have HC236_3:=aa.mk hl236_3
           clear hi236_3 hl236_3
           have HR236_4:=aa.mk hi236_4
           have HC236_4:=aa.mk hl236_4
           clear hi236_4 hl236_4
           replace p236:=eq_true p236
           replace q236:=eq_true q236
           go_wp2_with (first|((with_reducible refine aV (f:=30) rfl ?_);refine bJ (some 78) rfl rfl Tryz.func30 (by kernel_rfl) rfl #[.agg #[.int .i64 ((az l0_4 x6_3).f0),.string ((az l0_4 x6_3).f1),.string ((az l0_4 x6_3).f2),.slice A236_3 ((az l0_4 x6_3).f3).length c236_3,.slice A236_4 ((az l0_4 x6_3).f4).length c236_4],.int .i64 (wrap64 (a1 - 1))] rfl (by (try simp only [List.map_toArray,List.map_cons,List.map_nil]);first|done|rfl|(simp only [List.length_drop,List.length_take];rfl)) ?_;(with_reducible refine (ih k3 (by have:=HJ2.out;have:=HJ14.out;have:=HK3.out;omega) ((az l0_4 x6_3).f0) ((az l0_4 x6_3).f1) ((az l0_4 x6_3).f2) _ _ ((az l0_4 x6_3).f3) _ _ ((az l0_4 x6_3).f4) (wrap64 (a1 - 1)) true _ ?side1 ?side2 ?side3 ?side4 A36.out).mono ?_);(case side1=>repeat (first|exact (Kd.bf HR236_3.out HB.out)|(with_reducible refine Kd.aN ?_ _)|(with_reducible refine Kd.aQ ?_ _)|(with_reducible refine Kd.aW ?_)));(case side2=>exact HC236_3.out);(case side3=>repeat (first|exact (Kd.bf HR236_4.out HB.out)|(with_reducible refine Kd.aN ?_ _)|(with_reducible refine Kd.aQ ?_ _)|(with_reducible refine Kd.aW ?_)));(case side4=>exact HC236_4.out);rintro e w39 ⟨rfl,hb⟩;refine ⟨_,rfl,?_⟩;have n0_:=aa.mk (aI (g:=gb234) (o:=.cells #[.int .i64 a0_0,.string a0_1,.string a0_2,.slice A0_3 l0_3.length c0_3,.slice (some ad236) l0_4.length c0_4] 25 (0,0)) (by (with_reducible repeat (first|refine au ?_ _|refine av ?_|refine ak ?_ _));exact BK234.out) hb);have n1_:=aa.mk (aD (by repeat (first|(with_reducible first|exact HB.out|apply af|apply ae|apply ag|refine ah ?_ GE234.out)|exact HB.out)) hb);clear BK234;clear HB;have BK234:=n0_;have HB:=n1_;clear n0_ n1_;(try clear hb);(try clear hb2);(try clear hk);(try clear hi)))
           go_roundg k3
           case measure=>have:=HJ2.out;have:=HJ14.out;have:=HK3.out;omega
           case rel=>exact ⟨(wrap64 (x6_3+1)),(by first|rfl|(simp;done)|(simp [*];done)|(simp [*,aT,aU,bU];done)|(simp only [ay,ax];done)|(simp only [ay,ax];simp;done)|(simp only [ay,ax];simp [*];done)),H',⟨by have:=HJ2.out;have:=HJ14.out;have:=HK3.out;omega⟩,⟨by (with_reducible repeat (first|refine au ?_ _|refine av ?_|refine ak ?_ _));exact BK234.out⟩,⟨by repeat (first|(with_reducible first|exact HB.out|apply af|apply ae|apply ag|refine ah ?_ GE234.out)|exact HB.out)⟩⟩
          ·replace c37:=Bool.eq_false_iff.mpr c37
           subst c37
           have H1:(some false)=some r:=by rw [if_neg (show ¬ (false=true) by decide)] at H;exact H
           clear H
           have H:=H1
           clear H1
           obtain rfl:=Option.some.inj H
           have hcz40_0:wr.cell? ⟨gb234,0,none⟩=some (.int .i64 a0_0):=(aj BK234.out 0).trans rfl
           have hcz40_1:wr.cell? ⟨gb234,1,none⟩=some (.string a0_1):=(aj BK234.out 1).trans rfl
           have hcz40_2:wr.cell? ⟨gb234,2,none⟩=some (.string a0_2):=(aj BK234.out 2).trans rfl
           have hcz40_3:wr.cell? ⟨gb234,3,none⟩=some (.slice A0_3 l0_3.length c0_3):=(aj BK234.out 3).trans rfl
           have hcz40_4:wr.cell? ⟨gb234,4,none⟩=some (.slice A0_4 l0_4.length c0_4):=(aj BK234.out 4).trans rfl
           have hfz40_0:=ai BK234.out 0
           have hfz40_1:=ai BK234.out 1
           have hfz40_2:=ai BK234.out 2
           have hfz40_3:=ai BK234.out 3
           have hfz40_4:=ai BK234.out 4
           have p236:0≤(x6_3:Int):=of_decide_eq_true (by first|(with_reducible assumption)|assumption)
           have q236:x6_3 < (l0_4.length:Int):=of_decide_eq_true (by first|(with_reducible assumption)|assumption)
           obtain ⟨ad236,A236_3,c236_3,A236_4,c236_4,e236,hx236_0,hx236_1,hx236_2,hx236_3,hx236_4,hl236_3,hi236_3,hl236_4,hi236_4⟩:=jo HR0_4.out x6_3 p236 q236
           cases e236
           replace hx236_0:=(HB.out.cell (World.block_lt_of_cell? w _ hx236_0)).trans hx236_0
           replace hx236_1:=(HB.out.cell (World.block_lt_of_cell? w _ hx236_1)).trans hx236_1
           replace hx236_2:=(HB.out.cell (World.block_lt_of_cell? w _ hx236_2)).trans hx236_2
           replace hx236_3:=(HB.out.cell (World.block_lt_of_cell? w _ hx236_3)).trans hx236_3
           replace hx236_4:=(HB.out.cell (World.block_lt_of_cell? w _ hx236_4)).trans hx236_4
           have HR236_3:=aa.mk hi236_3
           have HC236_3:=aa.mk hl236_3
           clear hi236_3 hl236_3
           have HR236_4:=aa.mk hi236_4
           have HC236_4:=aa.mk hl236_4
           clear hi236_4 hl236_4
           replace p236:=eq_true p236
           replace q236:=eq_true q236
           go_wp2_with (first|((with_reducible refine aV (f:=30) rfl ?_);refine bJ (some 78) rfl rfl Tryz.func30 (by kernel_rfl) rfl #[.agg #[.int .i64 ((az l0_4 x6_3).f0),.string ((az l0_4 x6_3).f1),.string ((az l0_4 x6_3).f2),.slice A236_3 ((az l0_4 x6_3).f3).length c236_3,.slice A236_4 ((az l0_4 x6_3).f4).length c236_4],.int .i64 (wrap64 (a1 - 1))] rfl (by (try simp only [List.map_toArray,List.map_cons,List.map_nil]);first|done|rfl|(simp only [List.length_drop,List.length_take];rfl)) ?_;(with_reducible refine (ih k3 (by have:=HJ2.out;have:=HJ14.out;have:=HK3.out;omega) ((az l0_4 x6_3).f0) ((az l0_4 x6_3).f1) ((az l0_4 x6_3).f2) _ _ ((az l0_4 x6_3).f3) _ _ ((az l0_4 x6_3).f4) (wrap64 (a1 - 1)) false _ ?side1 ?side2 ?side3 ?side4 A36.out).mono ?_);(case side1=>repeat (first|exact (Kd.bf HR236_3.out HB.out)|(with_reducible refine Kd.aN ?_ _)|(with_reducible refine Kd.aQ ?_ _)|(with_reducible refine Kd.aW ?_)));(case side2=>exact HC236_3.out);(case side3=>repeat (first|exact (Kd.bf HR236_4.out HB.out)|(with_reducible refine Kd.aN ?_ _)|(with_reducible refine Kd.aQ ?_ _)|(with_reducible refine Kd.aW ?_)));(case side4=>exact HC236_4.out);rintro e w41 ⟨rfl,hb⟩;refine ⟨_,rfl,?_⟩;have n0_:=aa.mk (aI (g:=gb234) (o:=.cells #[.int .i64 a0_0,.string a0_1,.string a0_2,.slice A0_3 l0_3.length c0_3,.slice (some ad236) l0_4.length c0_4] 25 (0,0)) (by (with_reducible repeat (first|refine au ?_ _|refine av ?_|refine ak ?_ _));exact BK234.out) hb);have n1_:=aa.mk (aD (by repeat (first|(with_reducible first|exact HB.out|apply af|apply ae|apply ag|refine ah ?_ GE234.out)|exact HB.out)) hb);clear BK234;clear HB;have BK234:=n0_;have HB:=n1_;clear n0_ n1_;(try clear hb);(try clear hb2);(try clear hk);(try clear hi)))
           go_ret
           exact ⟨by first|rfl|(simp [aM,aK] <;> rfl)|(simp [*,aM,aK] <;> rfl),by repeat (first|(with_reducible first|exact HB.out|apply af|apply ae|apply ag|refine ah ?_ GE234.out)|exact HB.out)⟩
         ·rw [if_neg c35] at H
          exact absurd H (by simp)
        ·rw [if_neg c34] at H
         have c34b0:decide (x6_3 < (l0_4.length:Int))=false:=decide_eq_false c34
         clear c34
         obtain rfl:=Option.some.inj H
         have hcz42_0:wr.cell? ⟨gb234,0,none⟩=some (.int .i64 a0_0):=(aj BK234.out 0).trans rfl
         have hcz42_1:wr.cell? ⟨gb234,1,none⟩=some (.string a0_1):=(aj BK234.out 1).trans rfl
         have hcz42_2:wr.cell? ⟨gb234,2,none⟩=some (.string a0_2):=(aj BK234.out 2).trans rfl
         have hcz42_3:wr.cell? ⟨gb234,3,none⟩=some (.slice A0_3 l0_3.length c0_3):=(aj BK234.out 3).trans rfl
         have hcz42_4:wr.cell? ⟨gb234,4,none⟩=some (.slice A0_4 l0_4.length c0_4):=(aj BK234.out 4).trans rfl
         have hfz42_0:=ai BK234.out 0
         have hfz42_1:=ai BK234.out 1
         have hfz42_2:=ai BK234.out 2
         have hfz42_3:=ai BK234.out 3
         have hfz42_4:=ai BK234.out 4
         go_wp2
         go_ret
         exact ⟨by first|rfl|(simp [aM,aK] <;> rfl)|(simp [*,aM,aK] <;> rfl),by repeat (first|(with_reducible first|exact HB.out|apply af|apply ae|apply ag|refine ah ?_ GE234.out)|exact HB.out)⟩
def dG.f (k:Nat) (a0_0:Int) (a0_1:ByteArray) (a0_2:ByteArray) (l0_3:List ByteArray) (l0_4:List (S25)):Option (Bool):=(aX.f k a0_0 a0_1 a0_2 l0_3 l0_4 12).bind fun t239=>(some t239)
set_option maxHeartbeats 8000000 in
set_option maxRecDepth 100000 in
theorem dG.calls (k:Nat) (a0_0:Int) (a0_1:ByteArray) (a0_2:ByteArray) (A0_3:Option Addr) (c0_3:Nat) (l0_3:List ByteArray) (A0_4:Option Addr) (c0_4:Nat) (l0_4:List (S25)) (r:Bool) (w:World) (hr0_3:Kd.C Kd.string w A0_3 l0_3.length l0_3) (hc0_3:l0_3.length≤c0_3) (hr0_4:Kd.C k25 w A0_4 l0_4.length l0_4) (hc0_4:l0_4.length≤c0_4) (h:dG.f k a0_0 a0_1 a0_2 l0_3 l0_4=some r) :
  Calls Tryz.prog 19 #[.agg #[.int .i64 a0_0,.string a0_1,.string a0_2,.slice A0_3 l0_3.length c0_3,.slice A0_4 l0_4.length c0_4]] w fun e w'=>e=.returned (.bool r)∧Below w.heap.size w w':=by
 have hu25:=Tryz.underlying25
 have HR0_3:=aa.mk hr0_3
 have HC0_3:=aa.mk hc0_3
 clear hr0_3 hc0_3
 have HR0_4:=aa.mk hr0_4
 have HC0_4:=aa.mk hc0_4
 clear hr0_4 hc0_4
 have HB:=aa.mk (Below.refl w.heap.size w)
 have H:((aX.f k a0_0 a0_1 a0_2 l0_3 l0_4 12).bind fun t239=>(some t239))=some r:=h
 clear h
 replace H:=Option.bind_eq_some_iff.mp H
 obtain ⟨t239,A20,H⟩:=H
 replace H:(some t239)=some r:=H
 have A2:=aa.mk A20
 clear A20
 obtain rfl:=Option.some.inj H
 go_enter Tryz.func19,Tryz.ntmps19
 go_wp2_with (first|((with_reducible refine bS (N:=1) rfl ?_);refine eu ?hg (N:=1) ?hd (cs:=#[.int .i64 a0_0,.string a0_1,.string a0_2,.slice A0_3 l0_3.length c0_3,.slice A0_4 l0_4.length c0_4]) (t:=25) ?hr ?_;(case hd=>rfl);(case hg=>rfl);(case hr=>first|(go_simp;done)|(go_simp;rfl));intro gb238 hg w3 hbox hb;have n0_:=aa.mk (aD (by repeat (first|(with_reducible first|exact HB.out|apply af|apply ae|apply ag)|exact HB.out)) hb);have n1_:=aa.mk (hbox);have n2_:=aa.mk ((by rw [hg];exact (aG (by repeat (first|(with_reducible first|exact HB.out|apply af|apply ae|apply ag)|exact HB.out))):w.heap.size≤gb238));have n3_:=aa.mk ((by rw [hg];exact (aG (by repeat (first|(with_reducible first|exact HB.out|apply af|apply ae|apply ag)|exact HB.out))):w.heap.size≤gb238));clear HB;have HB:=n0_;have BK238:=n1_;have GW238:=n2_;have GE238:=n3_;clear n0_ n1_ n2_ n3_;clear hb hbox hg;have hcz4_0:w3.cell? ⟨gb238,0,none⟩=some (.int .i64 a0_0):=(aj BK238.out 0).trans rfl;have hcz4_1:w3.cell? ⟨gb238,1,none⟩=some (.string a0_1):=(aj BK238.out 1).trans rfl;have hcz4_2:w3.cell? ⟨gb238,2,none⟩=some (.string a0_2):=(aj BK238.out 2).trans rfl;have hcz4_3:w3.cell? ⟨gb238,3,none⟩=some (.slice A0_3 l0_3.length c0_3):=(aj BK238.out 3).trans rfl;have hcz4_4:w3.cell? ⟨gb238,4,none⟩=some (.slice A0_4 l0_4.length c0_4):=(aj BK238.out 4).trans rfl;have hfz4_0:=ai BK238.out 0;have hfz4_1:=ai BK238.out 1;have hfz4_2:=ai BK238.out 2;have hfz4_3:=ai BK238.out 3;have hfz4_4:=ai BK238.out 4)|((with_reducible refine aV (f:=30) rfl ?_);refine bJ (some 4) rfl rfl Tryz.func30 (by kernel_rfl) rfl #[.agg #[.int .i64 a0_0,.string a0_1,.string a0_2,.slice A0_3 l0_3.length c0_3,.slice A0_4 l0_4.length c0_4],.int .i64 12] rfl (by (try simp only [List.map_toArray,List.map_cons,List.map_nil]);first|done|rfl|(simp only [List.length_drop,List.length_take];rfl)) ?_;(with_reducible refine (aX.calls k a0_0 a0_1 a0_2 _ _ l0_3 _ _ l0_4 12 t239 _ ?side1 ?side2 ?side3 ?side4 A2.out).mono ?_);(case side1=>repeat (first|exact (Kd.bf HR0_3.out HB.out)|(with_reducible refine Kd.aN ?_ _)|(with_reducible refine Kd.aQ ?_ _)|(with_reducible refine Kd.aW ?_)));(case side2=>exact HC0_3.out);(case side3=>repeat (first|exact (Kd.bf HR0_4.out HB.out)|(with_reducible refine Kd.aN ?_ _)|(with_reducible refine Kd.aQ ?_ _)|(with_reducible refine Kd.aW ?_)));(case side4=>exact HC0_4.out);rintro e w5 ⟨rfl,hb⟩;refine ⟨_,rfl,?_⟩;have n0_:=aa.mk (aI (g:=gb238) (o:=.cells #[.int .i64 a0_0,.string a0_1,.string a0_2,.slice A0_3 l0_3.length c0_3,.slice A0_4 l0_4.length c0_4] 25 (0,0)) (by (with_reducible repeat (first|refine au ?_ _|refine av ?_|refine ak ?_ _));exact BK238.out) hb);have n1_:=aa.mk (aD (by repeat (first|(with_reducible first|exact HB.out|apply af|apply ae|apply ag|refine ah ?_ GE238.out)|exact HB.out)) hb);clear BK238;clear HB;have BK238:=n0_;have HB:=n1_;clear n0_ n1_;(try clear hb);(try clear hb2);(try clear hk);(try clear hi)))
 go_ret
 exact ⟨by first|rfl|(simp [aM,aK] <;> rfl)|(simp [*,aM,aK] <;> rfl),by repeat (first|(with_reducible first|exact HB.out|apply af|apply ae|apply ag|refine ah ?_ GE238.out)|exact HB.out)⟩
end Go.Proofs.YthfpaoacjpjnfaaGreatDoor.P


namespace Go.Proofs.YthfpaoacjpjnfaaGreatDoor.P
open Go.RowKit Go.Proofs.YthfpaoacjpjnfaaGreatDoorW.PrintWords Go.Proofs.YthfpaoacjpjnfaaGreatDoorW.PrintLast Go.Proofs.YthfpaoacjpjnfaaGreatDoorW.PrintMore
def szT:Nat→S25→Prop
  | 0,f=>f.f1.size≤1073741824
  | n+1,f=>f.f1.size≤1073741824∧∀ x ∈ f.f4,szT n x
theorem pY (l:List ByteArray) (kd:Int) (a1 a2:ByteArray) (l4:List S25) (hl:l.length≤8):∀ (n i:Nat),l.length - i=n→i≤l.length→Ev (fun k=>aJ.l0 k (l.length:Int) (i:Int) kd a1 a2 l l4) (fV l i n):=by
  intro n
  induction n with
  | zero =>
    intro i hn hi
    exact Ev.step (fun k=>by rw [aJ.l0]) (Ev.ifn (by omega) (Ev.now true))
  | succ n ih =>
    intro i hn hi
    have h1:(i:Int) < (l.length:Int):=by omega
    have hw:wrap64 ((i:Int)+1)=((i+1:Nat):Int):=by unfold wrap64;omega
    have hw2:wrap64 ((l.length:Int) - 1)=(l.length:Int) - 1:=by unfold wrap64;omega
    have hih:=ih (i+1) (by omega) (by omega)
    rw [← hw] at hih
    unfold fV qf
    refine Ev.step (fun k=>by rw [aJ.l0]) (Ev.ifp h1 (Ev.ifp (by omega) (Ev.ifp h1 ?_)))
    by_cases c1:(bE ByteArray.empty l (i:Int)).size≤100
    · rw [decide_eq_true c1]
      refine Ev.ifn (by omega) ?_
      by_cases c3:0 < i
      · refine Ev.ifp (by omega) ?_
        rw [hw2,decide_eq_true c3]
        by_cases c4:i+1 < l.length
        · rw [decide_eq_true c4]
          refine Ev.ifp (by omega) ?_
          by_cases c2:(bE ByteArray.empty l (i:Int)).toList=[]
          · rw [decide_eq_true c2]
            exact Ev.ifp c2 (Ev.now _)
          · rw [decide_eq_false c2]
            exact Ev.ifn c2 hih
        · rw [decide_eq_false c4,Bool.and_false]
          exact Ev.ifn (by omega) hih
      · rw [decide_eq_false c3,Bool.and_false,Bool.false_and]
        exact Ev.ifn (by omega) hih
    · rw [decide_eq_false c1]
      exact Ev.ifp (by omega) (Ev.now _)
theorem sj (kd:Int) (a1 a2:ByteArray) (l3:List ByteArray) (hk:kd≠1∧kd≠2∧kd≠3) (hs:a1.size≤1073741824):Ev (fun k=>aJ.f k kd a1 a2 l3 []) (dh kd a1 a2 l3 [] true true):=by
  have jt:∀ x,Ev (fun k=>aJ.j2 k x true kd a1 a2 l3 []) false:=fun x=>Ev.step (fun k=>by rw [aJ.j2]) (Ev.ifp rfl (Ev.now _))
  have z0:a2.toList=[]→a2.size≤100:=fun h=>by have:=(jZ a2).1 h;omega
  unfold aJ.f
  refine (p9 a1 hs).bind ?_
  unfold dh gH
  rw [if_neg (by omega),if_neg hk.2.2,show decide (([]:List S25).length=0)=true from rfl,Bool.and_true]
  have j0t:Ev (fun k=>aJ.j0 k true kd a1 a2 l3 []) false:=Ev.step (fun k=>by rw [aJ.j0]) (Ev.ifp rfl (Ev.now _))
  cases ht:gp a1.data.toList with
  | false =>
    refine Ev.ifn (by decide) ?_
    simp only [Bool.false_and,ite_self]
    exact j0t
  | true =>
    refine Ev.ifp rfl ?_
    simp only [Bool.true_and]
    by_cases hv:a2.size≤100
    case neg =>
      have hn:a2.toList≠[]:=fun h=>hv (z0 h)
      rw [decide_eq_true (show (a2.size:Int) > 100 by omega),decide_eq_false hv,decide_eq_false hn]
      simp only [Bool.and_false,Bool.false_and,ite_self]
      exact j0t
    rw [decide_eq_false (show ¬ (a2.size:Int) > 100 by omega),decide_eq_true hv]
    have j1t:Ev (fun k=>aJ.j1 k kd true kd a1 a2 l3 []) (decide (l3.length=0)):=by
      refine Ev.step (fun k=>by rw [aJ.j1]) (Ev.ifp rfl ?_)
      have:((l3.length:Int) == 0)=decide (l3.length=0):=by
        by_cases h:l3.length=0
        · rw [decide_eq_true h];exact beq_iff_eq.2 (by omega)
        · rw [decide_eq_false h];exact beq_eq_false_iff_ne.2 (by omega)
      rw [this]
      exact Ev.now _
    by_cases h467:kd=4∨kd=6∨kd=7
    · rw [if_pos h467,Bool.and_true]
      refine Ev.step (fun k=>by rw [aJ.j0]) (Ev.ifn (by decide) ?_)
      rcases h467 with rfl|rfl|rfl
      · exact Ev.ifp rfl j1t
      · exact Ev.ifn (by decide) (Ev.ifp rfl j1t)
      · exact Ev.ifn (by decide) (Ev.ifn (by decide) j1t)
    rw [if_neg h467]
    have h7:(kd == 7)=false:=beq_eq_false_iff_ne.2 (by omega)
    refine Ev.step (fun k=>by rw [aJ.j0]) (Ev.ifn (by decide) (Ev.ifn (by omega) (Ev.ifn (by omega) ?_)))
    rw [h7]
    refine Ev.step (fun k=>by rw [aJ.j1]) (Ev.ifn (by decide) ?_)
    by_cases h5:kd=5
    · rw [if_pos h5]
      refine Ev.ifn (by omega) (Ev.ifp h5 ?_)
      by_cases hn:a2.toList=[]
      case neg =>
        rw [decide_eq_false hn,Bool.false_and]
        exact Ev.ifn hn (jt _)
      rw [decide_eq_true hn,Bool.true_and]
      refine Ev.ifp hn ?_
      unfold il
      by_cases c1:2≤l3.length
      case neg =>
        rw [decide_eq_false c1]
        exact Ev.ifp (by omega) (jt _)
      rw [decide_eq_true c1]
      refine Ev.ifn (by omega) ?_
      by_cases c2:l3.length≤8
      case neg =>
        rw [decide_eq_false c2]
        exact Ev.ifp (by omega) (jt _)
      rw [decide_eq_true c2]
      refine Ev.ifn (by omega) ?_
      have jl0:Ev (fun k=>aJ.l0 k (l3.length:Int) 0 kd a1 a2 l3 []) (fV l3 0 l3.length):=pY l3 kd a1 a2 [] c2 l3.length 0 (by omega) (by omega)
      have jl:Ev (fun k=>aJ.j2 k (l3.length:Int) false kd a1 a2 l3 []) (fV l3 0 l3.length):=Ev.step (fun k=>by rw [aJ.j2]) (Ev.ifn (by decide) jl0)
      by_cases c3:l3.length=2
      · rw [decide_eq_true c3]
        refine Ev.ifp (by omega) (Ev.ifp (by omega) ?_)
        by_cases c4:(bE ByteArray.empty l3 0).toList=[]
        · rw [decide_eq_true c4]
          refine Ev.ifp c4 (Ev.ifp (by omega) ?_)
          by_cases c5:(bE ByteArray.empty l3 1).toList=[]
          · rw [decide_eq_true c5,show ((bE ByteArray.empty l3 1).toList == ([]:List UInt8))=true from beq_iff_eq.2 c5]
            exact jt _
          · rw [decide_eq_false c5,show ((bE ByteArray.empty l3 1).toList == ([]:List UInt8))=false from beq_eq_false_iff_ne.2 c5]
            exact jl
        · rw [decide_eq_false c4]
          exact Ev.ifn c4 jl
      · rw [decide_eq_false c3]
        exact Ev.ifn (by omega) jl
    · rw [if_neg h5]
      by_cases h8:kd=8
      · rw [if_pos h8]
        refine Ev.ifp h8 ?_
        by_cases hn:a2.toList=[]
        · rw [decide_eq_true hn,Bool.true_and]
          refine Ev.ifp hn ?_
          have:((l3.length:Int) == 0)=decide (l3.length=0):=by
            by_cases h:l3.length=0
            · rw [decide_eq_true h];exact beq_iff_eq.2 (by omega)
            · rw [decide_eq_false h];exact beq_eq_false_iff_ne.2 (by omega)
          rw [this]
          exact Ev.now _
        · rw [decide_eq_false hn,Bool.false_and]
          exact Ev.ifn hn (Ev.now _)
      · rw [if_neg h8]
        exact Ev.ifn h8 (Ev.ifn h5 (Ev.now _))
theorem sK (kd:Int) (a1 a2:ByteArray) (l3:List ByteArray) (L:List S25) (n:Int) (hn:wrap64 (n - 1)=n - 1) (hl:L.length≤1000000) (q:S25→Bool) (hq:∀ x ∈ L,Ev (fun k=>aX.f k x.f0 x.f1 x.f2 x.f3 x.f4 (n - 1)) (q x)):∀ (m i:Nat),L.length - i=m→i≤L.length →
    Ev (fun k=>aX.l0 k n (i:Int) kd a1 a2 l3 L) ((L.drop i).all q):=by
  intro m
  induction m with
  | zero =>
    intro i hm hi
    rw [List.drop_eq_nil_of_le (by omega)]
    have c:¬ (i:Int) < (L.length:Int):=by omega
    show Ev _ true
    exact Ev.step (fun k=>by rw [aX.l0]) (Ev.ifn c (Ev.now _))
  | succ m ih =>
    intro i hm hi
    have hw:wrap64 ((i:Int)+1)=((i+1:Nat):Int):=by unfold wrap64;omega
    have hd:L.drop i=az L (i:Int) :: L.drop (i+1):=by
      rw [List.drop_eq_getElem_cons (by omega)]
      congr 1
      unfold az
      rw [Int.toNat_natCast,List.getD_eq_getElem?_getD,List.getElem?_eq_getElem (by omega)]
      rfl
    have hx:=hq _ (pE (l:=L) (i:=i) (by omega))
    rw [← hn] at hx
    rw [hd,List.all_cons]
    refine Ev.step (fun k=>by rw [aX.l0]) (Ev.ifp (by omega) (Ev.ifp (by omega) (hx.bind ?_)))
    cases hb:q (az L (i:Int)) with
    | true =>
      rw [hw,Bool.true_and]
      exact Ev.ifp rfl (ih (i+1) (by omega) (by omega))
    | false=>exact Ev.ifn (by decide) (Ev.now _)
theorem vS:∀ (n:Nat),n≤1000→∀ f:S25,szT n f→Ev (fun k=>aX.f k f.f0 f.f1 f.f2 f.f3 f.f4 (n:Int)) (fC n f):=by
  have step:∀ (n:Nat) (deepOk kidsOk:Bool) (f:S25),n≤1000→f.f1.size≤1073741824→(deepOk=!(decide (0 < f.f4.length) && decide (n < 1))) →
      (f.f4.length≤40→deepOk=true→Ev (fun k=>aX.l0 k (n:Int) 0 f.f0 f.f1 f.f2 f.f3 f.f4) kidsOk) →
      Ev (fun k=>aX.f k f.f0 f.f1 f.f2 f.f3 f.f4 (n:Int)) (dh f.f0 f.f1 f.f2 f.f3 f.f4 deepOk kidsOk):=by
    intro n deepOk kidsOk f hn hs hd hk
    have jt:Ev (fun k=>aX.j2 k (n:Int) true f.f0 f.f1 f.f2 f.f3 f.f4) false:=Ev.step (fun k=>by rw [aX.j2]) (Ev.ifp rfl (Ev.now _))
    have j1:∀ m:Nat,m≤40→(f.f0=3→m=1)→Ev (fun k=>aX.j1 k (n:Int) (m:Int) f.f0 f.f1 f.f2 f.f3 f.f4) (jQ f.f1 f.f2 f.f3 && (if f.f0=3 then decide (f.f4.length=1) else decide (f.f4.length≤m)) && (deepOk && kidsOk)):=by
      intro m hm h3
      unfold jQ
      refine Ev.step (fun k=>by rw [aX.j1]) ?_
      by_cases b1:f.f1.toList=[]
      case neg =>
        rw [decide_eq_false b1]
        exact Ev.ifn b1 jt
      rw [decide_eq_true b1]
      refine Ev.ifp b1 ?_
      by_cases b2:f.f2.toList=[]
      case neg =>
        rw [decide_eq_false b2]
        exact Ev.ifn b2 jt
      rw [decide_eq_true b2]
      refine Ev.ifp b2 ?_
      by_cases b3:f.f3.length=0
      case neg =>
        rw [decide_eq_false b3]
        exact Ev.ifp (by omega) jt
      rw [decide_eq_true b3]
      refine Ev.ifn (by omega) ?_
      have last:f.f4.length≤40→Ev (fun k=>if (f.f4.length:Int) > 0 then aX.j2 k (n:Int) (decide ((n:Int) < 1)) f.f0 f.f1 f.f2 f.f3 f.f4 else aX.j2 k (n:Int) false f.f0 f.f1 f.f2 f.f3 f.f4) (deepOk && kidsOk):=by
        intro h40
        have go:deepOk=true→Ev (fun k=>aX.j2 k (n:Int) false f.f0 f.f1 f.f2 f.f3 f.f4) (deepOk && kidsOk):=fun h=>by
          rw [h,Bool.true_and]
          exact Ev.step (fun k=>by rw [aX.j2]) (Ev.ifn (by decide) (hk h40 h))
        by_cases p:0 < f.f4.length
        · refine Ev.ifp (by omega) ?_
          by_cases q:n < 1
          · rw [decide_eq_true (show (n:Int) < 1 by omega),show deepOk=false by rw [hd,decide_eq_true p,decide_eq_true q];rfl]
            exact jt
          · rw [decide_eq_false (show ¬ (n:Int) < 1 by omega)]
            exact go (by rw [hd,decide_eq_false q,Bool.and_false];rfl)
        · exact Ev.ifn (by omega) (go (by rw [hd,decide_eq_false p];rfl))
      by_cases c3:f.f0=3
      · rw [if_pos c3]
        have hm1:=h3 c3
        by_cases l1:f.f4.length=1
        · rw [decide_eq_true l1]
          exact Ev.ifn (by omega) (Ev.ifp c3 (Ev.ifp (by omega) (last (by omega))))
        · rw [decide_eq_false l1]
          by_cases g:f.f4.length > m
          · exact Ev.ifp (by omega) jt
          · exact Ev.ifn (by omega) (Ev.ifp c3 (Ev.ifn (by omega) jt))
      · rw [if_neg c3]
        by_cases g:f.f4.length≤m
        · rw [decide_eq_true g]
          exact Ev.ifn (by omega) (Ev.ifn c3 (last (by omega)))
        · rw [decide_eq_false g]
          exact Ev.ifp (by omega) jt
    refine Ev.step (fun k=>by rw [aX.f]) ?_
    have d12:f.f0=1∨f.f0=2→Ev (fun k=>aX.j0 k (n:Int) f.f0 true f.f0 f.f1 f.f2 f.f3 f.f4) (dh f.f0 f.f1 f.f2 f.f3 f.f4 deepOk kidsOk):=fun h=>by
      have this:Ev (fun k=>aX.j1 k (n:Int) 40 f.f0 f.f1 f.f2 f.f3 f.f4) _:=j1 40 (Nat.le_refl _) (fun h3=>by omega)
      rw [if_neg (show ¬ f.f0=3 by omega)] at this
      unfold dh
      rw [if_pos h]
      exact Ev.step (fun k=>by rw [aX.j0]) (Ev.ifp rfl this)
    by_cases c1:f.f0=1
    · refine Ev.ifp c1 ?_
      rw [show (f.f0 == 1)=true from beq_iff_eq.2 c1]
      exact d12 (.inl c1)
    refine Ev.ifn c1 ?_
    by_cases c2:f.f0=2
    · rw [show (f.f0 == 2)=true from beq_iff_eq.2 c2]
      exact d12 (.inr c2)
    rw [show (f.f0 == 2)=false from beq_eq_false_iff_ne.2 c2]
    refine Ev.step (fun k=>by rw [aX.j0]) (Ev.ifn (by decide) ?_)
    by_cases c3:f.f0=3
    · have this:Ev (fun k=>aX.j1 k (n:Int) 1 f.f0 f.f1 f.f2 f.f3 f.f4) _:=j1 1 (by decide) (fun _=>rfl)
      rw [if_pos c3] at this
      unfold dh
      rw [if_neg (by omega),if_pos c3]
      exact Ev.ifp c3 this
    refine Ev.ifn c3 ?_
    by_cases h0:f.f4.length=0
    · have he:f.f4=[]:=List.length_eq_zero_iff.1 h0
      have hsm:=sj f.f0 f.f1 f.f2 f.f3 ⟨c1,c2,c3⟩ hs
      have hg:dh f.f0 f.f1 f.f2 f.f3 f.f4 deepOk kidsOk=dh f.f0 f.f1 f.f2 f.f3 [] true true:=by
        unfold dh
        have c12:¬ (f.f0=1∨f.f0=2):=by omega
        rw [he,if_neg c12,if_neg c3,if_neg c12,if_neg c3]
      rw [hg,he]
      exact Ev.ifp (by decide) (hsm.bind (Ev.now _))
    · have hg:dh f.f0 f.f1 f.f2 f.f3 f.f4 deepOk kidsOk=false:=by
        unfold dh gH
        have c12:¬ (f.f0=1∨f.f0=2):=by omega
        rw [if_neg c12,if_neg c3,decide_eq_false h0]
        simp
      rw [hg]
      exact Ev.ifn (by omega) (Ev.now _)
  intro n
  induction n with
  | zero =>
    intro hn f hs
    unfold fC
    refine step 0 _ true f hn hs ?_ ?_
    · by_cases h:f.f4.length=0
      · rw [decide_eq_true h,decide_eq_false (show ¬ 0 < f.f4.length by omega)];rfl
      · rw [decide_eq_false h,decide_eq_true (show 0 < f.f4.length by omega)];rfl
    · intro _ hd
      have h0:f.f4.length=0:=of_decide_eq_true hd
      have c:¬ (0:Int) < (f.f4.length:Int):=by omega
      exact Ev.step (fun k=>by rw [aX.l0]) (Ev.ifn c (Ev.now _))
  | succ n ih =>
    intro hn f hs
    unfold fC
    refine step (n+1) true _ f hn hs.1 ?_ ?_
    · rw [decide_eq_false (show ¬ n+1 < 1 by omega),Bool.and_false];rfl
    · intro h40 _
      have hw:wrap64 (((n+1:Nat):Int) - 1)=((n+1:Nat):Int) - 1:=by unfold wrap64;omega
      have hx:∀ x ∈ f.f4,Ev (fun k=>aX.f k x.f0 x.f1 x.f2 x.f3 x.f4 (((n+1:Nat):Int) - 1)) (fC n x):=fun x hx=>by
        rw [show ((n+1:Nat):Int) - 1=(n:Int) by omega]
        exact ih (by omega) x (hs.2 x hx)
      exact sK f.f0 f.f1 f.f2 f.f3 f.f4 ((n+1:Nat):Int) hw (by omega) (fC n) hx f.f4.length 0 (by omega) (by omega)
theorem pM (f:S25) (hs:szT 12 f):Ev (fun k=>dG.f k f.f0 f.f1 f.f2 f.f3 f.f4) (fC 12 f):=by
  unfold dG.f
  exact (vS 12 (by decide) f hs).bind (Ev.now _)
theorem oz (f:S25) {a b c d:Bool} (h1:a=true→c=true) (h2:b=true→d=true) (h:dh f.f0 f.f1 f.f2 f.f3 f.f4 a b=true):dh f.f0 f.f1 f.f2 f.f3 f.f4 c d=true:=by
  unfold dh at h ⊢
  split
  · rename_i c1
    rw [if_pos c1] at h
    simp only [Bool.and_eq_true] at h ⊢
    exact ⟨h.1,h1 h.2.1,h2 h.2.2⟩
  · rename_i c1
    rw [if_neg c1] at h
    split
    · rename_i c3
      rw [if_pos c3] at h
      simp only [Bool.and_eq_true] at h ⊢
      exact ⟨h.1,h1 h.2.1,h2 h.2.2⟩
    · rename_i c3
      rw [if_neg c3] at h
      exact h
theorem si:∀ (n:Nat) (f:S25),fC n f=true→fC (n+1) f=true:=by
  intro n
  induction n with
  | zero =>
    intro f h
    unfold fC at h ⊢
    by_cases h0:f.f4.length=0
    · have he:f.f4=[]:=List.length_eq_zero_iff.1 h0
      refine oz f (fun _=>rfl) (fun _=>by rw [he];rfl) h
    · exfalso
      unfold dh gH at h
      rw [decide_eq_false h0] at h
      repeat' split at h
      all_goals simp at h
  | succ n ih =>
    intro f h
    unfold fC at h ⊢
    refine oz f (fun _=>rfl) (fun ha=>?_) h
    exact List.all_eq_true.2 (fun x hx=>ih x (List.all_eq_true.1 ha x hx))
theorem u6 (V:ByteArray→List ByteArray):∀ (n:Nat) (f:S25),fC n f=true→evD V (n+1) f=evD V n f:=by
  intro n
  induction n with
  | zero =>
    intro f h
    have he:f.f4=[]:=by
      by_cases h0:f.f4.length=0
      · exact List.length_eq_zero_iff.1 h0
      · exfalso
        unfold fC dh gH at h
        rw [decide_eq_false h0] at h
        repeat' split at h
        all_goals simp at h
    unfold evD
    rw [he]
    rfl
  | succ n ih =>
    intro f h
    by_cases hk:f.f0=1∨f.f0=2∨f.f0=3
    · have ha:f.f4.all (fC n)=true:=by
        unfold fC dh at h
        by_cases c1:f.f0=1∨f.f0=2
        · rw [if_pos c1] at h
          simp only [Bool.and_eq_true] at h
          exact h.2.2
        · rw [if_neg c1,if_pos (show f.f0=3 by omega)] at h
          simp only [Bool.and_eq_true] at h
          exact h.2.2
      unfold evD
      rw [List.map_congr_left (fun x hx=>ih x (List.all_eq_true.1 ha x hx))]
    · unfold evD evG
      have k1:¬ f.f0=1:=fun e=>hk (.inl e)
      have k2:¬ f.f0=2:=fun e=>hk (.inr (.inl e))
      have k3:¬ f.f0=3:=fun e=>hk (.inr (.inr e))
      simp only [if_neg k1,if_neg k2,if_neg k3]
def subK {α:Type} (d:Kd α) (p:α→List Value→Prop):Kd α where
  sz:=d.sz
  E:=d.E
  K w x cs:=d.K w x cs∧p x cs
  M w base ok x cs:=d.M w base ok x cs∧p x cs
  K_len h:=d.K_len h.1
  K_one h:=d.K_one h.1
  K_below hb h:=⟨d.K_below hb h.1,h.2⟩
  K_of_M h:=⟨d.K_of_M h.1,h.2⟩
  M_mono hk h:=⟨d.M_mono hk h.1,h.2⟩
  M_bound h:=⟨d.M_bound h.1,h.2⟩
  M_move hm h:=⟨d.M_move hm h.1,h.2⟩
  M_lower hb h:=⟨d.M_lower hb h.1,h.2⟩
def xV (x:S45) (cs:List Value):Prop:=∃ A,cs=[.string x.f0,.slice A x.f1.length x.f1.length]
def ktA:Kd S45:=subK k45 xV
theorem lD {W:World} {ok:Nat→Prop} {x:S45} {c:List Value} (h:Kd.FK ktA W ok x c):Kd.FK k45 W ok x c:=fun W' hW=>(h W' hW).1
theorem rZ {w:World} {base:Nat} {ok:Nat→Prop} {v:Value} {xs:List S45} (h:Kd.N ktA 45 w base ok v xs):Kd.N k45 45 w base ok v xs:=by
  obtain ⟨h0,rows,hl,hR,hf⟩:=h
  exact ⟨h0,rows,hl,hR,fun j x c hx hc=>lD (hf j x c hx hc)⟩
theorem tY {W:World} {ok:Nat→Prop} {x:S45} {cs:List Value} (h:Kd.FK ktA W ok x cs):∃ A1,cs=[.string x.f0,.slice A1 x.f1.length x.f1.length]∧Kd.F Kd.string W ok A1 x.f1.length x.f1:=by
  obtain ⟨A1,c1,rfl,l1,g1⟩:=jA (lD h)
  obtain ⟨A,e⟩:=(Kd.gQ h).2
  injection (Option.some.inj (show some (Value.slice A1 x.f1.length c1)=some (Value.slice A x.f1.length x.f1.length) from congrArg (fun l=>l[1]?) e)) with ea eb ec
  subst ec
  exact ⟨A1,rfl,g1⟩
theorem ky (W:World) (ok:Nat→Prop) (x:S45) {A1:Option Addr} {c1:Nat} (e:∃ a n,Value.slice A1 x.f1.length c1=.slice a n n) (l1:x.f1.length≤c1) (g1:Kd.F Kd.string W ok A1 x.f1.length x.f1):Kd.FK ktA W ok x [.string x.f0,.slice A1 x.f1.length c1]:=fun W2 hW=>by
  refine ⟨uY W2 x l1 (g1 W2 hW),A1,?_⟩
  obtain ⟨a,n,e⟩:=e
  injection e with e1 e2 e3
  rw [e3,← e2]
theorem rX {α:Type} (d:Kd α) {W:World} (base e:Nat) {xs:List α} {inner:List Value} {ok okp:Nat→Prop}
    (hrep:bI (d.M W base okp) d.sz xs inner) (hok:∀ k,okp k→ok k) (hfresh:ok W.heap.size) (hbase:base≤W.heap.size) (hm:xs.length≤9223372036854775807) :
    d.R e (W.alloc (.cells inner.toArray e)) base ok (.slice (some ⟨W.heap.size,0,none⟩) xs.length xs.length) xs:=by
  have own:∀ k,(Value.slice (some ⟨W.heap.size,0,none⟩) xs.length xs.length).ownBlock=some k→W.heap.size=k:=fun k hk=>by simpa [Value.ownBlock] using hk
  refine ⟨fun k hk=>own k hk ▸ hfresh,inner,?_,hrep.imp_ (fun p c hp=>d.M_mono (fun k hk=>⟨hok k hk.1,fun he=>?_⟩) (Kd.pz (d.M_bound hp) (af (Below.refl _ _) _)))⟩
  · have h2:=World.ownsRow_lit (base:=base) (e:=e) (size:=d.sz) W inner.toArray xs.length hbase (by simpa [maxLen] using hm) (by simpa using hrep.1)
    simpa using h2
  · have h3:=own k he.symm
    have:=hk.2.2.1
    omega
section
variable {P:Program} {ops:Array Oper} {rest:List Oper} {o:Oper} {a:Act} {Q:Exit→Act→World→Prop} {Kc:Act→World→Prop} {α:Type}
theorem o9 (d:Kd α) {w0 W:World} (base e:Nat) (hgd:o.guard=none) {N:Tmp} (_hd:o.dst=some N) {xs:List α} {inner:List Value} {ok okp:Nat→Prop}
    (hrun:(execOp a.eval o).run P W=.ok (.value (.slice (some ⟨W.heap.size,0,none⟩) xs.length xs.length)) (W.alloc (.cells inner.toArray e)))
    (hrep:bI (d.M W base okp) d.sz xs inner) (hok:∀ k,okp k→ok k) (hfresh:ok W.heap.size) (HB:Below base w0 W) (hbase:base≤W.heap.size) (hm:xs.length≤9223372036854775807)
    (h:∀ v1 w1,d.R e w1 base ok v1 xs→Below base w0 w1→W.grownBy w1 none→(∃ b,v1.ownBlock=some b∧W.heap.size≤b)→(∃ a n,v1=.slice a n n)→wpList P ops Q rest (a.put o.dst v1) w1):wpList P ops Q (o :: rest) a W :=
  Kd.l8 hgd hrun (h _ _ (rX d base e hrep hok hfresh hbase hm) (HB.alloc hbase _) (World.grownBy_alloc W _ none) ⟨W.heap.size,by simp [Value.ownBlock],Nat.le_refl _⟩ ⟨_,_,rfl⟩)
theorem mq (d:Kd α) {w0 W:World} (base e:Nat) (hw:Region.wanted o (yielded ops a.tmps)=true) {N:Tmp} (_hd:o.dst=some N) {xs:List α} {inner:List Value} {ok okp:Nat→Prop}
    (hrun:(execOp a.eval o).run P W=.ok (.value (.slice (some ⟨W.heap.size,0,none⟩) xs.length xs.length)) (W.alloc (.cells inner.toArray e)))
    (hrep:bI (d.M W base okp) d.sz xs inner) (hok:∀ k,okp k→ok k) (hfresh:ok W.heap.size) (HB:Below base w0 W) (hbase:base≤W.heap.size) (hm:xs.length≤9223372036854775807)
    (h:∀ v1 w1,d.R e w1 base ok v1 xs→Below base w0 w1→W.grownBy w1 none→(∃ b,v1.ownBlock=some b∧W.heap.size≤b)→(∃ a n,v1=.slice a n n)→Kc (a.put o.dst v1) w1):if Region.wanted o (yielded ops a.tmps)=true then Oper.wp P o a W Kc Q else Kc (a.put o.dst undef) W :=
  mX hw hrun (h _ _ (rX d base e hrep hok hfresh hbase hm) (HB.alloc hbase _) (World.grownBy_alloc W _ none) ⟨W.heap.size,by simp [Value.ownBlock],Nat.le_refl _⟩ ⟨_,_,rfl⟩)
theorem grow_step {w0 W:World} (base:Nat) (hg:o.guard=none) (s x:Operand) (t:TypeId) (hop:o.op=Op.call { callee:=Callee.builtin Builtin.append,args:=#[s,x],argTypes:=#[t,t] })
    (i:TypeInfo) (z:Value) (h1:P.underlying t=some (.slice 9)) (h2:P.info? 9=some i) (h3:i.zero=some z) (h4:i.size=1) (h5:i.bytes=16) (h6:z.cells.size=1)
    (A:Option Addr) (xs:List ByteArray) (p:ByteArray) (ad:Addr) (ok:Nat→Prop) (hC:Kd.string.C W A xs.length xs) (hs:a.eval s=.slice A xs.length xs.length) (hx:a.eval x=.slice (some ad) 1 1) (hc:W.cell? ad=some (.string p))
    (hfresh:∀ k,W.heap.size≤k→ok k) (HB:Below base w0 W) (hbase:base≤W.heap.size) (hl:xs.length≤1000)
    (h:∀ v1 w1,Kd.string.R 9 w1 base ok v1 (xs++[p])→Below base w0 w1→W.grownBy w1 none→(∃ b,v1.ownBlock=some b∧W.heap.size≤b)→Kc (a.put o.dst v1) w1) {E:Prop} :
    if Region.wanted o (yielded ops a.tmps)=true then Oper.wp P o a W Kc Q else E:=by
  refine step_append_grows hg s x t hop 9 i z 1 16 h1 h2 h3 h4 h5 h6 (by decide) A xs.length xs.length (xs.map Value.string) hs ?_ (by simp) ?_ ad 1 1 [.string p] hx rfl ?_ ?_ (by omega) (by simp only [maxLen];omega) (by omega) ?_
  · intro hA
    subst hA
    by_cases h0:0 < xs.length
    · obtain ⟨ad',he,_⟩:=hC.2.2 h0
      cases he
    · omega
  · intro b hb j u hj
    subst hb
    rw [List.getElem?_map,Option.map_eq_some_iff] at hj
    obtain ⟨q,hq,rfl⟩:=hj
    have hjl:=(List.getElem?_eq_some_iff.1 hq).1
    obtain ⟨ad',he,hcell⟩:=hC.2.2 (by omega)
    cases he
    obtain ⟨c,hcl,hK,hcc⟩:=hcell j q hq
    obtain rfl:c=[.string q]:=hK
    have:=hcc 0 _ rfl
    rwa [show j * Kd.string.sz+0=j from by show j * 1+0=j;omega] at this
  · intro j u hj
    rcases j with _|j
    · simp only [List.getElem?_cons_zero,Option.some.injEq] at hj
      subst hj
      rw [Addr.add_zero']
      exact hc
    · simp at hj
  · intro u hu
    simp only [List.mem_singleton] at hu
    subst hu
    rfl
  · intro v1 w1 hown hgr
    obtain ⟨b,cap,cur,hv,hb,hh⟩:∃ b cap cur,v1=.slice (some ⟨b,0,none⟩) (xs.length+1) cap∧W.heap.size≤b∧w1.heap[b]?=some (.cells cur 9 (0,0)):=by
      rcases hown.2 with ⟨_,h0⟩|⟨g,cap,cur,rfl,hg',hh,_⟩
      · omega
      · exact ⟨g,cap,cur,rfl,hg',hh⟩
    have hob:v1.ownBlock=some b:=by rw [hv];simp [Value.ownBlock]
    refine h v1 w1 ⟨fun k hk=>?_,xs.map Value.string++[.string p],?_,?_⟩ (HB.grown hgr hbase (fun k hk=>by cases hk)) hgr ⟨b,hob,hb⟩
    · rw [hob] at hk
      injection hk with hk
      exact hfresh k (by omega)
    · rw [List.length_append]
      exact nk hown hbase
    · refine bI.snoc (R:=Kd.string.M w1 base _) ⟨by rw [List.length_map];exact (Nat.mul_one _).symm,fun j q hj=>?_⟩ (show [Value.string p]=[Value.string p] from rfl) rfl
      show ((xs.map Value.string).drop (j * 1)).take 1=[Value.string q]
      have hjl:=(List.getElem?_eq_some_iff.1 hj).1
      rw [Nat.mul_one,List.drop_eq_getElem_cons (by rw [List.length_map];exact hjl),List.take_succ_cons,List.take_zero,List.getElem_map]
      rw [List.getElem?_eq_getElem hjl] at hj
      rw [Option.some.inj hj]
end
end Go.Proofs.YthfpaoacjpjnfaaGreatDoor.P

namespace Go.Proofs.YthfpaoacjpjnfaaGreatDoor.P
open Go.RowKit Go.Proofs.YthfpaoacjpjnfaaGreatDoorW.PrintWords Go.Proofs.YthfpaoacjpjnfaaGreatDoorW.PrintLast Go.Proofs.YthfpaoacjpjnfaaGreatDoorW.PrintMore
attribute [local go_sem] dW dZ eP eQ dL dM dY dX
def bY.f (a0:ByteArray):Option (ByteArray × (List (S45))):=if 3+a0.size≤9223372036854775807 then (if ((⟨#[99,110,61]⟩:ByteArray)++a0).size+4≤9223372036854775807 then (some (((⟨#[99,110,61]⟩:ByteArray)++a0)++(⟨#[44,111,61,120]⟩:ByteArray),(([(⟨(⟨#[99,110]⟩:ByteArray),(([a0]:List ByteArray))⟩:S45),(⟨(⟨#[111,98,106,101,99,116,99,108,97,115,115]⟩:ByteArray),(([(⟨#[112,101,114,115,111,110]⟩:ByteArray)]:List ByteArray))⟩:S45),(⟨(⟨#[115,110]⟩:ByteArray),(([(⟨#[115]⟩:ByteArray)]:List ByteArray))⟩:S45)]:List (S45))))) else (none)) else (none)
set_option maxHeartbeats 8000000 in
set_option maxRecDepth 100000 in
theorem bY.calls (a0:ByteArray) (r1:ByteArray) (r2:List (S45)) (w:World) (h:bY.f a0=some (r1,r2)) :
  Calls Tryz.prog 29 #[.string a0] w fun e w'=>∃ v1_:Value,e=.returned (.agg #[.string r1,v1_])∧Kd.N k45 45 w' w.heap.size (fun k_=>(w.heap.size≤k_)) v1_ r2∧Below w.heap.size w w':=by
 have hu28:=Tryz.underlying28
 have hu45:=Tryz.underlying45
 have HB:=aa.mk (Below.refl w.heap.size w)
 have H:(if 3+a0.size≤9223372036854775807 then (if ((⟨#[99,110,61]⟩:ByteArray)++a0).size+4≤9223372036854775807 then (some (((⟨#[99,110,61]⟩:ByteArray)++a0)++(⟨#[44,111,61,120]⟩:ByteArray),(([(⟨(⟨#[99,110]⟩:ByteArray),(([a0]:List ByteArray))⟩:S45),(⟨(⟨#[111,98,106,101,99,116,99,108,97,115,115]⟩:ByteArray),(([(⟨#[112,101,114,115,111,110]⟩:ByteArray)]:List ByteArray))⟩:S45),(⟨(⟨#[115,110]⟩:ByteArray),(([(⟨#[115]⟩:ByteArray)]:List ByteArray))⟩:S45)]:List (S45))))) else (none)) else (none))=some (r1,r2):=h
 clear h
 by_cases c2:3+a0.size≤9223372036854775807
 ·rw [if_pos c2] at H
  have c2b0:=eq_true c2
  have c2b1:decide (3+a0.size≤9223372036854775807)=true:=decide_eq_true c2
  try have c2b2:(9223372036854775807 < 3+a0.size)=False:=eq_false (Nat.not_lt.2 c2)
  by_cases c3:((⟨#[99,110,61]⟩:ByteArray)++a0).size+4≤9223372036854775807
  ·rw [if_pos c3] at H
   have c3b0:=eq_true c3
   have c3b1:decide (((⟨#[99,110,61]⟩:ByteArray)++a0).size+4≤9223372036854775807)=true:=decide_eq_true c3
   try have c3b2:(9223372036854775807 < ((⟨#[99,110,61]⟩:ByteArray)++a0).size+4)=False:=eq_false (Nat.not_lt.2 c3)
   try (have c3b3:=c3b2;simp only [ByteArray.size_append,show ∀ a:UInt8,(⟨#[a]⟩:ByteArray).size=1 from fun _=>rfl,show ∀ a b:UInt8,(⟨#[a,b]⟩:ByteArray).size=2 from fun _ _=>rfl,show ∀ a b c:UInt8,(⟨#[a,b,c]⟩:ByteArray).size=3 from fun _ _ _=>rfl] at c3b3)
   obtain ⟨y395,hy395⟩:∃ y_:List ByteArray,y_=(([a0]:List ByteArray)):=⟨_,rfl⟩
   replace H:(some (((⟨#[99,110,61]⟩:ByteArray)++a0)++(⟨#[44,111,61,120]⟩:ByteArray),(([(⟨(⟨#[99,110]⟩:ByteArray),y395⟩:S45),(⟨(⟨#[111,98,106,101,99,116,99,108,97,115,115]⟩:ByteArray),(([(⟨#[112,101,114,115,111,110]⟩:ByteArray)]:List ByteArray))⟩:S45),(⟨(⟨#[115,110]⟩:ByteArray),(([(⟨#[115]⟩:ByteArray)]:List ByteArray))⟩:S45)]:List (S45)))))=some (r1,r2):=by first|(rw [hy395];with_reducible exact H)|(have H2_:=(Option.bind_some _ _).symm.trans H;rw [hy395];with_reducible exact H2_)|(have H2_:=(Option.bind_some _ _).symm.trans H;with_reducible exact H2_)|with_reducible exact H|(rw [hy395];exact H)|exact H
   have Ny395:=aa.mk hy395
   clear hy395
   obtain ⟨y398,hy398⟩:∃ y_:List ByteArray,y_=(([(⟨#[112,101,114,115,111,110]⟩:ByteArray)]:List ByteArray)):=⟨_,rfl⟩
   replace H:(some (((⟨#[99,110,61]⟩:ByteArray)++a0)++(⟨#[44,111,61,120]⟩:ByteArray),(([(⟨(⟨#[99,110]⟩:ByteArray),y395⟩:S45),(⟨(⟨#[111,98,106,101,99,116,99,108,97,115,115]⟩:ByteArray),y398⟩:S45),(⟨(⟨#[115,110]⟩:ByteArray),(([(⟨#[115]⟩:ByteArray)]:List ByteArray))⟩:S45)]:List (S45)))))=some (r1,r2):=by first|(rw [hy398];with_reducible exact H)|(have H2_:=(Option.bind_some _ _).symm.trans H;rw [hy398];with_reducible exact H2_)|(have H2_:=(Option.bind_some _ _).symm.trans H;with_reducible exact H2_)|with_reducible exact H|(rw [hy398];exact H)|exact H
   have Ny398:=aa.mk hy398
   clear hy398
   obtain ⟨y401,hy401⟩:∃ y_:List ByteArray,y_=(([(⟨#[115]⟩:ByteArray)]:List ByteArray)):=⟨_,rfl⟩
   replace H:(some (((⟨#[99,110,61]⟩:ByteArray)++a0)++(⟨#[44,111,61,120]⟩:ByteArray),(([(⟨(⟨#[99,110]⟩:ByteArray),y395⟩:S45),(⟨(⟨#[111,98,106,101,99,116,99,108,97,115,115]⟩:ByteArray),y398⟩:S45),(⟨(⟨#[115,110]⟩:ByteArray),y401⟩:S45)]:List (S45)))))=some (r1,r2):=by first|(rw [hy401];with_reducible exact H)|(have H2_:=(Option.bind_some _ _).symm.trans H;rw [hy401];with_reducible exact H2_)|(have H2_:=(Option.bind_some _ _).symm.trans H;with_reducible exact H2_)|with_reducible exact H|(rw [hy401];exact H)|exact H
   have Ny401:=aa.mk hy401
   clear hy401
   obtain ⟨y404,hy404⟩:∃ y_:List (S45),y_=(([(⟨(⟨#[99,110]⟩:ByteArray),y395⟩:S45),(⟨(⟨#[111,98,106,101,99,116,99,108,97,115,115]⟩:ByteArray),y398⟩:S45),(⟨(⟨#[115,110]⟩:ByteArray),y401⟩:S45)]:List (S45))):=⟨_,rfl⟩
   replace H:(some (((⟨#[99,110,61]⟩:ByteArray)++a0)++(⟨#[44,111,61,120]⟩:ByteArray),y404))=some (r1,r2):=by first|(rw [hy404];with_reducible exact H)|(have H2_:=(Option.bind_some _ _).symm.trans H;rw [hy404];with_reducible exact H2_)|(have H2_:=(Option.bind_some _ _).symm.trans H;with_reducible exact H2_)|with_reducible exact H|(rw [hy404];exact H)|exact H
   have Ny404:=aa.mk hy404
   clear hy404
   simp only [Option.some.injEq,Prod.mk.injEq] at H
   obtain ⟨rfl,rfl⟩:=H
   go_enter Tryz.func29,Tryz.ntmps29
   go_wp2_with (first|((with_reducible refine bS (N:=2) rfl ?_);refine eu ?hg (N:=2) ?hd (cs:=#[.string (⟨#[]⟩:ByteArray),.slice none 0 0]) (t:=28) ?hr ?_;(case hd=>rfl);(case hg=>rfl);(case hr=>first|(go_simp;done)|(go_simp;rfl));intro gb394 hg w4 hbox hb;have n0_:=aa.mk (aD (by repeat (first|(with_reducible first|exact HB.out|apply af|apply ae|apply ag)|exact HB.out)) hb);have n1_:=aa.mk (hbox);have n2_:=aa.mk ((by rw [hg];exact (aG (by repeat (first|(with_reducible first|exact HB.out|apply af|apply ae|apply ag)|exact HB.out))):w.heap.size≤gb394));have n3_:=aa.mk ((by rw [hg];exact (aG (by repeat (first|(with_reducible first|exact HB.out|apply af|apply ae|apply ag)|exact HB.out))):w.heap.size≤gb394));clear HB;have HB:=n0_;have BK394:=n1_;have GW394:=n2_;have GE394:=n3_;clear n0_ n1_ n2_ n3_;clear hb hbox hg)|((with_reducible refine bS (N:=7) rfl ?_);refine Kd.jb Kd.string _ 9 ?hg (N:=7) ?hd (xs:=([a0]:List ByteArray)) (inner:=[.string a0]) (ok:=fun _=>True) (okp:=fun _=>True) ?hr ?hp (fun _ hk=>hk) trivial (Below.refl _ _) (Nat.le_refl _) (by simp) ?_;(case hd=>rfl);(case hg=>rfl);(case hr=>first|(go_simp;done)|(go_simp;rfl));(case hp=>exact (bI.one (show Kd.M Kd.string _ _ _ a0 [.string a0] from rfl) (bI.none _ _)));intro v396 w5 ho6 hb hg_ hnew_;clear hg_ hnew_;(first|rw [← Ny395.out] at ho6|(simp only [Int.reduceToNat] at ho6;rw [← Ny395.out] at ho6));have n0_:=aa.mk (Kd.dN (Kd.fu (M:=fun k_=>(w.heap.size≤k_)) ho6 (aG (by repeat (first|(with_reducible first|exact HB.out|apply af|apply ae|apply ag|refine ah ?_ GE394.out)|exact HB.out))) (fun k_ h_=>h_)) (aG (by repeat (first|(with_reducible first|exact HB.out|apply af|apply ae|apply ag|refine ah ?_ GE394.out)|exact HB.out))));have n1_:=aa.mk (aI (g:=gb394) (o:=.cells #[.string (⟨#[]⟩:ByteArray),.slice none 0 0] 28 (0,0)) (by (with_reducible repeat (first|refine au ?_ _|refine av ?_|refine ak ?_ _));exact BK394.out) hb);have n2_:=aa.mk (aD (by repeat (first|(with_reducible first|exact HB.out|apply af|apply ae|apply ag|refine ah ?_ GE394.out)|exact HB.out)) hb);clear BK394;clear HB;have HO397:=n0_;have BK394:=n1_;have HB:=n2_;clear n0_ n1_ n2_;clear hb ho6;obtain ⟨Ao7,co7,eo7⟩:=Kd.cO HO397.out;subst eo7)|((with_reducible refine bS (N:=9) rfl ?_);refine Kd.jb Kd.string _ 9 ?hg (N:=9) ?hd (xs:=([(⟨#[112,101,114,115,111,110]⟩:ByteArray)]:List ByteArray)) (inner:=[.string (⟨#[112,101,114,115,111,110]⟩:ByteArray)]) (ok:=fun _=>True) (okp:=fun _=>True) ?hr ?hp (fun _ hk=>hk) trivial (Below.refl _ _) (Nat.le_refl _) (by simp) ?_;(case hd=>rfl);(case hg=>rfl);(case hr=>first|(go_simp;done)|(go_simp;rfl));(case hp=>exact (bI.one (show Kd.M Kd.string _ _ _ (⟨#[112,101,114,115,111,110]⟩:ByteArray) [.string (⟨#[112,101,114,115,111,110]⟩:ByteArray)] from rfl) (bI.none _ _)));intro v399 w8 ho9 hb hg_ hnew_;clear hg_ hnew_;(first|rw [← Ny398.out] at ho9|(simp only [Int.reduceToNat] at ho9;rw [← Ny398.out] at ho9));have n0_:=aa.mk (Kd.eY (by (with_reducible repeat (first|apply Kd.bz|apply Kd.bq|apply Kd.bB));exact HO397.out) (Kd.dI ho9) hb);have n1_:=aa.mk (Kd.dN (Kd.gB (Kd.fu (M:=fun k_=>(w.heap.size≤k_)) ho9 (aG (by repeat (first|(with_reducible first|exact HB.out|apply af|apply ae|apply ag|refine ah ?_ GE394.out)|exact HB.out))) (fun k_ h_=>h_)) (Kd.iD (by (with_reducible repeat (first|apply Kd.bz|apply Kd.bq|apply Kd.bB));exact HO397.out))) (aG (by repeat (first|(with_reducible first|exact HB.out|apply af|apply ae|apply ag|refine ah ?_ GE394.out)|exact HB.out))));have n2_:=aa.mk (aI (g:=gb394) (o:=.cells #[.string (⟨#[]⟩:ByteArray),.slice none 0 0] 28 (0,0)) (by (with_reducible repeat (first|refine au ?_ _|refine av ?_|refine ak ?_ _));exact BK394.out) hb);have n3_:=aa.mk (aD (by repeat (first|(with_reducible first|exact HB.out|apply af|apply ae|apply ag|refine ah ?_ GE394.out)|exact HB.out)) hb);clear HO397;clear BK394;clear HB;have HO397:=n0_;have HO400:=n1_;have BK394:=n2_;have HB:=n3_;clear n0_ n1_ n2_ n3_;clear hb ho9;obtain ⟨Ao10,co10,eo10⟩:=Kd.cO HO400.out;subst eo10)|((with_reducible refine bS (N:=11) rfl ?_);refine Kd.jb Kd.string _ 9 ?hg (N:=11) ?hd (xs:=([(⟨#[115]⟩:ByteArray)]:List ByteArray)) (inner:=[.string (⟨#[115]⟩:ByteArray)]) (ok:=fun _=>True) (okp:=fun _=>True) ?hr ?hp (fun _ hk=>hk) trivial (Below.refl _ _) (Nat.le_refl _) (by simp) ?_;(case hd=>rfl);(case hg=>rfl);(case hr=>first|(go_simp;done)|(go_simp;rfl));(case hp=>exact (bI.one (show Kd.M Kd.string _ _ _ (⟨#[115]⟩:ByteArray) [.string (⟨#[115]⟩:ByteArray)] from rfl) (bI.none _ _)));intro v402 w11 ho12 hb hg_ hnew_;clear hg_ hnew_;(first|rw [← Ny401.out] at ho12|(simp only [Int.reduceToNat] at ho12;rw [← Ny401.out] at ho12));have n0_:=aa.mk (Kd.eY (by (with_reducible repeat (first|apply Kd.bz|apply Kd.bq|apply Kd.bB));exact HO397.out) (Kd.dI ho12) hb);have n1_:=aa.mk (Kd.eY (by (with_reducible repeat (first|apply Kd.bz|apply Kd.bq|apply Kd.bB));exact HO400.out) (Kd.dI ho12) hb);have n2_:=aa.mk (Kd.dN (Kd.gB (Kd.gB (Kd.fu (M:=fun k_=>(w.heap.size≤k_)) ho12 (aG (by repeat (first|(with_reducible first|exact HB.out|apply af|apply ae|apply ag|refine ah ?_ GE394.out)|exact HB.out))) (fun k_ h_=>h_)) (Kd.iD (by (with_reducible repeat (first|apply Kd.bz|apply Kd.bq|apply Kd.bB));exact HO397.out))) (Kd.iD (by (with_reducible repeat (first|apply Kd.bz|apply Kd.bq|apply Kd.bB));exact HO400.out))) (aG (by repeat (first|(with_reducible first|exact HB.out|apply af|apply ae|apply ag|refine ah ?_ GE394.out)|exact HB.out))));have n3_:=aa.mk (aI (g:=gb394) (o:=.cells #[.string (⟨#[]⟩:ByteArray),.slice none 0 0] 28 (0,0)) (by (with_reducible repeat (first|refine au ?_ _|refine av ?_|refine ak ?_ _));exact BK394.out) hb);have n4_:=aa.mk (aD (by repeat (first|(with_reducible first|exact HB.out|apply af|apply ae|apply ag|refine ah ?_ GE394.out)|exact HB.out)) hb);clear HO397;clear HO400;clear BK394;clear HB;have HO397:=n0_;have HO400:=n1_;have HO403:=n2_;have BK394:=n3_;have HB:=n4_;clear n0_ n1_ n2_ n3_ n4_;clear hb ho12;obtain ⟨Ao13,co13,eo13⟩:=Kd.cO HO403.out;subst eo13)|((with_reducible refine bS (N:=13) rfl ?_);refine Kd.mD k45 _ 45 ?hg (N':=13) ?hd (xs:=([(⟨(⟨#[99,110]⟩:ByteArray),y395⟩:S45),(⟨(⟨#[111,98,106,101,99,116,99,108,97,115,115]⟩:ByteArray),y398⟩:S45),(⟨(⟨#[115,110]⟩:ByteArray),y401⟩:S45)]:List (S45))) (inner:=[.string (⟨#[99,110]⟩:ByteArray),.slice Ao7 y395.length co7,.string (⟨#[111,98,106,101,99,116,99,108,97,115,115]⟩:ByteArray),.slice Ao10 y398.length co10,.string (⟨#[115,110]⟩:ByteArray),.slice Ao13 y401.length co13]) (ok:=(fun k_=>(w.heap.size≤k_)∧k_≠gb394)) (okp:=(fun k_=>(w.heap.size≤k_)∧k_≠gb394)) ?hr ?hp (fun _ hk=>hk) ((show ∀ k_,w11.heap.size≤k_→(fun k_=>(w.heap.size≤k_)∧k_≠gb394) k_ from fun k_ hk=>⟨(Nat.le_trans (aG (by repeat (first|(with_reducible first|exact HB.out|apply af|apply ae|apply ag|refine ah ?_ GE394.out)|exact HB.out))) hk),Kd.dC (g:=gb394) (o:=.cells #[.string (⟨#[]⟩:ByteArray),.slice none 0 0] 28 (0,0)) (by (with_reducible repeat (first|refine au ?_ _|refine av ?_|refine ak ?_ _));exact BK394.out) k_ hk⟩) _ (Nat.le_refl _)) (Below.refl _ _) (Nat.le_refl _) (by simp) ?_;(case hd=>rfl);(case hg=>rfl);(case hr=>first|(go_simp;done)|(go_simp;rfl));(case hp=>exact (bI.c2 (show Kd.FK k45 _ _ (⟨(⟨#[99,110]⟩:ByteArray),y395⟩:S45) [.string (⟨#[99,110]⟩:ByteArray),.slice Ao7 y395.length co7] from (jI _ _ (⟨(⟨#[99,110]⟩:ByteArray),y395⟩:S45) (Kd.bL (Kd.bX (ok':=(fun k_=>(w.heap.size≤k_)∧k_≠gb394)) (Kd.bK (HO397.out) BK394.out (by decide)) (fun k_ hk=>⟨hk.1.1.1.1,hk.2⟩))).2.1 (Kd.R_F (Kd.bX (ok':=(fun k_=>(w.heap.size≤k_)∧k_≠gb394)) (Kd.bK (HO397.out) BK394.out (by decide)) (fun k_ hk=>⟨hk.1.1.1.1,hk.2⟩))))) (bI.c2 (show Kd.FK k45 _ _ (⟨(⟨#[111,98,106,101,99,116,99,108,97,115,115]⟩:ByteArray),y398⟩:S45) [.string (⟨#[111,98,106,101,99,116,99,108,97,115,115]⟩:ByteArray),.slice Ao10 y398.length co10] from (jI _ _ (⟨(⟨#[111,98,106,101,99,116,99,108,97,115,115]⟩:ByteArray),y398⟩:S45) (Kd.bL (Kd.bX (ok':=(fun k_=>(w.heap.size≤k_)∧k_≠gb394)) (Kd.bK (HO400.out) BK394.out (by decide)) (fun k_ hk=>⟨hk.1.1.1.1,hk.2⟩))).2.1 (Kd.R_F (Kd.bX (ok':=(fun k_=>(w.heap.size≤k_)∧k_≠gb394)) (Kd.bK (HO400.out) BK394.out (by decide)) (fun k_ hk=>⟨hk.1.1.1.1,hk.2⟩))))) (bI.c2 (show Kd.FK k45 _ _ (⟨(⟨#[115,110]⟩:ByteArray),y401⟩:S45) [.string (⟨#[115,110]⟩:ByteArray),.slice Ao13 y401.length co13] from (jI _ _ (⟨(⟨#[115,110]⟩:ByteArray),y401⟩:S45) (Kd.bL (Kd.bX (ok':=(fun k_=>(w.heap.size≤k_)∧k_≠gb394)) (Kd.bK (HO403.out) BK394.out (by decide)) (fun k_ hk=>⟨hk.1.1.1.1,hk.2⟩))).2.1 (Kd.R_F (Kd.bX (ok':=(fun k_=>(w.heap.size≤k_)∧k_≠gb394)) (Kd.bK (HO403.out) BK394.out (by decide)) (fun k_ hk=>⟨hk.1.1.1.1,hk.2⟩))))) (bI.none _ _)))));intro v405 w14 ho15 hb hg_ hnew_;clear hg_ hnew_;(first|rw [← Ny404.out] at ho15|(simp only [Int.reduceToNat] at ho15;rw [← Ny404.out] at ho15));have n0_:=aa.mk (Kd.fw ho15 (aG (by repeat (first|(with_reducible first|exact HB.out|apply af|apply ae|apply ag|refine ah ?_ GE394.out)|exact HB.out))));have n1_:=aa.mk (aI (g:=gb394) (o:=.cells #[.string (⟨#[]⟩:ByteArray),.slice none 0 0] 28 (0,0)) (by (with_reducible repeat (first|refine au ?_ _|refine av ?_|refine ak ?_ _));exact BK394.out) hb);have n2_:=aa.mk (aD (by repeat (first|(with_reducible first|exact HB.out|apply af|apply ae|apply ag|refine ah ?_ GE394.out)|exact HB.out)) hb);clear BK394;clear HB;clear HO397;clear HO400;clear HO403;have HO406:=n0_;have BK394:=n1_;have HB:=n2_;clear n0_ n1_ n2_;clear hb ho15;obtain ⟨Ao16,co16,eo16⟩:=Kd.dR HO406.out;subst eo16;have hcz17_0:w14.cell? ⟨gb394,0,none⟩=some (.string (⟨#[]⟩:ByteArray)):=(aj BK394.out 0).trans rfl;have hcz17_1:w14.cell? ⟨gb394,1,none⟩=some (.slice none 0 0):=(aj BK394.out 1).trans rfl;have hfz17_0:=ai BK394.out 0;have hfz17_1:=ai BK394.out 1))
   refine bodyPost_ret (results_cell_row rfl _ _ gb394 28 #[.string (((⟨#[99,110,61]⟩:ByteArray)++a0)++(⟨#[44,111,61,120]⟩:ByteArray)),.slice Ao16 y404.length co16] (0,0) _ rfl (by (with_reducible repeat (first|refine au ?_ _|refine av ?_|refine ak ?_ _));refine bG (cs:=#[.string (((⟨#[99,110,61]⟩:ByteArray)++a0)++(⟨#[44,111,61,120]⟩:ByteArray)),.slice none 0 0]) ?_ 1 _ (by first|rfl|(simp only [ay,ax];rfl)|simp [ay,ax]);(with_reducible repeat (first|refine au ?_ _|refine av ?_|refine ak ?_ _));refine bG (cs:=#[.string (⟨#[]⟩:ByteArray),.slice none 0 0]) ?_ 0 _ (by first|rfl|(simp only [ay,ax];rfl)|simp [ay,ax]);(with_reducible repeat (first|refine au ?_ _|refine av ?_|refine ak ?_ _));exact BK394.out) Tryz.underlying28 rfl (by kernel_rfl)) rfl ?_
   exact ⟨_,by first|rfl|(simp [aM,aK] <;> rfl)|(simp [*,aM,aK] <;> rfl),by (with_reducible repeat (first|apply Kd.aZ|apply Kd.aY|apply Kd.bn));exact Kd.bH (Kd.dQ (p:=⟨gb394,1,none⟩) (Kd.dQ (p:=⟨gb394,0,none⟩) (Kd.bH HO406.out (fun k_ hk=>(⟨hk,hk.2⟩:_∧k_≠gb394))) (fun _ hk=>hk.2) (.string (((⟨#[99,110,61]⟩:ByteArray)++a0)++(⟨#[44,111,61,120]⟩:ByteArray)))) (fun _ hk=>hk.2) (.slice Ao16 y404.length co16)) (fun _ hk=>hk.1.1),by repeat (first|(with_reducible first|exact HB.out|apply af|apply ae|apply ag|refine ah ?_ GE394.out)|exact HB.out)⟩
  ·rw [if_neg c3] at H
   exact absurd H (by simp)
 ·rw [if_neg c2] at H
  exact absurd H (by simp)
set_option maxHeartbeats 8000000 in
set_option maxRecDepth 100000 in
theorem bY.callsT (a0:ByteArray) (r1:ByteArray) (r2:List (S45)) (w:World) (h:bY.f a0=some (r1,r2)) :
  Calls Tryz.prog 29 #[.string a0] w fun e w'=>∃ v1_:Value,e=.returned (.agg #[.string r1,v1_])∧Kd.N ktA 45 w' w.heap.size (fun k_=>(w.heap.size≤k_)) v1_ r2∧Below w.heap.size w w':=by
 have hu28:=Tryz.underlying28
 have hu45:=Tryz.underlying45
 have HB:=aa.mk (Below.refl w.heap.size w)
 have H:(if 3+a0.size≤9223372036854775807 then (if ((⟨#[99,110,61]⟩:ByteArray)++a0).size+4≤9223372036854775807 then (some (((⟨#[99,110,61]⟩:ByteArray)++a0)++(⟨#[44,111,61,120]⟩:ByteArray),(([(⟨(⟨#[99,110]⟩:ByteArray),(([a0]:List ByteArray))⟩:S45),(⟨(⟨#[111,98,106,101,99,116,99,108,97,115,115]⟩:ByteArray),(([(⟨#[112,101,114,115,111,110]⟩:ByteArray)]:List ByteArray))⟩:S45),(⟨(⟨#[115,110]⟩:ByteArray),(([(⟨#[115]⟩:ByteArray)]:List ByteArray))⟩:S45)]:List (S45))))) else (none)) else (none))=some (r1,r2):=h
 clear h
 by_cases c2:3+a0.size≤9223372036854775807
 ·rw [if_pos c2] at H
  have c2b0:=eq_true c2
  have c2b1:decide (3+a0.size≤9223372036854775807)=true:=decide_eq_true c2
  try have c2b2:(9223372036854775807 < 3+a0.size)=False:=eq_false (Nat.not_lt.2 c2)
  by_cases c3:((⟨#[99,110,61]⟩:ByteArray)++a0).size+4≤9223372036854775807
  ·rw [if_pos c3] at H
   have c3b0:=eq_true c3
   have c3b1:decide (((⟨#[99,110,61]⟩:ByteArray)++a0).size+4≤9223372036854775807)=true:=decide_eq_true c3
   try have c3b2:(9223372036854775807 < ((⟨#[99,110,61]⟩:ByteArray)++a0).size+4)=False:=eq_false (Nat.not_lt.2 c3)
   try (have c3b3:=c3b2;simp only [ByteArray.size_append,show ∀ a:UInt8,(⟨#[a]⟩:ByteArray).size=1 from fun _=>rfl,show ∀ a b:UInt8,(⟨#[a,b]⟩:ByteArray).size=2 from fun _ _=>rfl,show ∀ a b c:UInt8,(⟨#[a,b,c]⟩:ByteArray).size=3 from fun _ _ _=>rfl] at c3b3)
   obtain ⟨y102,hy102⟩:∃ y_:List ByteArray,y_=(([a0]:List ByteArray)):=⟨_,rfl⟩
   replace H:(some (((⟨#[99,110,61]⟩:ByteArray)++a0)++(⟨#[44,111,61,120]⟩:ByteArray),(([(⟨(⟨#[99,110]⟩:ByteArray),y102⟩:S45),(⟨(⟨#[111,98,106,101,99,116,99,108,97,115,115]⟩:ByteArray),(([(⟨#[112,101,114,115,111,110]⟩:ByteArray)]:List ByteArray))⟩:S45),(⟨(⟨#[115,110]⟩:ByteArray),(([(⟨#[115]⟩:ByteArray)]:List ByteArray))⟩:S45)]:List (S45)))))=some (r1,r2):=by first|(rw [hy102];with_reducible exact H)|(have H2_:=(Option.bind_some _ _).symm.trans H;rw [hy102];with_reducible exact H2_)|(have H2_:=(Option.bind_some _ _).symm.trans H;with_reducible exact H2_)|with_reducible exact H|(rw [hy102];exact H)|exact H
   have Ny102:=aa.mk hy102
   clear hy102
   obtain ⟨y105,hy105⟩:∃ y_:List ByteArray,y_=(([(⟨#[112,101,114,115,111,110]⟩:ByteArray)]:List ByteArray)):=⟨_,rfl⟩
   replace H:(some (((⟨#[99,110,61]⟩:ByteArray)++a0)++(⟨#[44,111,61,120]⟩:ByteArray),(([(⟨(⟨#[99,110]⟩:ByteArray),y102⟩:S45),(⟨(⟨#[111,98,106,101,99,116,99,108,97,115,115]⟩:ByteArray),y105⟩:S45),(⟨(⟨#[115,110]⟩:ByteArray),(([(⟨#[115]⟩:ByteArray)]:List ByteArray))⟩:S45)]:List (S45)))))=some (r1,r2):=by first|(rw [hy105];with_reducible exact H)|(have H2_:=(Option.bind_some _ _).symm.trans H;rw [hy105];with_reducible exact H2_)|(have H2_:=(Option.bind_some _ _).symm.trans H;with_reducible exact H2_)|with_reducible exact H|(rw [hy105];exact H)|exact H
   have Ny105:=aa.mk hy105
   clear hy105
   obtain ⟨y108,hy108⟩:∃ y_:List ByteArray,y_=(([(⟨#[115]⟩:ByteArray)]:List ByteArray)):=⟨_,rfl⟩
   replace H:(some (((⟨#[99,110,61]⟩:ByteArray)++a0)++(⟨#[44,111,61,120]⟩:ByteArray),(([(⟨(⟨#[99,110]⟩:ByteArray),y102⟩:S45),(⟨(⟨#[111,98,106,101,99,116,99,108,97,115,115]⟩:ByteArray),y105⟩:S45),(⟨(⟨#[115,110]⟩:ByteArray),y108⟩:S45)]:List (S45)))))=some (r1,r2):=by first|(rw [hy108];with_reducible exact H)|(have H2_:=(Option.bind_some _ _).symm.trans H;rw [hy108];with_reducible exact H2_)|(have H2_:=(Option.bind_some _ _).symm.trans H;with_reducible exact H2_)|with_reducible exact H|(rw [hy108];exact H)|exact H
   have Ny108:=aa.mk hy108
   clear hy108
   obtain ⟨y111,hy111⟩:∃ y_:List (S45),y_=(([(⟨(⟨#[99,110]⟩:ByteArray),y102⟩:S45),(⟨(⟨#[111,98,106,101,99,116,99,108,97,115,115]⟩:ByteArray),y105⟩:S45),(⟨(⟨#[115,110]⟩:ByteArray),y108⟩:S45)]:List (S45))):=⟨_,rfl⟩
   replace H:(some (((⟨#[99,110,61]⟩:ByteArray)++a0)++(⟨#[44,111,61,120]⟩:ByteArray),y111))=some (r1,r2):=by first|(rw [hy111];with_reducible exact H)|(have H2_:=(Option.bind_some _ _).symm.trans H;rw [hy111];with_reducible exact H2_)|(have H2_:=(Option.bind_some _ _).symm.trans H;with_reducible exact H2_)|with_reducible exact H|(rw [hy111];exact H)|exact H
   have Ny111:=aa.mk hy111
   clear hy111
   simp only [Option.some.injEq,Prod.mk.injEq] at H
   obtain ⟨rfl,rfl⟩:=H
   go_enter Tryz.func29,Tryz.ntmps29
   go_wp2_with (first|((with_reducible refine bS (N:=2) rfl ?_);refine eu ?hg (N:=2) ?hd (cs:=#[.string (⟨#[]⟩:ByteArray),.slice none 0 0]) (t:=28) ?hr ?_;(case hd=>rfl);(case hg=>rfl);(case hr=>first|(go_simp;done)|(go_simp;rfl));intro gb101 hg w4 hbox hb;have n0_:=aa.mk (aD (by repeat (first|(with_reducible first|exact HB.out|apply af|apply ae|apply ag)|exact HB.out)) hb);have n1_:=aa.mk (hbox);have n2_:=aa.mk ((by rw [hg];exact (aG (by repeat (first|(with_reducible first|exact HB.out|apply af|apply ae|apply ag)|exact HB.out))):w.heap.size≤gb101));have n3_:=aa.mk ((by rw [hg];exact (aG (by repeat (first|(with_reducible first|exact HB.out|apply af|apply ae|apply ag)|exact HB.out))):w.heap.size≤gb101));clear HB;have HB:=n0_;have BK101:=n1_;have GW101:=n2_;have GE101:=n3_;clear n0_ n1_ n2_ n3_;clear hb hbox hg)|((with_reducible refine bS (N:=7) rfl ?_);refine o9 Kd.string _ 9 ?hg (N:=7) ?hd (xs:=([a0]:List ByteArray)) (inner:=[.string a0]) (ok:=fun _=>True) (okp:=fun _=>True) ?hr ?hp (fun _ hk=>hk) trivial (Below.refl _ _) (Nat.le_refl _) (by simp) ?_;(case hd=>rfl);(case hg=>rfl);(case hr=>first|(go_simp;done)|(go_simp;rfl));(case hp=>exact (bI.one (show Kd.M Kd.string _ _ _ a0 [.string a0] from rfl) (bI.none _ _)));intro v103 w5 ho6 hb hg_ hnew_ ht_;have HT104:=aa.mk ht_;clear ht_;clear hg_ hnew_;(first|rw [← Ny102.out] at ho6|(simp only [Int.reduceToNat] at ho6;rw [← Ny102.out] at ho6));have n0_:=aa.mk (Kd.dN (Kd.fu (M:=fun k_=>(w.heap.size≤k_)) ho6 (aG (by repeat (first|(with_reducible first|exact HB.out|apply af|apply ae|apply ag|refine ah ?_ GE101.out)|exact HB.out))) (fun k_ h_=>h_)) (aG (by repeat (first|(with_reducible first|exact HB.out|apply af|apply ae|apply ag|refine ah ?_ GE101.out)|exact HB.out))));have n1_:=aa.mk (aI (g:=gb101) (o:=.cells #[.string (⟨#[]⟩:ByteArray),.slice none 0 0] 28 (0,0)) (by (with_reducible repeat (first|refine au ?_ _|refine av ?_|refine ak ?_ _));exact BK101.out) hb);have n2_:=aa.mk (aD (by repeat (first|(with_reducible first|exact HB.out|apply af|apply ae|apply ag|refine ah ?_ GE101.out)|exact HB.out)) hb);clear BK101;clear HB;have HO104:=n0_;have BK101:=n1_;have HB:=n2_;clear n0_ n1_ n2_;clear hb ho6;obtain ⟨Ao7,co7,eo7⟩:=Kd.cO HO104.out;subst eo7)|((with_reducible refine bS (N:=9) rfl ?_);refine o9 Kd.string _ 9 ?hg (N:=9) ?hd (xs:=([(⟨#[112,101,114,115,111,110]⟩:ByteArray)]:List ByteArray)) (inner:=[.string (⟨#[112,101,114,115,111,110]⟩:ByteArray)]) (ok:=fun _=>True) (okp:=fun _=>True) ?hr ?hp (fun _ hk=>hk) trivial (Below.refl _ _) (Nat.le_refl _) (by simp) ?_;(case hd=>rfl);(case hg=>rfl);(case hr=>first|(go_simp;done)|(go_simp;rfl));(case hp=>exact (bI.one (show Kd.M Kd.string _ _ _ (⟨#[112,101,114,115,111,110]⟩:ByteArray) [.string (⟨#[112,101,114,115,111,110]⟩:ByteArray)] from rfl) (bI.none _ _)));intro v106 w8 ho9 hb hg_ hnew_ ht_;have HT107:=aa.mk ht_;clear ht_;clear hg_ hnew_;(first|rw [← Ny105.out] at ho9|(simp only [Int.reduceToNat] at ho9;rw [← Ny105.out] at ho9));have n0_:=aa.mk (Kd.eY (by (with_reducible repeat (first|apply Kd.bz|apply Kd.bq|apply Kd.bB));exact HO104.out) (Kd.dI ho9) hb);have n1_:=aa.mk (Kd.dN (Kd.gB (Kd.fu (M:=fun k_=>(w.heap.size≤k_)) ho9 (aG (by repeat (first|(with_reducible first|exact HB.out|apply af|apply ae|apply ag|refine ah ?_ GE101.out)|exact HB.out))) (fun k_ h_=>h_)) (Kd.iD (by (with_reducible repeat (first|apply Kd.bz|apply Kd.bq|apply Kd.bB));exact HO104.out))) (aG (by repeat (first|(with_reducible first|exact HB.out|apply af|apply ae|apply ag|refine ah ?_ GE101.out)|exact HB.out))));have n2_:=aa.mk (aI (g:=gb101) (o:=.cells #[.string (⟨#[]⟩:ByteArray),.slice none 0 0] 28 (0,0)) (by (with_reducible repeat (first|refine au ?_ _|refine av ?_|refine ak ?_ _));exact BK101.out) hb);have n3_:=aa.mk (aD (by repeat (first|(with_reducible first|exact HB.out|apply af|apply ae|apply ag|refine ah ?_ GE101.out)|exact HB.out)) hb);clear HO104;clear BK101;clear HB;have HO104:=n0_;have HO107:=n1_;have BK101:=n2_;have HB:=n3_;clear n0_ n1_ n2_ n3_;clear hb ho9;obtain ⟨Ao10,co10,eo10⟩:=Kd.cO HO107.out;subst eo10)|((with_reducible refine bS (N:=11) rfl ?_);refine o9 Kd.string _ 9 ?hg (N:=11) ?hd (xs:=([(⟨#[115]⟩:ByteArray)]:List ByteArray)) (inner:=[.string (⟨#[115]⟩:ByteArray)]) (ok:=fun _=>True) (okp:=fun _=>True) ?hr ?hp (fun _ hk=>hk) trivial (Below.refl _ _) (Nat.le_refl _) (by simp) ?_;(case hd=>rfl);(case hg=>rfl);(case hr=>first|(go_simp;done)|(go_simp;rfl));(case hp=>exact (bI.one (show Kd.M Kd.string _ _ _ (⟨#[115]⟩:ByteArray) [.string (⟨#[115]⟩:ByteArray)] from rfl) (bI.none _ _)));intro v109 w11 ho12 hb hg_ hnew_ ht_;have HT110:=aa.mk ht_;clear ht_;clear hg_ hnew_;(first|rw [← Ny108.out] at ho12|(simp only [Int.reduceToNat] at ho12;rw [← Ny108.out] at ho12));have n0_:=aa.mk (Kd.eY (by (with_reducible repeat (first|apply Kd.bz|apply Kd.bq|apply Kd.bB));exact HO104.out) (Kd.dI ho12) hb);have n1_:=aa.mk (Kd.eY (by (with_reducible repeat (first|apply Kd.bz|apply Kd.bq|apply Kd.bB));exact HO107.out) (Kd.dI ho12) hb);have n2_:=aa.mk (Kd.dN (Kd.gB (Kd.gB (Kd.fu (M:=fun k_=>(w.heap.size≤k_)) ho12 (aG (by repeat (first|(with_reducible first|exact HB.out|apply af|apply ae|apply ag|refine ah ?_ GE101.out)|exact HB.out))) (fun k_ h_=>h_)) (Kd.iD (by (with_reducible repeat (first|apply Kd.bz|apply Kd.bq|apply Kd.bB));exact HO104.out))) (Kd.iD (by (with_reducible repeat (first|apply Kd.bz|apply Kd.bq|apply Kd.bB));exact HO107.out))) (aG (by repeat (first|(with_reducible first|exact HB.out|apply af|apply ae|apply ag|refine ah ?_ GE101.out)|exact HB.out))));have n3_:=aa.mk (aI (g:=gb101) (o:=.cells #[.string (⟨#[]⟩:ByteArray),.slice none 0 0] 28 (0,0)) (by (with_reducible repeat (first|refine au ?_ _|refine av ?_|refine ak ?_ _));exact BK101.out) hb);have n4_:=aa.mk (aD (by repeat (first|(with_reducible first|exact HB.out|apply af|apply ae|apply ag|refine ah ?_ GE101.out)|exact HB.out)) hb);clear HO104;clear HO107;clear BK101;clear HB;have HO104:=n0_;have HO107:=n1_;have HO110:=n2_;have BK101:=n3_;have HB:=n4_;clear n0_ n1_ n2_ n3_ n4_;clear hb ho12;obtain ⟨Ao13,co13,eo13⟩:=Kd.cO HO110.out;subst eo13)|((with_reducible refine bS (N:=13) rfl ?_);refine Kd.mD ktA _ 45 ?hg (N':=13) ?hd (xs:=([(⟨(⟨#[99,110]⟩:ByteArray),y102⟩:S45),(⟨(⟨#[111,98,106,101,99,116,99,108,97,115,115]⟩:ByteArray),y105⟩:S45),(⟨(⟨#[115,110]⟩:ByteArray),y108⟩:S45)]:List (S45))) (inner:=[.string (⟨#[99,110]⟩:ByteArray),.slice Ao7 y102.length co7,.string (⟨#[111,98,106,101,99,116,99,108,97,115,115]⟩:ByteArray),.slice Ao10 y105.length co10,.string (⟨#[115,110]⟩:ByteArray),.slice Ao13 y108.length co13]) (ok:=(fun k_=>(w.heap.size≤k_)∧k_≠gb101)) (okp:=(fun k_=>(w.heap.size≤k_)∧k_≠gb101)) ?hr ?hp (fun _ hk=>hk) ((show ∀ k_,w11.heap.size≤k_→(fun k_=>(w.heap.size≤k_)∧k_≠gb101) k_ from fun k_ hk=>⟨(Nat.le_trans (aG (by repeat (first|(with_reducible first|exact HB.out|apply af|apply ae|apply ag|refine ah ?_ GE101.out)|exact HB.out))) hk),Kd.dC (g:=gb101) (o:=.cells #[.string (⟨#[]⟩:ByteArray),.slice none 0 0] 28 (0,0)) (by (with_reducible repeat (first|refine au ?_ _|refine av ?_|refine ak ?_ _));exact BK101.out) k_ hk⟩) _ (Nat.le_refl _)) (Below.refl _ _) (Nat.le_refl _) (by simp) ?_;(case hd=>rfl);(case hg=>rfl);(case hr=>first|(go_simp;done)|(go_simp;rfl));(case hp=>exact (bI.c2 (show Kd.FK ktA _ _ (⟨(⟨#[99,110]⟩:ByteArray),y102⟩:S45) [.string (⟨#[99,110]⟩:ByteArray),.slice Ao7 y102.length co7] from (ky _ _ (⟨(⟨#[99,110]⟩:ByteArray),y102⟩:S45) HT104.out (Kd.bL (Kd.bX (ok':=(fun k_=>(w.heap.size≤k_)∧k_≠gb101)) (Kd.bK (HO104.out) BK101.out (by decide)) (fun k_ hk=>⟨hk.1.1.1.1,hk.2⟩))).2.1 (Kd.R_F (Kd.bX (ok':=(fun k_=>(w.heap.size≤k_)∧k_≠gb101)) (Kd.bK (HO104.out) BK101.out (by decide)) (fun k_ hk=>⟨hk.1.1.1.1,hk.2⟩))))) (bI.c2 (show Kd.FK ktA _ _ (⟨(⟨#[111,98,106,101,99,116,99,108,97,115,115]⟩:ByteArray),y105⟩:S45) [.string (⟨#[111,98,106,101,99,116,99,108,97,115,115]⟩:ByteArray),.slice Ao10 y105.length co10] from (ky _ _ (⟨(⟨#[111,98,106,101,99,116,99,108,97,115,115]⟩:ByteArray),y105⟩:S45) HT107.out (Kd.bL (Kd.bX (ok':=(fun k_=>(w.heap.size≤k_)∧k_≠gb101)) (Kd.bK (HO107.out) BK101.out (by decide)) (fun k_ hk=>⟨hk.1.1.1.1,hk.2⟩))).2.1 (Kd.R_F (Kd.bX (ok':=(fun k_=>(w.heap.size≤k_)∧k_≠gb101)) (Kd.bK (HO107.out) BK101.out (by decide)) (fun k_ hk=>⟨hk.1.1.1.1,hk.2⟩))))) (bI.c2 (show Kd.FK ktA _ _ (⟨(⟨#[115,110]⟩:ByteArray),y108⟩:S45) [.string (⟨#[115,110]⟩:ByteArray),.slice Ao13 y108.length co13] from (ky _ _ (⟨(⟨#[115,110]⟩:ByteArray),y108⟩:S45) HT110.out (Kd.bL (Kd.bX (ok':=(fun k_=>(w.heap.size≤k_)∧k_≠gb101)) (Kd.bK (HO110.out) BK101.out (by decide)) (fun k_ hk=>⟨hk.1.1.1.1,hk.2⟩))).2.1 (Kd.R_F (Kd.bX (ok':=(fun k_=>(w.heap.size≤k_)∧k_≠gb101)) (Kd.bK (HO110.out) BK101.out (by decide)) (fun k_ hk=>⟨hk.1.1.1.1,hk.2⟩))))) (bI.none _ _)))));intro v112 w14 ho15 hb hg_ hnew_;clear hg_ hnew_;(first|rw [← Ny111.out] at ho15|(simp only [Int.reduceToNat] at ho15;rw [← Ny111.out] at ho15));have n0_:=aa.mk (Kd.fw ho15 (aG (by repeat (first|(with_reducible first|exact HB.out|apply af|apply ae|apply ag|refine ah ?_ GE101.out)|exact HB.out))));have n1_:=aa.mk (aI (g:=gb101) (o:=.cells #[.string (⟨#[]⟩:ByteArray),.slice none 0 0] 28 (0,0)) (by (with_reducible repeat (first|refine au ?_ _|refine av ?_|refine ak ?_ _));exact BK101.out) hb);have n2_:=aa.mk (aD (by repeat (first|(with_reducible first|exact HB.out|apply af|apply ae|apply ag|refine ah ?_ GE101.out)|exact HB.out)) hb);clear BK101;clear HB;clear HO104;clear HO107;clear HO110;have HO113:=n0_;have BK101:=n1_;have HB:=n2_;clear n0_ n1_ n2_;clear hb ho15;obtain ⟨Ao16,co16,eo16⟩:=Kd.dR HO113.out;subst eo16;have hcz17_0:w14.cell? ⟨gb101,0,none⟩=some (.string (⟨#[]⟩:ByteArray)):=(aj BK101.out 0).trans rfl;have hcz17_1:w14.cell? ⟨gb101,1,none⟩=some (.slice none 0 0):=(aj BK101.out 1).trans rfl;have hfz17_0:=ai BK101.out 0;have hfz17_1:=ai BK101.out 1))
   refine bodyPost_ret (results_cell_row rfl _ _ gb101 28 #[.string (((⟨#[99,110,61]⟩:ByteArray)++a0)++(⟨#[44,111,61,120]⟩:ByteArray)),.slice Ao16 y111.length co16] (0,0) _ rfl (by (with_reducible repeat (first|refine au ?_ _|refine av ?_|refine ak ?_ _));refine bG (cs:=#[.string (((⟨#[99,110,61]⟩:ByteArray)++a0)++(⟨#[44,111,61,120]⟩:ByteArray)),.slice none 0 0]) ?_ 1 _ (by first|rfl|(simp only [ay,ax];rfl)|simp [ay,ax]);(with_reducible repeat (first|refine au ?_ _|refine av ?_|refine ak ?_ _));refine bG (cs:=#[.string (⟨#[]⟩:ByteArray),.slice none 0 0]) ?_ 0 _ (by first|rfl|(simp only [ay,ax];rfl)|simp [ay,ax]);(with_reducible repeat (first|refine au ?_ _|refine av ?_|refine ak ?_ _));exact BK101.out) Tryz.underlying28 rfl (by kernel_rfl)) rfl ?_
   exact ⟨_,by first|rfl|(simp [aM,aK] <;> rfl)|(simp [*,aM,aK] <;> rfl),by (with_reducible repeat (first|apply Kd.aZ|apply Kd.aY|apply Kd.bn));exact Kd.bH (Kd.dQ (p:=⟨gb101,1,none⟩) (Kd.dQ (p:=⟨gb101,0,none⟩) (Kd.bH HO113.out (fun k_ hk=>(⟨hk,hk.2⟩:_∧k_≠gb101))) (fun _ hk=>hk.2) (.string (((⟨#[99,110,61]⟩:ByteArray)++a0)++(⟨#[44,111,61,120]⟩:ByteArray)))) (fun _ hk=>hk.2) (.slice Ao16 y111.length co16)) (fun _ hk=>hk.1.1),by repeat (first|(with_reducible first|exact HB.out|apply af|apply ae|apply ag|refine ah ?_ GE101.out)|exact HB.out)⟩
  ·rw [if_neg c3] at H
   exact absurd H (by simp)
 ·rw [if_neg c2] at H
  exact absurd H (by simp)
end Go.Proofs.YthfpaoacjpjnfaaGreatDoor.P
