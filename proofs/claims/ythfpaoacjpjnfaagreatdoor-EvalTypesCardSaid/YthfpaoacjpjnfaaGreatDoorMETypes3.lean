/- Part 3 of 8 of the proof. See the last part. -/
import Derived.Test.YthfpaoacjpjnfaaGreatDoorMETypes2
import Derived.Shelf.Strings.Builder1
import Derived.Lib.OthersKept
import Derived.StillTailTactics
import Derived.WideLaws
import Derived.Shelf.Abstract
import Derived.Deep.RegionHeld3
set_option linter.unusedVariables false
set_option linter.unusedSimpArgs false
namespace Go.Proofs.YthfpaoacjpjnfaaGreatDoor.P
open Go.RowKit Go.Proofs.YthfpaoacjpjnfaaGreatDoorW.PrintWords Go.Proofs.YthfpaoacjpjnfaaGreatDoorW.PrintLast Go.Proofs.YthfpaoacjpjnfaaGreatDoorW.PrintMore
attribute [local go_sem] dP dS eP eO dE dD dQ dR
mutual
def bA.l0:Nat→ByteArray→List (dx)→Bool→Option ((List (dx)) × Bool)
 | 0,_,_,_=>none
 | k+1,x0,x4,x5=>if x5=true then ((strings_Cut.f x0 (⟨#[61]⟩:ByteArray)).bind fun bt160=>(if bt160.2.2=true then ((eU.f bt160.1).bind fun t163=>(if t163=true then (bA.j1 k x4 bt160.1 bt160.2.1 ((x4.length:Int) == 8)) else (bA.j1 k x4 bt160.1 bt160.2.1 true))) else (bA.j1 k x4 bt160.1 bt160.2.1 true))) else ((gp.f k x4).bind fun t159=>(if t159=true then (some (x4,true)) else (some (([]:List (dx)),false))))
def bA.j1:Nat→List (dx)→ByteArray→ByteArray→Bool→Option ((List (dx)) × Bool)
 | 0,_,_,_,_=>none
 | k+1,x4,x6,x7,x30=>if x30=true then (some (([]:List (dx)),false)) else ((bD.f k x7).bind fun bt165=>(if bt165.2.2=true then (if x4.length < 4398046511104 then ((some (x4++[(⟨x6,bt165.1⟩:dx)]:List (dx))).bind fun y168=>(if bt165.2.1.toList=([]:List UInt8) then (bA.l0 k bt165.2.1 y168 (bt165.2.1.toList != ([]:List UInt8))) else (if 1≤(bt165.2.1.size:Int) then (bA.l0 k (bt165.2.1.extract 1 bt165.2.1.size) y168 (bt165.2.1.toList != ([]:List UInt8))) else (none)))) else (none)) else (some (([]:List (dx)),false))))
end
def bA.f (k:Nat) (a0:ByteArray):Option ((List (dx)) × Bool):=bA.l0 k a0 ([]:List (dx)) (a0.toList != ([]:List UInt8))
set_option maxHeartbeats 8000000 in
set_option maxRecDepth 100000 in
theorem bA.calls (k:Nat) (a0:ByteArray) (r1:List (dx)) (r2:Bool) (w:World) (hG:Gl w) (h:bA.f k a0=some (r1,r2)) :
  Calls Tryz.prog 90 #[.string a0] w fun e w'=>∃ v0_:Value,e=.returned (.tuple #[v0_,.bool r2])∧Kd.R nI 102 w' w.heap.size (fun _=>True) v0_ r1∧Below w.heap.size w w':=by
 have hu102:=Tryz.underlying102
 have HB:=aa.mk (Below.refl w.heap.size w)
 have HG:=aa.mk hG
 clear hG
 have H:(bA.l0 k a0 ([]:List (dx)) (a0.toList != ([]:List UInt8)))=some (r1,r2):=h
 clear h
 have H':=aa.mk H
 clear H
 go_enter Tryz.func90,Tryz.ntmps90
 go_wp2
 go_loopg [0,4,5] k (fun kq v0 v4 v5 w'=>∃ (x0_1:ByteArray) (x4_1:List (dx)) (x5_1:Bool),v0=.string x0_1∧v5=.bool x5_1∧aa (bA.l0 kq x0_1 x4_1 x5_1=some (r1,r2))∧aa (kq≤k)∧aa (Kd.R nI 102 w' w.heap.size (fun _=>True) v4 x4_1)∧aa (Below w.heap.size w w'))
 case atStart=>exact ⟨(a0),(([]:List (dx))),((a0.toList != ([]:List UInt8))),(by first|rfl|(simp;done)|(simp [*];done)|(simp [*,aK,aM,bX];done)|(simp only [au,ak];done)|(simp only [au,ak];simp;done)|(simp only [au,ak];simp [*];done)),(by first|rfl|(simp;done)|(simp [*];done)|(simp [*,aK,aM,bX];done)|(simp only [au,ak];done)|(simp only [au,ak];simp;done)|(simp only [au,ak];simp [*];done)),H',⟨Nat.le_refl _⟩,⟨by first|exact Kd.kH _ _ _ _ _|exact Kd.qj _ _ _ _ _|exact Kd.qE _ _ _ _ _|exact Kd.qQ _ _ _ _ _|exact Kd.qM _ _ _ _ _⟩,⟨by repeat (first|(with_reducible first|exact HB.out|apply af|apply ae|apply ag)|exact HB.out)⟩⟩
 case round =>
  clear H'
  obtain ⟨x0_1,x4_1,x5_1,rfl,rfl,HA,HK1,HO_4,HB⟩:=hrel
  cases gk with
  | zero=>exact absurd HA.out (by simp [bA.l0])
  | succ k1 =>
   have H:=HA.out
   clear HA
   simp only [bA.l0] at H
   by_cases c2:x5_1=true
   ·subst c2
    have H1:((strings_Cut.f x0_1 (⟨#[61]⟩:ByteArray)).bind fun bt160=>(if bt160.2.2=true then ((eU.f bt160.1).bind fun t163=>(if t163=true then (bA.j1 k1 x4_1 bt160.1 bt160.2.1 ((x4_1.length:Int) == 8)) else (bA.j1 k1 x4_1 bt160.1 bt160.2.1 true))) else (bA.j1 k1 x4_1 bt160.1 bt160.2.1 true)))=some (r1,r2):=by rw [if_pos rfl] at H;exact H
    clear H
    have H:=H1
    clear H1
    replace H:=Option.bind_eq_some_iff.mp H
    obtain ⟨⟨t160,t161,t162⟩,A30,H⟩:=H
    replace H:(if t162=true then ((eU.f t160).bind fun t163=>(if t163=true then (bA.j1 k1 x4_1 t160 t161 ((x4_1.length:Int) == 8)) else (bA.j1 k1 x4_1 t160 t161 true))) else (bA.j1 k1 x4_1 t160 t161 true))=some (r1,r2):=H
    have A3:=aa.mk A30
    clear A30
    have HC4:=aa.mk H
    clear H
    go_upto_region 5 with (first|((with_reducible refine aH (f:=83) rfl ?_);refine bq (some 15) rfl rfl Tryz.func83 (by kernel_rfl) rfl #[.string x0_1,.string (⟨#[61]⟩:ByteArray)] rfl (by (try simp only [List.map_toArray,List.map_cons,List.map_nil]);first|done|rfl|(simp only [List.length_drop,List.length_take];rfl)) ?_;(with_reducible refine (strings_Cut.calls x0_1 (⟨#[61]⟩:ByteArray) t160 t161 t162 _ ?side1 A3.out).mono ?_);(case side1=>first|exact HG.out|exact Gl.drewN HG.out _|exact Gl.below HG.out (by repeat (first|(with_reducible first|exact HB.out|apply af|apply ae|apply ag)|exact HB.out)));rintro e w' ⟨rfl,⟨nd,rfl⟩⟩;refine ⟨_,rfl,?_⟩))
    (try simp only [Act.put,List.setIfInBounds_toArray,List.set_cons_zero,List.set_cons_succ])
    go_cut [30] (fun v30 wc=>∃ (kq:Nat) (x30_3:Bool),v30=.bool x30_3∧aa (bA.j1 kq x4_1 t160 t161 x30_3=some (r1,r2))∧aa (kq≤k1)∧aa (Kd.R nI 102 wc w.heap.size (fun _=>True) u4 x4_1)∧aa (Below w.heap.size w wc))
    case first =>
     have H:=HC4.out
     clear HC4
     by_cases c5:t162=true
     ·subst c5
      have H1:((eU.f t160).bind fun t163=>(if t163=true then (bA.j1 k1 x4_1 t160 t161 ((x4_1.length:Int) == 8)) else (bA.j1 k1 x4_1 t160 t161 true)))=some (r1,r2):=by rw [if_pos rfl] at H;exact H
      clear H
      have H:=H1
      clear H1
      replace H:=Option.bind_eq_some_iff.mp H
      obtain ⟨t163,A60,H⟩:=H
      replace H:(if t163=true then (bA.j1 k1 x4_1 t160 t161 ((x4_1.length:Int) == 8)) else (bA.j1 k1 x4_1 t160 t161 true))=some (r1,r2):=H
      have A6:=aa.mk A60
      clear A60
      by_cases c7:t163=true
      ·subst c7
       have H1:(bA.j1 k1 x4_1 t160 t161 ((x4_1.length:Int) == 8))=some (r1,r2):=by rw [if_pos rfl] at H;exact H
       clear H
       have H:=H1
       clear H1
       have H':=aa.mk H
       clear H
       go_wp2_with (first|(go_at_call 112;(with_reducible refine (eU.calls t160 true _ A6.out).mono ?_);rintro e w8 ⟨rfl,hb⟩;have n0_:=aa.mk (Kd.bE (by (with_reducible repeat (first|apply Kd.aQ|apply Kd.aN|apply Kd.aU));exact HO_4.out) hb);have n1_:=aa.mk (aA (by repeat (first|(with_reducible first|exact HB.out|apply af|apply ae|apply ag)|exact HB.out)) hb);clear HO_4;clear HB;have HO_4:=n0_;have HB:=n1_;clear n0_ n1_;(try clear hb);(try clear hb2);(try clear hk);(try clear hi);obtain ⟨Ao9,co9,eo9⟩:=Kd.cu HO_4.out;subst eo9))
       go_meet
       case rel=>exact ⟨_,(((x4_1.length:Int) == 8)),(by first|rfl|(simp;done)|(simp [*];done)|(simp [*,aK,aM,bX];done)|(simp only [au,ak];done)|(simp only [au,ak];simp;done)|(simp only [au,ak];simp [*];done)),H',⟨by have:=HK1.out;first|omega|exact Nat.le_refl _⟩,⟨by (with_reducible repeat (first|apply Kd.aQ|apply Kd.aN|apply Kd.aU));exact HO_4.out⟩,⟨by repeat (first|(with_reducible first|exact HB.out|apply af|apply ae|apply ag)|exact HB.out)⟩⟩
      ·replace c7:=Bool.eq_false_iff.mpr c7
       subst c7
       have H1:(bA.j1 k1 x4_1 t160 t161 true)=some (r1,r2):=by rw [if_neg (show ¬ (false=true) by decide)] at H;exact H
       clear H
       have H:=H1
       clear H1
       have H':=aa.mk H
       clear H
       go_wp2_with (first|(go_at_call 112;(with_reducible refine (eU.calls t160 false _ A6.out).mono ?_);rintro e w10 ⟨rfl,hb⟩;have n0_:=aa.mk (Kd.bE (by (with_reducible repeat (first|apply Kd.aQ|apply Kd.aN|apply Kd.aU));exact HO_4.out) hb);have n1_:=aa.mk (aA (by repeat (first|(with_reducible first|exact HB.out|apply af|apply ae|apply ag)|exact HB.out)) hb);clear HO_4;clear HB;have HO_4:=n0_;have HB:=n1_;clear n0_ n1_;(try clear hb);(try clear hb2);(try clear hk);(try clear hi)))
       go_meet
       case rel=>exact ⟨_,(true),(by first|rfl|(simp;done)|(simp [*];done)|(simp [*,aK,aM,bX];done)|(simp only [au,ak];done)|(simp only [au,ak];simp;done)|(simp only [au,ak];simp [*];done)),H',⟨by have:=HK1.out;first|omega|exact Nat.le_refl _⟩,⟨by (with_reducible repeat (first|apply Kd.aQ|apply Kd.aN|apply Kd.aU));exact HO_4.out⟩,⟨by repeat (first|(with_reducible first|exact HB.out|apply af|apply ae|apply ag)|exact HB.out)⟩⟩
     ·replace c5:=Bool.eq_false_iff.mpr c5
      subst c5
      have H1:(bA.j1 k1 x4_1 t160 t161 true)=some (r1,r2):=by rw [if_neg (show ¬ (false=true) by decide)] at H;exact H
      clear H
      have H:=H1
      clear H1
      have H':=aa.mk H
      clear H
      go_wp2
      go_meet
      case rel=>exact ⟨_,(true),(by first|rfl|(simp;done)|(simp [*];done)|(simp [*,aK,aM,bX];done)|(simp only [au,ak];done)|(simp only [au,ak];simp;done)|(simp only [au,ak];simp [*];done)),H',⟨by have:=HK1.out;first|omega|exact Nat.le_refl _⟩,⟨by (with_reducible repeat (first|apply Kd.aQ|apply Kd.aN|apply Kd.aU));exact HO_4.out⟩,⟨by repeat (first|(with_reducible first|exact HB.out|apply af|apply ae|apply ag)|exact HB.out)⟩⟩
    case rest =>
     clear HC4
     try clear c2
     try clear p2
     try clear c5
     try clear c7
     try clear c8
     try clear c9
     obtain ⟨kq,x30_3,rfl,HA,HJ3,HO_4,HB⟩:=hcut
     cases kq with
     | zero=>exact absurd HA.out (by simp [bA.j1])
     | succ kj3 =>
      have H:=HA.out
      clear HA
      simp only [bA.j1] at H
      by_cases c11:x30_3=true
      ·subst c11
       have H1:(some (([]:List (dx)),false))=some (r1,r2):=by rw [if_pos rfl] at H;exact H
       clear H
       have H:=H1
       clear H1
       simp only [Option.some.injEq,Prod.mk.injEq] at H
       obtain ⟨rfl,rfl⟩:=H
       go_wp2
       go_ret2
       exact ⟨_,by first|rfl|(simp [aD,aG] <;> rfl)|(simp [*,aD,aG] <;> rfl),by first|exact Kd.kH _ _ _ _ _|exact Kd.qj _ _ _ _ _|exact Kd.qE _ _ _ _ _|exact Kd.qQ _ _ _ _ _|exact Kd.qM _ _ _ _ _,by repeat (first|(with_reducible first|exact HB.out|apply af|apply ae|apply ag)|exact HB.out)⟩
      ·replace c11:=Bool.eq_false_iff.mpr c11
       subst c11
       have H1:((bD.f kj3 t161).bind fun bt165=>(if bt165.2.2=true then (if x4_1.length < 4398046511104 then ((some (x4_1++[(⟨t160,bt165.1⟩:dx)]:List (dx))).bind fun y168=>(if bt165.2.1.toList=([]:List UInt8) then (bA.l0 kj3 bt165.2.1 y168 (bt165.2.1.toList != ([]:List UInt8))) else (if 1≤(bt165.2.1.size:Int) then (bA.l0 kj3 (bt165.2.1.extract 1 bt165.2.1.size) y168 (bt165.2.1.toList != ([]:List UInt8))) else (none)))) else (none)) else (some (([]:List (dx)),false))))=some (r1,r2):=by rw [if_neg (show ¬ (false=true) by decide)] at H;exact H
       clear H
       have H:=H1
       clear H1
       replace H:=Option.bind_eq_some_iff.mp H
       obtain ⟨⟨t165,t166,t167⟩,A120,H⟩:=H
       replace H:(if t167=true then (if x4_1.length < 4398046511104 then ((some (x4_1++[(⟨t160,t165⟩:dx)]:List (dx))).bind fun y168=>(if t166.toList=([]:List UInt8) then (bA.l0 kj3 t166 y168 (t166.toList != ([]:List UInt8))) else (if 1≤(t166.size:Int) then (bA.l0 kj3 (t166.extract 1 t166.size) y168 (t166.toList != ([]:List UInt8))) else (none)))) else (none)) else (some (([]:List (dx)),false)))=some (r1,r2):=H
       have A12:=aa.mk A120
       clear A120
       by_cases c13:t167=true
       ·subst c13
        have H1:(if x4_1.length < 4398046511104 then ((some (x4_1++[(⟨t160,t165⟩:dx)]:List (dx))).bind fun y168=>(if t166.toList=([]:List UInt8) then (bA.l0 kj3 t166 y168 (t166.toList != ([]:List UInt8))) else (if 1≤(t166.size:Int) then (bA.l0 kj3 (t166.extract 1 t166.size) y168 (t166.toList != ([]:List UInt8))) else (none)))) else (none))=some (r1,r2):=by rw [if_pos rfl] at H;exact H
        clear H
        have H:=H1
        clear H1
        by_cases c14:x4_1.length < 4398046511104
        ·rw [if_pos c14] at H
         have LMc14:=aa.mk c14
         clear c14
         obtain ⟨y168,hy168⟩:∃ y_:List (dx),y_=(x4_1++[(⟨t160,t165⟩:dx)]):=⟨_,rfl⟩
         replace H:(if t166.toList=([]:List UInt8) then (bA.l0 kj3 t166 y168 (t166.toList != ([]:List UInt8))) else (if 1≤(t166.size:Int) then (bA.l0 kj3 (t166.extract 1 t166.size) y168 (t166.toList != ([]:List UInt8))) else (none)))=some (r1,r2):=by first|(rw [hy168];with_reducible exact H)|(have H2_:=(Option.bind_some _ _).symm.trans H;rw [hy168];with_reducible exact H2_)|(have H2_:=(Option.bind_some _ _).symm.trans H;with_reducible exact H2_)|with_reducible exact H|(rw [hy168];exact H)|exact H
         have Ny168:=aa.mk hy168
         clear hy168
         by_cases c15:t166.toList=([]:List UInt8)
         ·rw [if_pos c15] at H
          have c15b0:(t166.toList == ([]:List UInt8))=true:=beq_iff_eq.mpr c15
          have c15b1:(t166.toList != ([]:List UInt8))=false:=bne_eq_false_iff_eq.mpr c15
          clear c15
          have H':=aa.mk H
          clear H
          go_wp2_with (first|((with_reducible refine cz (N:=9) rfl ?_);(try (refine dW (by rfl) ?_;dsimp only));refine dO ?hg (N:=9) ?hd (cs:=#[.string (⟨#[]⟩:ByteArray),.string (⟨#[]⟩:ByteArray)]) (t:=102) ?hr ?_;(case hd=>rfl);(case hg=>rfl);(case hr=>first|(go_simp;done)|(go_simp;rfl));intro gb164 hg w16 hbox hb;have n0_:=aa.mk (Kd.bE (Kd.pu (by (with_reducible repeat (first|apply Kd.aQ|apply Kd.aN|apply Kd.aU));exact HO_4.out) gb164 (Nat.le_of_eq hg.symm)) hb);have n1_:=aa.mk (aA (by repeat (first|(with_reducible first|exact HB.out|apply af|apply ae|apply ag)|exact HB.out)) hb);have n2_:=aa.mk (hbox);have n3_:=aa.mk ((by rw [hg];exact (aC (by repeat (first|(with_reducible first|exact HB.out|apply af|apply ae|apply ag)|exact HB.out))):w.heap.size≤gb164));have n4_:=aa.mk ((by rw [hg];exact (aC (by repeat (first|(with_reducible first|exact HB.out|apply af|apply ae|apply ag)|exact HB.out))):w.heap.size≤gb164));clear HO_4;clear HB;have HO_4:=n0_;have HB:=n1_;have BK164:=n2_;have GW164:=n3_;have GE164:=n4_;clear n0_ n1_ n2_ n3_ n4_;clear hb hbox hg;have hcz17_0:w16.cell? ⟨gb164,0,none⟩=some (.string (⟨#[]⟩:ByteArray)):=(az BK164.out 0).trans rfl;have hcz17_1:w16.cell? ⟨gb164,1,none⟩=some (.string (⟨#[]⟩:ByteArray)):=(az BK164.out 1).trans rfl;have hfz17_0:=ay BK164.out 0;have hfz17_1:=ay BK164.out 1)|((with_reducible refine aH (f:=113) rfl ?_);refine bq (some 35) rfl rfl Tryz.func113 (by kernel_rfl) rfl #[.string t161] rfl (by (try simp only [List.map_toArray,List.map_cons,List.map_nil]);first|done|rfl|(simp only [List.length_drop,List.length_take];rfl)) ?_;(with_reducible refine (bD.calls kj3 t161 t165 t166 true _ A12.out).mono ?_);rintro e w18 ⟨rfl,hb⟩;refine ⟨_,rfl,?_⟩;have n0_:=aa.mk (Kd.bE (by (with_reducible repeat (first|apply Kd.aQ|apply Kd.aN|apply Kd.aU));exact (Kd.bK (Kd.gQ (p:=⟨gb164,1,none⟩) (Kd.gQ (p:=⟨gb164,0,none⟩) (Kd.bK HO_4.out (fun k_ hk=>(⟨hk,hk.2⟩:_∧k_≠gb164))) (fun _ hk=>hk.2) (.string t160)) (fun _ hk=>hk.2) (.string (⟨#[]⟩:ByteArray))) (fun _ h_=>h_.1))) hb);have n1_:=aa.mk (aI (g:=gb164) (o:=.cells #[.string t160,.string (⟨#[]⟩:ByteArray)] 102 (0,0)) (by (with_reducible repeat (first|refine aj ?_ _|refine ax ?_|refine ai ?_ _));refine bT (cs:=#[.string t160,.string (⟨#[]⟩:ByteArray)]) ?_ 1 _ (by first|rfl|(simp only [au,ak];rfl)|simp [au,ak]);(with_reducible repeat (first|refine aj ?_ _|refine ax ?_|refine ai ?_ _));refine bT (cs:=#[.string (⟨#[]⟩:ByteArray),.string (⟨#[]⟩:ByteArray)]) ?_ 0 _ (by first|rfl|(simp only [au,ak];rfl)|simp [au,ak]);(with_reducible repeat (first|refine aj ?_ _|refine ax ?_|refine ai ?_ _));exact BK164.out) hb);have n2_:=aa.mk (aA (by repeat (first|(with_reducible first|exact HB.out|apply af|apply ae|apply ag|refine ah ?_ GE164.out)|exact HB.out)) hb);clear HO_4;clear BK164;clear HB;have HO_4:=n0_;have BK164:=n1_;have HB:=n2_;clear n0_ n1_ n2_;(try clear hb);(try clear hb2);(try clear hk);(try clear hi);have hcz19_0:w18.cell? ⟨gb164,0,none⟩=some (.string t160):=(az BK164.out 0).trans rfl;have hcz19_1:w18.cell? ⟨gb164,1,none⟩=some (.string (⟨#[]⟩:ByteArray)):=(az BK164.out 1).trans rfl;have hfz19_0:=ay BK164.out 0;have hfz19_1:=ay BK164.out 1)|((with_reducible refine dC (b:=.append) (xs:=#[.tmp 42,.tmp 44]) rfl ?_);(try (refine dW (by rfl) ?_;dsimp only));at_builtin;refine Kd.fF nI (w0:=w) w.heap.size rfl (.tmp 42) (.tmp 44) 98 102 (.agg #[(.string ⟨#[]⟩),(.string ⟨#[]⟩)]) 32 rfl Tryz.underlying98 vD rfl (by decide) (by omega) u4 x4_1 (⟨t160,t165⟩:dx) [.string t160,.string t165] (fun k_=>k_≠gb164) (fun _=>False) rfl (by first|(go_simp;done)|(go_simp;rfl)) ?aP (fun _ hk=>hk.elim) ?aF ?aO ?aB ?aS ?aL ?_;(case aP=>exact jO _ _ _ (⟨t160,t165⟩:dx));(case aB=>exact (by repeat (first|(with_reducible first|exact HB.out|apply af|apply ae|apply ag|refine ah ?_ GE164.out)|exact HB.out)));(case aF=>exact (fun k_ hk=>Kd.ig (g:=gb164) (o:=.cells #[.string t160,.string t165] 102 (0,0)) (by (with_reducible repeat (first|refine aj ?_ _|refine ax ?_|refine ai ?_ _));refine bT (cs:=#[.string t160,.string (⟨#[]⟩:ByteArray)]) ?_ 1 _ (by first|rfl|(simp only [au,ak];rfl)|simp [au,ak]);(with_reducible repeat (first|refine aj ?_ _|refine ax ?_|refine ai ?_ _));exact BK164.out) k_ hk));(case aO=>exact (by (with_reducible repeat (first|apply Kd.aQ|apply Kd.aN|apply Kd.aU));exact Kd.bK (Kd.gQ (p:=⟨gb164,1,none⟩) (Kd.bK HO_4.out (fun k_ hk=>(⟨hk,hk.2⟩:_∧k_≠gb164))) (fun _ hk=>hk.2) (.string t165)) (fun _ hk=>hk.1.2)));(case aS=>exact (aC (by repeat (first|(with_reducible first|exact HB.out|apply af|apply ae|apply ag|refine ah ?_ GE164.out)|exact HB.out))));(case aL=>have:=LMc14.out;omega);intro v169 w20 ho hb hg hat;rw [← Ny168.out] at ho;have n0_:=aa.mk (dm (g:=gb164) (o:=.cells #[.string t160,.string t165] 102 (0,0)) (by (with_reducible repeat (first|refine aj ?_ _|refine ax ?_|refine ai ?_ _));refine bT (cs:=#[.string t160,.string (⟨#[]⟩:ByteArray)]) ?_ 1 _ (by first|rfl|(simp only [au,ak];rfl)|simp [au,ak]);(with_reducible repeat (first|refine aj ?_ _|refine ax ?_|refine ai ?_ _));exact BK164.out) hg (Kd.xH HO_4.out (fun _ hk=>hk.2)));have n1_:=aa.mk (hb);have n2_:=aa.mk (ho);clear BK164;clear HB;clear HO_4;have BK164:=n0_;have HB:=n1_;have HO170:=n2_;clear n0_ n1_ n2_;clear ho hb hg hat))
          go_roundg kj3
          case measure=>have:=HK1.out;have:=HJ3.out;omega
          case rel=>exact ⟨(t166),(y168),((t166.toList != ([]:List UInt8))),(by first|rfl|(simp;done)|(simp [*];done)|(simp [*,aK,aM,bX];done)|(simp only [au,ak];done)|(simp only [au,ak];simp;done)|(simp only [au,ak];simp [*];done)),(by first|rfl|(simp;done)|(simp [*];done)|(simp [*,aK,aM,bX];done)|(simp only [au,ak];done)|(simp only [au,ak];simp;done)|(simp only [au,ak];simp [*];done)),H',⟨by have:=HK1.out;have:=HJ3.out;omega⟩,⟨by (with_reducible repeat (first|apply Kd.aQ|apply Kd.aN|apply Kd.aU));exact Kd.bK HO170.out (fun _ hk=>trivial)⟩,⟨by repeat (first|(with_reducible first|exact HB.out|apply af|apply ae|apply ag|refine ah ?_ GE164.out)|exact HB.out)⟩⟩
         ·rw [if_neg c15] at H
          have c15b0:(t166.toList == ([]:List UInt8))=false:=beq_eq_false_iff_ne.mpr c15
          have c15b1:(t166.toList != ([]:List UInt8))=true:=bne_iff_ne.mpr c15
          by_cases c21:1≤(t166.size:Int)
          ·rw [if_pos c21] at H
           have c21b0:=eq_true c21
           have c21b1:decide (1≤(t166.size:Int))=true:=decide_eq_true c21
           clear c21
           have H':=aa.mk H
           clear H
           go_wp2_with (first|((with_reducible refine cz (N:=9) rfl ?_);(try (refine dW (by rfl) ?_;dsimp only));refine dO ?hg (N:=9) ?hd (cs:=#[.string (⟨#[]⟩:ByteArray),.string (⟨#[]⟩:ByteArray)]) (t:=102) ?hr ?_;(case hd=>rfl);(case hg=>rfl);(case hr=>first|(go_simp;done)|(go_simp;rfl));intro gb164 hg w22 hbox hb;have n0_:=aa.mk (Kd.bE (Kd.pu (by (with_reducible repeat (first|apply Kd.aQ|apply Kd.aN|apply Kd.aU));exact HO_4.out) gb164 (Nat.le_of_eq hg.symm)) hb);have n1_:=aa.mk (aA (by repeat (first|(with_reducible first|exact HB.out|apply af|apply ae|apply ag)|exact HB.out)) hb);have n2_:=aa.mk (hbox);have n3_:=aa.mk ((by rw [hg];exact (aC (by repeat (first|(with_reducible first|exact HB.out|apply af|apply ae|apply ag)|exact HB.out))):w.heap.size≤gb164));have n4_:=aa.mk ((by rw [hg];exact (aC (by repeat (first|(with_reducible first|exact HB.out|apply af|apply ae|apply ag)|exact HB.out))):w.heap.size≤gb164));clear HO_4;clear HB;have HO_4:=n0_;have HB:=n1_;have BK164:=n2_;have GW164:=n3_;have GE164:=n4_;clear n0_ n1_ n2_ n3_ n4_;clear hb hbox hg;have hcz23_0:w22.cell? ⟨gb164,0,none⟩=some (.string (⟨#[]⟩:ByteArray)):=(az BK164.out 0).trans rfl;have hcz23_1:w22.cell? ⟨gb164,1,none⟩=some (.string (⟨#[]⟩:ByteArray)):=(az BK164.out 1).trans rfl;have hfz23_0:=ay BK164.out 0;have hfz23_1:=ay BK164.out 1)|((with_reducible refine aH (f:=113) rfl ?_);refine bq (some 35) rfl rfl Tryz.func113 (by kernel_rfl) rfl #[.string t161] rfl (by (try simp only [List.map_toArray,List.map_cons,List.map_nil]);first|done|rfl|(simp only [List.length_drop,List.length_take];rfl)) ?_;(with_reducible refine (bD.calls kj3 t161 t165 t166 true _ A12.out).mono ?_);rintro e w24 ⟨rfl,hb⟩;refine ⟨_,rfl,?_⟩;have n0_:=aa.mk (Kd.bE (by (with_reducible repeat (first|apply Kd.aQ|apply Kd.aN|apply Kd.aU));exact (Kd.bK (Kd.gQ (p:=⟨gb164,1,none⟩) (Kd.gQ (p:=⟨gb164,0,none⟩) (Kd.bK HO_4.out (fun k_ hk=>(⟨hk,hk.2⟩:_∧k_≠gb164))) (fun _ hk=>hk.2) (.string t160)) (fun _ hk=>hk.2) (.string (⟨#[]⟩:ByteArray))) (fun _ h_=>h_.1))) hb);have n1_:=aa.mk (aI (g:=gb164) (o:=.cells #[.string t160,.string (⟨#[]⟩:ByteArray)] 102 (0,0)) (by (with_reducible repeat (first|refine aj ?_ _|refine ax ?_|refine ai ?_ _));refine bT (cs:=#[.string t160,.string (⟨#[]⟩:ByteArray)]) ?_ 1 _ (by first|rfl|(simp only [au,ak];rfl)|simp [au,ak]);(with_reducible repeat (first|refine aj ?_ _|refine ax ?_|refine ai ?_ _));refine bT (cs:=#[.string (⟨#[]⟩:ByteArray),.string (⟨#[]⟩:ByteArray)]) ?_ 0 _ (by first|rfl|(simp only [au,ak];rfl)|simp [au,ak]);(with_reducible repeat (first|refine aj ?_ _|refine ax ?_|refine ai ?_ _));exact BK164.out) hb);have n2_:=aa.mk (aA (by repeat (first|(with_reducible first|exact HB.out|apply af|apply ae|apply ag|refine ah ?_ GE164.out)|exact HB.out)) hb);clear HO_4;clear BK164;clear HB;have HO_4:=n0_;have BK164:=n1_;have HB:=n2_;clear n0_ n1_ n2_;(try clear hb);(try clear hb2);(try clear hk);(try clear hi);have hcz25_0:w24.cell? ⟨gb164,0,none⟩=some (.string t160):=(az BK164.out 0).trans rfl;have hcz25_1:w24.cell? ⟨gb164,1,none⟩=some (.string (⟨#[]⟩:ByteArray)):=(az BK164.out 1).trans rfl;have hfz25_0:=ay BK164.out 0;have hfz25_1:=ay BK164.out 1)|((with_reducible refine dC (b:=.append) (xs:=#[.tmp 42,.tmp 44]) rfl ?_);(try (refine dW (by rfl) ?_;dsimp only));at_builtin;refine Kd.fF nI (w0:=w) w.heap.size rfl (.tmp 42) (.tmp 44) 98 102 (.agg #[(.string ⟨#[]⟩),(.string ⟨#[]⟩)]) 32 rfl Tryz.underlying98 vD rfl (by decide) (by omega) u4 x4_1 (⟨t160,t165⟩:dx) [.string t160,.string t165] (fun k_=>k_≠gb164) (fun _=>False) rfl (by first|(go_simp;done)|(go_simp;rfl)) ?aP (fun _ hk=>hk.elim) ?aF ?aO ?aB ?aS ?aL ?_;(case aP=>exact jO _ _ _ (⟨t160,t165⟩:dx));(case aB=>exact (by repeat (first|(with_reducible first|exact HB.out|apply af|apply ae|apply ag|refine ah ?_ GE164.out)|exact HB.out)));(case aF=>exact (fun k_ hk=>Kd.ig (g:=gb164) (o:=.cells #[.string t160,.string t165] 102 (0,0)) (by (with_reducible repeat (first|refine aj ?_ _|refine ax ?_|refine ai ?_ _));refine bT (cs:=#[.string t160,.string (⟨#[]⟩:ByteArray)]) ?_ 1 _ (by first|rfl|(simp only [au,ak];rfl)|simp [au,ak]);(with_reducible repeat (first|refine aj ?_ _|refine ax ?_|refine ai ?_ _));exact BK164.out) k_ hk));(case aO=>exact (by (with_reducible repeat (first|apply Kd.aQ|apply Kd.aN|apply Kd.aU));exact Kd.bK (Kd.gQ (p:=⟨gb164,1,none⟩) (Kd.bK HO_4.out (fun k_ hk=>(⟨hk,hk.2⟩:_∧k_≠gb164))) (fun _ hk=>hk.2) (.string t165)) (fun _ hk=>hk.1.2)));(case aS=>exact (aC (by repeat (first|(with_reducible first|exact HB.out|apply af|apply ae|apply ag|refine ah ?_ GE164.out)|exact HB.out))));(case aL=>have:=LMc14.out;omega);intro v169 w26 ho hb hg hat;rw [← Ny168.out] at ho;have n0_:=aa.mk (dm (g:=gb164) (o:=.cells #[.string t160,.string t165] 102 (0,0)) (by (with_reducible repeat (first|refine aj ?_ _|refine ax ?_|refine ai ?_ _));refine bT (cs:=#[.string t160,.string (⟨#[]⟩:ByteArray)]) ?_ 1 _ (by first|rfl|(simp only [au,ak];rfl)|simp [au,ak]);(with_reducible repeat (first|refine aj ?_ _|refine ax ?_|refine ai ?_ _));exact BK164.out) hg (Kd.xH HO_4.out (fun _ hk=>hk.2)));have n1_:=aa.mk (hb);have n2_:=aa.mk (ho);clear BK164;clear HB;clear HO_4;have BK164:=n0_;have HB:=n1_;have HO170:=n2_;clear n0_ n1_ n2_;clear ho hb hg hat))
           go_roundg kj3
           case measure=>have:=HK1.out;have:=HJ3.out;omega
           case rel=>exact ⟨(t166.extract 1 t166.size),(y168),((t166.toList != ([]:List UInt8))),(by first|rfl|(simp;done)|(simp [*];done)|(simp [*,aK,aM,bX];done)|(simp only [au,ak];done)|(simp only [au,ak];simp;done)|(simp only [au,ak];simp [*];done)),(by first|rfl|(simp;done)|(simp [*];done)|(simp [*,aK,aM,bX];done)|(simp only [au,ak];done)|(simp only [au,ak];simp;done)|(simp only [au,ak];simp [*];done)),H',⟨by have:=HK1.out;have:=HJ3.out;omega⟩,⟨by (with_reducible repeat (first|apply Kd.aQ|apply Kd.aN|apply Kd.aU));exact Kd.bK HO170.out (fun _ hk=>trivial)⟩,⟨by repeat (first|(with_reducible first|exact HB.out|apply af|apply ae|apply ag|refine ah ?_ GE164.out)|exact HB.out)⟩⟩
          ·rw [if_neg c21] at H
           exact absurd H (by simp)
        ·rw [if_neg c14] at H
         exact absurd H (by simp)
       ·replace c13:=Bool.eq_false_iff.mpr c13
        subst c13
        have H1:(some (([]:List (dx)),false))=some (r1,r2):=by rw [if_neg (show ¬ (false=true) by decide)] at H;exact H
        clear H
        have H:=H1
        clear H1
        simp only [Option.some.injEq,Prod.mk.injEq] at H
        obtain ⟨rfl,rfl⟩:=H
        go_wp2_with (first|((with_reducible refine cz (N:=9) rfl ?_);(try (refine dW (by rfl) ?_;dsimp only));refine dO ?hg (N:=9) ?hd (cs:=#[.string (⟨#[]⟩:ByteArray),.string (⟨#[]⟩:ByteArray)]) (t:=102) ?hr ?_;(case hd=>rfl);(case hg=>rfl);(case hr=>first|(go_simp;done)|(go_simp;rfl));intro gb164 hg w27 hbox hb;have n0_:=aa.mk (Kd.bE (Kd.pu (by (with_reducible repeat (first|apply Kd.aQ|apply Kd.aN|apply Kd.aU));exact HO_4.out) gb164 (Nat.le_of_eq hg.symm)) hb);have n1_:=aa.mk (aA (by repeat (first|(with_reducible first|exact HB.out|apply af|apply ae|apply ag)|exact HB.out)) hb);have n2_:=aa.mk (hbox);have n3_:=aa.mk ((by rw [hg];exact (aC (by repeat (first|(with_reducible first|exact HB.out|apply af|apply ae|apply ag)|exact HB.out))):w.heap.size≤gb164));have n4_:=aa.mk ((by rw [hg];exact (aC (by repeat (first|(with_reducible first|exact HB.out|apply af|apply ae|apply ag)|exact HB.out))):w.heap.size≤gb164));clear HO_4;clear HB;have HO_4:=n0_;have HB:=n1_;have BK164:=n2_;have GW164:=n3_;have GE164:=n4_;clear n0_ n1_ n2_ n3_ n4_;clear hb hbox hg;have hcz28_0:w27.cell? ⟨gb164,0,none⟩=some (.string (⟨#[]⟩:ByteArray)):=(az BK164.out 0).trans rfl;have hcz28_1:w27.cell? ⟨gb164,1,none⟩=some (.string (⟨#[]⟩:ByteArray)):=(az BK164.out 1).trans rfl;have hfz28_0:=ay BK164.out 0;have hfz28_1:=ay BK164.out 1)|((with_reducible refine aH (f:=113) rfl ?_);refine bq (some 35) rfl rfl Tryz.func113 (by kernel_rfl) rfl #[.string t161] rfl (by (try simp only [List.map_toArray,List.map_cons,List.map_nil]);first|done|rfl|(simp only [List.length_drop,List.length_take];rfl)) ?_;(with_reducible refine (bD.calls kj3 t161 t165 t166 false _ A12.out).mono ?_);rintro e w29 ⟨rfl,hb⟩;refine ⟨_,rfl,?_⟩;have n0_:=aa.mk (Kd.bE (by (with_reducible repeat (first|apply Kd.aQ|apply Kd.aN|apply Kd.aU));exact (Kd.bK (Kd.gQ (p:=⟨gb164,1,none⟩) (Kd.gQ (p:=⟨gb164,0,none⟩) (Kd.bK HO_4.out (fun k_ hk=>(⟨hk,hk.2⟩:_∧k_≠gb164))) (fun _ hk=>hk.2) (.string t160)) (fun _ hk=>hk.2) (.string (⟨#[]⟩:ByteArray))) (fun _ h_=>h_.1))) hb);have n1_:=aa.mk (aI (g:=gb164) (o:=.cells #[.string t160,.string (⟨#[]⟩:ByteArray)] 102 (0,0)) (by (with_reducible repeat (first|refine aj ?_ _|refine ax ?_|refine ai ?_ _));refine bT (cs:=#[.string t160,.string (⟨#[]⟩:ByteArray)]) ?_ 1 _ (by first|rfl|(simp only [au,ak];rfl)|simp [au,ak]);(with_reducible repeat (first|refine aj ?_ _|refine ax ?_|refine ai ?_ _));refine bT (cs:=#[.string (⟨#[]⟩:ByteArray),.string (⟨#[]⟩:ByteArray)]) ?_ 0 _ (by first|rfl|(simp only [au,ak];rfl)|simp [au,ak]);(with_reducible repeat (first|refine aj ?_ _|refine ax ?_|refine ai ?_ _));exact BK164.out) hb);have n2_:=aa.mk (aA (by repeat (first|(with_reducible first|exact HB.out|apply af|apply ae|apply ag|refine ah ?_ GE164.out)|exact HB.out)) hb);clear HO_4;clear BK164;clear HB;have HO_4:=n0_;have BK164:=n1_;have HB:=n2_;clear n0_ n1_ n2_;(try clear hb);(try clear hb2);(try clear hk);(try clear hi);have hcz30_0:w29.cell? ⟨gb164,0,none⟩=some (.string t160):=(az BK164.out 0).trans rfl;have hcz30_1:w29.cell? ⟨gb164,1,none⟩=some (.string (⟨#[]⟩:ByteArray)):=(az BK164.out 1).trans rfl;have hfz30_0:=ay BK164.out 0;have hfz30_1:=ay BK164.out 1))
        go_ret2
        exact ⟨_,by first|rfl|(simp [aD,aG] <;> rfl)|(simp [*,aD,aG] <;> rfl),by first|exact Kd.kH _ _ _ _ _|exact Kd.qj _ _ _ _ _|exact Kd.qE _ _ _ _ _|exact Kd.qQ _ _ _ _ _|exact Kd.qM _ _ _ _ _,by repeat (first|(with_reducible first|exact HB.out|apply af|apply ae|apply ag|refine ah ?_ GE164.out)|exact HB.out)⟩
   ·replace c2:=Bool.eq_false_iff.mpr c2
    subst c2
    have H1:((gp.f k1 x4_1).bind fun t159=>(if t159=true then (some (x4_1,true)) else (some (([]:List (dx)),false))))=some (r1,r2):=by rw [if_neg (show ¬ (false=true) by decide)] at H;exact H
    clear H
    have H:=H1
    clear H1
    replace H:=Option.bind_eq_some_iff.mp H
    obtain ⟨t159,A310,H⟩:=H
    replace H:(if t159=true then (some (x4_1,true)) else (some (([]:List (dx)),false)))=some (r1,r2):=H
    have A31:=aa.mk A310
    clear A310
    by_cases c32:t159=true
    ·subst c32
     have H1:(some (x4_1,true))=some (r1,r2):=by rw [if_pos rfl] at H;exact H
     clear H
     have H:=H1
     clear H1
     simp only [Option.some.injEq,Prod.mk.injEq] at H
     obtain ⟨rfl,rfl⟩:=H
     obtain ⟨Ao33,co33,eo33⟩:=Kd.cu HO_4.out
     subst eo33
     go_wp2_with (first|((with_reducible refine aH (f:=114) rfl ?_);refine bq (some 52) rfl rfl Tryz.func114 (by kernel_rfl) rfl #[.slice Ao33 x4_1.length co33] rfl (by (try simp only [List.map_toArray,List.map_cons,List.map_nil]);first|done|rfl|(simp only [List.length_drop,List.length_take];rfl)) ?_;(with_reducible refine (gp.calls k1 _ _ x4_1 true _ ?side1 ?side2 A31.out).mono ?_);(case side1=>repeat (first|exact (Kd.bn HO_4.out).2.2|(with_reducible refine Kd.dA ?_ _)|(with_reducible refine Kd.dG ?_ _)|(with_reducible refine Kd.eu ?_)));(case side2=>exact (Kd.bn HO_4.out).2.1);rintro e w34 ⟨rfl,hb⟩;refine ⟨_,rfl,?_⟩;have n0_:=aa.mk (Kd.bE (by (with_reducible repeat (first|apply Kd.aQ|apply Kd.aN|apply Kd.aU));exact HO_4.out) hb);have n1_:=aa.mk (aA (by repeat (first|(with_reducible first|exact HB.out|apply af|apply ae|apply ag)|exact HB.out)) hb);clear HO_4;clear HB;have HO_4:=n0_;have HB:=n1_;clear n0_ n1_;(try clear hb);(try clear hb2);(try clear hk);(try clear hi)))
     go_ret2
     exact ⟨_,by first|rfl|(simp [aD,aG] <;> rfl)|(simp [*,aD,aG] <;> rfl),by (with_reducible repeat (first|apply Kd.aQ|apply Kd.aN|apply Kd.aU));exact HO_4.out,by repeat (first|(with_reducible first|exact HB.out|apply af|apply ae|apply ag)|exact HB.out)⟩
    ·replace c32:=Bool.eq_false_iff.mpr c32
     subst c32
     have H1:(some (([]:List (dx)),false))=some (r1,r2):=by rw [if_neg (show ¬ (false=true) by decide)] at H;exact H
     clear H
     have H:=H1
     clear H1
     simp only [Option.some.injEq,Prod.mk.injEq] at H
     obtain ⟨rfl,rfl⟩:=H
     obtain ⟨Ao35,co35,eo35⟩:=Kd.cu HO_4.out
     subst eo35
     go_wp2_with (first|((with_reducible refine aH (f:=114) rfl ?_);refine bq (some 52) rfl rfl Tryz.func114 (by kernel_rfl) rfl #[.slice Ao35 x4_1.length co35] rfl (by (try simp only [List.map_toArray,List.map_cons,List.map_nil]);first|done|rfl|(simp only [List.length_drop,List.length_take];rfl)) ?_;(with_reducible refine (gp.calls k1 _ _ x4_1 false _ ?side1 ?side2 A31.out).mono ?_);(case side1=>repeat (first|exact (Kd.bn HO_4.out).2.2|(with_reducible refine Kd.dA ?_ _)|(with_reducible refine Kd.dG ?_ _)|(with_reducible refine Kd.eu ?_)));(case side2=>exact (Kd.bn HO_4.out).2.1);rintro e w36 ⟨rfl,hb⟩;refine ⟨_,rfl,?_⟩;have n0_:=aa.mk (Kd.bE (by (with_reducible repeat (first|apply Kd.aQ|apply Kd.aN|apply Kd.aU));exact HO_4.out) hb);have n1_:=aa.mk (aA (by repeat (first|(with_reducible first|exact HB.out|apply af|apply ae|apply ag)|exact HB.out)) hb);clear HO_4;clear HB;have HO_4:=n0_;have HB:=n1_;clear n0_ n1_;(try clear hb);(try clear hb2);(try clear hk);(try clear hi)))
     go_ret2
     exact ⟨_,by first|rfl|(simp [aD,aG] <;> rfl)|(simp [*,aD,aG] <;> rfl),by first|exact Kd.kH _ _ _ _ _|exact Kd.qj _ _ _ _ _|exact Kd.qE _ _ _ _ _|exact Kd.qQ _ _ _ _ _|exact Kd.qM _ _ _ _ _,by repeat (first|(with_reducible first|exact HB.out|apply af|apply ae|apply ag)|exact HB.out)⟩
end Go.Proofs.YthfpaoacjpjnfaaGreatDoor.P

namespace Go.Proofs.YthfpaoacjpjnfaaGreatDoor.P
open Go.RowKit Go.Proofs.YthfpaoacjpjnfaaGreatDoorW.PrintWords Go.Proofs.YthfpaoacjpjnfaaGreatDoorW.PrintLast Go.Proofs.YthfpaoacjpjnfaaGreatDoorW.PrintMore
theorem sw {c:Int} (h:0≤c∧c≤255):eX.f c=some (nk c):=by
  unfold eX.f nk
  by_cases h1:65≤c <;> by_cases h2:c≤90 <;> simp [h1,h2]
  omega
def eG.f (a0:ByteArray):Option ByteArray:=if a0.size≤9223372036854775807 then some (gm a0) else none
theorem eG.any (a0:ByteArray) (w:World) (hs:a0.size≤9223372036854775807) :
    Calls Tryz.prog 85 #[.string a0] w fun e w'=>e=.returned (.string (gm a0))∧Below w.heap.size w w':=by
  have hcv:=fun W=>Lib.run_convert_string_bytes (P:=Tryz.prog) W 9 34 5 a0 (u:=.string) Tryz.underlying9 Tryz.underlying34 Tryz.underlying5
  go_enter Tryz.func85,Tryz.ntmps85
  go_wp2
  go_loopw [10] (fun i wr=>∃ k:Nat,k≤a0.size∧i=.int .i64 k∧aa (Below w.heap.size w wr)∧aa (iR wr w.heap.size a0.size (iW a0 k))) (fun i _=>a0.size - (intOf i).toNat)
  case atStart=>exact ⟨0,Nat.zero_le _,rfl,⟨Lib.bytesWorld_below _ _ _⟩,⟨by rw [jW];exact jm w a0⟩⟩
  case round =>
    obtain ⟨k,hk,rfl,HB,HR⟩:=hrel
    by_cases hlt:k < a0.size
    · have hc:=HR.out.cell k hlt
      have hz:=HR.out.free k hlt
      rw [j6] at hc
      obtain ⟨c,hcc⟩:∃ c:Int,((a0.data.toList.getD k 0).toNat:Int)=c:=⟨_,rfl⟩
      rw [hcc] at hc
      have hcr:0≤c∧c≤255:=by have:=(a0.data.toList.getD k 0).toNat_lt;omega
      have HC:=Lib.hid hcc
      clear hcc
      have HL:=Lib.hid (sw hcr)
      go_wp2_with (go_at_call 100;refine (eX.calls _ _ _ HL.out).mono ?_;rintro e w' ⟨rfl,⟨nq,rfl⟩⟩)
      refine ⟨⟨k+1,by omega,by go_num,⟨?_⟩,⟨?_⟩⟩,by simp [intOf];omega⟩
      · exact (ae HB.out nq).setCell (Nat.le_refl _) _
      · exact ll (ko HR.out nq) hlt HC.out
    · have hge:¬ (k:Int) < (a0.size:Int):=by omega
      have hst:=fun cap=>jA (P:=Tryz.prog) HR.out cap 34 5 9 Tryz.underlying34 Tryz.underlying5 Tryz.underlying9
      rw [lG a0 k hlt] at hst
      go_wp2
      go_ret
      exact ⟨rfl,HB.out⟩
theorem eG.calls (a0:ByteArray) (r:ByteArray) (w:World) (h:eG.f a0=some r) :
    Calls Tryz.prog 85 #[.string a0] w fun e w'=>e=.returned (.string r)∧Below w.heap.size w w':=by
  unfold eG.f at h
  by_cases hs:a0.size≤9223372036854775807
  · rw [if_pos hs] at h
    obtain rfl:=Option.some.inj h
    exact eG.any a0 w hs
  · rw [if_neg hs] at h
    cases h
def fu (l:List UInt8):List UInt8:=sq ((Lib.trimB l 32).map fP)
def fK.f (a0:ByteArray):Option ByteArray:=if a0.size≤140737488351232 then some (mk (fu a0.data.toList)) else none
theorem qH (l:List UInt8):(Lib.trimB l 32).length≤l.length:=by
  unfold Lib.trimB Lib.trimLeftB Lib.trimRightB
  refine Nat.le_trans (List.dropWhile_suffix _).length_le ?_
  rw [List.length_reverse]
  refine Nat.le_trans (List.dropWhile_suffix _).length_le ?_
  rw [List.length_reverse]
  exact Nat.le_refl _
theorem uV (l:List UInt8) (h:0 < (Lib.trimB l 32).length):(Lib.trimB l 32).getD 0 0≠32:=by
  unfold Lib.trimB Lib.trimLeftB at *
  have:=List.head?_dropWhile_not (p:=fun x:UInt8=>x == 32) (l:=Lib.trimRightB l 32)
  rw [List.getD_eq_getElem?_getD,← List.head?_eq_getElem?]
  cases hh:(List.dropWhile (fun x:UInt8=>x == 32) (Lib.trimRightB l 32)).head? with
  | none=>rw [List.head?_eq_none_iff] at hh;rw [hh] at h;exact absurd h (by simp)
  | some c =>
    rw [hh] at this
    simpa using this
theorem iC (c:UInt8):fP c=32↔c=32:=dL (p:=fun c=>fP c=32↔c=32) (by decide +kernel) c
set_option maxHeartbeats 8000000 in
theorem fK.any (a0:ByteArray) (w:World) (hs:a0.size≤140737488351232) :
    Calls Tryz.prog 64 #[.string a0] w fun e w'=>e=.returned (.string (mk (fu a0.data.toList)))∧Below w.heap.size w w':=by
  have hcv:=fun W s=>Lib.run_convert_string_bytes (P:=Tryz.prog) W 9 34 5 s (u:=.string) Tryz.underlying9 Tryz.underlying34 Tryz.underlying5
  have hT:gP.f a0 ⟨#[32]⟩=some (mk (Lib.trimB a0.data.toList 32)):=by
    unfold gP.f;rw [if_pos ⟨rfl,by omega⟩]
  have hlen:=qH a0.data.toList
  rw [← bL,← dZ] at hlen
  have hL:eG.f (mk (Lib.trimB a0.data.toList 32))=some (gm (mk (Lib.trimB a0.data.toList 32))):=by
    unfold eG.f;rw [if_pos (by omega)]
  obtain ⟨T,hTe⟩:∃ T,mk (Lib.trimB a0.data.toList 32)=T:=⟨_,rfl⟩
  have hhead:=uV a0.data.toList
  have hTd:T.data.toList=Lib.trimB a0.data.toList 32:=by rw [← hTe]
  rw [← hTd] at hhead
  obtain ⟨S,hSe⟩:∃ S,gm T=S:=⟨_,rfl⟩
  have hSd:S.data.toList=(Lib.trimB a0.data.toList 32).map fP:=by rw [← hSe,jQ,hTd]
  have hSs:S.size=T.size:=by rw [← hSe,wG]
  have hfold:fu a0.data.toList=sq S.data.toList:=by unfold fu;rw [hSd]
  have hsh:0 < S.data.toList.length→S.data.toList.getD 0 0≠32:=by
    rw [hSd,← hTd,List.length_map]
    intro h
    have h2:=hhead h
    rw [List.getD_eq_getElem?_getD,List.getElem?_map,List.getElem?_eq_getElem h]
    rw [List.getD_eq_getElem?_getD,List.getElem?_eq_getElem h] at h2
    intro h3
    exact h2 ((iC _).1 h3)
  rw [hTe] at hT hL hlen
  rw [hSe] at hL
  rw [hfold]
  have hS:S.size≤140737488351232:=by omega
  have HT:=Lib.hid hT
  have HL:=Lib.hid hL
  have HSH:=Lib.hid hsh
  clear hT hL hlen hTe hhead hTd hSe hSd hSs hfold hsh hs
  go_enter Tryz.func64,Tryz.ntmps64
  go_wp2_with (first
    | (go_at_call 86;refine (gP.calls _ _ _ _ HT.out).mono ?_;rintro e w' ⟨rfl,⟨n1,rfl⟩⟩)
    | (go_at_call 85;refine (eG.calls _ _ _ HL.out).mono ?_;rintro e w1 ⟨rfl,hb1⟩))
  have hb0:Below w.heap.size w w1:=(ae (Below.refl _ _) n1).trans hb1
  have HB1:=aa.mk hb0
  have hsz:=aa.mk hb0.size
  clear hb0 hb1
  go_loopw [3,11] (fun b i wr=>∃ k:Nat,k≤S.size∧i=.int .i64 k∧aa (Below w.heap.size w wr)∧aa (w1.heap.size < wr.heap.size)∧aa (iR wr w1.heap.size S.size (fun j=>((S.data.toList.getD j 0).toNat:Int)))∧aa (Kd.R (Kd.int .u8) 5 wr w.heap.size (fun q=>q≠w1.heap.size) b (fC (sq (S.data.toList.take k))))) (fun _ i _=>S.size - (intOf i).toNat)
  case atStart=>exact ⟨0,Nat.zero_le _,rfl,⟨HB1.out.trans ((Lib.bytesWorld_below _ _ _).mono hsz.out)⟩,⟨by rw [Lib.bytesWorld_size];omega⟩,⟨jm _ S⟩,⟨Kd.kH _ _ _ _ _⟩⟩
  case round =>
    obtain ⟨k,hk,rfl,HB,HZ,HR,HO⟩:=hrel
    obtain ⟨B,hB⟩:∃ B,sq (S.data.toList.take k)=B:=⟨_,rfl⟩
    rw [hB] at HO
    have HBk:=Lib.hid hB
    clear hB
    obtain ⟨A3,c3,rfl⟩:=Kd.cu HO.out
    by_cases hlt:k < S.size
    · have hc:=HR.out.cell k hlt
      have hz:=HR.out.free k hlt
      have hkl:k < S.data.toList.length:=by rw [← bL];exact hlt
      have hst:=rT S.data.toList k hkl
      have hne:=uE S.data.toList k
      have hln:=kX S.data.toList k (by omega)
      have h032:=fun (h:k=0) (h2:S.data.toList.getD k 0=32)=>HSH.out (by omega) (by rw [h] at h2;exact h2)
      obtain ⟨u,hu⟩:∃ u:UInt8,S.data.toList.getD k 0=u:=⟨_,rfl⟩
      rw [hu] at hc hst h032
      rw [HBk.out] at hst hne hln
      have hclen:(fC B).length=B.length:=ji B
      have hub:(fC B).length≤140737488351232:=by rw [hclen];omega
      by_cases hu32:u=32
      · subst hu32
        have hk0:0 < k:=Nat.pos_of_ne_zero fun h=>h032 h rfl
        have hBne:=hne hk0 (by omega)
        have hn1:1≤(fC B).length:=by rw [hclen];exact List.length_pos_iff.2 hBne
        obtain ⟨v,hv⟩:∃ v:UInt8,B.getLast hBne=v:=⟨_,rfl⟩
        have hrd:=uS B hBne
        rw [hv,← hclen] at hrd
        have hlast:B.getLast?=some v:=by rw [List.getLast?_eq_some_getLast hBne,hv]
        obtain ⟨ad,e1,hx⟩:=Kd.gI (Kd.bn HO.out).2.2 (((fC B).length:Int) - 1) (by omega) (by omega)
        rw [hrd,show (((fC B).length:Int) - 1).toNat=(fC B).length - 1 from by omega] at hx
        subst e1
        have hLB:=Lib.hid hclen
        clear hclen hrd hv hne h032 hBne
        by_cases hv32:v=32
        · subst hv32
          have hsn:sq (S.data.toList.take (k+1))=B:=by rw [hst];unfold iP;rw [if_pos ⟨rfl,hlast⟩]
          have HST:=Lib.hid hsn
          clear hsn hst hlast
          go_wp2
          refine ⟨⟨k+1,by omega,by go_num,HB,HZ,HR,⟨?_⟩⟩,by simp [intOf];omega⟩
          rw [HST.out];exact HO.out
        · have hsn:fC (sq (S.data.toList.take (k+1)))=fC B++[32]:=by
            rw [hst];unfold iP
            rw [if_neg (by rw [hlast];intro h;exact hv32 (Option.some.inj h.2)),jU];rfl
          have HST:=Lib.hid hsn
          have hv2:¬ (v.toNat:Int)=32:=fun h=>hv32 ((vC v).1 h)
          obtain ⟨vi,hvi⟩:∃ vi:Int,(v.toNat:Int)=vi:=⟨_,rfl⟩
          rw [hvi] at hx hv2
          have bv:(vi == 32)=false:=beq_eq_false_iff_ne.2 hv2
          clear hsn hst hlast hvi hv2 hv32
          go_wp2_with ((with_reducible refine dC (b:=.append) (xs:=#[.tmp 26,.tmp 28]) rfl ?_);at_builtin;refine Kd.fF (Kd.int .u8) (w0:=w) w.heap.size rfl (.tmp 26) (.tmp 28) 34 5 (.int .u8 0) 1 rfl Tryz.underlying34 info5 rfl (by decide) (by omega) _ (fC B) 32 [.int .u8 32] (fun q=>q≠w1.heap.size) (fun _=>False) rfl rfl ?aP (fun _ hk=>hk.elim) ?aF ?aO ?aB ?aS ?aL ?_;(case aP=>exact rfl);(case aB=>exact HB.out);(case aF=>exact (fun q hq e=>by have:=HZ.out;omega));(case aO=>exact HO.out);(case aS=>exact HB.out.size);(case aL=>have:=ji B;omega);intro v' w' ho hb hg hat;have HO2:=aa.mk ho;have HB2:=aa.mk hb;have HG2:=aa.mk hg;clear ho hb hg hat)
          refine ⟨⟨k+1,by omega,by go_num,HB2,⟨Nat.lt_of_lt_of_le HZ.out HG2.out.size⟩,⟨?_⟩,⟨?_⟩⟩,by simp [intOf];omega⟩
          · exact pq HR.out (HG2.out.block _ HZ.out (fun e=>(HO.out.1 _ e.symm) rfl))
          · rw [HST.out];exact HO2.out
      · have hsn:fC (sq (S.data.toList.take (k+1)))=fC B++[(u.toNat:Int)]:=by
          rw [hst];unfold iP
          rw [if_neg (fun h=>hu32 h.1),jU]
        have hu2:¬ (u.toNat:Int)=32:=fun h=>hu32 ((vC u).1 h)
        obtain ⟨ui,hui⟩:∃ ui:Int,(u.toNat:Int)=ui:=⟨_,rfl⟩
        rw [hui] at hc hu2 hsn
        have HST:=Lib.hid hsn
        have bu:(ui == 32)=false:=beq_eq_false_iff_ne.2 hu2
        clear hsn hst hne h032 hclen hui hu2 hu32
        go_wp2_with ((with_reducible refine dC (b:=.append) (xs:=#[.tmp 26,.tmp 28]) rfl ?_);at_builtin;refine Kd.fF (Kd.int .u8) (w0:=w) w.heap.size rfl (.tmp 26) (.tmp 28) 34 5 (.int .u8 0) 1 rfl Tryz.underlying34 info5 rfl (by decide) (by omega) _ (fC B) ui [.int .u8 ui] (fun q=>q≠w1.heap.size) (fun _=>False) rfl rfl ?aP (fun _ hk=>hk.elim) ?aF ?aO ?aB ?aS ?aL ?_;(case aP=>exact rfl);(case aB=>exact HB.out);(case aF=>exact (fun q hq e=>by have:=HZ.out;omega));(case aO=>exact HO.out);(case aS=>exact HB.out.size);(case aL=>have:=ji B;omega);intro v' w' ho hb hg hat;have HO2:=aa.mk ho;have HB2:=aa.mk hb;have HG2:=aa.mk hg;clear ho hb hg hat)
        refine ⟨⟨k+1,by omega,by go_num,HB2,⟨Nat.lt_of_lt_of_le HZ.out HG2.out.size⟩,⟨?_⟩,⟨?_⟩⟩,by simp [intOf];omega⟩
        · exact pq HR.out (HG2.out.block _ HZ.out (fun e=>(HO.out.1 _ e.symm) rfl))
        · rw [HST.out];exact HO2.out
    · have hge:¬ (k:Int) < (S.size:Int):=by omega
      have hall:=HO.out
      have hBk:=HBk.out
      rw [List.take_of_length_le (by rw [← bL];omega)] at hBk
      have HBl:=Lib.hid hBk
      clear hBk
      have hst:=lY (P:=Tryz.prog) Tryz.underlying34 Tryz.underlying5 Tryz.underlying9 (Kd.kI hall)
      rw [nP] at hst
      clear hall
      go_wp2
      go_ret
      exact ⟨by rw [HBl.out];rfl,HB.out⟩
theorem fK.calls (a0:ByteArray) (r:ByteArray) (w:World) (h:fK.f a0=some r) :
    Calls Tryz.prog 64 #[.string a0] w fun e w'=>e=.returned (.string r)∧Below w.heap.size w w':=by
  unfold fK.f at h
  by_cases hs:a0.size≤140737488351232
  · rw [if_pos hs] at h
    obtain rfl:=Option.some.inj h
    exact fK.any a0 w hs
  · rw [if_neg hs] at h
    cases h
abbrev BT:TypeId:=122
theorem u7:(Tryz.prog.info? BT).map (fun i=>i.size)=some 2:=by kernel_rfl
theorem zi:liesAt Tryz.prog Tryz.prog.depth BT (2 / Tryz.prog.cellsOf BT) 0 BT 1=true:=by kernel_rfl
set_option maxHeartbeats 1000000 in
set_option maxRecDepth 100000 in
theorem nS (b:Nat) (w:World) (h0:w.cell? ⟨b,0,none⟩=some (.pointer (some ⟨b,0,none⟩))) :
    Calls Tryz.prog 138 #[.pointer (some ⟨b,0,none⟩)] w fun e w'=>e=.returned (.tuple #[])∧w'=w:=by
  obtain ⟨j,hj,_⟩:=Option.map_eq_some_iff.1 u7
  have hu:=Tryz.underlying120
  go_enter Tryz.func138,Tryz.ntmps138
  go_wp2
  rw [Lib.run_neq_ptr_same w _ Tryz.underlying120 hj]
  go_wp2
  go_end0
  exact ⟨rfl,rfl⟩
set_option maxHeartbeats 1000000 in
set_option maxRecDepth 100000 in
theorem mE (b:Nat) (w:World) (h0:w.cell? ⟨b,0,none⟩=some (.pointer none)) (hsh:w.shape? b=some (BT,2)) (hfz:w.frozen? ⟨b,0,none⟩=false) :
    Calls Tryz.prog 138 #[.pointer (some ⟨b,0,none⟩)] w fun e w'=>e=.returned (.tuple #[])∧w'=w.setCell ⟨b,0,none⟩ (.pointer (some ⟨b,0,none⟩)):=by
  obtain ⟨j,hj,hjs⟩:=Option.map_eq_some_iff.1 u7
  have hu:=Tryz.underlying120
  go_enter Tryz.func138,Tryz.ntmps138
  go_wp2
  rw [Lib.run_to_unsafe w ⟨b,0,none⟩ Tryz.underlying120 Tryz.underlying157 hj (by rw [hjs];decide) hsh (Nat.zero_lt_succ 1)]
  simp only [Result.andThen]
  rw [Oper.upon_value]
  go_wp2
  rw [run_callFunc_extern Tryz.func158 (by kernel_rfl) (by kernel_rfl) (by kernel_rfl) (e:=Extern.AbiNoEscape.same) (by kernel_rfl)]
  rw [Lib.run_noEscape]
  simp only [Result.andThen]
  rw [Oper.upon_value]
  go_wp2
  rw [Lib.run_from_unsafe w ⟨b,0,none⟩ Tryz.underlying157 Tryz.underlying120 hj hsh zi]
  simp only [Result.andThen]
  rw [Oper.upon_value]
  go_wp2
  go_end0
  exact ⟨rfl,rfl⟩
theorem uJ {w:World} {B n:Nat} {v:Value} {xs:List Value} (h:w.ownsRow B 5 1 v n xs):∀ g,v.ownBlock=some g→∃ c fz,w.heap[g]?=some (.cells c 5 fz):=by
  intro g hg
  rcases h.2 with ⟨rfl,_⟩|⟨g',cap,cur,rfl,_,hh,_⟩
  · simp [Value.ownBlock] at hg
  · obtain rfl:g'=g:=by simpa [Value.ownBlock] using hg
    exact ⟨_,_,hh⟩
theorem yG (B b:Nat) (bs:List Value) (w:World) (h:Lib.IsBuilder BT 5 B b bs w) :
    Calls Tryz.prog 138 #[.pointer (some ⟨b,0,none⟩)] w fun e w'=>e=.returned (.tuple #[])∧(Lib.BuilderAt BT 5 B b (.pointer (some ⟨b,0,none⟩)) bs w'∧Below B w w'∧Lib.OthersKept 5 (some b) w w'):=by
  rcases h with h|h
  · refine (mE b w h.cell0 h.shape h.frozen0).mono ?_
    rintro e w' ⟨rfl,rfl⟩
    exact ⟨rfl,h.used _,(Below.refl B w).setCell (p:=⟨b,0,none⟩) h.1 _,(Lib.OthersKept.refl _ _ w).setCell ⟨b,0,none⟩ rfl _⟩
  · refine (nS b w h.cell0).mono ?_
    rintro e w' ⟨rfl,rfl⟩
    exact ⟨rfl,h,Below.refl B _,Lib.OthersKept.refl _ _ _⟩
set_option maxHeartbeats 2000000 in
set_option maxRecDepth 100000 in
theorem bz (B b:Nat) (bs:List Value) (c:Int) (w:World) (h:Lib.IsBuilder BT 5 B b bs w) (hlen:bs.length+1≤140737488355328) (hBw:B≤w.heap.size) :
    Calls Tryz.prog 115 #[.pointer (some ⟨b,0,none⟩),.int .u8 c] w fun e w'=>e=.returned .nilIface∧(Lib.BuilderAt BT 5 B b (.pointer (some ⟨b,0,none⟩)) (bs++[.int .u8 c]) w'∧Below B w w'∧Lib.OthersKept 5 (some b) w w'):=by
  obtain ⟨i0,hi,hz0,hz1,hz2⟩:=info_parts info5
  go_enter Tryz.func115,Tryz.ntmps115
  go_wp2_with (go_at_call 138;refine (yG B b bs _ h).mono ?_)
  rintro e w1 ⟨rfl,h1,hb1,ho1⟩
  obtain ⟨hB,v,hbk,hown,hne⟩:=h1
  have c0:w1.cell? ⟨b,0,none⟩=some (.pointer (some ⟨b,0,none⟩)):=by rw [Lib.cell_of_heap hbk];rfl
  have c1:w1.cell? ⟨b,1,none⟩=some v:=by rw [Lib.cell_of_heap hbk];rfl
  go_wp2_with (at_builtin;refine wpList_append_own _ rfl _ _ 34 rfl B 5 i0 (.int .u8 0) 1 1 Tryz.underlying34 hi hz0 hz1 hz2 rfl (by decide) _ _ _ rfl (hown.alloc _) ⟨w1.heap.size,0,none⟩ 1 1 [.int .u8 c] rfl rfl ?c1 ?c2 ?c3 ?c4 ?c5 ?_)
  case c1 =>
    intro j u hj
    match j,hj with
    | 0,hj=>simp at hj;subst hj;simp [Addr.add]
  case c2=>intro u hu;simp at hu;subst hu;rfl
  case c3=>unfold maxLen;omega
  case c4=>omega
  case c5=>have:=hb1.size;simp;omega
  intro v' w2 hown' hgrow _
  have hlt:b < w1.heap.size:=by
    rcases Nat.lt_or_ge b w1.heap.size with h'|h'
    · exact h'
    · simp [Array.getElem?_eq_none h'] at hbk
  have hb2:w2.heap[b]?=some (.cells #[.pointer (some ⟨b,0,none⟩),v] BT (0,0)):=by
    rw [hgrow.block b (by simp;omega) (fun e=>hne e.symm),Lib.alloc_old w1 _ b hlt]
    exact hbk
  have d0:w2.cell? ⟨b,0,none⟩=some (.pointer (some ⟨b,0,none⟩)):=by rw [Lib.cell_of_heap hb2];rfl
  have d1:w2.cell? ⟨b,1,none⟩=some v:=by rw [Lib.cell_of_heap hb2];rfl
  have f1:w2.frozen? ⟨b,1,none⟩=false:=Lib.frozen_of_heap hb2 1
  obtain ⟨g,cap,rfl⟩:∃ g cap,v'=.slice (some ⟨g,0,none⟩) (bs.length+1) cap:=by
    rcases hown'.2 with ⟨_,h0⟩|⟨g,cap,cur,hv,_⟩
    · omega
    · exact ⟨g,cap,hv⟩
  go_wp2
  go_ret
  refine ⟨rfl,?_,?_,((ho1.alloc _).grown hgrow (uJ (hown.alloc _))).setCell ⟨b,1,none⟩ rfl _⟩
  · exact Lib.BuilderAt.put (T:=BT) (e:=5) hB hb2 (bs':=bs++[.int .u8 c]) (by simpa using hown') (by decide)
  · exact ((hb1.alloc (by have:=hb1.size;omega) _).grown hgrow (by have:=hb1.size;simp;omega) (fun k hk=>(hown.lt k hk).1)).setCell (p:=⟨b,1,none⟩) hB _
set_option maxHeartbeats 2000000 in
set_option maxRecDepth 100000 in
theorem mU (B b:Nat) (bs:List Value) (s:ByteArray) (w:World) (h:Lib.IsBuilder BT 5 B b bs w) (hlen:bs.length+s.size≤140737488355328) (hBw:B≤w.heap.size) :
    Calls Tryz.prog 116 #[.pointer (some ⟨b,0,none⟩),.string s] w fun e w'=>e=.returned (.tuple #[.int .i64 s.size,.nilIface])∧(Lib.BuilderAt BT 5 B b (.pointer (some ⟨b,0,none⟩)) (bs++Lib.strCells s) w'∧Below B w w'∧Lib.OthersKept 5 (some b) w w'):=by
  obtain ⟨i0,hi,hz0,hz1,hz2⟩:=info_parts info5
  go_enter Tryz.func116,Tryz.ntmps116
  go_wp2_with (go_at_call 138;refine (yG B b bs _ h).mono ?_)
  rintro e w1 ⟨rfl,h1,hb1,ho1⟩
  obtain ⟨hB,v,hbk,hown,hne⟩:=h1
  have c0:w1.cell? ⟨b,0,none⟩=some (.pointer (some ⟨b,0,none⟩)):=by rw [Lib.cell_of_heap hbk];rfl
  have c1:w1.cell? ⟨b,1,none⟩=some v:=by rw [Lib.cell_of_heap hbk];rfl
  go_wp2_with (at_builtin;refine Lib.wpList_append_own_string _ rfl _ _ 34 9 rfl B 5 i0 Tryz.underlying34 Tryz.underlying9 hi hz0 hz1 hz2 _ _ _ rfl hown s rfl ?c3 ?c4 ?c5 ?_)
  case c3=>unfold maxLen;omega
  case c4=>omega
  case c5=>have:=hb1.size;omega
  intro v' w2 hown' hgrow _
  have hlt:b < w1.heap.size:=by
    rcases Nat.lt_or_ge b w1.heap.size with h'|h'
    · exact h'
    · simp [Array.getElem?_eq_none h'] at hbk
  have hb2:w2.heap[b]?=some (.cells #[.pointer (some ⟨b,0,none⟩),v] BT (0,0)):=by
    rw [hgrow.block b hlt (fun e=>hne e.symm)]
    exact hbk
  have d0:w2.cell? ⟨b,0,none⟩=some (.pointer (some ⟨b,0,none⟩)):=by rw [Lib.cell_of_heap hb2];rfl
  have d1:w2.cell? ⟨b,1,none⟩=some v:=by rw [Lib.cell_of_heap hb2];rfl
  have f1:w2.frozen? ⟨b,1,none⟩=false:=Lib.frozen_of_heap hb2 1
  obtain ⟨ao,n',cap,rfl⟩:∃ ao n' cap,v'=.slice ao n' cap:=by
    rcases hown'.2 with ⟨hv,_⟩|⟨g,cap,cur,hv,_⟩
    · exact ⟨_,_,_,hv⟩
    · exact ⟨_,_,_,hv⟩
  go_wp2
  go_ret2
  refine ⟨rfl,?_,?_,(ho1.grown hgrow (uJ hown)).setCell ⟨b,1,none⟩ rfl _⟩
  · exact Lib.BuilderAt.put (T:=BT) (e:=5) hB hb2 (bs':=bs++Lib.strCells s) (by simpa [Lib.strCells_length] using hown') (by decide)
  · exact (hb1.grown hgrow (by have:=hb1.size;omega) (fun k hk=>(hown.lt k hk).1)).setCell (p:=⟨b,1,none⟩) hB _
theorem zq (B b q:Nat) (bs:List Value) (w:World) (h:Lib.IsBuilder BT 5 B b bs w) (hqb:q≠b) :
    Calls Tryz.prog 138 #[.pointer (some ⟨b,0,none⟩)] w fun e w'=>e=.returned (.tuple #[])∧(Lib.BuilderAt BT 5 B b (.pointer (some ⟨b,0,none⟩)) bs w'∧Below B w w'∧Lib.OthersKept 5 (some b) w w'∧∀ j,w'.cell? ⟨q,j,none⟩=w.cell? ⟨q,j,none⟩):=by
  rcases h with h|h
  · refine (mE b w h.cell0 h.shape h.frozen0).mono ?_
    rintro e w' ⟨rfl,rfl⟩
    exact ⟨rfl,h.used _,(Below.refl B w).setCell (p:=⟨b,0,none⟩) h.1 _,(Lib.OthersKept.refl _ _ w).setCell ⟨b,0,none⟩ rfl _,fun j=>World.cell?_setCell_other _ _ _ _ (by intro he;injection he with h1 _;exact hqb h1.symm)⟩
  · refine (nS b w h.cell0).mono ?_
    rintro e w' ⟨rfl,rfl⟩
    exact ⟨rfl,h,Below.refl B _,Lib.OthersKept.refl _ _ _,fun _=>rfl⟩
set_option maxHeartbeats 2000000 in
set_option maxRecDepth 100000 in
theorem rH (B b q n c:Nat) (bs:List Value) (xs:List Int) (hn:xs.length=n) (w:World) (h:Lib.IsBuilder BT 5 B b bs w) (hlen:bs.length+n≤140737488355328) (hBw:B≤w.heap.size)
    (hq:∀ j,j < n→w.cell? ⟨q,j,none⟩=some (.int .u8 (xs.getD j 0))) (hn0:0 < n) (hqb:q≠b) :
    Calls Tryz.prog 117 #[.pointer (some ⟨b,0,none⟩),.slice (some ⟨q,0,none⟩) n c] w fun e w'=>e=.returned (.tuple #[.int .i64 n,.nilIface])∧(Lib.BuilderAt BT 5 B b (.pointer (some ⟨b,0,none⟩)) (bs++xs.map (Value.int .u8)) w'∧Below B w w'∧Lib.OthersKept 5 (some b) w w'):=by
  obtain ⟨i0,hi,hz0,hz1,hz2⟩:=info_parts info5
  have HQ0:=Lib.hid hq
  clear hq
  go_enter Tryz.func117,Tryz.ntmps117
  go_wp2_with (go_at_call 138;refine (zq B b q bs _ h hqb).mono ?_)
  rintro e w1 ⟨rfl,h1,hb1,ho1,hq1⟩
  have HQ:=Lib.hid (show ∀ j,j < n→w1.cell? ⟨q,j,none⟩=some (.int .u8 (xs.getD j 0)) from fun j hj=>(hq1 j).trans (HQ0.out j hj))
  clear hq1
  obtain ⟨hB,v,hbk,hown,hne⟩:=h1
  have c0:w1.cell? ⟨b,0,none⟩=some (.pointer (some ⟨b,0,none⟩)):=by rw [Lib.cell_of_heap hbk];rfl
  have c1:w1.cell? ⟨b,1,none⟩=some v:=by rw [Lib.cell_of_heap hbk];rfl
  go_wp2_with (at_builtin;refine wpList_append_own _ rfl _ _ 34 rfl B 5 i0 (.int .u8 0) 1 1 Tryz.underlying34 hi hz0 hz1 hz2 rfl (by decide) _ _ _ rfl hown ⟨q,0,none⟩ n c (xs.map (Value.int .u8)) rfl (by simp [hn]) ?c1 ?c2 ?c3 ?c4 ?c5 ?_)
  case c1 =>
    intro j u hj
    have hjn:j < xs.length:=by
      rcases Nat.lt_or_ge j xs.length with h'|h'
      · exact h'
      · rw [List.getElem?_eq_none (by simpa using h')] at hj;cases hj
    have e:(⟨q,0,none⟩:Addr).add j=⟨q,j,none⟩:=by unfold Addr.add;split <;> simp_all
    rw [e,HQ.out j (by omega)]
    rw [List.getElem?_map,List.getElem?_eq_getElem hjn] at hj
    rw [List.getD_eq_getElem?_getD,List.getElem?_eq_getElem hjn]
    exact hj
  case c2 =>
    intro u hu
    obtain ⟨x,_,rfl⟩:=List.mem_map.1 hu
    rfl
  case c3=>unfold maxLen;omega
  case c4=>omega
  case c5=>have:=hb1.size;omega
  intro v' w2 hown' hgrow _
  have hlt:b < w1.heap.size:=by
    rcases Nat.lt_or_ge b w1.heap.size with h'|h'
    · exact h'
    · simp [Array.getElem?_eq_none h'] at hbk
  have hb2:w2.heap[b]?=some (.cells #[.pointer (some ⟨b,0,none⟩),v] BT (0,0)):=by
    rw [hgrow.block b hlt (fun e=>hne e.symm)]
    exact hbk
  have d0:w2.cell? ⟨b,0,none⟩=some (.pointer (some ⟨b,0,none⟩)):=by rw [Lib.cell_of_heap hb2];rfl
  have d1:w2.cell? ⟨b,1,none⟩=some v:=by rw [Lib.cell_of_heap hb2];rfl
  have f1:w2.frozen? ⟨b,1,none⟩=false:=Lib.frozen_of_heap hb2 1
  obtain ⟨ao,n',cap,rfl⟩:∃ ao n' cap,v'=.slice ao n' cap:=by
    rcases hown'.2 with ⟨hv,_⟩|⟨g,cap,cur,hv,_⟩
    · exact ⟨_,_,_,hv⟩
    · exact ⟨_,_,_,hv⟩
  go_wp2
  go_ret2
  refine ⟨rfl,?_,?_,(ho1.grown hgrow (uJ hown)).setCell ⟨b,1,none⟩ rfl _⟩
  · exact Lib.BuilderAt.put (T:=BT) (e:=5) hB hb2 (bs':=bs++xs.map (Value.int .u8)) (by simpa [hn] using hown') (by decide)
  · exact (hb1.grown hgrow (by have:=hb1.size;omega) (fun k hk=>(hown.lt k hk).1)).setCell (p:=⟨b,1,none⟩) hB _
abbrev SR:=dx
def eZ (rs:List SR) (i:Nat):List UInt8:=(List.range i).flatMap fun j=>mf j++uB (rs.getD j lJ).f0.data.toList (rs.getD j lJ).f1.data.toList
def mD (rs:List SR):List UInt8:=eZ rs rs.length
theorem iL (rs:List SR) (i:Nat):eZ rs (i+1)=eZ rs i++(mf i++uB (rs.getD i lJ).f0.data.toList (rs.getD i lJ).f1.data.toList):=by
  unfold eZ;rw [List.range_succ,List.flatMap_append];simp
theorem qA (rs:List SR):∀ (d k:Nat),(eZ rs k).length≤(eZ rs (k+d)).length
  | 0,k=>Nat.le_refl _
  | d+1,k=>by
    have:=qA rs d k
    rw [show k+(d+1)=(k+d)+1 from rfl,iL,List.length_append]
    omega
theorem tN (rs:List SR) (k:Nat) (h:k≤rs.length):(eZ rs k).length≤(mD rs).length:=by
  have:=qA rs (rs.length - k) k
  rwa [Nat.add_sub_cancel' h] at this
theorem gW (c:UInt8):aW.f (c.toNat:Int)=some (df c):=dL (p:=fun c=>aW.f (c.toNat:Int)=some (df c)) (by decide +kernel) c
def tZ:ByteArray:=⟨#[48,49,50,51,52,53,54,55,56,57,97,98,99,100,101,102]⟩
theorem rf (u:UInt8):bt tZ ((u.toNat:Int) / 16)=((gz (u >>> 4)).toNat:Int):=dL (p:=fun u=>bt tZ ((u.toNat:Int) / 16)=((gz (u >>> 4)).toNat:Int)) (by decide +kernel) u
theorem rz (u:UInt8):bt tZ (Go.bits .and .u8 (u.toNat:Int) 15)=((gz (u &&& 15)).toNat:Int):=dL (p:=fun u=>bt tZ (Go.bits .and .u8 (u.toNat:Int) 15)=((gz (u &&& 15)).toNat:Int)) (by decide +kernel) u
theorem vK (u:UInt8):0≤Go.bits .and .u8 (u.toNat:Int) 15∧Go.bits .and .u8 (u.toNat:Int) 15 < 16:=dL (p:=fun u=>0≤Go.bits .and .u8 (u.toNat:Int) 15∧Go.bits .and .u8 (u.toNat:Int) 15 < 16) (by decide +kernel) u
theorem jG {P:Program} {t:TypeId} (h:P.underlying t=some .string) (i:Int) (h0:0≤i) (h1:i < 16) (W:World) :
    (Instr.index t (.string ⟨#[48,49,50,51,52,53,54,55,56,57,97,98,99,100,101,102]⟩) (.int .u8 i)).run P W=.ok (.int .u8 (bt tZ i)) W:=by
  rw [run_index_string W t _ .u8 i h,dif_pos ⟨h0,h1⟩]
  have hh:i.toNat < tZ.size:=by show i.toNat < 16;omega
  rw [← dJ tZ i hh]
  rfl
structure TW (w wr:World) (R:Nat) (f0 f1:ByteArray) (bs:List UInt8):Prop where
  below:Below w.heap.size w wr
  bld:Lib.IsBuilder BT 5 w.heap.size w.heap.size (Lib.byteCells bs) wr
  row:wr.heap[R]?=some (.cells #[.string f0,.string f1] 102 (0,0))
theorem TW.c0 {w wr:World} {R:Nat} {f0 f1:ByteArray} {bs:List UInt8} (h:TW w wr R f0 f1 bs):wr.cell? ⟨R,0,none⟩=some (.string f0):=by rw [Lib.cell_of_heap h.row];rfl
theorem TW.c1 {w wr:World} {R:Nat} {f0 f1:ByteArray} {bs:List UInt8} (h:TW w wr R f0 f1 bs):wr.cell? ⟨R,1,none⟩=some (.string f1):=by rw [Lib.cell_of_heap h.row];rfl
theorem qN {w:World} {T e:TypeId} {B b:Nat} {bs:List Value} (h:Lib.IsBuilder T e B b bs w) (o:Obj):Lib.IsBuilder T e B b bs (w.alloc o):=by
  have step:∀ {p:Value},Lib.BuilderAt T e B b p bs w→Lib.BuilderAt T e B b p bs (w.alloc o):=by
    intro p h
    obtain ⟨hB,v,hb,ho,hne⟩:=h
    have hlt:=(Array.getElem?_eq_some_iff.1 hb).1
    exact ⟨hB,v,by rw [Lib.alloc_old w o b hlt];exact hb,ho.alloc o,hne⟩
  rcases h with h|h
  · exact .inl (step h)
  · exact .inr (step h)
theorem TW.alloc {w wr:World} {R:Nat} {f0 f1:ByteArray} {bs:List UInt8} (h:TW w wr R f0 f1 bs) (o:Obj):TW w (wr.alloc o) R f0 f1 bs :=
  ⟨h.below.alloc h.below.size o,qN h.bld o,by rw [Lib.alloc_old wr o R (Array.getElem?_eq_some_iff.1 h.row).1];exact h.row⟩
theorem TW.drewN {w wr:World} {R:Nat} {f0 f1:ByteArray} {bs:List UInt8} (h:TW w wr R f0 f1 bs) (n:Nat):TW w (wr.drewN n) R f0 f1 bs:=by
  refine ⟨ae h.below n,?_,h.row⟩
  exact h.bld
theorem TW.step {w wr w2:World} {R:Nat} {f0 f1:ByteArray} {bs bs':List UInt8} (h:TW w wr R f0 f1 bs) (hb:Below w.heap.size wr w2) (hB:Lib.BuilderAt BT 5 w.heap.size w.heap.size (.pointer (some ⟨w.heap.size,0,none⟩)) (Lib.byteCells bs') w2)
    (ho:Lib.OthersKept 5 (some w.heap.size) wr w2) (hR:R≠w.heap.size):TW w w2 R f0 f1 bs' :=
  ⟨h.below.trans hb,.inr hB,ho R _ h.row (by intro e;exact hR (Option.some.inj e)) (by intro c fz e;injection e with _ e2;exact absurd e2 (by decide))⟩
theorem byteCells_append (a b:List UInt8):Lib.byteCells (a++b)=Lib.byteCells a++Lib.byteCells b:=by simp [Lib.byteCells]
theorem aV (a:List UInt8):(Lib.byteCells a).length=a.length:=by simp [Lib.byteCells]
def jJ.f (l0:List SR):Option ByteArray:=if (mD l0).length≤140737488351231 then some (mk (mD l0)) else none
set_option maxHeartbeats 8000000 in
set_option maxRecDepth 100000 in
theorem jJ.any (A0:Option Addr) (c0:Nat) (l0:List SR) (w:World) (hr0:Kd.C nI w A0 l0.length l0) (hc0:l0.length≤c0) (hs:(mD l0).length≤140737488351232) (hn:l0.length≤140737488351232) :
    Calls Tryz.prog 91 #[.slice A0 l0.length c0] w fun e w'=>e=.returned (.string (mk (mD l0)))∧Below w.heap.size w w':=by
  have HR:=Lib.hid hr0
  have HS:=Lib.hid hs
  clear hr0 hs
  go_enter Tryz.func91,Tryz.ntmps91
  go_wp2
  go_loopw [10] (fun i wr=>∃ k:Nat,k≤l0.length∧i=.int .i64 k∧aa (Below w.heap.size w wr)∧aa (w.heap.size < wr.heap.size)∧aa (Lib.IsBuilder BT 5 w.heap.size w.heap.size (Lib.byteCells (eZ l0 k)) wr)) (fun i _=>l0.length - (intOf i).toNat)
  case atStart =>
    refine ⟨0,Nat.zero_le _,rfl,⟨(Below.refl _ _).alloc (Nat.le_refl _) _⟩,⟨by simp⟩,⟨?_⟩⟩
    refine .inl ⟨Nat.le_refl _,.slice none 0 0,by simp [World.alloc,-World.alloc_eq],?_,by simp [Value.ownBlock]⟩
    exact ⟨rfl,.inl ⟨rfl,rfl⟩⟩
  case round =>
    obtain ⟨k,hk,rfl,HB,HZ,HI⟩:=hrel
    obtain ⟨wo,rfl⟩:∃ wo:World,wo=wr:=⟨_,rfl⟩
    by_cases hlt:k < l0.length
    · obtain ⟨ad,e1,hx0,hx1⟩:=jc (Kd.bP HR.out HB.out) (k:Int) (by omega) (by omega)
      rw [Int.toNat_natCast] at hx0 hx1
      subst e1
      have hf0:(aX l0 (k:Int))=l0.getD k lJ:=by unfold aX;rw [Int.toNat_natCast]
      obtain ⟨f0,hF0⟩:∃ f,(aX l0 (k:Int)).f0=f:=⟨_,rfl⟩
      obtain ⟨f1,hF1⟩:∃ f,(aX l0 (k:Int)).f1=f:=⟨_,rfl⟩
      rw [hF0] at hx0
      rw [hF1] at hx1
      rw [hf0] at hF0 hF1
      have HF0:=Lib.hid hF0
      have HF1:=Lib.hid hF1
      clear hf0 hF0 hF1
      have hmax:=tN l0 (k+1) (by omega)
      rw [iL] at hmax
      unfold uB at hmax
      rw [HF0.out,HF1.out] at hmax
      have hM:(eZ l0 k).length+(mf k).length+f0.size+1+(ut f1.data.toList).length≤140737488351232:=by
        have:=HS.out
        simp only [List.length_append,List.length_cons,List.length_nil] at hmax
        rw [bL]
        omega
      have HM:=Lib.hid hM
      have hsucc:eZ l0 (k+1)=eZ l0 k++mf k++f0.data.toList++[61]++ut f1.data.toList:=by
        rw [iL];unfold uB;rw [HF0.out,HF1.out];simp only [List.append_assoc]
      have hRne:wo.heap.size≠w.heap.size:=by have:=HZ.out;omega
      have HRN:=Lib.hid hRne
      have hrow:(wo.alloc (.cells #[.string f0,.string f1] 102)).heap[wo.heap.size]?=some (.cells #[.string f0,.string f1] 102 (0,0)):=by simp [World.alloc,-World.alloc_eq]
      have hT0:TW w (wo.alloc (.cells #[.string f0,.string f1] 102)) wo.heap.size f0 f1 (eZ l0 k) :=
        ⟨HB.out.alloc HB.out.size _,qN HI.out _,hrow⟩
      have HT0:=aa.mk hT0
      have hwle:w.heap.size≤(wo.alloc (.cells #[.string f0,.string f1] 102)).heap.size:=hT0.below.size
      have HWL:=Lib.hid hwle
      have hf1n:f1.size≤140737488351232:=by
        have:=tL f1.data.toList f1.data.toList.length
        have h2:=bL f1
        unfold ut at hM
        omega
      have hf0b:(eZ l0 k++mf k).length+f0.size+1≤140737488351232:=by rw [List.length_append];omega
      have HF0B:=Lib.hid hf0b
      obtain ⟨Bs,hBs⟩:∃ Bs,eZ l0 k++mf k++f0.data.toList++[61]=Bs:=⟨_,rfl⟩
      have hBl:Bs.length+(ut f1.data.toList).length≤140737488351232:=by
        rw [← hBs];simp only [List.length_append,List.length_cons,List.length_nil];rw [← bL f0];omega
      rw [hBs] at hsucc
      have HSUC:=Lib.hid hsucc
      have HBS:=Lib.hid hBs
      have HBL:=Lib.hid hBl
      clear hmax hM hsucc hRne hrow hT0 hwle hBs hBl hf0b
      by_cases hk0:0 < k
      · have d0:decide (0 < k)=true:=decide_eq_true hk0
        have hsep:mf k=[44]:=by unfold mf;rw [if_neg (by omega)]
        have HSP:=Lib.hid hsep
        clear hsep
        go_wp2_with fail
        refine (bz w.heap.size w.heap.size _ 44 _ HT0.out.bld (by rw [aV];have:=HF0B.out;rw [HSP.out] at this;simp at this;omega) HWL.out).mono ?_
        rintro e w2 ⟨rfl,hB2,hb2,ho2⟩
        have HT:=aa.mk (HT0.out.step (bs':=eZ l0 k++mf k) hb2 (by rw [HSP.out,byteCells_append];exact hB2) ho2 HRN.out)
        clear hB2 hb2 ho2 HT0 HSP HWL
        have hc20:=HT.out.c0
        have HWS:=Lib.hid HT.out.below.size
        go_wp2_with fail
        refine (mU w.heap.size w.heap.size _ f0 _ HT.out.bld (by rw [aV];have:=HF0B.out;omega) HWS.out).mono ?_
        rintro e w3 ⟨rfl,hB3,hb3,ho3⟩
        have HT3:=aa.mk (HT.out.step (bs':=eZ l0 k++mf k++f0.data.toList) hb3 (by rw [byteCells_append];exact hB3) ho3 HRN.out)
        clear hB3 hb3 ho3 HT hc20 HWS
        have HWS:=Lib.hid HT3.out.below.size
        go_wp2_with fail
        refine (bz w.heap.size w.heap.size _ 61 _ HT3.out.bld (by rw [aV,List.length_append,← bL];have:=HF0B.out;omega) HWS.out).mono ?_
        rintro e w4 ⟨rfl,hB4,hb4,ho4⟩
        have HT4:=aa.mk (HT3.out.step (bs':=Bs) hb4 (by rw [← HBS.out,byteCells_append];exact hB4) ho4 HRN.out)
        clear hB4 hb4 ho4 HT3 HWS
        have hc41:=HT4.out.c1
        go_wp2_with fail
        go_loopw [25] (fun j wq=>∃ m:Nat,m≤f1.size∧j=.int .i64 m∧aa (TW w wq wo.heap.size f0 f1 (Bs++bI f1.data.toList m))) (fun j _=>f1.size - (intOf j).toNat)
        case atStart=>exact ⟨0,Nat.zero_le _,rfl,⟨by rw [show bI f1.data.toList 0=[] from rfl,List.append_nil];exact HT4.out⟩⟩
        case round =>
          clear hc41 HT4
          obtain ⟨m,hm,rfl,HT⟩:=hrel
          have hcq:=HT.out.c1
          have HWQ:=Lib.hid HT.out.below.size
          by_cases hlm:m < f1.size
          · have hum:=oP f1 m
            have hes:=jo f1.data.toList m
            have hmx:=qP f1.data.toList (m+1) (by rw [← bL];omega)
            obtain ⟨u,hu⟩:∃ u:UInt8,f1.data.toList.getD m 0=u:=⟨_,rfl⟩
            rw [hu] at hum hes
            rw [← bL] at hes
            have hbx:∀ h:m < f1.size,((f1[m]'h).toNat:Int)=bt f1 (m:Int):=fun h=>by
              have:=dJ f1 (m:Int) (by rw [Int.toNat_natCast];exact h)
              simpa using this
            have hsp:=gW u
            rw [hum] at hbx
            obtain ⟨c,hcu⟩:∃ c:Int,(u.toNat:Int)=c:=⟨_,rfl⟩
            rw [hcu] at hbx hsp
            have hc0':0≤c:=by omega
            have hc1':c≤255:=by have:=u.toNat_lt;omega
            have HSPE:=Lib.hid hsp
            have HES:=Lib.hid hes
            have HMX:=Lib.hid hmx
            have HCU:=Lib.hid hcu
            clear hum hu hsp hes hmx hcu
            have hesc:∀ o b:Bool,jV u=o→jI f1.size m u=b→bI f1.data.toList (m+1)=bI f1.data.toList m++(if o=true then [92,gz (u >>> 4),gz (u &&& 15)] else if b=true then [92,u] else [u]):=by
              intro o b ho hb
              rw [HES.out];unfold uL;rw [ho,hb]
            have HESC:=Lib.hid hesc
            clear hesc
            by_cases h32:c < 32∨126 < c
            · have hodd:jV u=true:=by
                unfold jV
                have:=HCU.out
                rcases h32 with h|h
                · rw [decide_eq_true (show u < 32 from by rw [UInt8.lt_iff_toNat_lt];show u.toNat < 32;omega)];rfl
                · rw [decide_eq_true (show 126 < u from by rw [UInt8.lt_iff_toNat_lt];show 126 < u.toNat;omega),Bool.or_true]
              have hEB:=HESC.out true _ hodd rfl
              rw [if_pos rfl] at hEB
              have HEB:=Lib.hid hEB
              clear hEB hodd
              have hb32:(∃ x,decide (c < 32)=x):=⟨_,rfl⟩
              rcases Classical.em (c < 32) with h1|h1
              · have d1:decide (c < 32)=true:=decide_eq_true h1
                clear h32
                have hx1:=rf u
                have hx2:=rz u
                have hr1:0≤c / 16∧c / 16 < 16:=by omega
                have hr2:=vK u
                rw [HCU.out] at hx1 hx2 hr2
                obtain ⟨v1,hv1⟩:∃ v1:Int,((gz (u >>> 4)).toNat:Int)=v1:=⟨_,rfl⟩
                obtain ⟨v2,hv2⟩:∃ v2:Int,((gz (u &&& 15)).toNat:Int)=v2:=⟨_,rfl⟩
                rw [hv1] at hx1
                rw [hv2] at hx2
                have hi1:=jG (P:=Tryz.prog) Tryz.underlying9 (c / 16) hr1.1 hr1.2
                have hi2:=jG (P:=Tryz.prog) Tryz.underlying9 (Go.bits .and .u8 c 15) hr2.1 hr2.2
                rw [hx1] at hi1
                rw [hx2] at hi2
                have HV1:=Lib.hid hv1
                have HV2:=Lib.hid hv2
                clear hx1 hx2 hr1 hr2 hv1 hv2
                go_wp2_with fail
                go_still_tail 6,(by kernel_rfl)
                go_wp2_with fail
                have hTA:TW w (wr.alloc (.cells #[.int .u8 92,.int .u8 v1,.int .u8 v2] 5)).drew wo.heap.size f0 f1 (Bs++bI f1.data.toList m):=(HT.out.alloc _).drewN 1
                have HTA:=aa.mk hTA
                have hne:wr.heap.size≠w.heap.size:=by
                  have:w.heap.size < wr.heap.size:=by rcases HT.out.bld with h|h <;> exact h.lt
                  omega
                have HNE:=Lib.hid hne
                have hcl:∀ j,j < 3→(wr.alloc (.cells #[.int .u8 92,.int .u8 v1,.int .u8 v2] 5)).drew.cell? ⟨wr.heap.size,j,none⟩=some (.int .u8 (([92,v1,v2]:List Int).getD j 0)):=by
                  intro j hj
                  rcases j with _|_|_|j
                  · simp
                  · simp
                  · simp
                  · omega
                have HCL:=Lib.hid hcl
                have HWA:=Lib.hid hTA.below.size
                clear hTA hne hcl
                refine (rH w.heap.size w.heap.size wr.heap.size 3 3 _ [92,v1,v2] rfl _ HTA.out.bld (by rw [aV,List.length_append];have h1:=HMX.out;have h2:=HBL.out;rw [HEB.out,List.length_append] at h1;simp at h1;omega) HWA.out HCL.out (by omega) HNE.out).mono ?_
                rintro e w6 ⟨rfl,hB6,hb6,ho6⟩
                have HT6:=aa.mk (HTA.out.step (bs':=Bs++bI f1.data.toList (m+1)) hb6 (by rw [HEB.out,← List.append_assoc,byteCells_append];rw [← HV1.out,← HV2.out] at hB6;exact hB6) ho6 HRN.out)
                clear hB6 hb6 ho6 HTA HCL
                go_wp2_with fail
                exact ⟨⟨m+1,by omega,by go_num,HT6⟩,by simp [intOf];omega⟩
              · have d1:decide (c < 32)=false:=decide_eq_false h1
                have d2:decide (126 < c)=true:=decide_eq_true (by omega)
                clear h32
                have hx1:=rf u
                have hx2:=rz u
                have hr1:0≤c / 16∧c / 16 < 16:=by omega
                have hr2:=vK u
                rw [HCU.out] at hx1 hx2 hr2
                obtain ⟨v1,hv1⟩:∃ v1:Int,((gz (u >>> 4)).toNat:Int)=v1:=⟨_,rfl⟩
                obtain ⟨v2,hv2⟩:∃ v2:Int,((gz (u &&& 15)).toNat:Int)=v2:=⟨_,rfl⟩
                rw [hv1] at hx1
                rw [hv2] at hx2
                have hi1:=jG (P:=Tryz.prog) Tryz.underlying9 (c / 16) hr1.1 hr1.2
                have hi2:=jG (P:=Tryz.prog) Tryz.underlying9 (Go.bits .and .u8 c 15) hr2.1 hr2.2
                rw [hx1] at hi1
                rw [hx2] at hi2
                have HV1:=Lib.hid hv1
                have HV2:=Lib.hid hv2
                clear hx1 hx2 hr1 hr2 hv1 hv2
                go_wp2_with fail
                go_still_tail 6,(by kernel_rfl)
                go_wp2_with fail
                have hTA:TW w (wr.alloc (.cells #[.int .u8 92,.int .u8 v1,.int .u8 v2] 5)).drew wo.heap.size f0 f1 (Bs++bI f1.data.toList m):=(HT.out.alloc _).drewN 1
                have HTA:=aa.mk hTA
                have hne:wr.heap.size≠w.heap.size:=by
                  have:w.heap.size < wr.heap.size:=by rcases HT.out.bld with h|h <;> exact h.lt
                  omega
                have HNE:=Lib.hid hne
                have hcl:∀ j,j < 3→(wr.alloc (.cells #[.int .u8 92,.int .u8 v1,.int .u8 v2] 5)).drew.cell? ⟨wr.heap.size,j,none⟩=some (.int .u8 (([92,v1,v2]:List Int).getD j 0)):=by
                  intro j hj
                  rcases j with _|_|_|j
                  · simp
                  · simp
                  · simp
                  · omega
                have HCL:=Lib.hid hcl
                have HWA:=Lib.hid hTA.below.size
                clear hTA hne hcl
                refine (rH w.heap.size w.heap.size wr.heap.size 3 3 _ [92,v1,v2] rfl _ HTA.out.bld (by rw [aV,List.length_append];have h1:=HMX.out;have h2:=HBL.out;rw [HEB.out,List.length_append] at h1;simp at h1;omega) HWA.out HCL.out (by omega) HNE.out).mono ?_
                rintro e w6 ⟨rfl,hB6,hb6,ho6⟩
                have HT6:=aa.mk (HTA.out.step (bs':=Bs++bI f1.data.toList (m+1)) hb6 (by rw [HEB.out,← List.append_assoc,byteCells_append];rw [← HV1.out,← HV2.out] at hB6;exact hB6) ho6 HRN.out)
                clear hB6 hb6 ho6 HTA HCL
                go_wp2_with fail
                exact ⟨⟨m+1,by omega,by go_num,HT6⟩,by simp [intOf];omega⟩
            · have h1:¬ c < 32:=fun h=>h32 (.inl h)
              have h2:¬ 126 < c:=fun h=>h32 (.inr h)
              have hodd:jV u=false:=by
                unfold jV
                have:=HCU.out
                rw [decide_eq_false (show ¬ u < 32 from by rw [UInt8.lt_iff_toNat_lt];show ¬ u.toNat < 32;omega),decide_eq_false (show ¬ 126 < u from by rw [UInt8.lt_iff_toNat_lt];show ¬ 126 < u.toNat;omega)];rfl
              have d1:decide (c < 32)=false:=decide_eq_false h1
              have d2:decide (126 < c)=false:=decide_eq_false h2
              have hEB2:=fun (h:jI f1.size m u=true)=>HESC.out false true hodd h
              have hEB1:=fun (h:jI f1.size m u=false)=>HESC.out false false hodd h
              rw [if_neg (by simp),if_pos rfl] at hEB2
              rw [if_neg (by simp),if_neg (by simp)] at hEB1
              have HB2:=Lib.hid hEB2
              have HB1:=Lib.hid hEB1
              clear hEB1 hEB2 hodd h32
              cases hsb:df u with
              | true =>
                rw [hsb] at HSPE
                have HEB:=Lib.hid (HB2.out (by unfold jI;rw [hsb];rfl))
                clear hsb
                go_wp2_with (go_at_call 118;refine (aW.calls c true _ HSPE.out).mono ?_;rintro e w' ⟨rfl,⟨nq,rfl⟩⟩;have HTn:=aa.mk (HT.out.drewN nq);clear HT;have HT:=HTn;clear HTn)
                go_wp2_with fail
                refine (bz w.heap.size w.heap.size _ 92 _ HT.out.bld (by rw [aV,List.length_append];have h1:=HMX.out;have h2:=HBL.out;rw [HEB.out,List.length_append] at h1;simp at h1;omega) HWQ.out).mono ?_
                rintro e w5 ⟨rfl,hB5,hb5,ho5⟩
                have HT5:=aa.mk (HT.out.step (bs':=Bs++bI f1.data.toList m++[92]) hb5 (by rw [byteCells_append];exact hB5) ho5 HRN.out)
                have HW5:=Lib.hid HT5.out.below.size
                clear hB5 hb5 ho5
                go_wp2_with fail
                refine (bz w.heap.size w.heap.size _ c _ HT5.out.bld (by rw [aV,List.length_append,List.length_append];have h1:=HMX.out;have h2:=HBL.out;rw [HEB.out,List.length_append] at h1;simp at h1 ⊢;omega) HW5.out).mono ?_
                rintro e w6 ⟨rfl,hB6,hb6,ho6⟩
                have HT6:=aa.mk (HT5.out.step (bs':=Bs++bI f1.data.toList (m+1)) hb6 (by rw [HEB.out,show Bs++(bI f1.data.toList m++[92,u])=(Bs++bI f1.data.toList m++[92])++[u] by simp,byteCells_append];rw [← HCU.out] at hB6;exact hB6) ho6 HRN.out)
                clear hB6 hb6 ho6
                go_wp2_with fail
                exact ⟨⟨m+1,by omega,by go_num,HT6⟩,by simp [intOf];omega⟩
              | false =>
                rw [hsb] at HSPE
                have hu35:(u=35)↔(c=35):=by rw [← HCU.out];exact (Af u).symm
                have hu32:(u=32)↔(c=32):=by rw [← HCU.out];exact (vC u).symm
                have hbk:jI f1.size m u=((decide (m=0) && (decide (c=35) || decide (c=32))) || (decide (m+1=f1.size) && decide (c=32))):=by
                  unfold jI;rw [hsb,Bool.false_or,decide_eq_decide.2 hu35,decide_eq_decide.2 hu32]
                have HBK:=Lib.hid hbk
                clear hbk hu35 hu32 hsb
                have bb1:((f1.size:Int) - 1 == (m:Int))=decide (m+1=f1.size):=by
                  rw [Bool.eq_iff_iff,beq_iff_eq,decide_eq_true_iff];omega
                have bb2:((m:Int) == (f1.size:Int) - 1)=decide (m+1=f1.size):=by
                  rw [Bool.eq_iff_iff,beq_iff_eq,decide_eq_true_iff];omega
                by_cases q1:m=0
                · have e1:=decide_eq_true q1
                  have b1:((m:Int) == 0)=true:=beq_iff_eq.2 (by omega)
                  by_cases q3:c=32
                  · have e3:=decide_eq_true q3
                    have b3:(c == 32)=true:=beq_iff_eq.2 q3
                    by_cases q2:c=35
                    · omega
                    · have e2:=decide_eq_false q2
                      have b2:(c == 35)=false:=beq_eq_false_iff_ne.2 q2
                      by_cases q4:m+1=f1.size
                      · have e4:=decide_eq_true q4
                        rw [e4] at bb1 bb2
                        have HEB:=Lib.hid (HB2.out (by rw [HBK.out,e1,e2,e3,e4];rfl))
                        clear e1 e2 e3 e4 q1 q2 q3 q4
                        go_wp2_with (go_at_call 118;refine (aW.calls c false _ HSPE.out).mono ?_;rintro e w' ⟨rfl,⟨nq,rfl⟩⟩;have HTn:=aa.mk (HT.out.drewN nq);clear HT;have HT:=HTn;clear HTn)
                        go_wp2_with fail
                        refine (bz w.heap.size w.heap.size _ 92 _ HT.out.bld (by rw [aV,List.length_append];have h1:=HMX.out;have h2:=HBL.out;rw [HEB.out,List.length_append] at h1;simp at h1;omega) HWQ.out).mono ?_
                        rintro e w5 ⟨rfl,hB5,hb5,ho5⟩
                        have HT5:=aa.mk (HT.out.step (bs':=Bs++bI f1.data.toList m++[92]) hb5 (by rw [byteCells_append];exact hB5) ho5 HRN.out)
                        have HW5:=Lib.hid HT5.out.below.size
                        clear hB5 hb5 ho5
                        go_wp2_with fail
                        refine (bz w.heap.size w.heap.size _ c _ HT5.out.bld (by rw [aV,List.length_append,List.length_append];have h1:=HMX.out;have h2:=HBL.out;rw [HEB.out,List.length_append] at h1;simp at h1 ⊢;omega) HW5.out).mono ?_
                        rintro e w6 ⟨rfl,hB6,hb6,ho6⟩
                        have HT6:=aa.mk (HT5.out.step (bs':=Bs++bI f1.data.toList (m+1)) hb6 (by rw [HEB.out,show Bs++(bI f1.data.toList m++[92,u])=(Bs++bI f1.data.toList m++[92])++[u] by simp,byteCells_append];rw [← HCU.out] at hB6;exact hB6) ho6 HRN.out)
                        clear hB6 hb6 ho6
                        go_wp2_with fail
                        exact ⟨⟨m+1,by omega,by go_num,HT6⟩,by simp [intOf];omega⟩
                      · have e4:=decide_eq_false q4
                        rw [e4] at bb1 bb2
                        have HEB:=Lib.hid (HB2.out (by rw [HBK.out,e1,e2,e3,e4];rfl))
                        clear e1 e2 e3 e4 q1 q2 q3 q4
                        go_wp2_with (go_at_call 118;refine (aW.calls c false _ HSPE.out).mono ?_;rintro e w' ⟨rfl,⟨nq,rfl⟩⟩;have HTn:=aa.mk (HT.out.drewN nq);clear HT;have HT:=HTn;clear HTn)
                        go_wp2_with fail
                        refine (bz w.heap.size w.heap.size _ 92 _ HT.out.bld (by rw [aV,List.length_append];have h1:=HMX.out;have h2:=HBL.out;rw [HEB.out,List.length_append] at h1;simp at h1;omega) HWQ.out).mono ?_
                        rintro e w5 ⟨rfl,hB5,hb5,ho5⟩
                        have HT5:=aa.mk (HT.out.step (bs':=Bs++bI f1.data.toList m++[92]) hb5 (by rw [byteCells_append];exact hB5) ho5 HRN.out)
                        have HW5:=Lib.hid HT5.out.below.size
                        clear hB5 hb5 ho5
                        go_wp2_with fail
                        refine (bz w.heap.size w.heap.size _ c _ HT5.out.bld (by rw [aV,List.length_append,List.length_append];have h1:=HMX.out;have h2:=HBL.out;rw [HEB.out,List.length_append] at h1;simp at h1 ⊢;omega) HW5.out).mono ?_
                        rintro e w6 ⟨rfl,hB6,hb6,ho6⟩
                        have HT6:=aa.mk (HT5.out.step (bs':=Bs++bI f1.data.toList (m+1)) hb6 (by rw [HEB.out,show Bs++(bI f1.data.toList m++[92,u])=(Bs++bI f1.data.toList m++[92])++[u] by simp,byteCells_append];rw [← HCU.out] at hB6;exact hB6) ho6 HRN.out)
                        clear hB6 hb6 ho6
                        go_wp2_with fail
                        exact ⟨⟨m+1,by omega,by go_num,HT6⟩,by simp [intOf];omega⟩
                  · have e3:=decide_eq_false q3
                    have b3:(c == 32)=false:=beq_eq_false_iff_ne.2 q3
                    by_cases q2:c=35
                    · have e2:=decide_eq_true q2
                      have b2:(c == 35)=true:=beq_iff_eq.2 q2
                      by_cases q4:m+1=f1.size
                      · have e4:=decide_eq_true q4
                        rw [e4] at bb1 bb2
                        have HEB:=Lib.hid (HB2.out (by rw [HBK.out,e1,e2,e3,e4];rfl))
                        clear e1 e2 e3 e4 q1 q2 q3 q4
                        go_wp2_with (go_at_call 118;refine (aW.calls c false _ HSPE.out).mono ?_;rintro e w' ⟨rfl,⟨nq,rfl⟩⟩;have HTn:=aa.mk (HT.out.drewN nq);clear HT;have HT:=HTn;clear HTn)
                        go_wp2_with fail
                        refine (bz w.heap.size w.heap.size _ 92 _ HT.out.bld (by rw [aV,List.length_append];have h1:=HMX.out;have h2:=HBL.out;rw [HEB.out,List.length_append] at h1;simp at h1;omega) HWQ.out).mono ?_
                        rintro e w5 ⟨rfl,hB5,hb5,ho5⟩
                        have HT5:=aa.mk (HT.out.step (bs':=Bs++bI f1.data.toList m++[92]) hb5 (by rw [byteCells_append];exact hB5) ho5 HRN.out)
                        have HW5:=Lib.hid HT5.out.below.size
                        clear hB5 hb5 ho5
                        go_wp2_with fail
                        refine (bz w.heap.size w.heap.size _ c _ HT5.out.bld (by rw [aV,List.length_append,List.length_append];have h1:=HMX.out;have h2:=HBL.out;rw [HEB.out,List.length_append] at h1;simp at h1 ⊢;omega) HW5.out).mono ?_
                        rintro e w6 ⟨rfl,hB6,hb6,ho6⟩
                        have HT6:=aa.mk (HT5.out.step (bs':=Bs++bI f1.data.toList (m+1)) hb6 (by rw [HEB.out,show Bs++(bI f1.data.toList m++[92,u])=(Bs++bI f1.data.toList m++[92])++[u] by simp,byteCells_append];rw [← HCU.out] at hB6;exact hB6) ho6 HRN.out)
                        clear hB6 hb6 ho6
                        go_wp2_with fail
                        exact ⟨⟨m+1,by omega,by go_num,HT6⟩,by simp [intOf];omega⟩
                      · have e4:=decide_eq_false q4
                        rw [e4] at bb1 bb2
                        have HEB:=Lib.hid (HB2.out (by rw [HBK.out,e1,e2,e3,e4];rfl))
                        clear e1 e2 e3 e4 q1 q2 q3 q4
                        go_wp2_with (go_at_call 118;refine (aW.calls c false _ HSPE.out).mono ?_;rintro e w' ⟨rfl,⟨nq,rfl⟩⟩;have HTn:=aa.mk (HT.out.drewN nq);clear HT;have HT:=HTn;clear HTn)
                        go_wp2_with fail
                        refine (bz w.heap.size w.heap.size _ 92 _ HT.out.bld (by rw [aV,List.length_append];have h1:=HMX.out;have h2:=HBL.out;rw [HEB.out,List.length_append] at h1;simp at h1;omega) HWQ.out).mono ?_
                        rintro e w5 ⟨rfl,hB5,hb5,ho5⟩
                        have HT5:=aa.mk (HT.out.step (bs':=Bs++bI f1.data.toList m++[92]) hb5 (by rw [byteCells_append];exact hB5) ho5 HRN.out)
                        have HW5:=Lib.hid HT5.out.below.size
                        clear hB5 hb5 ho5
                        go_wp2_with fail
                        refine (bz w.heap.size w.heap.size _ c _ HT5.out.bld (by rw [aV,List.length_append,List.length_append];have h1:=HMX.out;have h2:=HBL.out;rw [HEB.out,List.length_append] at h1;simp at h1 ⊢;omega) HW5.out).mono ?_
                        rintro e w6 ⟨rfl,hB6,hb6,ho6⟩
                        have HT6:=aa.mk (HT5.out.step (bs':=Bs++bI f1.data.toList (m+1)) hb6 (by rw [HEB.out,show Bs++(bI f1.data.toList m++[92,u])=(Bs++bI f1.data.toList m++[92])++[u] by simp,byteCells_append];rw [← HCU.out] at hB6;exact hB6) ho6 HRN.out)
                        clear hB6 hb6 ho6
                        go_wp2_with fail
                        exact ⟨⟨m+1,by omega,by go_num,HT6⟩,by simp [intOf];omega⟩
                    · have e2:=decide_eq_false q2
                      have b2:(c == 35)=false:=beq_eq_false_iff_ne.2 q2
                      by_cases q4:m+1=f1.size
                      · have e4:=decide_eq_true q4
                        rw [e4] at bb1 bb2
                        have HEB:=Lib.hid (HB1.out (by rw [HBK.out,e1,e2,e3,e4];rfl))
                        clear e1 e2 e3 e4 q1 q2 q3 q4
                        go_wp2_with (go_at_call 118;refine (aW.calls c false _ HSPE.out).mono ?_;rintro e w' ⟨rfl,⟨nq,rfl⟩⟩;have HTn:=aa.mk (HT.out.drewN nq);clear HT;have HT:=HTn;clear HTn)
                        go_wp2_with fail
                        refine (bz w.heap.size w.heap.size _ c _ HT.out.bld (by rw [aV,List.length_append];have h1:=HMX.out;have h2:=HBL.out;rw [HEB.out,List.length_append] at h1;simp at h1;omega) HWQ.out).mono ?_
                        rintro e w6 ⟨rfl,hB6,hb6,ho6⟩
                        have HT6:=aa.mk (HT.out.step (bs':=Bs++bI f1.data.toList (m+1)) hb6 (by rw [HEB.out,← List.append_assoc,byteCells_append];rw [← HCU.out] at hB6;exact hB6) ho6 HRN.out)
                        clear hB6 hb6 ho6
                        go_wp2_with fail
                        exact ⟨⟨m+1,by omega,by go_num,HT6⟩,by simp [intOf];omega⟩
                      · have e4:=decide_eq_false q4
                        rw [e4] at bb1 bb2
                        have HEB:=Lib.hid (HB1.out (by rw [HBK.out,e1,e2,e3,e4];rfl))
                        clear e1 e2 e3 e4 q1 q2 q3 q4
                        go_wp2_with (go_at_call 118;refine (aW.calls c false _ HSPE.out).mono ?_;rintro e w' ⟨rfl,⟨nq,rfl⟩⟩;have HTn:=aa.mk (HT.out.drewN nq);clear HT;have HT:=HTn;clear HTn)
                        go_wp2_with fail
                        refine (bz w.heap.size w.heap.size _ c _ HT.out.bld (by rw [aV,List.length_append];have h1:=HMX.out;have h2:=HBL.out;rw [HEB.out,List.length_append] at h1;simp at h1;omega) HWQ.out).mono ?_
                        rintro e w6 ⟨rfl,hB6,hb6,ho6⟩
                        have HT6:=aa.mk (HT.out.step (bs':=Bs++bI f1.data.toList (m+1)) hb6 (by rw [HEB.out,← List.append_assoc,byteCells_append];rw [← HCU.out] at hB6;exact hB6) ho6 HRN.out)
                        clear hB6 hb6 ho6
                        go_wp2_with fail
                        exact ⟨⟨m+1,by omega,by go_num,HT6⟩,by simp [intOf];omega⟩
                · have e1:=decide_eq_false q1
                  have b1:((m:Int) == 0)=false:=beq_eq_false_iff_ne.2 (by omega)
                  by_cases q3:c=32
                  · have e3:=decide_eq_true q3
                    have b3:(c == 32)=true:=beq_iff_eq.2 q3
                    by_cases q2:c=35
                    · omega
                    · have e2:=decide_eq_false q2
                      have b2:(c == 35)=false:=beq_eq_false_iff_ne.2 q2
                      by_cases q4:m+1=f1.size
                      · have e4:=decide_eq_true q4
                        rw [e4] at bb1 bb2
                        have HEB:=Lib.hid (HB2.out (by rw [HBK.out,e1,e2,e3,e4];rfl))
                        clear e1 e2 e3 e4 q1 q2 q3 q4
                        go_wp2_with (go_at_call 118;refine (aW.calls c false _ HSPE.out).mono ?_;rintro e w' ⟨rfl,⟨nq,rfl⟩⟩;have HTn:=aa.mk (HT.out.drewN nq);clear HT;have HT:=HTn;clear HTn)
                        go_wp2_with fail
                        refine (bz w.heap.size w.heap.size _ 92 _ HT.out.bld (by rw [aV,List.length_append];have h1:=HMX.out;have h2:=HBL.out;rw [HEB.out,List.length_append] at h1;simp at h1;omega) HWQ.out).mono ?_
                        rintro e w5 ⟨rfl,hB5,hb5,ho5⟩
                        have HT5:=aa.mk (HT.out.step (bs':=Bs++bI f1.data.toList m++[92]) hb5 (by rw [byteCells_append];exact hB5) ho5 HRN.out)
                        have HW5:=Lib.hid HT5.out.below.size
                        clear hB5 hb5 ho5
                        go_wp2_with fail
                        refine (bz w.heap.size w.heap.size _ c _ HT5.out.bld (by rw [aV,List.length_append,List.length_append];have h1:=HMX.out;have h2:=HBL.out;rw [HEB.out,List.length_append] at h1;simp at h1 ⊢;omega) HW5.out).mono ?_
                        rintro e w6 ⟨rfl,hB6,hb6,ho6⟩
                        have HT6:=aa.mk (HT5.out.step (bs':=Bs++bI f1.data.toList (m+1)) hb6 (by rw [HEB.out,show Bs++(bI f1.data.toList m++[92,u])=(Bs++bI f1.data.toList m++[92])++[u] by simp,byteCells_append];rw [← HCU.out] at hB6;exact hB6) ho6 HRN.out)
                        clear hB6 hb6 ho6
                        go_wp2_with fail
                        exact ⟨⟨m+1,by omega,by go_num,HT6⟩,by simp [intOf];omega⟩
                      · have e4:=decide_eq_false q4
                        rw [e4] at bb1 bb2
                        have HEB:=Lib.hid (HB1.out (by rw [HBK.out,e1,e2,e3,e4];rfl))
                        clear e1 e2 e3 e4 q1 q2 q3 q4
                        go_wp2_with (go_at_call 118;refine (aW.calls c false _ HSPE.out).mono ?_;rintro e w' ⟨rfl,⟨nq,rfl⟩⟩;have HTn:=aa.mk (HT.out.drewN nq);clear HT;have HT:=HTn;clear HTn)
                        go_wp2_with fail
                        refine (bz w.heap.size w.heap.size _ c _ HT.out.bld (by rw [aV,List.length_append];have h1:=HMX.out;have h2:=HBL.out;rw [HEB.out,List.length_append] at h1;simp at h1;omega) HWQ.out).mono ?_
                        rintro e w6 ⟨rfl,hB6,hb6,ho6⟩
                        have HT6:=aa.mk (HT.out.step (bs':=Bs++bI f1.data.toList (m+1)) hb6 (by rw [HEB.out,← List.append_assoc,byteCells_append];rw [← HCU.out] at hB6;exact hB6) ho6 HRN.out)
                        clear hB6 hb6 ho6
                        go_wp2_with fail
                        exact ⟨⟨m+1,by omega,by go_num,HT6⟩,by simp [intOf];omega⟩
                  · have e3:=decide_eq_false q3
                    have b3:(c == 32)=false:=beq_eq_false_iff_ne.2 q3
                    by_cases q2:c=35
                    · have e2:=decide_eq_true q2
                      have b2:(c == 35)=true:=beq_iff_eq.2 q2
                      by_cases q4:m+1=f1.size
                      · have e4:=decide_eq_true q4
                        rw [e4] at bb1 bb2
                        have HEB:=Lib.hid (HB1.out (by rw [HBK.out,e1,e2,e3,e4];rfl))
                        clear e1 e2 e3 e4 q1 q2 q3 q4
                        go_wp2_with (go_at_call 118;refine (aW.calls c false _ HSPE.out).mono ?_;rintro e w' ⟨rfl,⟨nq,rfl⟩⟩;have HTn:=aa.mk (HT.out.drewN nq);clear HT;have HT:=HTn;clear HTn)
                        go_wp2_with fail
                        refine (bz w.heap.size w.heap.size _ c _ HT.out.bld (by rw [aV,List.length_append];have h1:=HMX.out;have h2:=HBL.out;rw [HEB.out,List.length_append] at h1;simp at h1;omega) HWQ.out).mono ?_
                        rintro e w6 ⟨rfl,hB6,hb6,ho6⟩
                        have HT6:=aa.mk (HT.out.step (bs':=Bs++bI f1.data.toList (m+1)) hb6 (by rw [HEB.out,← List.append_assoc,byteCells_append];rw [← HCU.out] at hB6;exact hB6) ho6 HRN.out)
                        clear hB6 hb6 ho6
                        go_wp2_with fail
                        exact ⟨⟨m+1,by omega,by go_num,HT6⟩,by simp [intOf];omega⟩
                      · have e4:=decide_eq_false q4
                        rw [e4] at bb1 bb2
                        have HEB:=Lib.hid (HB1.out (by rw [HBK.out,e1,e2,e3,e4];rfl))
                        clear e1 e2 e3 e4 q1 q2 q3 q4
                        go_wp2_with (go_at_call 118;refine (aW.calls c false _ HSPE.out).mono ?_;rintro e w' ⟨rfl,⟨nq,rfl⟩⟩;have HTn:=aa.mk (HT.out.drewN nq);clear HT;have HT:=HTn;clear HTn)
                        go_wp2_with fail
                        refine (bz w.heap.size w.heap.size _ c _ HT.out.bld (by rw [aV,List.length_append];have h1:=HMX.out;have h2:=HBL.out;rw [HEB.out,List.length_append] at h1;simp at h1;omega) HWQ.out).mono ?_
                        rintro e w6 ⟨rfl,hB6,hb6,ho6⟩
                        have HT6:=aa.mk (HT.out.step (bs':=Bs++bI f1.data.toList (m+1)) hb6 (by rw [HEB.out,← List.append_assoc,byteCells_append];rw [← HCU.out] at hB6;exact hB6) ho6 HRN.out)
                        clear hB6 hb6 ho6
                        go_wp2_with fail
                        exact ⟨⟨m+1,by omega,by go_num,HT6⟩,by simp [intOf];omega⟩
                    · have e2:=decide_eq_false q2
                      have b2:(c == 35)=false:=beq_eq_false_iff_ne.2 q2
                      by_cases q4:m+1=f1.size
                      · have e4:=decide_eq_true q4
                        rw [e4] at bb1 bb2
                        have HEB:=Lib.hid (HB1.out (by rw [HBK.out,e1,e2,e3,e4];rfl))
                        clear e1 e2 e3 e4 q1 q2 q3 q4
                        go_wp2_with (go_at_call 118;refine (aW.calls c false _ HSPE.out).mono ?_;rintro e w' ⟨rfl,⟨nq,rfl⟩⟩;have HTn:=aa.mk (HT.out.drewN nq);clear HT;have HT:=HTn;clear HTn)
                        go_wp2_with fail
                        refine (bz w.heap.size w.heap.size _ c _ HT.out.bld (by rw [aV,List.length_append];have h1:=HMX.out;have h2:=HBL.out;rw [HEB.out,List.length_append] at h1;simp at h1;omega) HWQ.out).mono ?_
                        rintro e w6 ⟨rfl,hB6,hb6,ho6⟩
                        have HT6:=aa.mk (HT.out.step (bs':=Bs++bI f1.data.toList (m+1)) hb6 (by rw [HEB.out,← List.append_assoc,byteCells_append];rw [← HCU.out] at hB6;exact hB6) ho6 HRN.out)
                        clear hB6 hb6 ho6
                        go_wp2_with fail
                        exact ⟨⟨m+1,by omega,by go_num,HT6⟩,by simp [intOf];omega⟩
                      · have e4:=decide_eq_false q4
                        rw [e4] at bb1 bb2
                        have HEB:=Lib.hid (HB1.out (by rw [HBK.out,e1,e2,e3,e4];rfl))
                        clear e1 e2 e3 e4 q1 q2 q3 q4
                        go_wp2_with (go_at_call 118;refine (aW.calls c false _ HSPE.out).mono ?_;rintro e w' ⟨rfl,⟨nq,rfl⟩⟩;have HTn:=aa.mk (HT.out.drewN nq);clear HT;have HT:=HTn;clear HTn)
                        go_wp2_with fail
                        refine (bz w.heap.size w.heap.size _ c _ HT.out.bld (by rw [aV,List.length_append];have h1:=HMX.out;have h2:=HBL.out;rw [HEB.out,List.length_append] at h1;simp at h1;omega) HWQ.out).mono ?_
                        rintro e w6 ⟨rfl,hB6,hb6,ho6⟩
                        have HT6:=aa.mk (HT.out.step (bs':=Bs++bI f1.data.toList (m+1)) hb6 (by rw [HEB.out,← List.append_assoc,byteCells_append];rw [← HCU.out] at hB6;exact hB6) ho6 HRN.out)
                        clear hB6 hb6 ho6
                        go_wp2_with fail
                        exact ⟨⟨m+1,by omega,by go_num,HT6⟩,by simp [intOf];omega⟩
          · have hge:¬ (m:Int) < (f1.size:Int):=by omega
            have hme:m=f1.data.toList.length:=by rw [← bL];omega
            have HME:=Lib.hid hme
            clear hme
            have hlt2:w.heap.size < wr.heap.size:=by rcases HT.out.bld with h|h <;> exact h.lt
            have HL2:=Lib.hid hlt2
            clear hlt2
            go_wp2
            refine ⟨⟨k+1,by omega,by go_num,⟨HT.out.below⟩,⟨HL2.out⟩,⟨?_⟩⟩,by simp [intOf];omega⟩
            rw [HSUC.out]
            have hfin:=HT.out.bld
            rw [HME.out] at hfin
            exact hfin
      · have d0:decide (0 < k)=false:=decide_eq_false hk0
        have hsep:eZ l0 k++mf k=eZ l0 k:=by unfold mf;rw [if_pos (by omega)];simp
        have HT:aa (TW w (wo.alloc (.cells #[.string f0,.string f1] 102)) wo.heap.size f0 f1 (eZ l0 k++mf k)):=by rw [hsep];exact HT0
        clear hsep HT0 HWL
        have hc20:=HT.out.c0
        have HWS:=Lib.hid HT.out.below.size
        go_wp2_with fail
        refine (mU w.heap.size w.heap.size _ f0 _ HT.out.bld (by rw [aV];have:=HF0B.out;omega) HWS.out).mono ?_
        rintro e w3 ⟨rfl,hB3,hb3,ho3⟩
        have HT3:=aa.mk (HT.out.step (bs':=eZ l0 k++mf k++f0.data.toList) hb3 (by rw [byteCells_append];exact hB3) ho3 HRN.out)
        clear hB3 hb3 ho3 HT hc20 HWS
        have HWS:=Lib.hid HT3.out.below.size
        go_wp2_with fail
        refine (bz w.heap.size w.heap.size _ 61 _ HT3.out.bld (by rw [aV,List.length_append,← bL];have:=HF0B.out;omega) HWS.out).mono ?_
        rintro e w4 ⟨rfl,hB4,hb4,ho4⟩
        have HT4:=aa.mk (HT3.out.step (bs':=Bs) hb4 (by rw [← HBS.out,byteCells_append];exact hB4) ho4 HRN.out)
        clear hB4 hb4 ho4 HT3 HWS
        have hc41:=HT4.out.c1
        go_wp2_with fail
        go_loopw [25] (fun j wq=>∃ m:Nat,m≤f1.size∧j=.int .i64 m∧aa (TW w wq wo.heap.size f0 f1 (Bs++bI f1.data.toList m))) (fun j _=>f1.size - (intOf j).toNat)
        case atStart=>exact ⟨0,Nat.zero_le _,rfl,⟨by rw [show bI f1.data.toList 0=[] from rfl,List.append_nil];exact HT4.out⟩⟩
        case round =>
          clear hc41 HT4
          obtain ⟨m,hm,rfl,HT⟩:=hrel
          have hcq:=HT.out.c1
          have HWQ:=Lib.hid HT.out.below.size
          by_cases hlm:m < f1.size
          · have hum:=oP f1 m
            have hes:=jo f1.data.toList m
            have hmx:=qP f1.data.toList (m+1) (by rw [← bL];omega)
            obtain ⟨u,hu⟩:∃ u:UInt8,f1.data.toList.getD m 0=u:=⟨_,rfl⟩
            rw [hu] at hum hes
            rw [← bL] at hes
            have hbx:∀ h:m < f1.size,((f1[m]'h).toNat:Int)=bt f1 (m:Int):=fun h=>by
              have:=dJ f1 (m:Int) (by rw [Int.toNat_natCast];exact h)
              simpa using this
            have hsp:=gW u
            rw [hum] at hbx
            obtain ⟨c,hcu⟩:∃ c:Int,(u.toNat:Int)=c:=⟨_,rfl⟩
            rw [hcu] at hbx hsp
            have hc0':0≤c:=by omega
            have hc1':c≤255:=by have:=u.toNat_lt;omega
            have HSPE:=Lib.hid hsp
            have HES:=Lib.hid hes
            have HMX:=Lib.hid hmx
            have HCU:=Lib.hid hcu
            clear hum hu hsp hes hmx hcu
            have hesc:∀ o b:Bool,jV u=o→jI f1.size m u=b→bI f1.data.toList (m+1)=bI f1.data.toList m++(if o=true then [92,gz (u >>> 4),gz (u &&& 15)] else if b=true then [92,u] else [u]):=by
              intro o b ho hb
              rw [HES.out];unfold uL;rw [ho,hb]
            have HESC:=Lib.hid hesc
            clear hesc
            by_cases h32:c < 32∨126 < c
            · have hodd:jV u=true:=by
                unfold jV
                have:=HCU.out
                rcases h32 with h|h
                · rw [decide_eq_true (show u < 32 from by rw [UInt8.lt_iff_toNat_lt];show u.toNat < 32;omega)];rfl
                · rw [decide_eq_true (show 126 < u from by rw [UInt8.lt_iff_toNat_lt];show 126 < u.toNat;omega),Bool.or_true]
              have hEB:=HESC.out true _ hodd rfl
              rw [if_pos rfl] at hEB
              have HEB:=Lib.hid hEB
              clear hEB hodd
              have hb32:(∃ x,decide (c < 32)=x):=⟨_,rfl⟩
              rcases Classical.em (c < 32) with h1|h1
              · have d1:decide (c < 32)=true:=decide_eq_true h1
                clear h32
                have hx1:=rf u
                have hx2:=rz u
                have hr1:0≤c / 16∧c / 16 < 16:=by omega
                have hr2:=vK u
                rw [HCU.out] at hx1 hx2 hr2
                obtain ⟨v1,hv1⟩:∃ v1:Int,((gz (u >>> 4)).toNat:Int)=v1:=⟨_,rfl⟩
                obtain ⟨v2,hv2⟩:∃ v2:Int,((gz (u &&& 15)).toNat:Int)=v2:=⟨_,rfl⟩
                rw [hv1] at hx1
                rw [hv2] at hx2
                have hi1:=jG (P:=Tryz.prog) Tryz.underlying9 (c / 16) hr1.1 hr1.2
                have hi2:=jG (P:=Tryz.prog) Tryz.underlying9 (Go.bits .and .u8 c 15) hr2.1 hr2.2
                rw [hx1] at hi1
                rw [hx2] at hi2
                have HV1:=Lib.hid hv1
                have HV2:=Lib.hid hv2
                clear hx1 hx2 hr1 hr2 hv1 hv2
                go_wp2_with fail
                go_still_tail 6,(by kernel_rfl)
                go_wp2_with fail
                have hTA:TW w (wr.alloc (.cells #[.int .u8 92,.int .u8 v1,.int .u8 v2] 5)).drew wo.heap.size f0 f1 (Bs++bI f1.data.toList m):=(HT.out.alloc _).drewN 1
                have HTA:=aa.mk hTA
                have hne:wr.heap.size≠w.heap.size:=by
                  have:w.heap.size < wr.heap.size:=by rcases HT.out.bld with h|h <;> exact h.lt
                  omega
                have HNE:=Lib.hid hne
                have hcl:∀ j,j < 3→(wr.alloc (.cells #[.int .u8 92,.int .u8 v1,.int .u8 v2] 5)).drew.cell? ⟨wr.heap.size,j,none⟩=some (.int .u8 (([92,v1,v2]:List Int).getD j 0)):=by
                  intro j hj
                  rcases j with _|_|_|j
                  · simp
                  · simp
                  · simp
                  · omega
                have HCL:=Lib.hid hcl
                have HWA:=Lib.hid hTA.below.size
                clear hTA hne hcl
                refine (rH w.heap.size w.heap.size wr.heap.size 3 3 _ [92,v1,v2] rfl _ HTA.out.bld (by rw [aV,List.length_append];have h1:=HMX.out;have h2:=HBL.out;rw [HEB.out,List.length_append] at h1;simp at h1;omega) HWA.out HCL.out (by omega) HNE.out).mono ?_
                rintro e w6 ⟨rfl,hB6,hb6,ho6⟩
                have HT6:=aa.mk (HTA.out.step (bs':=Bs++bI f1.data.toList (m+1)) hb6 (by rw [HEB.out,← List.append_assoc,byteCells_append];rw [← HV1.out,← HV2.out] at hB6;exact hB6) ho6 HRN.out)
                clear hB6 hb6 ho6 HTA HCL
                go_wp2_with fail
                exact ⟨⟨m+1,by omega,by go_num,HT6⟩,by simp [intOf];omega⟩
              · have d1:decide (c < 32)=false:=decide_eq_false h1
                have d2:decide (126 < c)=true:=decide_eq_true (by omega)
                clear h32
                have hx1:=rf u
                have hx2:=rz u
                have hr1:0≤c / 16∧c / 16 < 16:=by omega
                have hr2:=vK u
                rw [HCU.out] at hx1 hx2 hr2
                obtain ⟨v1,hv1⟩:∃ v1:Int,((gz (u >>> 4)).toNat:Int)=v1:=⟨_,rfl⟩
                obtain ⟨v2,hv2⟩:∃ v2:Int,((gz (u &&& 15)).toNat:Int)=v2:=⟨_,rfl⟩
                rw [hv1] at hx1
                rw [hv2] at hx2
                have hi1:=jG (P:=Tryz.prog) Tryz.underlying9 (c / 16) hr1.1 hr1.2
                have hi2:=jG (P:=Tryz.prog) Tryz.underlying9 (Go.bits .and .u8 c 15) hr2.1 hr2.2
                rw [hx1] at hi1
                rw [hx2] at hi2
                have HV1:=Lib.hid hv1
                have HV2:=Lib.hid hv2
                clear hx1 hx2 hr1 hr2 hv1 hv2
                go_wp2_with fail
                go_still_tail 6,(by kernel_rfl)
                go_wp2_with fail
                have hTA:TW w (wr.alloc (.cells #[.int .u8 92,.int .u8 v1,.int .u8 v2] 5)).drew wo.heap.size f0 f1 (Bs++bI f1.data.toList m):=(HT.out.alloc _).drewN 1
                have HTA:=aa.mk hTA
                have hne:wr.heap.size≠w.heap.size:=by
                  have:w.heap.size < wr.heap.size:=by rcases HT.out.bld with h|h <;> exact h.lt
                  omega
                have HNE:=Lib.hid hne
                have hcl:∀ j,j < 3→(wr.alloc (.cells #[.int .u8 92,.int .u8 v1,.int .u8 v2] 5)).drew.cell? ⟨wr.heap.size,j,none⟩=some (.int .u8 (([92,v1,v2]:List Int).getD j 0)):=by
                  intro j hj
                  rcases j with _|_|_|j
                  · simp
                  · simp
                  · simp
                  · omega
                have HCL:=Lib.hid hcl
                have HWA:=Lib.hid hTA.below.size
                clear hTA hne hcl
                refine (rH w.heap.size w.heap.size wr.heap.size 3 3 _ [92,v1,v2] rfl _ HTA.out.bld (by rw [aV,List.length_append];have h1:=HMX.out;have h2:=HBL.out;rw [HEB.out,List.length_append] at h1;simp at h1;omega) HWA.out HCL.out (by omega) HNE.out).mono ?_
                rintro e w6 ⟨rfl,hB6,hb6,ho6⟩
                have HT6:=aa.mk (HTA.out.step (bs':=Bs++bI f1.data.toList (m+1)) hb6 (by rw [HEB.out,← List.append_assoc,byteCells_append];rw [← HV1.out,← HV2.out] at hB6;exact hB6) ho6 HRN.out)
                clear hB6 hb6 ho6 HTA HCL
                go_wp2_with fail
                exact ⟨⟨m+1,by omega,by go_num,HT6⟩,by simp [intOf];omega⟩
            · have h1:¬ c < 32:=fun h=>h32 (.inl h)
              have h2:¬ 126 < c:=fun h=>h32 (.inr h)
              have hodd:jV u=false:=by
                unfold jV
                have:=HCU.out
                rw [decide_eq_false (show ¬ u < 32 from by rw [UInt8.lt_iff_toNat_lt];show ¬ u.toNat < 32;omega),decide_eq_false (show ¬ 126 < u from by rw [UInt8.lt_iff_toNat_lt];show ¬ 126 < u.toNat;omega)];rfl
              have d1:decide (c < 32)=false:=decide_eq_false h1
              have d2:decide (126 < c)=false:=decide_eq_false h2
              have hEB2:=fun (h:jI f1.size m u=true)=>HESC.out false true hodd h
              have hEB1:=fun (h:jI f1.size m u=false)=>HESC.out false false hodd h
              rw [if_neg (by simp),if_pos rfl] at hEB2
              rw [if_neg (by simp),if_neg (by simp)] at hEB1
              have HB2:=Lib.hid hEB2
              have HB1:=Lib.hid hEB1
              clear hEB1 hEB2 hodd h32
              cases hsb:df u with
              | true =>
                rw [hsb] at HSPE
                have HEB:=Lib.hid (HB2.out (by unfold jI;rw [hsb];rfl))
                clear hsb
                go_wp2_with (go_at_call 118;refine (aW.calls c true _ HSPE.out).mono ?_;rintro e w' ⟨rfl,⟨nq,rfl⟩⟩;have HTn:=aa.mk (HT.out.drewN nq);clear HT;have HT:=HTn;clear HTn)
                go_wp2_with fail
                refine (bz w.heap.size w.heap.size _ 92 _ HT.out.bld (by rw [aV,List.length_append];have h1:=HMX.out;have h2:=HBL.out;rw [HEB.out,List.length_append] at h1;simp at h1;omega) HWQ.out).mono ?_
                rintro e w5 ⟨rfl,hB5,hb5,ho5⟩
                have HT5:=aa.mk (HT.out.step (bs':=Bs++bI f1.data.toList m++[92]) hb5 (by rw [byteCells_append];exact hB5) ho5 HRN.out)
                have HW5:=Lib.hid HT5.out.below.size
                clear hB5 hb5 ho5
                go_wp2_with fail
                refine (bz w.heap.size w.heap.size _ c _ HT5.out.bld (by rw [aV,List.length_append,List.length_append];have h1:=HMX.out;have h2:=HBL.out;rw [HEB.out,List.length_append] at h1;simp at h1 ⊢;omega) HW5.out).mono ?_
                rintro e w6 ⟨rfl,hB6,hb6,ho6⟩
                have HT6:=aa.mk (HT5.out.step (bs':=Bs++bI f1.data.toList (m+1)) hb6 (by rw [HEB.out,show Bs++(bI f1.data.toList m++[92,u])=(Bs++bI f1.data.toList m++[92])++[u] by simp,byteCells_append];rw [← HCU.out] at hB6;exact hB6) ho6 HRN.out)
                clear hB6 hb6 ho6
                go_wp2_with fail
                exact ⟨⟨m+1,by omega,by go_num,HT6⟩,by simp [intOf];omega⟩
              | false =>
                rw [hsb] at HSPE
                have hu35:(u=35)↔(c=35):=by rw [← HCU.out];exact (Af u).symm
                have hu32:(u=32)↔(c=32):=by rw [← HCU.out];exact (vC u).symm
                have hbk:jI f1.size m u=((decide (m=0) && (decide (c=35) || decide (c=32))) || (decide (m+1=f1.size) && decide (c=32))):=by
                  unfold jI;rw [hsb,Bool.false_or,decide_eq_decide.2 hu35,decide_eq_decide.2 hu32]
                have HBK:=Lib.hid hbk
                clear hbk hu35 hu32 hsb
                have bb1:((f1.size:Int) - 1 == (m:Int))=decide (m+1=f1.size):=by
                  rw [Bool.eq_iff_iff,beq_iff_eq,decide_eq_true_iff];omega
                have bb2:((m:Int) == (f1.size:Int) - 1)=decide (m+1=f1.size):=by
                  rw [Bool.eq_iff_iff,beq_iff_eq,decide_eq_true_iff];omega
                by_cases q1:m=0
                · have e1:=decide_eq_true q1
                  have b1:((m:Int) == 0)=true:=beq_iff_eq.2 (by omega)
                  by_cases q3:c=32
                  · have e3:=decide_eq_true q3
                    have b3:(c == 32)=true:=beq_iff_eq.2 q3
                    by_cases q2:c=35
                    · omega
                    · have e2:=decide_eq_false q2
                      have b2:(c == 35)=false:=beq_eq_false_iff_ne.2 q2
                      by_cases q4:m+1=f1.size
                      · have e4:=decide_eq_true q4
                        rw [e4] at bb1 bb2
                        have HEB:=Lib.hid (HB2.out (by rw [HBK.out,e1,e2,e3,e4];rfl))
                        clear e1 e2 e3 e4 q1 q2 q3 q4
                        go_wp2_with (go_at_call 118;refine (aW.calls c false _ HSPE.out).mono ?_;rintro e w' ⟨rfl,⟨nq,rfl⟩⟩;have HTn:=aa.mk (HT.out.drewN nq);clear HT;have HT:=HTn;clear HTn)
                        go_wp2_with fail
                        refine (bz w.heap.size w.heap.size _ 92 _ HT.out.bld (by rw [aV,List.length_append];have h1:=HMX.out;have h2:=HBL.out;rw [HEB.out,List.length_append] at h1;simp at h1;omega) HWQ.out).mono ?_
                        rintro e w5 ⟨rfl,hB5,hb5,ho5⟩
                        have HT5:=aa.mk (HT.out.step (bs':=Bs++bI f1.data.toList m++[92]) hb5 (by rw [byteCells_append];exact hB5) ho5 HRN.out)
                        have HW5:=Lib.hid HT5.out.below.size
                        clear hB5 hb5 ho5
                        go_wp2_with fail
                        refine (bz w.heap.size w.heap.size _ c _ HT5.out.bld (by rw [aV,List.length_append,List.length_append];have h1:=HMX.out;have h2:=HBL.out;rw [HEB.out,List.length_append] at h1;simp at h1 ⊢;omega) HW5.out).mono ?_
                        rintro e w6 ⟨rfl,hB6,hb6,ho6⟩
                        have HT6:=aa.mk (HT5.out.step (bs':=Bs++bI f1.data.toList (m+1)) hb6 (by rw [HEB.out,show Bs++(bI f1.data.toList m++[92,u])=(Bs++bI f1.data.toList m++[92])++[u] by simp,byteCells_append];rw [← HCU.out] at hB6;exact hB6) ho6 HRN.out)
                        clear hB6 hb6 ho6
                        go_wp2_with fail
                        exact ⟨⟨m+1,by omega,by go_num,HT6⟩,by simp [intOf];omega⟩
                      · have e4:=decide_eq_false q4
                        rw [e4] at bb1 bb2
                        have HEB:=Lib.hid (HB2.out (by rw [HBK.out,e1,e2,e3,e4];rfl))
                        clear e1 e2 e3 e4 q1 q2 q3 q4
                        go_wp2_with (go_at_call 118;refine (aW.calls c false _ HSPE.out).mono ?_;rintro e w' ⟨rfl,⟨nq,rfl⟩⟩;have HTn:=aa.mk (HT.out.drewN nq);clear HT;have HT:=HTn;clear HTn)
                        go_wp2_with fail
                        refine (bz w.heap.size w.heap.size _ 92 _ HT.out.bld (by rw [aV,List.length_append];have h1:=HMX.out;have h2:=HBL.out;rw [HEB.out,List.length_append] at h1;simp at h1;omega) HWQ.out).mono ?_
                        rintro e w5 ⟨rfl,hB5,hb5,ho5⟩
                        have HT5:=aa.mk (HT.out.step (bs':=Bs++bI f1.data.toList m++[92]) hb5 (by rw [byteCells_append];exact hB5) ho5 HRN.out)
                        have HW5:=Lib.hid HT5.out.below.size
                        clear hB5 hb5 ho5
                        go_wp2_with fail
                        refine (bz w.heap.size w.heap.size _ c _ HT5.out.bld (by rw [aV,List.length_append,List.length_append];have h1:=HMX.out;have h2:=HBL.out;rw [HEB.out,List.length_append] at h1;simp at h1 ⊢;omega) HW5.out).mono ?_
                        rintro e w6 ⟨rfl,hB6,hb6,ho6⟩
                        have HT6:=aa.mk (HT5.out.step (bs':=Bs++bI f1.data.toList (m+1)) hb6 (by rw [HEB.out,show Bs++(bI f1.data.toList m++[92,u])=(Bs++bI f1.data.toList m++[92])++[u] by simp,byteCells_append];rw [← HCU.out] at hB6;exact hB6) ho6 HRN.out)
                        clear hB6 hb6 ho6
                        go_wp2_with fail
                        exact ⟨⟨m+1,by omega,by go_num,HT6⟩,by simp [intOf];omega⟩
                  · have e3:=decide_eq_false q3
                    have b3:(c == 32)=false:=beq_eq_false_iff_ne.2 q3
                    by_cases q2:c=35
                    · have e2:=decide_eq_true q2
                      have b2:(c == 35)=true:=beq_iff_eq.2 q2
                      by_cases q4:m+1=f1.size
                      · have e4:=decide_eq_true q4
                        rw [e4] at bb1 bb2
                        have HEB:=Lib.hid (HB2.out (by rw [HBK.out,e1,e2,e3,e4];rfl))
                        clear e1 e2 e3 e4 q1 q2 q3 q4
                        go_wp2_with (go_at_call 118;refine (aW.calls c false _ HSPE.out).mono ?_;rintro e w' ⟨rfl,⟨nq,rfl⟩⟩;have HTn:=aa.mk (HT.out.drewN nq);clear HT;have HT:=HTn;clear HTn)
                        go_wp2_with fail
                        refine (bz w.heap.size w.heap.size _ 92 _ HT.out.bld (by rw [aV,List.length_append];have h1:=HMX.out;have h2:=HBL.out;rw [HEB.out,List.length_append] at h1;simp at h1;omega) HWQ.out).mono ?_
                        rintro e w5 ⟨rfl,hB5,hb5,ho5⟩
                        have HT5:=aa.mk (HT.out.step (bs':=Bs++bI f1.data.toList m++[92]) hb5 (by rw [byteCells_append];exact hB5) ho5 HRN.out)
                        have HW5:=Lib.hid HT5.out.below.size
                        clear hB5 hb5 ho5
                        go_wp2_with fail
                        refine (bz w.heap.size w.heap.size _ c _ HT5.out.bld (by rw [aV,List.length_append,List.length_append];have h1:=HMX.out;have h2:=HBL.out;rw [HEB.out,List.length_append] at h1;simp at h1 ⊢;omega) HW5.out).mono ?_
                        rintro e w6 ⟨rfl,hB6,hb6,ho6⟩
                        have HT6:=aa.mk (HT5.out.step (bs':=Bs++bI f1.data.toList (m+1)) hb6 (by rw [HEB.out,show Bs++(bI f1.data.toList m++[92,u])=(Bs++bI f1.data.toList m++[92])++[u] by simp,byteCells_append];rw [← HCU.out] at hB6;exact hB6) ho6 HRN.out)
                        clear hB6 hb6 ho6
                        go_wp2_with fail
                        exact ⟨⟨m+1,by omega,by go_num,HT6⟩,by simp [intOf];omega⟩
                      · have e4:=decide_eq_false q4
                        rw [e4] at bb1 bb2
                        have HEB:=Lib.hid (HB2.out (by rw [HBK.out,e1,e2,e3,e4];rfl))
                        clear e1 e2 e3 e4 q1 q2 q3 q4
                        go_wp2_with (go_at_call 118;refine (aW.calls c false _ HSPE.out).mono ?_;rintro e w' ⟨rfl,⟨nq,rfl⟩⟩;have HTn:=aa.mk (HT.out.drewN nq);clear HT;have HT:=HTn;clear HTn)
                        go_wp2_with fail
                        refine (bz w.heap.size w.heap.size _ 92 _ HT.out.bld (by rw [aV,List.length_append];have h1:=HMX.out;have h2:=HBL.out;rw [HEB.out,List.length_append] at h1;simp at h1;omega) HWQ.out).mono ?_
                        rintro e w5 ⟨rfl,hB5,hb5,ho5⟩
                        have HT5:=aa.mk (HT.out.step (bs':=Bs++bI f1.data.toList m++[92]) hb5 (by rw [byteCells_append];exact hB5) ho5 HRN.out)
                        have HW5:=Lib.hid HT5.out.below.size
                        clear hB5 hb5 ho5
                        go_wp2_with fail
                        refine (bz w.heap.size w.heap.size _ c _ HT5.out.bld (by rw [aV,List.length_append,List.length_append];have h1:=HMX.out;have h2:=HBL.out;rw [HEB.out,List.length_append] at h1;simp at h1 ⊢;omega) HW5.out).mono ?_
                        rintro e w6 ⟨rfl,hB6,hb6,ho6⟩
                        have HT6:=aa.mk (HT5.out.step (bs':=Bs++bI f1.data.toList (m+1)) hb6 (by rw [HEB.out,show Bs++(bI f1.data.toList m++[92,u])=(Bs++bI f1.data.toList m++[92])++[u] by simp,byteCells_append];rw [← HCU.out] at hB6;exact hB6) ho6 HRN.out)
                        clear hB6 hb6 ho6
                        go_wp2_with fail
                        exact ⟨⟨m+1,by omega,by go_num,HT6⟩,by simp [intOf];omega⟩
                    · have e2:=decide_eq_false q2
                      have b2:(c == 35)=false:=beq_eq_false_iff_ne.2 q2
                      by_cases q4:m+1=f1.size
                      · have e4:=decide_eq_true q4
                        rw [e4] at bb1 bb2
                        have HEB:=Lib.hid (HB1.out (by rw [HBK.out,e1,e2,e3,e4];rfl))
                        clear e1 e2 e3 e4 q1 q2 q3 q4
                        go_wp2_with (go_at_call 118;refine (aW.calls c false _ HSPE.out).mono ?_;rintro e w' ⟨rfl,⟨nq,rfl⟩⟩;have HTn:=aa.mk (HT.out.drewN nq);clear HT;have HT:=HTn;clear HTn)
                        go_wp2_with fail
                        refine (bz w.heap.size w.heap.size _ c _ HT.out.bld (by rw [aV,List.length_append];have h1:=HMX.out;have h2:=HBL.out;rw [HEB.out,List.length_append] at h1;simp at h1;omega) HWQ.out).mono ?_
                        rintro e w6 ⟨rfl,hB6,hb6,ho6⟩
                        have HT6:=aa.mk (HT.out.step (bs':=Bs++bI f1.data.toList (m+1)) hb6 (by rw [HEB.out,← List.append_assoc,byteCells_append];rw [← HCU.out] at hB6;exact hB6) ho6 HRN.out)
                        clear hB6 hb6 ho6
                        go_wp2_with fail
                        exact ⟨⟨m+1,by omega,by go_num,HT6⟩,by simp [intOf];omega⟩
                      · have e4:=decide_eq_false q4
                        rw [e4] at bb1 bb2
                        have HEB:=Lib.hid (HB1.out (by rw [HBK.out,e1,e2,e3,e4];rfl))
                        clear e1 e2 e3 e4 q1 q2 q3 q4
                        go_wp2_with (go_at_call 118;refine (aW.calls c false _ HSPE.out).mono ?_;rintro e w' ⟨rfl,⟨nq,rfl⟩⟩;have HTn:=aa.mk (HT.out.drewN nq);clear HT;have HT:=HTn;clear HTn)
                        go_wp2_with fail
                        refine (bz w.heap.size w.heap.size _ c _ HT.out.bld (by rw [aV,List.length_append];have h1:=HMX.out;have h2:=HBL.out;rw [HEB.out,List.length_append] at h1;simp at h1;omega) HWQ.out).mono ?_
                        rintro e w6 ⟨rfl,hB6,hb6,ho6⟩
                        have HT6:=aa.mk (HT.out.step (bs':=Bs++bI f1.data.toList (m+1)) hb6 (by rw [HEB.out,← List.append_assoc,byteCells_append];rw [← HCU.out] at hB6;exact hB6) ho6 HRN.out)
                        clear hB6 hb6 ho6
                        go_wp2_with fail
                        exact ⟨⟨m+1,by omega,by go_num,HT6⟩,by simp [intOf];omega⟩
                · have e1:=decide_eq_false q1
                  have b1:((m:Int) == 0)=false:=beq_eq_false_iff_ne.2 (by omega)
                  by_cases q3:c=32
                  · have e3:=decide_eq_true q3
                    have b3:(c == 32)=true:=beq_iff_eq.2 q3
                    by_cases q2:c=35
                    · omega
                    · have e2:=decide_eq_false q2
                      have b2:(c == 35)=false:=beq_eq_false_iff_ne.2 q2
                      by_cases q4:m+1=f1.size
                      · have e4:=decide_eq_true q4
                        rw [e4] at bb1 bb2
                        have HEB:=Lib.hid (HB2.out (by rw [HBK.out,e1,e2,e3,e4];rfl))
                        clear e1 e2 e3 e4 q1 q2 q3 q4
                        go_wp2_with (go_at_call 118;refine (aW.calls c false _ HSPE.out).mono ?_;rintro e w' ⟨rfl,⟨nq,rfl⟩⟩;have HTn:=aa.mk (HT.out.drewN nq);clear HT;have HT:=HTn;clear HTn)
                        go_wp2_with fail
                        refine (bz w.heap.size w.heap.size _ 92 _ HT.out.bld (by rw [aV,List.length_append];have h1:=HMX.out;have h2:=HBL.out;rw [HEB.out,List.length_append] at h1;simp at h1;omega) HWQ.out).mono ?_
                        rintro e w5 ⟨rfl,hB5,hb5,ho5⟩
                        have HT5:=aa.mk (HT.out.step (bs':=Bs++bI f1.data.toList m++[92]) hb5 (by rw [byteCells_append];exact hB5) ho5 HRN.out)
                        have HW5:=Lib.hid HT5.out.below.size
                        clear hB5 hb5 ho5
                        go_wp2_with fail
                        refine (bz w.heap.size w.heap.size _ c _ HT5.out.bld (by rw [aV,List.length_append,List.length_append];have h1:=HMX.out;have h2:=HBL.out;rw [HEB.out,List.length_append] at h1;simp at h1 ⊢;omega) HW5.out).mono ?_
                        rintro e w6 ⟨rfl,hB6,hb6,ho6⟩
                        have HT6:=aa.mk (HT5.out.step (bs':=Bs++bI f1.data.toList (m+1)) hb6 (by rw [HEB.out,show Bs++(bI f1.data.toList m++[92,u])=(Bs++bI f1.data.toList m++[92])++[u] by simp,byteCells_append];rw [← HCU.out] at hB6;exact hB6) ho6 HRN.out)
                        clear hB6 hb6 ho6
                        go_wp2_with fail
                        exact ⟨⟨m+1,by omega,by go_num,HT6⟩,by simp [intOf];omega⟩
                      · have e4:=decide_eq_false q4
                        rw [e4] at bb1 bb2
                        have HEB:=Lib.hid (HB1.out (by rw [HBK.out,e1,e2,e3,e4];rfl))
                        clear e1 e2 e3 e4 q1 q2 q3 q4
                        go_wp2_with (go_at_call 118;refine (aW.calls c false _ HSPE.out).mono ?_;rintro e w' ⟨rfl,⟨nq,rfl⟩⟩;have HTn:=aa.mk (HT.out.drewN nq);clear HT;have HT:=HTn;clear HTn)
                        go_wp2_with fail
                        refine (bz w.heap.size w.heap.size _ c _ HT.out.bld (by rw [aV,List.length_append];have h1:=HMX.out;have h2:=HBL.out;rw [HEB.out,List.length_append] at h1;simp at h1;omega) HWQ.out).mono ?_
                        rintro e w6 ⟨rfl,hB6,hb6,ho6⟩
                        have HT6:=aa.mk (HT.out.step (bs':=Bs++bI f1.data.toList (m+1)) hb6 (by rw [HEB.out,← List.append_assoc,byteCells_append];rw [← HCU.out] at hB6;exact hB6) ho6 HRN.out)
                        clear hB6 hb6 ho6
                        go_wp2_with fail
                        exact ⟨⟨m+1,by omega,by go_num,HT6⟩,by simp [intOf];omega⟩
                  · have e3:=decide_eq_false q3
                    have b3:(c == 32)=false:=beq_eq_false_iff_ne.2 q3
                    by_cases q2:c=35
                    · have e2:=decide_eq_true q2
                      have b2:(c == 35)=true:=beq_iff_eq.2 q2
                      by_cases q4:m+1=f1.size
                      · have e4:=decide_eq_true q4
                        rw [e4] at bb1 bb2
                        have HEB:=Lib.hid (HB1.out (by rw [HBK.out,e1,e2,e3,e4];rfl))
                        clear e1 e2 e3 e4 q1 q2 q3 q4
                        go_wp2_with (go_at_call 118;refine (aW.calls c false _ HSPE.out).mono ?_;rintro e w' ⟨rfl,⟨nq,rfl⟩⟩;have HTn:=aa.mk (HT.out.drewN nq);clear HT;have HT:=HTn;clear HTn)
                        go_wp2_with fail
                        refine (bz w.heap.size w.heap.size _ c _ HT.out.bld (by rw [aV,List.length_append];have h1:=HMX.out;have h2:=HBL.out;rw [HEB.out,List.length_append] at h1;simp at h1;omega) HWQ.out).mono ?_
                        rintro e w6 ⟨rfl,hB6,hb6,ho6⟩
                        have HT6:=aa.mk (HT.out.step (bs':=Bs++bI f1.data.toList (m+1)) hb6 (by rw [HEB.out,← List.append_assoc,byteCells_append];rw [← HCU.out] at hB6;exact hB6) ho6 HRN.out)
                        clear hB6 hb6 ho6
                        go_wp2_with fail
                        exact ⟨⟨m+1,by omega,by go_num,HT6⟩,by simp [intOf];omega⟩
                      · have e4:=decide_eq_false q4
                        rw [e4] at bb1 bb2
                        have HEB:=Lib.hid (HB1.out (by rw [HBK.out,e1,e2,e3,e4];rfl))
                        clear e1 e2 e3 e4 q1 q2 q3 q4
                        go_wp2_with (go_at_call 118;refine (aW.calls c false _ HSPE.out).mono ?_;rintro e w' ⟨rfl,⟨nq,rfl⟩⟩;have HTn:=aa.mk (HT.out.drewN nq);clear HT;have HT:=HTn;clear HTn)
                        go_wp2_with fail
                        refine (bz w.heap.size w.heap.size _ c _ HT.out.bld (by rw [aV,List.length_append];have h1:=HMX.out;have h2:=HBL.out;rw [HEB.out,List.length_append] at h1;simp at h1;omega) HWQ.out).mono ?_
                        rintro e w6 ⟨rfl,hB6,hb6,ho6⟩
                        have HT6:=aa.mk (HT.out.step (bs':=Bs++bI f1.data.toList (m+1)) hb6 (by rw [HEB.out,← List.append_assoc,byteCells_append];rw [← HCU.out] at hB6;exact hB6) ho6 HRN.out)
                        clear hB6 hb6 ho6
                        go_wp2_with fail
                        exact ⟨⟨m+1,by omega,by go_num,HT6⟩,by simp [intOf];omega⟩
                    · have e2:=decide_eq_false q2
                      have b2:(c == 35)=false:=beq_eq_false_iff_ne.2 q2
                      by_cases q4:m+1=f1.size
                      · have e4:=decide_eq_true q4
                        rw [e4] at bb1 bb2
                        have HEB:=Lib.hid (HB1.out (by rw [HBK.out,e1,e2,e3,e4];rfl))
                        clear e1 e2 e3 e4 q1 q2 q3 q4
                        go_wp2_with (go_at_call 118;refine (aW.calls c false _ HSPE.out).mono ?_;rintro e w' ⟨rfl,⟨nq,rfl⟩⟩;have HTn:=aa.mk (HT.out.drewN nq);clear HT;have HT:=HTn;clear HTn)
                        go_wp2_with fail
                        refine (bz w.heap.size w.heap.size _ c _ HT.out.bld (by rw [aV,List.length_append];have h1:=HMX.out;have h2:=HBL.out;rw [HEB.out,List.length_append] at h1;simp at h1;omega) HWQ.out).mono ?_
                        rintro e w6 ⟨rfl,hB6,hb6,ho6⟩
                        have HT6:=aa.mk (HT.out.step (bs':=Bs++bI f1.data.toList (m+1)) hb6 (by rw [HEB.out,← List.append_assoc,byteCells_append];rw [← HCU.out] at hB6;exact hB6) ho6 HRN.out)
                        clear hB6 hb6 ho6
                        go_wp2_with fail
                        exact ⟨⟨m+1,by omega,by go_num,HT6⟩,by simp [intOf];omega⟩
                      · have e4:=decide_eq_false q4
                        rw [e4] at bb1 bb2
                        have HEB:=Lib.hid (HB1.out (by rw [HBK.out,e1,e2,e3,e4];rfl))
                        clear e1 e2 e3 e4 q1 q2 q3 q4
                        go_wp2_with (go_at_call 118;refine (aW.calls c false _ HSPE.out).mono ?_;rintro e w' ⟨rfl,⟨nq,rfl⟩⟩;have HTn:=aa.mk (HT.out.drewN nq);clear HT;have HT:=HTn;clear HTn)
                        go_wp2_with fail
                        refine (bz w.heap.size w.heap.size _ c _ HT.out.bld (by rw [aV,List.length_append];have h1:=HMX.out;have h2:=HBL.out;rw [HEB.out,List.length_append] at h1;simp at h1;omega) HWQ.out).mono ?_
                        rintro e w6 ⟨rfl,hB6,hb6,ho6⟩
                        have HT6:=aa.mk (HT.out.step (bs':=Bs++bI f1.data.toList (m+1)) hb6 (by rw [HEB.out,← List.append_assoc,byteCells_append];rw [← HCU.out] at hB6;exact hB6) ho6 HRN.out)
                        clear hB6 hb6 ho6
                        go_wp2_with fail
                        exact ⟨⟨m+1,by omega,by go_num,HT6⟩,by simp [intOf];omega⟩
          · have hge:¬ (m:Int) < (f1.size:Int):=by omega
            have hme:m=f1.data.toList.length:=by rw [← bL];omega
            have HME:=Lib.hid hme
            clear hme
            have hlt2:w.heap.size < wr.heap.size:=by rcases HT.out.bld with h|h <;> exact h.lt
            have HL2:=Lib.hid hlt2
            clear hlt2
            go_wp2
            refine ⟨⟨k+1,by omega,by go_num,⟨HT.out.below⟩,⟨HL2.out⟩,⟨?_⟩⟩,by simp [intOf];omega⟩
            rw [HSUC.out]
            have hfin:=HT.out.bld
            rw [HME.out] at hfin
            exact hfin
    · obtain rfl:k=l0.length:=by omega
      have hle:w.heap.size≤wo.heap.size:=Nat.le_of_lt HZ.out
      have HLE:=Lib.hid hle
      have hnlt:¬ (l0.length:Int) < (l0.length:Int):=by omega
      clear hle hk hlt
      go_wp2_with fail
      refine (Tryz.Builder_String_any w.heap.size w.heap.size (eZ l0 l0.length) _ HI.out HLE.out).mono ?_
      rintro e w5 ⟨rfl,hb5⟩
      have HB5:=aa.mk (HB.out.trans hb5)
      clear hb5
      go_wp2
      go_ret
      exact ⟨rfl,HB5.out⟩
theorem xk (l:List SR):l.length≤(mD l).length+1:=by
  have h:∀ k,k≤(eZ l k).length+1:=by
    intro k
    induction k with
    | zero=>omega
    | succ k ih =>
      rw [iL,List.length_append,List.length_append]
      have:1≤(uB (l.getD k lJ).f0.data.toList (l.getD k lJ).f1.data.toList).length:=by unfold uB;simp;omega
      omega
  exact h _
theorem jJ.calls (A0:Option Addr) (c0:Nat) (l0:List SR) (r:ByteArray) (w:World) (hr0:Kd.C nI w A0 l0.length l0) (hc0:l0.length≤c0) (h:jJ.f l0=some r) :
    Calls Tryz.prog 91 #[.slice A0 l0.length c0] w fun e w'=>e=.returned (.string r)∧Below w.heap.size w w':=by
  unfold jJ.f at h
  by_cases hs:(mD l0).length≤140737488351231
  · rw [if_pos hs] at h
    obtain rfl:=Option.some.inj h
    exact jJ.any A0 c0 l0 w hr0 hc0 (by omega) (by have:=xk l0;omega)
  · rw [if_neg hs] at h
    cases h
end Go.Proofs.YthfpaoacjpjnfaaGreatDoor.P

namespace Go.Proofs.YthfpaoacjpjnfaaGreatDoor.P
open Go.RowKit Go.Proofs.YthfpaoacjpjnfaaGreatDoorW.PrintWords Go.Proofs.YthfpaoacjpjnfaaGreatDoorW.PrintLast Go.Proofs.YthfpaoacjpjnfaaGreatDoorW.PrintMore
attribute [local go_sem] dP dS eP eO dE dD dQ dR
def dB.l0:Nat→List (dx)→Int→Int→Option (ByteArray × Bool)
 | 0,_,_,_=>none
 | k+1,x4,x15,x16=>if x16 < x15 then (if 0≤x16 then (if x16 < (x4.length:Int) then ((eG.f ((aX x4 x16).f0)).bind fun t177=>((fK.f ((aX x4 x16).f1)).bind fun t179=>((some (x4.set (x16:Int).toNat (⟨t177,(aX x4 x16).f1⟩:dx):List (dx))).bind fun y180=>(if t179.toList=([]:List UInt8) then (some ((⟨#[]⟩:ByteArray),false)) else (dB.l0 k (y180.set (x16:Int).toNat (⟨(aX y180 x16).f0,t179⟩:dx)) x15 (wrap64 (x16+1))))))) else (none)) else (none)) else ((jJ.f x4).bind fun t175=>(some (t175,true)))
def dB.f (k:Nat) (a0:ByteArray):Option (ByteArray × Bool):=(bA.f k a0).bind fun bt171=>(if bt171.2=true then (dB.l0 k bt171.1 (bt171.1.length:Int) 0) else (some ((⟨#[]⟩:ByteArray),false)))
def dB.T7:Bool × List (List Nat × List Nat):=(true,[([],[]),([],[]),([],[]),([],[]),([],[]),([],[]),([4,5],[4,5]),([6],[6]),([7],[7]),([8],[8]),([],[]),([],[]),([10,11],[10,11]),([12],[12]),([13],[13]),([14,9],[14]),([0,1,0,1,4,5,6,7,8,9,14,15],[0,1]),([16,0,1,4,5,6,7,8,9,14,15],[16]),([17,9,15,0,1,4,5,6,7,8,9,14,15],[9,17]),([2,3,0,1,2,3,4,5,6,7,8,9,10,11,12,13,14,15,16,17,18],[2,3]),([19,0,1,2,3,4,5,6,7,8,9,10,11,12,13,14,15,16,17,18],[19]),([20,15,18,0,1,2,3,4,5,6,7,8,9,10,11,12,13,14,15,16,17,18],[15,20])])
def dB.B7:List Nat:=[0,0,0,0,0,0,48,112,240,496,0,0,3072,7168,15360,32752,65523,131059,262131,524287,1048575,2097151]
theorem dB.tab7:iI .any (opsOf Tryz.f66 7)=dB.T7:=by kernel_rfl
theorem dB.bits7:ja dB.T7.2 dB.B7=true:=by kernel_rfl
set_option maxHeartbeats 8000000 in
set_option maxRecDepth 100000 in
theorem dB.calls (k:Nat) (a0:ByteArray) (r1:ByteArray) (r2:Bool) (w:World) (hG:Gl w) (h:dB.f k a0=some (r1,r2)) :
  Calls Tryz.prog 66 #[.string a0] w fun e w'=>e=.returned (.tuple #[.string r1,.bool r2])∧Below w.heap.size w w':=by
 have HB:=aa.mk (Below.refl w.heap.size w)
 have HG:=aa.mk hG
 clear hG
 have H:((bA.f k a0).bind fun bt171=>(if bt171.2=true then (dB.l0 k bt171.1 (bt171.1.length:Int) 0) else (some ((⟨#[]⟩:ByteArray),false))))=some (r1,r2):=h
 clear h
 replace H:=Option.bind_eq_some_iff.mp H
 obtain ⟨⟨t171,t172⟩,A20,H⟩:=H
 replace H:(if t172=true then (dB.l0 k t171 (t171.length:Int) 0) else (some ((⟨#[]⟩:ByteArray),false)))=some (r1,r2):=H
 have A2:=aa.mk A20
 clear A20
 by_cases c3:t172=true
 ·subst c3
  have H1:(dB.l0 k t171 (t171.length:Int) 0)=some (r1,r2):=by rw [if_pos rfl] at H;exact H
  clear H
  have H:=H1
  clear H1
  have H':=aa.mk H
  clear H
  go_enter Tryz.func66,Tryz.ntmps66
  go_wp2_with (first|((with_reducible refine aH (f:=90) rfl ?_);refine bq (some 9) rfl rfl Tryz.func90 (by kernel_rfl) rfl #[.string a0] rfl (by (try simp only [List.map_toArray,List.map_cons,List.map_nil]);first|done|rfl|(simp only [List.length_drop,List.length_take];rfl)) ?_;(with_reducible refine (bA.calls k a0 t171 true _ ?side1 A2.out).mono ?_);(case side1=>first|exact HG.out|exact Gl.drewN HG.out _|exact Gl.below HG.out (by repeat (first|(with_reducible first|exact HB.out|apply af|apply ae|apply ag)|exact HB.out)));rintro e w4 ⟨v173,rfl,ho0,hb⟩;refine ⟨_,rfl,?_⟩;have n0_:=aa.mk (Kd.dM ho0 (aC (by repeat (first|(with_reducible first|exact HB.out|apply af|apply ae|apply ag)|exact HB.out))));have n1_:=aa.mk (aA (by repeat (first|(with_reducible first|exact HB.out|apply af|apply ae|apply ag)|exact HB.out)) hb);clear HB;have HO174:=n0_;have HB:=n1_;clear n0_ n1_;(try clear hb);(try clear hb2);(try clear hk);(try clear hi);(try clear ho0);obtain ⟨Ao5,co5,eo5⟩:=Kd.cu HO174.out;subst eo5))
  go_loopg [16] k (fun kq v16 w'=>∃ (x4_1:List (dx)) (x16_1:Int),v16=.int .i64 x16_1∧aa (dB.l0 kq x4_1 (t171.length:Int) x16_1=some (r1,r2))∧aa (kq≤k)∧aa (Kd.R nI 102 w' w.heap.size (fun _=>True) (.slice Ao5 t171.length co5) x4_1)∧aa (Below w.heap.size w w'))
  case atStart=>exact ⟨(t171),(0),(by first|rfl|(simp;done)|(simp [*];done)|(simp [*,aK,aM,bX];done)|(simp only [au,ak];done)|(simp only [au,ak];simp;done)|(simp only [au,ak];simp [*];done)),H',⟨Nat.le_refl _⟩,⟨by (with_reducible repeat (first|apply Kd.aQ|apply Kd.aN|apply Kd.aU));exact HO174.out⟩,⟨by repeat (first|(with_reducible first|exact HB.out|apply af|apply ae|apply ag)|exact HB.out)⟩⟩
  case round =>
   clear H'
   try clear p2
   try clear c3
   obtain ⟨x4_1,x16_1,rfl,HA,HK1,HO_4,HB⟩:=hrel
   have hl4_1:=(Kd.bn HO_4.out).1
   rw [hl4_1] at HO_4
   (try simp only [hl4_1])
   cases gk with
   | zero=>exact absurd HA.out (by simp [dB.l0])
   | succ k1 =>
    have H:=HA.out
    clear HA
    simp only [dB.l0] at H
    by_cases c6:x16_1 < (t171.length:Int)
    ·rw [if_pos c6] at H
     have c6b0:decide (x16_1 < (t171.length:Int))=true:=decide_eq_true c6
     (try (have c6b0h:=c6b0;simp only [hl4_1] at c6b0h))
     clear c6
     by_cases c7:0≤x16_1
     ·rw [if_pos c7] at H
      have c7b0:decide (0≤x16_1)=true:=decide_eq_true c7
      clear c7
      by_cases c8:x16_1 < (x4_1.length:Int)
      ·rw [if_pos c8] at H
       have c8b0:decide (x16_1 < (x4_1.length:Int))=true:=decide_eq_true c8
       (try (have c8b0h:=c8b0;simp only [hl4_1] at c8b0h))
       clear c8
       replace H:=Option.bind_eq_some_iff.mp H
       obtain ⟨t177,A90,H⟩:=H
       replace H:((fK.f ((aX x4_1 x16_1).f1)).bind fun t179=>((some (x4_1.set (x16_1:Int).toNat (⟨t177,(aX x4_1 x16_1).f1⟩:dx):List (dx))).bind fun y180=>(if t179.toList=([]:List UInt8) then (some ((⟨#[]⟩:ByteArray),false)) else (dB.l0 k1 (y180.set (x16_1:Int).toNat (⟨(aX y180 x16_1).f0,t179⟩:dx)) (t171.length:Int) (wrap64 (x16_1+1))))))=some (r1,r2):=H
       have A9:=aa.mk A90
       clear A90
       replace H:=Option.bind_eq_some_iff.mp H
       obtain ⟨t179,A100,H⟩:=H
       replace H:((some (x4_1.set (x16_1:Int).toNat (⟨t177,(aX x4_1 x16_1).f1⟩:dx):List (dx))).bind fun y180=>(if t179.toList=([]:List UInt8) then (some ((⟨#[]⟩:ByteArray),false)) else (dB.l0 k1 (y180.set (x16_1:Int).toNat (⟨(aX y180 x16_1).f0,t179⟩:dx)) (t171.length:Int) (wrap64 (x16_1+1)))))=some (r1,r2):=H
       have A10:=aa.mk A100
       clear A100
       obtain ⟨y180,hy180⟩:∃ y_:List (dx),y_=(x4_1.set (x16_1:Int).toNat (⟨t177,(aX x4_1 x16_1).f1⟩:dx)):=⟨_,rfl⟩
       replace H:(if t179.toList=([]:List UInt8) then (some ((⟨#[]⟩:ByteArray),false)) else (dB.l0 k1 (y180.set (x16_1:Int).toNat (⟨(aX y180 x16_1).f0,t179⟩:dx)) (t171.length:Int) (wrap64 (x16_1+1))))=some (r1,r2):=by first|(rw [hy180];with_reducible exact H)|(have H2_:=(Option.bind_some _ _).symm.trans H;rw [hy180];with_reducible exact H2_)|(have H2_:=(Option.bind_some _ _).symm.trans H;with_reducible exact H2_)|with_reducible exact H|(rw [hy180];exact H)|exact H
       have Ny180:=aa.mk hy180
       clear hy180
       obtain ⟨y181,hy181⟩:∃ y_:List (dx),y_=(y180.set (x16_1:Int).toNat (⟨(aX y180 x16_1).f0,t179⟩:dx)):=⟨_,rfl⟩
       replace H:(if t179.toList=([]:List UInt8) then (some ((⟨#[]⟩:ByteArray),false)) else (dB.l0 k1 y181 (t171.length:Int) (wrap64 (x16_1+1))))=some (r1,r2):=by first|(rw [hy181];with_reducible exact H)|(have H2_:=(Option.bind_some _ _).symm.trans H;rw [hy181];with_reducible exact H2_)|(have H2_:=(Option.bind_some _ _).symm.trans H;with_reducible exact H2_)|with_reducible exact H|(rw [hy181];exact H)|exact H
       have Ny181:=aa.mk hy181
       clear hy181
       by_cases c14:t179.toList=([]:List UInt8)
       ·rw [if_pos c14] at H
        have c14b0:(t179.toList == ([]:List UInt8))=true:=beq_iff_eq.mpr c14
        have c14b1:(t179.toList != ([]:List UInt8))=false:=bne_eq_false_iff_eq.mpr c14
        clear c14
        simp only [Option.some.injEq,Prod.mk.injEq] at H
        obtain ⟨rfl,rfl⟩:=H
        try go_wp2
        have n0_:=aa.mk (Kd.aU HO_4.out)
        have n1_:=aa.mk (ag HB.out)
        clear HO_4
        clear HB
        have HO_4:=n0_
        have HB:=n1_
        clear n0_ n1_
        have p176:0≤(x16_1:Int):=of_decide_eq_true (by first|(with_reducible assumption)|assumption)
        have q176:x16_1 < (x4_1.length:Int):=of_decide_eq_true (by first|(with_reducible assumption)|assumption)
        obtain ⟨ad176,e176,hx176_0,hx176_1⟩:=jc (Kd.bn HO_4.out).2.2 x16_1 p176 q176
        cases e176
        replace p176:=eq_true p176
        replace q176:=eq_true q176
        have p178:0≤(x16_1:Int):=of_decide_eq_true (by first|(with_reducible assumption)|assumption)
        have q178:x16_1 < (x4_1.length:Int):=of_decide_eq_true (by first|(with_reducible assumption)|assumption)
        obtain ⟨ad178,e178,hx178_0,hx178_1⟩:=jc (Kd.bn HO_4.out).2.2 x16_1 p178 q178
        obtain rfl:ad176=ad178:=(by injection e178)
        replace p178:=eq_true p178
        replace q178:=eq_true q178
        refine nH (n:=22) (S:=fun w'=>w'.cell? (ad176.add ((x16_1).toNat * 2))=some (.string ((aX x4_1 x16_1).f0))∧w'.cell? ⟨(ad176.add ((x16_1).toNat * 2)).block,(ad176.add ((x16_1).toNat * 2)).off+1,none⟩=some (.string ((aX x4_1 x16_1).f1))∧w'.cell? (ad176.add ((x16_1).toNat * 2))=some (.string ((aX x4_1 x16_1).f0))∧w'.cell? ⟨(ad176.add ((x16_1).toNat * 2)).block,(ad176.add ((x16_1).toNat * 2)).off+1,none⟩=some (.string ((aX x4_1 x16_1).f1))) (ds:=[18,21]) #[false,false,false,false,false,false,false,false,false,false,false,false,false,false,false,false,false,false,false,false,false,false] (by kernel_rfl) rfl rfl ⟨hx176_0,hx176_1,hx178_0,hx178_1⟩ (fun hHeld=>?_);refine jk dB.tab7 dB.bits7 (fun HT_ HW_=>?_)
        generalize wr.drew=w15 at HO_4 HB hx176_0 hx176_1 hx178_0 hx178_1 hHeld ⊢
        refine bY (i:=0) (N:=some 19) (v:=?_) (a':=?_) #[true,false,false,false,false,false,false,false,false,false,false,false,false,false,false,false,false,false,false,false,false,false] rfl rfl (bH HT_.out (by kernel_rfl)) (fun _ _ _ h=>h) (Or.inl ⟨by rfl,?_⟩) ?_ ?_
        rotate_left
        ·intro w'
         go_simp
         with_reducible rfl
        rotate_left
        ·simp only [Act.put,List.setIfInBounds_toArray,List.set_cons_zero,List.set_cons_succ,aK,aM]
         rfl
        refine bY (i:=1) (N:=some 20) (v:=?_) (a':=?_) #[true,true,false,false,false,false,false,false,false,false,false,false,false,false,false,false,false,false,false,false,false,false] rfl rfl (bH HT_.out (by kernel_rfl)) (fun _ _ _ h=>h) (Or.inl ⟨by rfl,?_⟩) ?_ ?_
        rotate_left
        ·intro w'
         go_simp
         with_reducible rfl
        rotate_left
        ·simp only [Act.put,List.setIfInBounds_toArray,List.set_cons_zero,List.set_cons_succ,aK,aM]
         rfl
        refine bY (i:=2) (N:=some 21) (v:=?_) (a':=?_) #[true,true,true,false,false,false,false,false,false,false,false,false,false,false,false,false,false,false,false,false,false,false] rfl rfl (bH HT_.out (by kernel_rfl)) (fun _ _ _ h=>h) (Or.inl ⟨by rfl,?_⟩) ?_ ?_
        rotate_left
        ·intro w'
         go_simp
         with_reducible rfl
        rotate_left
        ·simp only [Act.put,List.setIfInBounds_toArray,List.set_cons_zero,List.set_cons_succ,aK,aM]
         rfl
        refine bY (i:=3) (N:=some 22) (v:=?_) (a':=?_) #[true,true,true,true,false,false,false,false,false,false,false,false,false,false,false,false,false,false,false,false,false,false] rfl rfl (bH HT_.out (by kernel_rfl)) (fun _ _ _ h=>h) (Or.inl ⟨by rfl,?_⟩) ?_ ?_
        rotate_left
        ·intro w'
         go_simp
         with_reducible rfl
        rotate_left
        ·simp only [Act.put,List.setIfInBounds_toArray,List.set_cons_zero,List.set_cons_succ,aK,aM]
         rfl
        refine bY (i:=4) (N:=some 23) (v:=?_) (a':=?_) #[true,true,true,true,true,false,false,false,false,false,false,false,false,false,false,false,false,false,false,false,false,false] rfl rfl (bH HT_.out (by kernel_rfl)) (fun _ _ _ h=>h) (Or.inl ⟨by rfl,?_⟩) ?_ ?_
        rotate_left
        ·intro w'
         go_simp
         with_reducible rfl
        rotate_left
        ·simp only [Act.put,List.setIfInBounds_toArray,List.set_cons_zero,List.set_cons_succ,aK,aM]
         rfl
        refine bY (i:=5) (N:=some 24) (v:=?_) (a':=?_) #[true,true,true,true,true,true,false,false,false,false,false,false,false,false,false,false,false,false,false,false,false,false] rfl rfl (bH HT_.out (by kernel_rfl)) (fun _ _ _ h=>h) (Or.inl ⟨by rfl,?_⟩) ?_ ?_
        rotate_left
        ·intro w'
         go_simp
         with_reducible rfl
        rotate_left
        ·simp only [Act.put,List.setIfInBounds_toArray,List.set_cons_zero,List.set_cons_succ,aK,aM]
         rfl
        refine bY (i:=6) (N:=some 25) (v:=?_) (a':=?_) #[true,true,true,true,true,true,true,false,false,false,false,false,false,false,false,false,false,false,false,false,false,false] rfl rfl (bH HT_.out (by kernel_rfl)) (fun _ _ _ h=>h) (Or.inl ⟨by rfl,?_⟩) ?_ ?_
        rotate_left
        ·intro w'
         go_simp
         with_reducible rfl
        rotate_left
        ·simp only [Act.put,List.setIfInBounds_toArray,List.set_cons_zero,List.set_cons_succ,aK,aM]
         rfl
        refine bY (i:=7) (N:=some 26) (v:=?_) (a':=?_) #[true,true,true,true,true,true,true,true,false,false,false,false,false,false,false,false,false,false,false,false,false,false] rfl rfl (bH HT_.out (by kernel_rfl)) (fun _ _ _ h=>h) (Or.inl ⟨by rfl,?_⟩) ?_ ?_
        rotate_left
        ·intro w'
         go_simp
         with_reducible rfl
        rotate_left
        ·simp only [Act.put,List.setIfInBounds_toArray,List.set_cons_zero,List.set_cons_succ,aK,aM]
         rfl
        refine bY (i:=10) (N:=some 29) (v:=?_) (a':=?_) #[true,true,true,true,true,true,true,true,false,false,true,false,false,false,false,false,false,false,false,false,false,false] rfl rfl (bH HT_.out (by kernel_rfl)) (fun _ _ _ h=>h) (Or.inl ⟨by rfl,?_⟩) ?_ ?_
        rotate_left
        ·intro w'
         go_simp
         with_reducible rfl
        rotate_left
        ·simp only [Act.put,List.setIfInBounds_toArray,List.set_cons_zero,List.set_cons_succ,aK,aM]
         rfl
        refine bY (i:=11) (N:=some 30) (v:=?_) (a':=?_) #[true,true,true,true,true,true,true,true,false,false,true,true,false,false,false,false,false,false,false,false,false,false] rfl rfl (bH HT_.out (by kernel_rfl)) (fun _ _ _ h=>h) (Or.inl ⟨by rfl,?_⟩) ?_ ?_
        rotate_left
        ·intro w'
         go_simp
         with_reducible rfl
        rotate_left
        ·simp only [Act.put,List.setIfInBounds_toArray,List.set_cons_zero,List.set_cons_succ,aK,aM]
         rfl
        refine bY (i:=12) (N:=some 31) (v:=?_) (a':=?_) #[true,true,true,true,true,true,true,true,false,false,true,true,true,false,false,false,false,false,false,false,false,false] rfl rfl (bH HT_.out (by kernel_rfl)) (fun _ _ _ h=>h) (Or.inl ⟨by rfl,?_⟩) ?_ ?_
        rotate_left
        ·intro w'
         go_simp
         with_reducible rfl
        rotate_left
        ·simp only [Act.put,List.setIfInBounds_toArray,List.set_cons_zero,List.set_cons_succ,aK,aM]
         rfl
        refine bY (i:=13) (N:=some 32) (v:=?_) (a':=?_) #[true,true,true,true,true,true,true,true,false,false,true,true,true,true,false,false,false,false,false,false,false,false] rfl rfl (bH HT_.out (by kernel_rfl)) (fun _ _ _ h=>h) (Or.inl ⟨by rfl,?_⟩) ?_ ?_
        rotate_left
        ·intro w'
         go_simp
         with_reducible rfl
        rotate_left
        ·simp only [Act.put,List.setIfInBounds_toArray,List.set_cons_zero,List.set_cons_succ,aK,aM]
         rfl
        refine take_ (i:=8) (N:=some 27) (v:=?_) (a':=?_) #[true,true,true,true,true,true,true,true,true,false,true,true,true,true,false,false,false,false,false,false,false,false] rfl rfl (fM HT_.out HW_.out (by kernel_rfl)) (fun _ _ _ h=>h) (Or.inl ⟨by rfl,?_⟩) hHeld ?_ ?_
        rotate_left
        ·rintro w' ⟨s0,s1,s2,s3⟩
         go_simp
         with_reducible rfl
        rotate_left
        ·simp only [Act.put,List.setIfInBounds_toArray,List.set_cons_zero,List.set_cons_succ,aK,aM]
         rfl
        refine take_ (i:=14) (N:=some 33) (v:=?_) (a':=?_) #[true,true,true,true,true,true,true,true,true,false,true,true,true,true,true,false,false,false,false,false,false,false] rfl rfl (fM HT_.out HW_.out (by kernel_rfl)) (fun _ _ _ h=>h) (Or.inl ⟨by rfl,?_⟩) hHeld ?_ ?_
        rotate_left
        ·rintro w' ⟨s0,s1,s2,s3⟩
         go_simp
         with_reducible rfl
        rotate_left
        ·simp only [Act.put,List.setIfInBounds_toArray,List.set_cons_zero,List.set_cons_succ,aK,aM]
         rfl
        refine kC (i:=9) (N:=some 28) #[true,true,true,true,true,true,true,true,true,true,true,true,true,true,true,false,false,false,false,false,false,false] rfl rfl (d9 HT_.out (by kernel_rfl)) (by decide) (fun K hK=>?_)
        refine mG Tryz.func85 (by kernel_rfl) rfl #[.string ((aX x4_1 x16_1).f0)] (by rfl) rfl rfl (by (try simp only [List.map_toArray,List.map_cons,List.map_nil]);first|done|rfl|(simp only [List.length_drop,List.length_take];rfl)) ?_
        with_reducible refine (eG.calls ((aX x4_1 x16_1).f0) t177 _ A9.out).mono ?_
        rintro e w16 ⟨rfl,hb⟩
        have HS0_:=(hb.cell (World.block_lt_of_cell? _ _ (hHeld.1))).trans (hHeld.1)
        have HS1_:=(hb.cell (World.block_lt_of_cell? _ _ (hHeld.2.1))).trans (hHeld.2.1)
        have HS2_:=(hb.cell (World.block_lt_of_cell? _ _ (hHeld.2.2.1))).trans (hHeld.2.2.1)
        have HS3_:=(hb.cell (World.block_lt_of_cell? _ _ (hHeld.2.2.2))).trans (hHeld.2.2.2)
        refine ⟨_,rfl,?_⟩
        have n0_:=aa.mk (Kd.bE (by (with_reducible repeat (first|apply Kd.aQ|apply Kd.aN|apply Kd.aU));exact HO_4.out) hb)
        have n1_:=aa.mk (aA (by repeat (first|(with_reducible first|exact HB.out|apply af|apply ae|apply ag)|exact HB.out)) hb)
        clear HO_4
        clear HB
        have HO_4:=n0_
        have HB:=n1_
        clear n0_ n1_
        (try clear hb)
        (try clear hb2)
        (try clear hk)
        (try clear hi)
        refine hK.out _ _ ⟨HS0_,HS1_,HS2_,HS3_⟩ (fun hHeld=>?_)
        clear hK K
        refine fQ (a':=?_) ?_ ?_
        rotate_left
        ·show Act.put _ (some 28) _=_
         simp only [Act.put,List.setIfInBounds_toArray,List.set_cons_zero,List.set_cons_succ,aK,aM]
         rfl
        refine kC (i:=15) (N:=some 34) #[true,true,true,true,true,true,true,true,true,true,true,true,true,true,true,true,false,false,false,false,false,false] rfl rfl (d9 HT_.out (by kernel_rfl)) (by decide) (fun K hK=>?_)
        refine mG Tryz.func64 (by kernel_rfl) rfl #[.string ((aX x4_1 x16_1).f1)] (by rfl) rfl rfl (by (try simp only [List.map_toArray,List.map_cons,List.map_nil]);first|done|rfl|(simp only [List.length_drop,List.length_take];rfl)) ?_
        with_reducible refine (fK.calls ((aX x4_1 x16_1).f1) t179 _ A10.out).mono ?_
        rintro e w17 ⟨rfl,hb⟩
        have HS0_:=(hb.cell (World.block_lt_of_cell? _ _ (hHeld.1))).trans (hHeld.1)
        have HS1_:=(hb.cell (World.block_lt_of_cell? _ _ (hHeld.2.1))).trans (hHeld.2.1)
        have HS2_:=(hb.cell (World.block_lt_of_cell? _ _ (hHeld.2.2.1))).trans (hHeld.2.2.1)
        have HS3_:=(hb.cell (World.block_lt_of_cell? _ _ (hHeld.2.2.2))).trans (hHeld.2.2.2)
        refine ⟨_,rfl,?_⟩
        have n0_:=aa.mk (Kd.bE (by (with_reducible repeat (first|apply Kd.aQ|apply Kd.aN|apply Kd.aU));exact HO_4.out) hb)
        have n1_:=aa.mk (aA (by repeat (first|(with_reducible first|exact HB.out|apply af|apply ae|apply ag)|exact HB.out)) hb)
        clear HO_4
        clear HB
        have HO_4:=n0_
        have HB:=n1_
        clear n0_ n1_
        (try clear hb)
        (try clear hb2)
        (try clear hk)
        (try clear hi)
        have p11:0≤(x16_1:Int):=of_decide_eq_true (by first|(with_reducible assumption)|assumption)
        have q11:(x16_1:Int) < ((x4_1.length:Int):Int):=of_decide_eq_true (by first|(with_reducible assumption)|assumption)
        obtain ⟨go11,co11,eo11,gb11,gl11,cl11,HG11⟩:=Kd.rA HO_4.out (by omega)
        (first|cases eo11|(injection eo11 with ea_ en_ ec_;(first|subst ea_|(injection ea_ with ea_;subst ea_));subst ec_;clear en_))
        have GB11:=aa.mk gb11
        have GG11:=aa.mk HG11
        clear gb11 gl11 HG11
        (first|simp only [add_plain] at hx176_0|skip)
        (first|simp only [add_plain] at hx176_1|skip)
        (first|simp only [add_plain] at hx178_0|skip)
        (first|simp only [add_plain] at hx178_1|skip)
        obtain ⟨ce11,hcl11,hM11,hcc11,hfr11⟩:=Kd.lU HO_4.out lJ (x16_1:Int) p11 q11
        obtain rfl:=iD hM11
        have hx11_0:World.cell? _ ⟨go11,(x16_1:Int).toNat * 2,none⟩=some (.string ((aX x4_1 x16_1).f0)):=hcc11 0 _ rfl
        have hx11_1:World.cell? _ ⟨go11,(x16_1:Int).toNat * 2+1,none⟩=some (.string ((aX x4_1 x16_1).f1)):=hcc11 1 _ rfl
        have hf11_0:World.frozen? _ ⟨go11,(x16_1:Int).toNat * 2,none⟩=false:=hfr11 0
        have hf11_1:World.frozen? _ ⟨go11,(x16_1:Int).toNat * 2+1,none⟩=false:=hfr11 1
        clear hcl11 hcc11 hfr11 hM11
        replace p11:=eq_true p11
        replace q11:=eq_true q11
        obtain ⟨ce18,hcl18,hM18,hcc18,hfr18⟩:=Kd.lU HO_4.out lJ (x16_1:Int) (of_decide_eq_true (by first|(with_reducible assumption)|assumption)) (by have h_:(x16_1:Int) < ((x4_1.length:Int):Int):=of_decide_eq_true (by first|(with_reducible assumption)|assumption);first|exact h_|(have e_:=(Kd.bn HO_4.out).1;omega)|simpa using h_)
        obtain rfl:=iD hM18
        have HP18:=(Kd.sW HO_4.out (x16_1:Int) (of_decide_eq_true (by first|(with_reducible assumption)|assumption)) (by have h_:(x16_1:Int) < ((x4_1.length:Int):Int):=of_decide_eq_true (by first|(with_reducible assumption)|assumption);first|exact h_|(have e_:=(Kd.bn HO_4.out).1;omega)|simpa using h_) (seg:=[.string t177]) (j:=0) hcl18 hcc18 (show 1≤2 from by decide) (x':=(⟨t177,(aX x4_1 x16_1).f1⟩:dx)) (jO _ _ _ (⟨t177,(aX x4_1 x16_1).f1⟩:dx) ) (fun _ hk=>hk)).1
        rw [← Ny180.out] at HP18
        have HQ18:=aa.mk HP18
        clear hcl18 hcc18 hfr18 hM18 HP18
        have p12:0≤(x16_1:Int):=of_decide_eq_true (by first|(with_reducible assumption)|assumption)
        have q12:(x16_1:Int) < ((x4_1.length:Int):Int):=of_decide_eq_true (by first|(with_reducible assumption)|assumption)
        replace p12:=eq_true p12
        replace q12:=eq_true q12
        obtain ⟨ce19,hcl19,hM19,hcc19,hfr19⟩:=Kd.lU HQ18.out lJ (x16_1:Int) (of_decide_eq_true (by first|(with_reducible assumption)|assumption)) (by have h_:(x16_1:Int) < ((x4_1.length:Int):Int):=of_decide_eq_true (by first|(with_reducible assumption)|assumption);first|exact h_|(have e_:=(Kd.bn HO_4.out).1;omega)|simpa using h_)
        obtain rfl:=iD hM19
        have HP19:=(Kd.sW HQ18.out (x16_1:Int) (of_decide_eq_true (by first|(with_reducible assumption)|assumption)) (by have h_:(x16_1:Int) < ((x4_1.length:Int):Int):=of_decide_eq_true (by first|(with_reducible assumption)|assumption);first|exact h_|(have e_:=(Kd.bn HO_4.out).1;omega)|simpa using h_) (seg:=[.string t179]) (j:=1) hcl19 hcc19 (show 2≤2 from by decide) (x':=(⟨(aX y180 x16_1).f0,t179⟩:dx)) (jO _ _ _ (⟨(aX y180 x16_1).f0,t179⟩:dx) ) (fun _ hk=>hk)).1
        rw [← Ny181.out] at HP19
        have HQ19:=aa.mk HP19
        clear hcl19 hcc19 hfr19 hM19 HP19
        refine hK.out _ _ ⟨HS0_,HS1_,HS2_,HS3_⟩ (fun hHeld=>?_)
        clear hK K
        refine fQ (a':=?_) ?_ ?_
        rotate_left
        ·show Act.put _ (some 34) _=_
         simp only [Act.put,List.setIfInBounds_toArray,List.set_cons_zero,List.set_cons_succ,aK,aM]
         rfl
        refine bY (i:=16) (N:=some 35) (v:=?_) (a':=?_) #[true,true,true,true,true,true,true,true,true,true,true,true,true,true,true,true,true,false,false,false,false,false] rfl rfl (bH HT_.out (by kernel_rfl)) (fun _ _ _ h=>h) (Or.inl ⟨by rfl,?_⟩) ?_ ?_
        rotate_left
        ·intro w'
         go_simp
         with_reducible rfl
        rotate_left
        ·simp only [Act.put,List.setIfInBounds_toArray,List.set_cons_zero,List.set_cons_succ,aK,aM]
         rfl
        refine bY (i:=17) (N:=some 36) (v:=?_) (a':=?_) #[true,true,true,true,true,true,true,true,true,true,true,true,true,true,true,true,true,true,false,false,false,false] rfl rfl (bH HT_.out (by kernel_rfl)) (fun _ _ _ h=>h) (Or.inl ⟨by rfl,?_⟩) ?_ ?_
        rotate_left
        ·intro w'
         go_simp
         with_reducible rfl
        rotate_left
        ·simp only [Act.put,List.setIfInBounds_toArray,List.set_cons_zero,List.set_cons_succ,aK,aM]
         rfl
        refine kF (i:=18) (N:=none) #[true,true,true,true,true,true,true,true,true,true,true,true,true,true,true,true,true,true,true,false,false,false] rfl rfl (d9 HT_.out (by kernel_rfl)) (by decide) (fun K hK=>?_)
        refine nM (w1:=?_) (by rfl) rfl ?_ ?_
        rotate_left
        ·go_simp
         rfl
        refine hK.out _ _ ?_
        clear hK K
        refine bY (i:=19) (N:=some 37) (v:=?_) (a':=?_) #[true,true,true,true,true,true,true,true,true,true,true,true,true,true,true,true,true,true,true,true,false,false] rfl rfl (bH HT_.out (by kernel_rfl)) (fun _ _ _ h=>h) (Or.inl ⟨by rfl,?_⟩) ?_ ?_
        rotate_left
        ·intro w'
         go_simp
         with_reducible rfl
        rotate_left
        ·simp only [Act.put,List.setIfInBounds_toArray,List.set_cons_zero,List.set_cons_succ,aK,aM]
         rfl
        refine bY (i:=20) (N:=some 38) (v:=?_) (a':=?_) #[true,true,true,true,true,true,true,true,true,true,true,true,true,true,true,true,true,true,true,true,true,false] rfl rfl (bH HT_.out (by kernel_rfl)) (fun _ _ _ h=>h) (Or.inl ⟨by rfl,?_⟩) ?_ ?_
        rotate_left
        ·intro w'
         go_simp
         with_reducible rfl
        rotate_left
        ·simp only [Act.put,List.setIfInBounds_toArray,List.set_cons_zero,List.set_cons_succ,aK,aM]
         rfl
        refine kF (i:=21) (N:=none) #[true,true,true,true,true,true,true,true,true,true,true,true,true,true,true,true,true,true,true,true,true,true] rfl rfl (d9 HT_.out (by kernel_rfl)) (by decide) (fun K hK=>?_)
        refine nM (w1:=?_) (by rfl) rfl ?_ ?_
        rotate_left
        ·go_simp
         rfl
        refine hK.out _ _ ?_
        clear hK K
        refine qR (lF HT_.out (by kernel_rfl)) ?_
        have p13:0≤(x16_1:Int):=of_decide_eq_true (by first|(with_reducible assumption)|assumption)
        have q13:(x16_1:Int) < ((x4_1.length:Int):Int):=of_decide_eq_true (by first|(with_reducible assumption)|assumption)
        replace p13:=eq_true p13
        replace q13:=eq_true q13
        try go_wp2
        go_ret2
        exact ⟨by first|rfl|(simp [aD,aG] <;> rfl)|(simp [*,aD,aG] <;> rfl),by repeat (first|(with_reducible first|exact HB.out|apply af|apply ae|apply ag|refine ah ?_ GB11.out|refine ah ?_ GB11.out)|exact HB.out)⟩
       ·rw [if_neg c14] at H
        have c14b0:(t179.toList == ([]:List UInt8))=false:=beq_eq_false_iff_ne.mpr c14
        have c14b1:(t179.toList != ([]:List UInt8))=true:=bne_iff_ne.mpr c14
        have H':=aa.mk H
        clear H
        try go_wp2
        have n0_:=aa.mk (Kd.aU HO_4.out)
        have n1_:=aa.mk (ag HB.out)
        clear HO_4
        clear HB
        have HO_4:=n0_
        have HB:=n1_
        clear n0_ n1_
        have p176:0≤(x16_1:Int):=of_decide_eq_true (by first|(with_reducible assumption)|assumption)
        have q176:x16_1 < (x4_1.length:Int):=of_decide_eq_true (by first|(with_reducible assumption)|assumption)
        obtain ⟨ad176,e176,hx176_0,hx176_1⟩:=jc (Kd.bn HO_4.out).2.2 x16_1 p176 q176
        cases e176
        replace p176:=eq_true p176
        replace q176:=eq_true q176
        have p178:0≤(x16_1:Int):=of_decide_eq_true (by first|(with_reducible assumption)|assumption)
        have q178:x16_1 < (x4_1.length:Int):=of_decide_eq_true (by first|(with_reducible assumption)|assumption)
        obtain ⟨ad178,e178,hx178_0,hx178_1⟩:=jc (Kd.bn HO_4.out).2.2 x16_1 p178 q178
        obtain rfl:ad176=ad178:=(by injection e178)
        replace p178:=eq_true p178
        replace q178:=eq_true q178
        refine nH (n:=22) (S:=fun w'=>w'.cell? (ad176.add ((x16_1).toNat * 2))=some (.string ((aX x4_1 x16_1).f0))∧w'.cell? ⟨(ad176.add ((x16_1).toNat * 2)).block,(ad176.add ((x16_1).toNat * 2)).off+1,none⟩=some (.string ((aX x4_1 x16_1).f1))∧w'.cell? (ad176.add ((x16_1).toNat * 2))=some (.string ((aX x4_1 x16_1).f0))∧w'.cell? ⟨(ad176.add ((x16_1).toNat * 2)).block,(ad176.add ((x16_1).toNat * 2)).off+1,none⟩=some (.string ((aX x4_1 x16_1).f1))) (ds:=[18,21]) #[false,false,false,false,false,false,false,false,false,false,false,false,false,false,false,false,false,false,false,false,false,false] (by kernel_rfl) rfl rfl ⟨hx176_0,hx176_1,hx178_0,hx178_1⟩ (fun hHeld=>?_);refine jk dB.tab7 dB.bits7 (fun HT_ HW_=>?_)
        generalize wr.drew=w20 at HO_4 HB hx176_0 hx176_1 hx178_0 hx178_1 hHeld ⊢
        refine bY (i:=0) (N:=some 19) (v:=?_) (a':=?_) #[true,false,false,false,false,false,false,false,false,false,false,false,false,false,false,false,false,false,false,false,false,false] rfl rfl (bH HT_.out (by kernel_rfl)) (fun _ _ _ h=>h) (Or.inl ⟨by rfl,?_⟩) ?_ ?_
        rotate_left
        ·intro w'
         go_simp
         with_reducible rfl
        rotate_left
        ·simp only [Act.put,List.setIfInBounds_toArray,List.set_cons_zero,List.set_cons_succ,aK,aM]
         rfl
        refine bY (i:=1) (N:=some 20) (v:=?_) (a':=?_) #[true,true,false,false,false,false,false,false,false,false,false,false,false,false,false,false,false,false,false,false,false,false] rfl rfl (bH HT_.out (by kernel_rfl)) (fun _ _ _ h=>h) (Or.inl ⟨by rfl,?_⟩) ?_ ?_
        rotate_left
        ·intro w'
         go_simp
         with_reducible rfl
        rotate_left
        ·simp only [Act.put,List.setIfInBounds_toArray,List.set_cons_zero,List.set_cons_succ,aK,aM]
         rfl
        refine bY (i:=2) (N:=some 21) (v:=?_) (a':=?_) #[true,true,true,false,false,false,false,false,false,false,false,false,false,false,false,false,false,false,false,false,false,false] rfl rfl (bH HT_.out (by kernel_rfl)) (fun _ _ _ h=>h) (Or.inl ⟨by rfl,?_⟩) ?_ ?_
        rotate_left
        ·intro w'
         go_simp
         with_reducible rfl
        rotate_left
        ·simp only [Act.put,List.setIfInBounds_toArray,List.set_cons_zero,List.set_cons_succ,aK,aM]
         rfl
        refine bY (i:=3) (N:=some 22) (v:=?_) (a':=?_) #[true,true,true,true,false,false,false,false,false,false,false,false,false,false,false,false,false,false,false,false,false,false] rfl rfl (bH HT_.out (by kernel_rfl)) (fun _ _ _ h=>h) (Or.inl ⟨by rfl,?_⟩) ?_ ?_
        rotate_left
        ·intro w'
         go_simp
         with_reducible rfl
        rotate_left
        ·simp only [Act.put,List.setIfInBounds_toArray,List.set_cons_zero,List.set_cons_succ,aK,aM]
         rfl
        refine bY (i:=4) (N:=some 23) (v:=?_) (a':=?_) #[true,true,true,true,true,false,false,false,false,false,false,false,false,false,false,false,false,false,false,false,false,false] rfl rfl (bH HT_.out (by kernel_rfl)) (fun _ _ _ h=>h) (Or.inl ⟨by rfl,?_⟩) ?_ ?_
        rotate_left
        ·intro w'
         go_simp
         with_reducible rfl
        rotate_left
        ·simp only [Act.put,List.setIfInBounds_toArray,List.set_cons_zero,List.set_cons_succ,aK,aM]
         rfl
        refine bY (i:=5) (N:=some 24) (v:=?_) (a':=?_) #[true,true,true,true,true,true,false,false,false,false,false,false,false,false,false,false,false,false,false,false,false,false] rfl rfl (bH HT_.out (by kernel_rfl)) (fun _ _ _ h=>h) (Or.inl ⟨by rfl,?_⟩) ?_ ?_
        rotate_left
        ·intro w'
         go_simp
         with_reducible rfl
        rotate_left
        ·simp only [Act.put,List.setIfInBounds_toArray,List.set_cons_zero,List.set_cons_succ,aK,aM]
         rfl
        refine bY (i:=6) (N:=some 25) (v:=?_) (a':=?_) #[true,true,true,true,true,true,true,false,false,false,false,false,false,false,false,false,false,false,false,false,false,false] rfl rfl (bH HT_.out (by kernel_rfl)) (fun _ _ _ h=>h) (Or.inl ⟨by rfl,?_⟩) ?_ ?_
        rotate_left
        ·intro w'
         go_simp
         with_reducible rfl
        rotate_left
        ·simp only [Act.put,List.setIfInBounds_toArray,List.set_cons_zero,List.set_cons_succ,aK,aM]
         rfl
        refine bY (i:=7) (N:=some 26) (v:=?_) (a':=?_) #[true,true,true,true,true,true,true,true,false,false,false,false,false,false,false,false,false,false,false,false,false,false] rfl rfl (bH HT_.out (by kernel_rfl)) (fun _ _ _ h=>h) (Or.inl ⟨by rfl,?_⟩) ?_ ?_
        rotate_left
        ·intro w'
         go_simp
         with_reducible rfl
        rotate_left
        ·simp only [Act.put,List.setIfInBounds_toArray,List.set_cons_zero,List.set_cons_succ,aK,aM]
         rfl
        refine bY (i:=10) (N:=some 29) (v:=?_) (a':=?_) #[true,true,true,true,true,true,true,true,false,false,true,false,false,false,false,false,false,false,false,false,false,false] rfl rfl (bH HT_.out (by kernel_rfl)) (fun _ _ _ h=>h) (Or.inl ⟨by rfl,?_⟩) ?_ ?_
        rotate_left
        ·intro w'
         go_simp
         with_reducible rfl
        rotate_left
        ·simp only [Act.put,List.setIfInBounds_toArray,List.set_cons_zero,List.set_cons_succ,aK,aM]
         rfl
        refine bY (i:=11) (N:=some 30) (v:=?_) (a':=?_) #[true,true,true,true,true,true,true,true,false,false,true,true,false,false,false,false,false,false,false,false,false,false] rfl rfl (bH HT_.out (by kernel_rfl)) (fun _ _ _ h=>h) (Or.inl ⟨by rfl,?_⟩) ?_ ?_
        rotate_left
        ·intro w'
         go_simp
         with_reducible rfl
        rotate_left
        ·simp only [Act.put,List.setIfInBounds_toArray,List.set_cons_zero,List.set_cons_succ,aK,aM]
         rfl
        refine bY (i:=12) (N:=some 31) (v:=?_) (a':=?_) #[true,true,true,true,true,true,true,true,false,false,true,true,true,false,false,false,false,false,false,false,false,false] rfl rfl (bH HT_.out (by kernel_rfl)) (fun _ _ _ h=>h) (Or.inl ⟨by rfl,?_⟩) ?_ ?_
        rotate_left
        ·intro w'
         go_simp
         with_reducible rfl
        rotate_left
        ·simp only [Act.put,List.setIfInBounds_toArray,List.set_cons_zero,List.set_cons_succ,aK,aM]
         rfl
        refine bY (i:=13) (N:=some 32) (v:=?_) (a':=?_) #[true,true,true,true,true,true,true,true,false,false,true,true,true,true,false,false,false,false,false,false,false,false] rfl rfl (bH HT_.out (by kernel_rfl)) (fun _ _ _ h=>h) (Or.inl ⟨by rfl,?_⟩) ?_ ?_
        rotate_left
        ·intro w'
         go_simp
         with_reducible rfl
        rotate_left
        ·simp only [Act.put,List.setIfInBounds_toArray,List.set_cons_zero,List.set_cons_succ,aK,aM]
         rfl
        refine take_ (i:=8) (N:=some 27) (v:=?_) (a':=?_) #[true,true,true,true,true,true,true,true,true,false,true,true,true,true,false,false,false,false,false,false,false,false] rfl rfl (fM HT_.out HW_.out (by kernel_rfl)) (fun _ _ _ h=>h) (Or.inl ⟨by rfl,?_⟩) hHeld ?_ ?_
        rotate_left
        ·rintro w' ⟨s0,s1,s2,s3⟩
         go_simp
         with_reducible rfl
        rotate_left
        ·simp only [Act.put,List.setIfInBounds_toArray,List.set_cons_zero,List.set_cons_succ,aK,aM]
         rfl
        refine take_ (i:=14) (N:=some 33) (v:=?_) (a':=?_) #[true,true,true,true,true,true,true,true,true,false,true,true,true,true,true,false,false,false,false,false,false,false] rfl rfl (fM HT_.out HW_.out (by kernel_rfl)) (fun _ _ _ h=>h) (Or.inl ⟨by rfl,?_⟩) hHeld ?_ ?_
        rotate_left
        ·rintro w' ⟨s0,s1,s2,s3⟩
         go_simp
         with_reducible rfl
        rotate_left
        ·simp only [Act.put,List.setIfInBounds_toArray,List.set_cons_zero,List.set_cons_succ,aK,aM]
         rfl
        refine kC (i:=9) (N:=some 28) #[true,true,true,true,true,true,true,true,true,true,true,true,true,true,true,false,false,false,false,false,false,false] rfl rfl (d9 HT_.out (by kernel_rfl)) (by decide) (fun K hK=>?_)
        refine mG Tryz.func85 (by kernel_rfl) rfl #[.string ((aX x4_1 x16_1).f0)] (by rfl) rfl rfl (by (try simp only [List.map_toArray,List.map_cons,List.map_nil]);first|done|rfl|(simp only [List.length_drop,List.length_take];rfl)) ?_
        with_reducible refine (eG.calls ((aX x4_1 x16_1).f0) t177 _ A9.out).mono ?_
        rintro e w21 ⟨rfl,hb⟩
        have HS0_:=(hb.cell (World.block_lt_of_cell? _ _ (hHeld.1))).trans (hHeld.1)
        have HS1_:=(hb.cell (World.block_lt_of_cell? _ _ (hHeld.2.1))).trans (hHeld.2.1)
        have HS2_:=(hb.cell (World.block_lt_of_cell? _ _ (hHeld.2.2.1))).trans (hHeld.2.2.1)
        have HS3_:=(hb.cell (World.block_lt_of_cell? _ _ (hHeld.2.2.2))).trans (hHeld.2.2.2)
        refine ⟨_,rfl,?_⟩
        have n0_:=aa.mk (Kd.bE (by (with_reducible repeat (first|apply Kd.aQ|apply Kd.aN|apply Kd.aU));exact HO_4.out) hb)
        have n1_:=aa.mk (aA (by repeat (first|(with_reducible first|exact HB.out|apply af|apply ae|apply ag)|exact HB.out)) hb)
        clear HO_4
        clear HB
        have HO_4:=n0_
        have HB:=n1_
        clear n0_ n1_
        (try clear hb)
        (try clear hb2)
        (try clear hk)
        (try clear hi)
        refine hK.out _ _ ⟨HS0_,HS1_,HS2_,HS3_⟩ (fun hHeld=>?_)
        clear hK K
        refine fQ (a':=?_) ?_ ?_
        rotate_left
        ·show Act.put _ (some 28) _=_
         simp only [Act.put,List.setIfInBounds_toArray,List.set_cons_zero,List.set_cons_succ,aK,aM]
         rfl
        refine kC (i:=15) (N:=some 34) #[true,true,true,true,true,true,true,true,true,true,true,true,true,true,true,true,false,false,false,false,false,false] rfl rfl (d9 HT_.out (by kernel_rfl)) (by decide) (fun K hK=>?_)
        refine mG Tryz.func64 (by kernel_rfl) rfl #[.string ((aX x4_1 x16_1).f1)] (by rfl) rfl rfl (by (try simp only [List.map_toArray,List.map_cons,List.map_nil]);first|done|rfl|(simp only [List.length_drop,List.length_take];rfl)) ?_
        with_reducible refine (fK.calls ((aX x4_1 x16_1).f1) t179 _ A10.out).mono ?_
        rintro e w22 ⟨rfl,hb⟩
        have HS0_:=(hb.cell (World.block_lt_of_cell? _ _ (hHeld.1))).trans (hHeld.1)
        have HS1_:=(hb.cell (World.block_lt_of_cell? _ _ (hHeld.2.1))).trans (hHeld.2.1)
        have HS2_:=(hb.cell (World.block_lt_of_cell? _ _ (hHeld.2.2.1))).trans (hHeld.2.2.1)
        have HS3_:=(hb.cell (World.block_lt_of_cell? _ _ (hHeld.2.2.2))).trans (hHeld.2.2.2)
        refine ⟨_,rfl,?_⟩
        have n0_:=aa.mk (Kd.bE (by (with_reducible repeat (first|apply Kd.aQ|apply Kd.aN|apply Kd.aU));exact HO_4.out) hb)
        have n1_:=aa.mk (aA (by repeat (first|(with_reducible first|exact HB.out|apply af|apply ae|apply ag)|exact HB.out)) hb)
        clear HO_4
        clear HB
        have HO_4:=n0_
        have HB:=n1_
        clear n0_ n1_
        (try clear hb)
        (try clear hb2)
        (try clear hk)
        (try clear hi)
        have p11:0≤(x16_1:Int):=of_decide_eq_true (by first|(with_reducible assumption)|assumption)
        have q11:(x16_1:Int) < ((x4_1.length:Int):Int):=of_decide_eq_true (by first|(with_reducible assumption)|assumption)
        obtain ⟨go11,co11,eo11,gb11,gl11,cl11,HG11⟩:=Kd.rA HO_4.out (by omega)
        (first|cases eo11|(injection eo11 with ea_ en_ ec_;(first|subst ea_|(injection ea_ with ea_;subst ea_));subst ec_;clear en_))
        have GB11:=aa.mk gb11
        have GG11:=aa.mk HG11
        clear gb11 gl11 HG11
        (first|simp only [add_plain] at hx176_0|skip)
        (first|simp only [add_plain] at hx176_1|skip)
        (first|simp only [add_plain] at hx178_0|skip)
        (first|simp only [add_plain] at hx178_1|skip)
        obtain ⟨ce11,hcl11,hM11,hcc11,hfr11⟩:=Kd.lU HO_4.out lJ (x16_1:Int) p11 q11
        obtain rfl:=iD hM11
        have hx11_0:World.cell? _ ⟨go11,(x16_1:Int).toNat * 2,none⟩=some (.string ((aX x4_1 x16_1).f0)):=hcc11 0 _ rfl
        have hx11_1:World.cell? _ ⟨go11,(x16_1:Int).toNat * 2+1,none⟩=some (.string ((aX x4_1 x16_1).f1)):=hcc11 1 _ rfl
        have hf11_0:World.frozen? _ ⟨go11,(x16_1:Int).toNat * 2,none⟩=false:=hfr11 0
        have hf11_1:World.frozen? _ ⟨go11,(x16_1:Int).toNat * 2+1,none⟩=false:=hfr11 1
        clear hcl11 hcc11 hfr11 hM11
        replace p11:=eq_true p11
        replace q11:=eq_true q11
        obtain ⟨ce23,hcl23,hM23,hcc23,hfr23⟩:=Kd.lU HO_4.out lJ (x16_1:Int) (of_decide_eq_true (by first|(with_reducible assumption)|assumption)) (by have h_:(x16_1:Int) < ((x4_1.length:Int):Int):=of_decide_eq_true (by first|(with_reducible assumption)|assumption);first|exact h_|(have e_:=(Kd.bn HO_4.out).1;omega)|simpa using h_)
        obtain rfl:=iD hM23
        have HP23:=(Kd.sW HO_4.out (x16_1:Int) (of_decide_eq_true (by first|(with_reducible assumption)|assumption)) (by have h_:(x16_1:Int) < ((x4_1.length:Int):Int):=of_decide_eq_true (by first|(with_reducible assumption)|assumption);first|exact h_|(have e_:=(Kd.bn HO_4.out).1;omega)|simpa using h_) (seg:=[.string t177]) (j:=0) hcl23 hcc23 (show 1≤2 from by decide) (x':=(⟨t177,(aX x4_1 x16_1).f1⟩:dx)) (jO _ _ _ (⟨t177,(aX x4_1 x16_1).f1⟩:dx) ) (fun _ hk=>hk)).1
        rw [← Ny180.out] at HP23
        have HQ23:=aa.mk HP23
        clear hcl23 hcc23 hfr23 hM23 HP23
        have p12:0≤(x16_1:Int):=of_decide_eq_true (by first|(with_reducible assumption)|assumption)
        have q12:(x16_1:Int) < ((x4_1.length:Int):Int):=of_decide_eq_true (by first|(with_reducible assumption)|assumption)
        replace p12:=eq_true p12
        replace q12:=eq_true q12
        obtain ⟨ce24,hcl24,hM24,hcc24,hfr24⟩:=Kd.lU HQ23.out lJ (x16_1:Int) (of_decide_eq_true (by first|(with_reducible assumption)|assumption)) (by have h_:(x16_1:Int) < ((x4_1.length:Int):Int):=of_decide_eq_true (by first|(with_reducible assumption)|assumption);first|exact h_|(have e_:=(Kd.bn HO_4.out).1;omega)|simpa using h_)
        obtain rfl:=iD hM24
        have HP24:=(Kd.sW HQ23.out (x16_1:Int) (of_decide_eq_true (by first|(with_reducible assumption)|assumption)) (by have h_:(x16_1:Int) < ((x4_1.length:Int):Int):=of_decide_eq_true (by first|(with_reducible assumption)|assumption);first|exact h_|(have e_:=(Kd.bn HO_4.out).1;omega)|simpa using h_) (seg:=[.string t179]) (j:=1) hcl24 hcc24 (show 2≤2 from by decide) (x':=(⟨(aX y180 x16_1).f0,t179⟩:dx)) (jO _ _ _ (⟨(aX y180 x16_1).f0,t179⟩:dx) ) (fun _ hk=>hk)).1
        rw [← Ny181.out] at HP24
        have HQ24:=aa.mk HP24
        clear hcl24 hcc24 hfr24 hM24 HP24
        refine hK.out _ _ ⟨HS0_,HS1_,HS2_,HS3_⟩ (fun hHeld=>?_)
        clear hK K
        refine fQ (a':=?_) ?_ ?_
        rotate_left
        ·show Act.put _ (some 34) _=_
         simp only [Act.put,List.setIfInBounds_toArray,List.set_cons_zero,List.set_cons_succ,aK,aM]
         rfl
        refine bY (i:=16) (N:=some 35) (v:=?_) (a':=?_) #[true,true,true,true,true,true,true,true,true,true,true,true,true,true,true,true,true,false,false,false,false,false] rfl rfl (bH HT_.out (by kernel_rfl)) (fun _ _ _ h=>h) (Or.inl ⟨by rfl,?_⟩) ?_ ?_
        rotate_left
        ·intro w'
         go_simp
         with_reducible rfl
        rotate_left
        ·simp only [Act.put,List.setIfInBounds_toArray,List.set_cons_zero,List.set_cons_succ,aK,aM]
         rfl
        refine bY (i:=17) (N:=some 36) (v:=?_) (a':=?_) #[true,true,true,true,true,true,true,true,true,true,true,true,true,true,true,true,true,true,false,false,false,false] rfl rfl (bH HT_.out (by kernel_rfl)) (fun _ _ _ h=>h) (Or.inl ⟨by rfl,?_⟩) ?_ ?_
        rotate_left
        ·intro w'
         go_simp
         with_reducible rfl
        rotate_left
        ·simp only [Act.put,List.setIfInBounds_toArray,List.set_cons_zero,List.set_cons_succ,aK,aM]
         rfl
        refine kF (i:=18) (N:=none) #[true,true,true,true,true,true,true,true,true,true,true,true,true,true,true,true,true,true,true,false,false,false] rfl rfl (d9 HT_.out (by kernel_rfl)) (by decide) (fun K hK=>?_)
        refine nM (w1:=?_) (by rfl) rfl ?_ ?_
        rotate_left
        ·go_simp
         rfl
        refine hK.out _ _ ?_
        clear hK K
        refine bY (i:=19) (N:=some 37) (v:=?_) (a':=?_) #[true,true,true,true,true,true,true,true,true,true,true,true,true,true,true,true,true,true,true,true,false,false] rfl rfl (bH HT_.out (by kernel_rfl)) (fun _ _ _ h=>h) (Or.inl ⟨by rfl,?_⟩) ?_ ?_
        rotate_left
        ·intro w'
         go_simp
         with_reducible rfl
        rotate_left
        ·simp only [Act.put,List.setIfInBounds_toArray,List.set_cons_zero,List.set_cons_succ,aK,aM]
         rfl
        refine bY (i:=20) (N:=some 38) (v:=?_) (a':=?_) #[true,true,true,true,true,true,true,true,true,true,true,true,true,true,true,true,true,true,true,true,true,false] rfl rfl (bH HT_.out (by kernel_rfl)) (fun _ _ _ h=>h) (Or.inl ⟨by rfl,?_⟩) ?_ ?_
        rotate_left
        ·intro w'
         go_simp
         with_reducible rfl
        rotate_left
        ·simp only [Act.put,List.setIfInBounds_toArray,List.set_cons_zero,List.set_cons_succ,aK,aM]
         rfl
        refine kF (i:=21) (N:=none) #[true,true,true,true,true,true,true,true,true,true,true,true,true,true,true,true,true,true,true,true,true,true] rfl rfl (d9 HT_.out (by kernel_rfl)) (by decide) (fun K hK=>?_)
        refine nM (w1:=?_) (by rfl) rfl ?_ ?_
        rotate_left
        ·go_simp
         rfl
        refine hK.out _ _ ?_
        clear hK K
        refine qR (lF HT_.out (by kernel_rfl)) ?_
        have p13:0≤(x16_1:Int):=of_decide_eq_true (by first|(with_reducible assumption)|assumption)
        have q13:(x16_1:Int) < ((x4_1.length:Int):Int):=of_decide_eq_true (by first|(with_reducible assumption)|assumption)
        replace p13:=eq_true p13
        replace q13:=eq_true q13
        try go_wp2
        (try simp only [← hl4_1])
        go_roundg k1
        case measure=>have:=HK1.out;omega
        case rel=>exact ⟨(y181),(wrap64 (x16_1+1)),(by first|rfl|(simp;done)|(simp [*];done)|(simp [*,aK,aM,bX];done)|(simp only [au,ak];done)|(simp only [au,ak];simp;done)|(simp only [au,ak];simp [*];done)),H',⟨by have:=HK1.out;omega⟩,⟨by (try simp only [hl4_1]);(with_reducible repeat (first|apply Kd.aQ|apply Kd.aN|apply Kd.aU));exact HQ24.out⟩,⟨by repeat (first|(with_reducible first|exact HB.out|apply af|apply ae|apply ag|refine ah ?_ GB11.out|refine ah ?_ GB11.out)|exact HB.out)⟩⟩
      ·rw [if_neg c8] at H
       exact absurd H (by simp)
     ·rw [if_neg c7] at H
      exact absurd H (by simp)
    ·rw [if_neg c6] at H
     have c6b0:decide (x16_1 < (t171.length:Int))=false:=decide_eq_false c6
     (try (have c6b0h:=c6b0;simp only [hl4_1] at c6b0h))
     clear c6
     replace H:=Option.bind_eq_some_iff.mp H
     obtain ⟨t175,A250,H⟩:=H
     replace H:(some (t175,true))=some (r1,r2):=H
     have A25:=aa.mk A250
     clear A250
     simp only [Option.some.injEq,Prod.mk.injEq] at H
     obtain ⟨rfl,rfl⟩:=H
     go_wp2_with (first|((with_reducible refine aH (f:=91) rfl ?_);refine bq (some 47) rfl rfl Tryz.func91 (by kernel_rfl) rfl #[.slice Ao5 x4_1.length co5] rfl (by (try simp only [List.map_toArray,List.map_cons,List.map_nil]);first|done|rfl|(simp only [List.length_drop,List.length_take];rfl)) ?_;(with_reducible refine (jJ.calls _ _ x4_1 t175 _ ?side1 ?side2 A25.out).mono ?_);(case side1=>repeat (first|exact (Kd.bn HO_4.out).2.2|(with_reducible refine Kd.dA ?_ _)|(with_reducible refine Kd.dG ?_ _)|(with_reducible refine Kd.eu ?_)));(case side2=>exact (Kd.bn HO_4.out).2.1);rintro e w26 ⟨rfl,hb⟩;refine ⟨_,rfl,?_⟩;have n0_:=aa.mk (Kd.bE (by (with_reducible repeat (first|apply Kd.aQ|apply Kd.aN|apply Kd.aU));exact HO_4.out) hb);have n1_:=aa.mk (aA (by repeat (first|(with_reducible first|exact HB.out|apply af|apply ae|apply ag)|exact HB.out)) hb);clear HO_4;clear HB;have HO_4:=n0_;have HB:=n1_;clear n0_ n1_;(try clear hb);(try clear hb2);(try clear hk);(try clear hi)))
     go_ret2
     exact ⟨by first|rfl|(simp [aD,aG] <;> rfl)|(simp [*,aD,aG] <;> rfl),by repeat (first|(with_reducible first|exact HB.out|apply af|apply ae|apply ag)|exact HB.out)⟩
 ·replace c3:=Bool.eq_false_iff.mpr c3
  subst c3
  have H1:(some ((⟨#[]⟩:ByteArray),false))=some (r1,r2):=by rw [if_neg (show ¬ (false=true) by decide)] at H;exact H
  clear H
  have H:=H1
  clear H1
  simp only [Option.some.injEq,Prod.mk.injEq] at H
  obtain ⟨rfl,rfl⟩:=H
  go_enter Tryz.func66,Tryz.ntmps66
  go_wp2_with (first|((with_reducible refine aH (f:=90) rfl ?_);refine bq (some 9) rfl rfl Tryz.func90 (by kernel_rfl) rfl #[.string a0] rfl (by (try simp only [List.map_toArray,List.map_cons,List.map_nil]);first|done|rfl|(simp only [List.length_drop,List.length_take];rfl)) ?_;(with_reducible refine (bA.calls k a0 t171 false _ ?side1 A2.out).mono ?_);(case side1=>first|exact HG.out|exact Gl.drewN HG.out _|exact Gl.below HG.out (by repeat (first|(with_reducible first|exact HB.out|apply af|apply ae|apply ag)|exact HB.out)));rintro e w27 ⟨v173,rfl,ho0,hb⟩;refine ⟨_,rfl,?_⟩;have n0_:=aa.mk (Kd.dM ho0 (aC (by repeat (first|(with_reducible first|exact HB.out|apply af|apply ae|apply ag)|exact HB.out))));have n1_:=aa.mk (aA (by repeat (first|(with_reducible first|exact HB.out|apply af|apply ae|apply ag)|exact HB.out)) hb);clear HB;have HO174:=n0_;have HB:=n1_;clear n0_ n1_;(try clear hb);(try clear hb2);(try clear hk);(try clear hi);(try clear ho0)))
  go_ret2
  exact ⟨by first|rfl|(simp [aD,aG] <;> rfl)|(simp [*,aD,aG] <;> rfl),by repeat (first|(with_reducible first|exact HB.out|apply af|apply ae|apply ag)|exact HB.out)⟩
end Go.Proofs.YthfpaoacjpjnfaaGreatDoor.P

namespace Go.Proofs.YthfpaoacjpjnfaaGreatDoor.P
open Go.RowKit Go.Proofs.YthfpaoacjpjnfaaGreatDoorW.PrintWords Go.Proofs.YthfpaoacjpjnfaaGreatDoorW.PrintLast Go.Proofs.YthfpaoacjpjnfaaGreatDoorW.PrintMore
theorem sF (w:World) (k:Nat) (os:Array Obj):Below w.heap.size w (Go.Sort.grow (w.drewN k) os) :=
  ⟨rfl,rfl,rfl,by simp [Go.Sort.grow],fun i hi=>by simp [Go.Sort.grow,Array.getElem?_append,hi]⟩
theorem Bv (n:Int) (h0:-9223372036854775808≤n) (h1:n≤9223372036854775807) (w:World) (hG:Gl w) :
    Calls Tryz.prog 88 #[.int .i64 n] w fun e w'=>e=.returned (.string (mk (Lib.itoa n)))∧Below w.heap.size w w':=by
  refine (Tryz.strconv_Itoa n h0 h1 w hG.pow).mono ?_
  rintro e w' ⟨rfl,k,os,rfl⟩
  exact ⟨rfl,sF w k os⟩
theorem uZ (s:ByteArray) (v:Int) (hm:s.size≤281474976710656) (h:Lib.atoiAll s.data.toList=.ok v) (w:World) :
    Calls Tryz.prog 87 #[.string s] w fun e w'=>e=.returned (.tuple #[.int .i64 v,.nilIface])∧Below w.heap.size w w':=by
  refine (Tryz.strconv_Atoi_ok s (by omega) v h w).mono ?_
  rintro e w' ⟨rfl,hw⟩
  rcases hw with rfl|⟨t,rfl⟩
  · exact ⟨rfl,Below.refl _ _⟩
  · exact ⟨rfl,Lib.bytesWorld_below _ _ _⟩
theorem AP (s:ByteArray) (hm:s.size≤281474976710656) (h:∀ v,Lib.atoiAll s.data.toList≠.ok v) (w:World) (hG:Gl w) :
    Calls Tryz.prog 87 #[.string s] w fun e w'=>∃ (n:Int) (N:Nat),e=.returned (.tuple #[.int .i64 n,.iface 135 (.pointer (some ⟨N,0,none⟩))])∧Below w.heap.size w w':=by
  cases hh:Lib.atoiAll s.data.toList with
  | ok v=>exact absurd hh (h v)
  | range =>
    obtain ⟨t,p,hv⟩:=hG.rng
    refine (Tryz.strconv_Atoi_range s hm hh _ w hv (.inr ⟨t,p,rfl⟩)).mono ?_
    rintro e w' ⟨N,rfl,_,_,hb⟩
    exact ⟨_,N,rfl,hb⟩
  | _ =>
    obtain ⟨t,p,hv⟩:=hG.syn
    refine (Tryz.strconv_Atoi_syntax s hm hh _ w hv (.inr ⟨t,p,rfl⟩)).mono ?_
    rintro e w' ⟨N,rfl,_,_,hb⟩
    exact ⟨_,N,rfl,hb⟩
theorem AA (s:ByteArray) (w:World) :
    Calls Tryz.prog 89 #[.string s,.string ⟨#[45]⟩] w fun e w'=>e=.returned (.string (mk (Lib.trimPrefix s.data.toList [45])))∧w'=w:=Tryz.strings_TrimPrefix s ⟨#[45]⟩ w
def fV (l:List UInt8):Bool :=
  match Lib.atoiAll l with
  | .ok v=>(Lib.itoa v == l) && decide ((Lib.trimPrefix l [45]).length≤15)
  | _=>false
def dV.f (a0:ByteArray):Option Bool:=if a0.size≤281474976710656 then some (fV a0.data.toList) else none
theorem uC {l:List UInt8} {v:Int} (h:Lib.atoiAll l=.ok v):-9223372036854775808≤v∧v≤9223372036854775807:=by
  cases l with
  | nil=>exact absurd h (by simp [Lib.atoiAll])
  | cons c r =>
    simp only [Lib.atoiAll] at h
    cases hp:Lib.parseMag (if c.toNat=43∨c.toNat=45 then r else c :: r) with
    | ok u =>
      rw [hp] at h
      simp only at h
      split at h
      · exact absurd h (by simp)
      · split at h
        · exact absurd h (by simp)
        · injection h with h
          subst h
          split <;> omega
    | _=>rw [hp] at h;exact absurd h (by simp)
set_option maxHeartbeats 8000000 in
theorem dV.any (s:ByteArray) (hm:s.size≤281474976710656) (w:World) (hG:Gl w) :
    Calls Tryz.prog 65 #[.string s] w fun e w'=>e=.returned (.bool (fV s.data.toList))∧Below w.heap.size w w':=by
  have HG:=Lib.hid hG
  clear hG
  by_cases hv:∃ v,Lib.atoiAll s.data.toList=.ok v
  · obtain ⟨v,hv⟩:=hv
    have hr:=uC hv
    have hnum:fV s.data.toList=((Lib.itoa v == s.data.toList) && decide ((Lib.trimPrefix s.data.toList [45]).length≤15)):=by unfold fV;rw [hv]
    rw [hnum]
    have HV:=Lib.hid hv
    have HR:=Lib.hid hr
    clear hv hr hnum
    obtain ⟨I,hI⟩:∃ I,mk (Lib.itoa v)=I:=⟨_,rfl⟩
    have hId:I.toList=Lib.itoa v:=by rw [← hI,fw]
    have hit:=fun W hW=>Bv v HR.out.1 HR.out.2 W hW
    rw [hI] at hit
    have HIT:=Lib.hid hit
    clear hit hI
    by_cases he:I.toList=s.toList
    · have b1:(I.toList == s.toList)=true:=beq_iff_eq.2 he
      have hb:(Lib.itoa v == s.data.toList)=true:=by rw [← hId,← toList_data,b1]
      rw [hb,Bool.true_and]
      have HE:=Lib.hid he
      clear he hb hId
      obtain ⟨D,hD⟩:∃ D,mk (Lib.trimPrefix s.data.toList [45])=D:=⟨_,rfl⟩
      have htp:=fun W=>AA s W
      have hDs:(Lib.trimPrefix s.data.toList [45]).length=D.size:=by rw [← hD,dZ]
      rw [hDs]
      rw [hD] at htp
      have HTP:=Lib.hid htp
      clear htp hD hDs
      go_enter Tryz.func65,Tryz.ntmps65
      go_wp2_with (first
        | (go_at_call 87;refine (uZ s v hm HV.out _).mono ?_;rintro e w1 ⟨rfl,hb1⟩;have HB1:=Lib.hid hb1;clear hb1)
        | (go_at_call 88;refine (HIT.out _ (HG.out.below HB1.out)).mono ?_;rintro e w2 ⟨rfl,hb2⟩;have HB2:=Lib.hid hb2;clear hb2)
        | (go_at_call 89;refine (HTP.out _).mono ?_;rintro e w' ⟨rfl,rfl⟩))
      have hd:decide ((D.size:Int)≤15)=decide (D.size≤15):=decide_eq_decide.2 (by omega)
      have HD:=Lib.hid hd
      clear hd
      go_ret
      exact ⟨by rw [← HD.out];rfl,HB1.out.trans (HB2.out.mono HB1.out.size)⟩
    · have b1:(I.toList == s.toList)=false:=beq_eq_false_iff_ne.2 he
      have hb:(Lib.itoa v == s.data.toList)=false:=by rw [← hId,← toList_data,b1]
      rw [hb,Bool.false_and]
      clear he hb hId
      go_enter Tryz.func65,Tryz.ntmps65
      go_wp2_with (first
        | (go_at_call 87;refine (uZ s v hm HV.out _).mono ?_;rintro e w1 ⟨rfl,hb1⟩;have HB1:=Lib.hid hb1;clear hb1)
        | (go_at_call 88;refine (HIT.out _ (HG.out.below HB1.out)).mono ?_;rintro e w2 ⟨rfl,hb2⟩;have HB2:=Lib.hid hb2;clear hb2))
      go_ret
      exact ⟨rfl,HB1.out.trans (HB2.out.mono HB1.out.size)⟩
  · have hno:∀ v,Lib.atoiAll s.data.toList≠.ok v:=fun v h=>hv ⟨v,h⟩
    have hnum:fV s.data.toList=false:=by
      unfold fV
      split
      · rename_i v h;exact absurd h (hno v)
      · rfl
    rw [hnum]
    have HNO:=Lib.hid hno
    clear hno hnum hv
    go_enter Tryz.func65,Tryz.ntmps65
    go_wp2_with (first
      | (go_at_call 87;refine (AP s hm HNO.out _ HG.out).mono ?_;rintro e w1 ⟨n,N,rfl,hb1⟩;have HB1:=Lib.hid hb1;clear hb1))
    go_ret
    exact ⟨rfl,HB1.out⟩
theorem dV.calls (a0:ByteArray) (r:Bool) (w:World) (hG:Gl w) (h:dV.f a0=some r) :
    Calls Tryz.prog 65 #[.string a0] w fun e w'=>e=.returned (.bool r)∧Below w.heap.size w w':=by
  unfold dV.f at h
  by_cases hs:a0.size≤281474976710656
  · rw [if_pos hs] at h
    obtain rfl:=Option.some.inj h
    exact dV.any a0 hs w hG
  · rw [if_neg hs] at h
    cases h
end Go.Proofs.YthfpaoacjpjnfaaGreatDoor.P

namespace Go.Proofs.YthfpaoacjpjnfaaGreatDoor.P
open Go.RowKit Go.Proofs.YthfpaoacjpjnfaaGreatDoorW.PrintWords Go.Proofs.YthfpaoacjpjnfaaGreatDoorW.PrintLast Go.Proofs.YthfpaoacjpjnfaaGreatDoorW.PrintMore
attribute [local go_sem] dP dS eP eO dE dD dQ dR
def bB.j0:Nat→ByteArray→ByteArray→Bool→Option (ByteArray × Bool)
 | 0,_,_,_=>none
 | k+1,x0,x1,x13=>if x13=true then (some ((⟨#[]⟩:ByteArray),false)) else ((cB.f x0).bind fun t183=>(if t183=1 then ((fK.f x1).bind fun t184=>(if t184.toList=([]:List UInt8) then (some ((⟨#[]⟩:ByteArray),false)) else (some (t184,true)))) else (if t183=2 then ((dV.f x1).bind fun t185=>(if t185=true then (if x1.toList=([]:List UInt8) then (some ((⟨#[]⟩:ByteArray),false)) else (some (x1,true))) else (some ((⟨#[]⟩:ByteArray),false)))) else (if t183=3 then ((dB.f k x1).bind fun bt186=>(if bt186.2=true then (if bt186.1.toList=([]:List UInt8) then (some ((⟨#[]⟩:ByteArray),false)) else (some (bt186.1,true))) else (some ((⟨#[]⟩:ByteArray),false)))) else (if t183=4 then (if x1.toList=([]:List UInt8) then (some ((⟨#[]⟩:ByteArray),false)) else (some (x1,true))) else (some ((⟨#[]⟩:ByteArray),false)))))))
def bB.f (k:Nat) (a0:ByteArray) (a1:ByteArray):Option (ByteArray × Bool):=if a1.toList=([]:List UInt8) then (bB.j0 k a0 a1 true) else (bB.j0 k a0 a1 (decide ((a1.size:Int) > 100)))
set_option maxHeartbeats 8000000 in
set_option maxRecDepth 100000 in
theorem bB.calls (k:Nat) (a0:ByteArray) (a1:ByteArray) (r1:ByteArray) (r2:Bool) (w:World) (hG:Gl w) (h:bB.f k a0 a1=some (r1,r2)) :
  Calls Tryz.prog 39 #[.string a0,.string a1] w fun e w'=>e=.returned (.tuple #[.string r1,.bool r2])∧Below w.heap.size w w':=by
 have HB:=aa.mk (Below.refl w.heap.size w)
 have HG:=aa.mk hG
 clear hG
 have H:(if a1.toList=([]:List UInt8) then (bB.j0 k a0 a1 true) else (bB.j0 k a0 a1 (decide ((a1.size:Int) > 100))))=some (r1,r2):=h
 clear h
 have HC3:=aa.mk H
 clear H
 go_enter Tryz.func39,Tryz.ntmps39
 go_upto_region 1 with (fail)
 go_cut [13] (fun v13 wc=>∃ (kq:Nat) (x13_2:Bool),v13=.bool x13_2∧aa (bB.j0 kq a0 a1 x13_2=some (r1,r2))∧aa (kq≤k)∧aa (Below w.heap.size w wc))
 case first =>
  have H:=HC3.out
  clear HC3
  by_cases c4:a1.toList=([]:List UInt8)
  ·rw [if_pos c4] at H
   have c4b0:(a1.toList == ([]:List UInt8))=true:=beq_iff_eq.mpr c4
   have c4b1:(a1.toList != ([]:List UInt8))=false:=bne_eq_false_iff_eq.mpr c4
   clear c4
   (first|rw [c4b0]|(simp only [aK,aM];rw [c4b0])|skip)
   have H':=aa.mk H
   clear H
   go_wp2
   go_meet
   case rel=>exact ⟨_,(true),(by first|rfl|(simp;done)|(simp [*];done)|(simp [*,aK,aM,bX];done)|(simp only [au,ak];done)|(simp only [au,ak];simp;done)|(simp only [au,ak];simp [*];done)),H',⟨by first|omega|exact Nat.le_refl _⟩,⟨by repeat (first|(with_reducible first|exact HB.out|apply af|apply ae|apply ag)|exact HB.out)⟩⟩
  ·rw [if_neg c4] at H
   have c4b0:(a1.toList == ([]:List UInt8))=false:=beq_eq_false_iff_ne.mpr c4
   have c4b1:(a1.toList != ([]:List UInt8))=true:=bne_iff_ne.mpr c4
   (first|rw [c4b0]|(simp only [aK,aM];rw [c4b0])|skip)
   have H':=aa.mk H
   clear H
   go_wp2
   go_meet
   case rel=>exact ⟨_,(decide ((a1.size:Int) > 100)),(by first|rfl|(simp;done)|(simp [*];done)|(simp [*,aK,aM,bX];done)|(simp only [au,ak];done)|(simp only [au,ak];simp;done)|(simp only [au,ak];simp [*];done)),H',⟨by first|omega|exact Nat.le_refl _⟩,⟨by repeat (first|(with_reducible first|exact HB.out|apply af|apply ae|apply ag)|exact HB.out)⟩⟩
 case rest =>
  clear HC3
  try clear p2
  try clear c3
  try clear c4
  try clear c4b0
  try clear c4b1
  obtain ⟨kq,x13_2,rfl,HA,HJ2,HB⟩:=hcut
  cases kq with
  | zero=>exact absurd HA.out (by simp [bB.j0])
  | succ kj2 =>
   have H:=HA.out
   clear HA
   simp only [bB.j0] at H
   by_cases c5:x13_2=true
   ·subst c5
    have H1:(some ((⟨#[]⟩:ByteArray),false))=some (r1,r2):=by rw [if_pos rfl] at H;exact H
    clear H
    have H:=H1
    clear H1
    simp only [Option.some.injEq,Prod.mk.injEq] at H
    obtain ⟨rfl,rfl⟩:=H
    go_wp2
    go_ret2
    exact ⟨by first|rfl|(simp [aD,aG] <;> rfl)|(simp [*,aD,aG] <;> rfl),by repeat (first|(with_reducible first|exact HB.out|apply af|apply ae|apply ag)|exact HB.out)⟩
   ·replace c5:=Bool.eq_false_iff.mpr c5
    subst c5
    have H1:((cB.f a0).bind fun t183=>(if t183=1 then ((fK.f a1).bind fun t184=>(if t184.toList=([]:List UInt8) then (some ((⟨#[]⟩:ByteArray),false)) else (some (t184,true)))) else (if t183=2 then ((dV.f a1).bind fun t185=>(if t185=true then (if a1.toList=([]:List UInt8) then (some ((⟨#[]⟩:ByteArray),false)) else (some (a1,true))) else (some ((⟨#[]⟩:ByteArray),false)))) else (if t183=3 then ((dB.f kj2 a1).bind fun bt186=>(if bt186.2=true then (if bt186.1.toList=([]:List UInt8) then (some ((⟨#[]⟩:ByteArray),false)) else (some (bt186.1,true))) else (some ((⟨#[]⟩:ByteArray),false)))) else (if t183=4 then (if a1.toList=([]:List UInt8) then (some ((⟨#[]⟩:ByteArray),false)) else (some (a1,true))) else (some ((⟨#[]⟩:ByteArray),false)))))))=some (r1,r2):=by rw [if_neg (show ¬ (false=true) by decide)] at H;exact H
    clear H
    have H:=H1
    clear H1
    replace H:=Option.bind_eq_some_iff.mp H
    obtain ⟨t183,A60,H⟩:=H
    replace H:(if t183=1 then ((fK.f a1).bind fun t184=>(if t184.toList=([]:List UInt8) then (some ((⟨#[]⟩:ByteArray),false)) else (some (t184,true)))) else (if t183=2 then ((dV.f a1).bind fun t185=>(if t185=true then (if a1.toList=([]:List UInt8) then (some ((⟨#[]⟩:ByteArray),false)) else (some (a1,true))) else (some ((⟨#[]⟩:ByteArray),false)))) else (if t183=3 then ((dB.f kj2 a1).bind fun bt186=>(if bt186.2=true then (if bt186.1.toList=([]:List UInt8) then (some ((⟨#[]⟩:ByteArray),false)) else (some (bt186.1,true))) else (some ((⟨#[]⟩:ByteArray),false)))) else (if t183=4 then (if a1.toList=([]:List UInt8) then (some ((⟨#[]⟩:ByteArray),false)) else (some (a1,true))) else (some ((⟨#[]⟩:ByteArray),false))))))=some (r1,r2):=H
    have A6:=aa.mk A60
    clear A60
    by_cases c7:t183=1
    ·rw [if_pos c7] at H
     have c7b0:(t183 == 1)=true:=beq_iff_eq.mpr c7
     have c7b1:(t183 != 1)=false:=bne_eq_false_iff_eq.mpr c7
     clear c7
     replace H:=Option.bind_eq_some_iff.mp H
     obtain ⟨t184,A80,H⟩:=H
     replace H:(if t184.toList=([]:List UInt8) then (some ((⟨#[]⟩:ByteArray),false)) else (some (t184,true)))=some (r1,r2):=H
     have A8:=aa.mk A80
     clear A80
     by_cases c9:t184.toList=([]:List UInt8)
     ·rw [if_pos c9] at H
      have c9b0:(t184.toList == ([]:List UInt8))=true:=beq_iff_eq.mpr c9
      have c9b1:(t184.toList != ([]:List UInt8))=false:=bne_eq_false_iff_eq.mpr c9
      clear c9
      simp only [Option.some.injEq,Prod.mk.injEq] at H
      obtain ⟨rfl,rfl⟩:=H
      go_wp2_with (first|((with_reducible refine aH (f:=59) rfl ?_);refine bq (some 15) rfl rfl Tryz.func59 (by kernel_rfl) rfl #[.string a0] rfl (by (try simp only [List.map_toArray,List.map_cons,List.map_nil]);first|done|rfl|(simp only [List.length_drop,List.length_take];rfl)) ?_;(with_reducible refine (cB.calls a0 t183 _ A6.out).mono ?_);rintro e w10 ⟨rfl,hb⟩;refine ⟨_,rfl,?_⟩;have n0_:=aa.mk (aA (by repeat (first|(with_reducible first|exact HB.out|apply af|apply ae|apply ag)|exact HB.out)) hb);clear HB;have HB:=n0_;clear n0_;(try clear hb);(try clear hb2);(try clear hk);(try clear hi))|((with_reducible refine aH (f:=64) rfl ?_);refine bq (some 19) rfl rfl Tryz.func64 (by kernel_rfl) rfl #[.string a1] rfl (by (try simp only [List.map_toArray,List.map_cons,List.map_nil]);first|done|rfl|(simp only [List.length_drop,List.length_take];rfl)) ?_;(with_reducible refine (fK.calls a1 t184 _ A8.out).mono ?_);rintro e w11 ⟨rfl,hb⟩;refine ⟨_,rfl,?_⟩;have n0_:=aa.mk (aA (by repeat (first|(with_reducible first|exact HB.out|apply af|apply ae|apply ag)|exact HB.out)) hb);clear HB;have HB:=n0_;clear n0_;(try clear hb);(try clear hb2);(try clear hk);(try clear hi)))
      go_ret2
      exact ⟨by first|rfl|(simp [aD,aG] <;> rfl)|(simp [*,aD,aG] <;> rfl),by repeat (first|(with_reducible first|exact HB.out|apply af|apply ae|apply ag)|exact HB.out)⟩
     ·rw [if_neg c9] at H
      have c9b0:(t184.toList == ([]:List UInt8))=false:=beq_eq_false_iff_ne.mpr c9
      have c9b1:(t184.toList != ([]:List UInt8))=true:=bne_iff_ne.mpr c9
      simp only [Option.some.injEq,Prod.mk.injEq] at H
      obtain ⟨rfl,rfl⟩:=H
      go_wp2_with (first|((with_reducible refine aH (f:=59) rfl ?_);refine bq (some 15) rfl rfl Tryz.func59 (by kernel_rfl) rfl #[.string a0] rfl (by (try simp only [List.map_toArray,List.map_cons,List.map_nil]);first|done|rfl|(simp only [List.length_drop,List.length_take];rfl)) ?_;(with_reducible refine (cB.calls a0 t183 _ A6.out).mono ?_);rintro e w12 ⟨rfl,hb⟩;refine ⟨_,rfl,?_⟩;have n0_:=aa.mk (aA (by repeat (first|(with_reducible first|exact HB.out|apply af|apply ae|apply ag)|exact HB.out)) hb);clear HB;have HB:=n0_;clear n0_;(try clear hb);(try clear hb2);(try clear hk);(try clear hi))|((with_reducible refine aH (f:=64) rfl ?_);refine bq (some 19) rfl rfl Tryz.func64 (by kernel_rfl) rfl #[.string a1] rfl (by (try simp only [List.map_toArray,List.map_cons,List.map_nil]);first|done|rfl|(simp only [List.length_drop,List.length_take];rfl)) ?_;(with_reducible refine (fK.calls a1 t184 _ A8.out).mono ?_);rintro e w13 ⟨rfl,hb⟩;refine ⟨_,rfl,?_⟩;have n0_:=aa.mk (aA (by repeat (first|(with_reducible first|exact HB.out|apply af|apply ae|apply ag)|exact HB.out)) hb);clear HB;have HB:=n0_;clear n0_;(try clear hb);(try clear hb2);(try clear hk);(try clear hi)))
      go_ret2
      exact ⟨by first|rfl|(simp [aD,aG] <;> rfl)|(simp [*,aD,aG] <;> rfl),by repeat (first|(with_reducible first|exact HB.out|apply af|apply ae|apply ag)|exact HB.out)⟩
    ·rw [if_neg c7] at H
     have c7b0:(t183 == 1)=false:=beq_eq_false_iff_ne.mpr c7
     have c7b1:(t183 != 1)=true:=bne_iff_ne.mpr c7
     by_cases c14:t183=2
     ·rw [if_pos c14] at H
      have c14b0:(t183 == 2)=true:=beq_iff_eq.mpr c14
      have c14b1:(t183 != 2)=false:=bne_eq_false_iff_eq.mpr c14
      clear c14
      replace H:=Option.bind_eq_some_iff.mp H
      obtain ⟨t185,A150,H⟩:=H
      replace H:(if t185=true then (if a1.toList=([]:List UInt8) then (some ((⟨#[]⟩:ByteArray),false)) else (some (a1,true))) else (some ((⟨#[]⟩:ByteArray),false)))=some (r1,r2):=H
      have A15:=aa.mk A150
      clear A150
      by_cases c16:t185=true
      ·subst c16
       have H1:(if a1.toList=([]:List UInt8) then (some ((⟨#[]⟩:ByteArray),false)) else (some (a1,true)))=some (r1,r2):=by rw [if_pos rfl] at H;exact H
       clear H
       have H:=H1
       clear H1
       by_cases c17:a1.toList=([]:List UInt8)
       ·rw [if_pos c17] at H
        have c17b0:(a1.toList == ([]:List UInt8))=true:=beq_iff_eq.mpr c17
        have c17b1:(a1.toList != ([]:List UInt8))=false:=bne_eq_false_iff_eq.mpr c17
        clear c17
        simp only [Option.some.injEq,Prod.mk.injEq] at H
        obtain ⟨rfl,rfl⟩:=H
        go_wp2_with (first|((with_reducible refine aH (f:=59) rfl ?_);refine bq (some 15) rfl rfl Tryz.func59 (by kernel_rfl) rfl #[.string a0] rfl (by (try simp only [List.map_toArray,List.map_cons,List.map_nil]);first|done|rfl|(simp only [List.length_drop,List.length_take];rfl)) ?_;(with_reducible refine (cB.calls a0 t183 _ A6.out).mono ?_);rintro e w18 ⟨rfl,hb⟩;refine ⟨_,rfl,?_⟩;have n0_:=aa.mk (aA (by repeat (first|(with_reducible first|exact HB.out|apply af|apply ae|apply ag)|exact HB.out)) hb);clear HB;have HB:=n0_;clear n0_;(try clear hb);(try clear hb2);(try clear hk);(try clear hi))|((with_reducible refine aH (f:=65) rfl ?_);refine bq (some 23) rfl rfl Tryz.func65 (by kernel_rfl) rfl #[.string a1] rfl (by (try simp only [List.map_toArray,List.map_cons,List.map_nil]);first|done|rfl|(simp only [List.length_drop,List.length_take];rfl)) ?_;(with_reducible refine (dV.calls a1 true _ ?side1 A15.out).mono ?_);(case side1=>first|exact HG.out|exact Gl.drewN HG.out _|exact Gl.below HG.out (by repeat (first|(with_reducible first|exact HB.out|apply af|apply ae|apply ag)|exact HB.out)));rintro e w19 ⟨rfl,hb⟩;refine ⟨_,rfl,?_⟩;have n0_:=aa.mk (aA (by repeat (first|(with_reducible first|exact HB.out|apply af|apply ae|apply ag)|exact HB.out)) hb);clear HB;have HB:=n0_;clear n0_;(try clear hb);(try clear hb2);(try clear hk);(try clear hi)))
        go_ret2
        exact ⟨by first|rfl|(simp [aD,aG] <;> rfl)|(simp [*,aD,aG] <;> rfl),by repeat (first|(with_reducible first|exact HB.out|apply af|apply ae|apply ag)|exact HB.out)⟩
       ·rw [if_neg c17] at H
        have c17b0:(a1.toList == ([]:List UInt8))=false:=beq_eq_false_iff_ne.mpr c17
        have c17b1:(a1.toList != ([]:List UInt8))=true:=bne_iff_ne.mpr c17
        simp only [Option.some.injEq,Prod.mk.injEq] at H
        obtain ⟨rfl,rfl⟩:=H
        go_wp2_with (first|((with_reducible refine aH (f:=59) rfl ?_);refine bq (some 15) rfl rfl Tryz.func59 (by kernel_rfl) rfl #[.string a0] rfl (by (try simp only [List.map_toArray,List.map_cons,List.map_nil]);first|done|rfl|(simp only [List.length_drop,List.length_take];rfl)) ?_;(with_reducible refine (cB.calls a0 t183 _ A6.out).mono ?_);rintro e w20 ⟨rfl,hb⟩;refine ⟨_,rfl,?_⟩;have n0_:=aa.mk (aA (by repeat (first|(with_reducible first|exact HB.out|apply af|apply ae|apply ag)|exact HB.out)) hb);clear HB;have HB:=n0_;clear n0_;(try clear hb);(try clear hb2);(try clear hk);(try clear hi))|((with_reducible refine aH (f:=65) rfl ?_);refine bq (some 23) rfl rfl Tryz.func65 (by kernel_rfl) rfl #[.string a1] rfl (by (try simp only [List.map_toArray,List.map_cons,List.map_nil]);first|done|rfl|(simp only [List.length_drop,List.length_take];rfl)) ?_;(with_reducible refine (dV.calls a1 true _ ?side1 A15.out).mono ?_);(case side1=>first|exact HG.out|exact Gl.drewN HG.out _|exact Gl.below HG.out (by repeat (first|(with_reducible first|exact HB.out|apply af|apply ae|apply ag)|exact HB.out)));rintro e w21 ⟨rfl,hb⟩;refine ⟨_,rfl,?_⟩;have n0_:=aa.mk (aA (by repeat (first|(with_reducible first|exact HB.out|apply af|apply ae|apply ag)|exact HB.out)) hb);clear HB;have HB:=n0_;clear n0_;(try clear hb);(try clear hb2);(try clear hk);(try clear hi)))
        go_ret2
        exact ⟨by first|rfl|(simp [aD,aG] <;> rfl)|(simp [*,aD,aG] <;> rfl),by repeat (first|(with_reducible first|exact HB.out|apply af|apply ae|apply ag)|exact HB.out)⟩
      ·replace c16:=Bool.eq_false_iff.mpr c16
       subst c16
       have H1:(some ((⟨#[]⟩:ByteArray),false))=some (r1,r2):=by rw [if_neg (show ¬ (false=true) by decide)] at H;exact H
       clear H
       have H:=H1
       clear H1
       simp only [Option.some.injEq,Prod.mk.injEq] at H
       obtain ⟨rfl,rfl⟩:=H
       go_wp2_with (first|((with_reducible refine aH (f:=59) rfl ?_);refine bq (some 15) rfl rfl Tryz.func59 (by kernel_rfl) rfl #[.string a0] rfl (by (try simp only [List.map_toArray,List.map_cons,List.map_nil]);first|done|rfl|(simp only [List.length_drop,List.length_take];rfl)) ?_;(with_reducible refine (cB.calls a0 t183 _ A6.out).mono ?_);rintro e w22 ⟨rfl,hb⟩;refine ⟨_,rfl,?_⟩;have n0_:=aa.mk (aA (by repeat (first|(with_reducible first|exact HB.out|apply af|apply ae|apply ag)|exact HB.out)) hb);clear HB;have HB:=n0_;clear n0_;(try clear hb);(try clear hb2);(try clear hk);(try clear hi))|((with_reducible refine aH (f:=65) rfl ?_);refine bq (some 23) rfl rfl Tryz.func65 (by kernel_rfl) rfl #[.string a1] rfl (by (try simp only [List.map_toArray,List.map_cons,List.map_nil]);first|done|rfl|(simp only [List.length_drop,List.length_take];rfl)) ?_;(with_reducible refine (dV.calls a1 false _ ?side1 A15.out).mono ?_);(case side1=>first|exact HG.out|exact Gl.drewN HG.out _|exact Gl.below HG.out (by repeat (first|(with_reducible first|exact HB.out|apply af|apply ae|apply ag)|exact HB.out)));rintro e w23 ⟨rfl,hb⟩;refine ⟨_,rfl,?_⟩;have n0_:=aa.mk (aA (by repeat (first|(with_reducible first|exact HB.out|apply af|apply ae|apply ag)|exact HB.out)) hb);clear HB;have HB:=n0_;clear n0_;(try clear hb);(try clear hb2);(try clear hk);(try clear hi)))
       go_ret2
       exact ⟨by first|rfl|(simp [aD,aG] <;> rfl)|(simp [*,aD,aG] <;> rfl),by repeat (first|(with_reducible first|exact HB.out|apply af|apply ae|apply ag)|exact HB.out)⟩
     ·rw [if_neg c14] at H
      have c14b0:(t183 == 2)=false:=beq_eq_false_iff_ne.mpr c14
      have c14b1:(t183 != 2)=true:=bne_iff_ne.mpr c14
      by_cases c24:t183=3
      ·rw [if_pos c24] at H
       have c24b0:(t183 == 3)=true:=beq_iff_eq.mpr c24
       have c24b1:(t183 != 3)=false:=bne_eq_false_iff_eq.mpr c24
       clear c24
       replace H:=Option.bind_eq_some_iff.mp H
       obtain ⟨⟨t186,t187⟩,A250,H⟩:=H
       replace H:(if t187=true then (if t186.toList=([]:List UInt8) then (some ((⟨#[]⟩:ByteArray),false)) else (some (t186,true))) else (some ((⟨#[]⟩:ByteArray),false)))=some (r1,r2):=H
       have A25:=aa.mk A250
       clear A250
       by_cases c26:t187=true
       ·subst c26
        have H1:(if t186.toList=([]:List UInt8) then (some ((⟨#[]⟩:ByteArray),false)) else (some (t186,true)))=some (r1,r2):=by rw [if_pos rfl] at H;exact H
        clear H
        have H:=H1
        clear H1
        by_cases c27:t186.toList=([]:List UInt8)
        ·rw [if_pos c27] at H
         have c27b0:(t186.toList == ([]:List UInt8))=true:=beq_iff_eq.mpr c27
         have c27b1:(t186.toList != ([]:List UInt8))=false:=bne_eq_false_iff_eq.mpr c27
         clear c27
         simp only [Option.some.injEq,Prod.mk.injEq] at H
         obtain ⟨rfl,rfl⟩:=H
         go_wp2_with (first|((with_reducible refine aH (f:=59) rfl ?_);refine bq (some 15) rfl rfl Tryz.func59 (by kernel_rfl) rfl #[.string a0] rfl (by (try simp only [List.map_toArray,List.map_cons,List.map_nil]);first|done|rfl|(simp only [List.length_drop,List.length_take];rfl)) ?_;(with_reducible refine (cB.calls a0 t183 _ A6.out).mono ?_);rintro e w28 ⟨rfl,hb⟩;refine ⟨_,rfl,?_⟩;have n0_:=aa.mk (aA (by repeat (first|(with_reducible first|exact HB.out|apply af|apply ae|apply ag)|exact HB.out)) hb);clear HB;have HB:=n0_;clear n0_;(try clear hb);(try clear hb2);(try clear hk);(try clear hi))|((with_reducible refine aH (f:=66) rfl ?_);refine bq (some 28) rfl rfl Tryz.func66 (by kernel_rfl) rfl #[.string a1] rfl (by (try simp only [List.map_toArray,List.map_cons,List.map_nil]);first|done|rfl|(simp only [List.length_drop,List.length_take];rfl)) ?_;(with_reducible refine (dB.calls kj2 a1 t186 true _ ?side1 A25.out).mono ?_);(case side1=>first|exact HG.out|exact Gl.drewN HG.out _|exact Gl.below HG.out (by repeat (first|(with_reducible first|exact HB.out|apply af|apply ae|apply ag)|exact HB.out)));rintro e w29 ⟨rfl,hb⟩;refine ⟨_,rfl,?_⟩;have n0_:=aa.mk (aA (by repeat (first|(with_reducible first|exact HB.out|apply af|apply ae|apply ag)|exact HB.out)) hb);clear HB;have HB:=n0_;clear n0_;(try clear hb);(try clear hb2);(try clear hk);(try clear hi)))
         go_ret2
         exact ⟨by first|rfl|(simp [aD,aG] <;> rfl)|(simp [*,aD,aG] <;> rfl),by repeat (first|(with_reducible first|exact HB.out|apply af|apply ae|apply ag)|exact HB.out)⟩
        ·rw [if_neg c27] at H
         have c27b0:(t186.toList == ([]:List UInt8))=false:=beq_eq_false_iff_ne.mpr c27
         have c27b1:(t186.toList != ([]:List UInt8))=true:=bne_iff_ne.mpr c27
         simp only [Option.some.injEq,Prod.mk.injEq] at H
         obtain ⟨rfl,rfl⟩:=H
         go_wp2_with (first|((with_reducible refine aH (f:=59) rfl ?_);refine bq (some 15) rfl rfl Tryz.func59 (by kernel_rfl) rfl #[.string a0] rfl (by (try simp only [List.map_toArray,List.map_cons,List.map_nil]);first|done|rfl|(simp only [List.length_drop,List.length_take];rfl)) ?_;(with_reducible refine (cB.calls a0 t183 _ A6.out).mono ?_);rintro e w30 ⟨rfl,hb⟩;refine ⟨_,rfl,?_⟩;have n0_:=aa.mk (aA (by repeat (first|(with_reducible first|exact HB.out|apply af|apply ae|apply ag)|exact HB.out)) hb);clear HB;have HB:=n0_;clear n0_;(try clear hb);(try clear hb2);(try clear hk);(try clear hi))|((with_reducible refine aH (f:=66) rfl ?_);refine bq (some 28) rfl rfl Tryz.func66 (by kernel_rfl) rfl #[.string a1] rfl (by (try simp only [List.map_toArray,List.map_cons,List.map_nil]);first|done|rfl|(simp only [List.length_drop,List.length_take];rfl)) ?_;(with_reducible refine (dB.calls kj2 a1 t186 true _ ?side1 A25.out).mono ?_);(case side1=>first|exact HG.out|exact Gl.drewN HG.out _|exact Gl.below HG.out (by repeat (first|(with_reducible first|exact HB.out|apply af|apply ae|apply ag)|exact HB.out)));rintro e w31 ⟨rfl,hb⟩;refine ⟨_,rfl,?_⟩;have n0_:=aa.mk (aA (by repeat (first|(with_reducible first|exact HB.out|apply af|apply ae|apply ag)|exact HB.out)) hb);clear HB;have HB:=n0_;clear n0_;(try clear hb);(try clear hb2);(try clear hk);(try clear hi)))
         go_ret2
         exact ⟨by first|rfl|(simp [aD,aG] <;> rfl)|(simp [*,aD,aG] <;> rfl),by repeat (first|(with_reducible first|exact HB.out|apply af|apply ae|apply ag)|exact HB.out)⟩
       ·replace c26:=Bool.eq_false_iff.mpr c26
        subst c26
        have H1:(some ((⟨#[]⟩:ByteArray),false))=some (r1,r2):=by rw [if_neg (show ¬ (false=true) by decide)] at H;exact H
        clear H
        have H:=H1
        clear H1
        simp only [Option.some.injEq,Prod.mk.injEq] at H
        obtain ⟨rfl,rfl⟩:=H
        go_wp2_with (first|((with_reducible refine aH (f:=59) rfl ?_);refine bq (some 15) rfl rfl Tryz.func59 (by kernel_rfl) rfl #[.string a0] rfl (by (try simp only [List.map_toArray,List.map_cons,List.map_nil]);first|done|rfl|(simp only [List.length_drop,List.length_take];rfl)) ?_;(with_reducible refine (cB.calls a0 t183 _ A6.out).mono ?_);rintro e w32 ⟨rfl,hb⟩;refine ⟨_,rfl,?_⟩;have n0_:=aa.mk (aA (by repeat (first|(with_reducible first|exact HB.out|apply af|apply ae|apply ag)|exact HB.out)) hb);clear HB;have HB:=n0_;clear n0_;(try clear hb);(try clear hb2);(try clear hk);(try clear hi))|((with_reducible refine aH (f:=66) rfl ?_);refine bq (some 28) rfl rfl Tryz.func66 (by kernel_rfl) rfl #[.string a1] rfl (by (try simp only [List.map_toArray,List.map_cons,List.map_nil]);first|done|rfl|(simp only [List.length_drop,List.length_take];rfl)) ?_;(with_reducible refine (dB.calls kj2 a1 t186 false _ ?side1 A25.out).mono ?_);(case side1=>first|exact HG.out|exact Gl.drewN HG.out _|exact Gl.below HG.out (by repeat (first|(with_reducible first|exact HB.out|apply af|apply ae|apply ag)|exact HB.out)));rintro e w33 ⟨rfl,hb⟩;refine ⟨_,rfl,?_⟩;have n0_:=aa.mk (aA (by repeat (first|(with_reducible first|exact HB.out|apply af|apply ae|apply ag)|exact HB.out)) hb);clear HB;have HB:=n0_;clear n0_;(try clear hb);(try clear hb2);(try clear hk);(try clear hi)))
        go_ret2
        exact ⟨by first|rfl|(simp [aD,aG] <;> rfl)|(simp [*,aD,aG] <;> rfl),by repeat (first|(with_reducible first|exact HB.out|apply af|apply ae|apply ag)|exact HB.out)⟩
      ·rw [if_neg c24] at H
       have c24b0:(t183 == 3)=false:=beq_eq_false_iff_ne.mpr c24
       have c24b1:(t183 != 3)=true:=bne_iff_ne.mpr c24
       by_cases c34:t183=4
       ·rw [if_pos c34] at H
        have c34b0:(t183 == 4)=true:=beq_iff_eq.mpr c34
        have c34b1:(t183 != 4)=false:=bne_eq_false_iff_eq.mpr c34
        clear c34
        by_cases c35:a1.toList=([]:List UInt8)
        ·rw [if_pos c35] at H
         have c35b0:(a1.toList == ([]:List UInt8))=true:=beq_iff_eq.mpr c35
         have c35b1:(a1.toList != ([]:List UInt8))=false:=bne_eq_false_iff_eq.mpr c35
         clear c35
         simp only [Option.some.injEq,Prod.mk.injEq] at H
         obtain ⟨rfl,rfl⟩:=H
         go_wp2_with (first|((with_reducible refine aH (f:=59) rfl ?_);refine bq (some 15) rfl rfl Tryz.func59 (by kernel_rfl) rfl #[.string a0] rfl (by (try simp only [List.map_toArray,List.map_cons,List.map_nil]);first|done|rfl|(simp only [List.length_drop,List.length_take];rfl)) ?_;(with_reducible refine (cB.calls a0 t183 _ A6.out).mono ?_);rintro e w36 ⟨rfl,hb⟩;refine ⟨_,rfl,?_⟩;have n0_:=aa.mk (aA (by repeat (first|(with_reducible first|exact HB.out|apply af|apply ae|apply ag)|exact HB.out)) hb);clear HB;have HB:=n0_;clear n0_;(try clear hb);(try clear hb2);(try clear hk);(try clear hi)))
         go_ret2
         exact ⟨by first|rfl|(simp [aD,aG] <;> rfl)|(simp [*,aD,aG] <;> rfl),by repeat (first|(with_reducible first|exact HB.out|apply af|apply ae|apply ag)|exact HB.out)⟩
        ·rw [if_neg c35] at H
         have c35b0:(a1.toList == ([]:List UInt8))=false:=beq_eq_false_iff_ne.mpr c35
         have c35b1:(a1.toList != ([]:List UInt8))=true:=bne_iff_ne.mpr c35
         simp only [Option.some.injEq,Prod.mk.injEq] at H
         obtain ⟨rfl,rfl⟩:=H
         go_wp2_with (first|((with_reducible refine aH (f:=59) rfl ?_);refine bq (some 15) rfl rfl Tryz.func59 (by kernel_rfl) rfl #[.string a0] rfl (by (try simp only [List.map_toArray,List.map_cons,List.map_nil]);first|done|rfl|(simp only [List.length_drop,List.length_take];rfl)) ?_;(with_reducible refine (cB.calls a0 t183 _ A6.out).mono ?_);rintro e w37 ⟨rfl,hb⟩;refine ⟨_,rfl,?_⟩;have n0_:=aa.mk (aA (by repeat (first|(with_reducible first|exact HB.out|apply af|apply ae|apply ag)|exact HB.out)) hb);clear HB;have HB:=n0_;clear n0_;(try clear hb);(try clear hb2);(try clear hk);(try clear hi)))
         go_ret2
         exact ⟨by first|rfl|(simp [aD,aG] <;> rfl)|(simp [*,aD,aG] <;> rfl),by repeat (first|(with_reducible first|exact HB.out|apply af|apply ae|apply ag)|exact HB.out)⟩
       ·rw [if_neg c34] at H
        have c34b0:(t183 == 4)=false:=beq_eq_false_iff_ne.mpr c34
        have c34b1:(t183 != 4)=true:=bne_iff_ne.mpr c34
        simp only [Option.some.injEq,Prod.mk.injEq] at H
        obtain ⟨rfl,rfl⟩:=H
        go_wp2_with (first|((with_reducible refine aH (f:=59) rfl ?_);refine bq (some 15) rfl rfl Tryz.func59 (by kernel_rfl) rfl #[.string a0] rfl (by (try simp only [List.map_toArray,List.map_cons,List.map_nil]);first|done|rfl|(simp only [List.length_drop,List.length_take];rfl)) ?_;(with_reducible refine (cB.calls a0 t183 _ A6.out).mono ?_);rintro e w38 ⟨rfl,hb⟩;refine ⟨_,rfl,?_⟩;have n0_:=aa.mk (aA (by repeat (first|(with_reducible first|exact HB.out|apply af|apply ae|apply ag)|exact HB.out)) hb);clear HB;have HB:=n0_;clear n0_;(try clear hb);(try clear hb2);(try clear hk);(try clear hi)))
        go_ret2
        exact ⟨by first|rfl|(simp [aD,aG] <;> rfl)|(simp [*,aD,aG] <;> rfl),by repeat (first|(with_reducible first|exact HB.out|apply af|apply ae|apply ag)|exact HB.out)⟩
end Go.Proofs.YthfpaoacjpjnfaaGreatDoor.P

namespace Go.Proofs.YthfpaoacjpjnfaaGreatDoor.P
open Go.RowKit Go.Proofs.YthfpaoacjpjnfaaGreatDoorW.PrintWords Go.Proofs.YthfpaoacjpjnfaaGreatDoorW.PrintLast Go.Proofs.YthfpaoacjpjnfaaGreatDoorW.PrintMore
theorem qg.any (a0:ByteArray) (w:World) (hs:a0.size≤9223372036854775807) :
    Calls Tryz.prog 57 #[.string a0] w fun e w'=>e=.returned (.string (gm a0))∧Below w.heap.size w w':=by
  have hcv:=fun W=>Lib.run_convert_string_bytes (P:=Tryz.prog) W 9 34 5 a0 (u:=.string) Tryz.underlying9 Tryz.underlying34 Tryz.underlying5
  go_enter Tryz.func57,Tryz.ntmps57
  go_wp2
  go_loopw [10] (fun i wr=>∃ k:Nat,k≤a0.size∧i=.int .i64 k∧aa (Below w.heap.size w wr)∧aa (iR wr w.heap.size a0.size (iW a0 k))) (fun i _=>a0.size - (intOf i).toNat)
  case atStart=>exact ⟨0,Nat.zero_le _,rfl,⟨Lib.bytesWorld_below _ _ _⟩,⟨by rw [jW];exact jm w a0⟩⟩
  case round =>
    obtain ⟨k,hk,rfl,HB,HR⟩:=hrel
    by_cases hlt:k < a0.size
    · have hc:=HR.out.cell k hlt
      have hz:=HR.out.free k hlt
      rw [j6] at hc
      obtain ⟨c,hcc⟩:∃ c:Int,((a0.data.toList.getD k 0).toNat:Int)=c:=⟨_,rfl⟩
      rw [hcc] at hc
      have hcr:0≤c∧c≤255:=by have:=(a0.data.toList.getD k 0).toNat_lt;omega
      have hc0:0≤c:=hcr.1
      have hc1:c≤255:=hcr.2
      clear hcr
      have HC:=Lib.hid hcc
      clear hcc
      by_cases h1:65≤c
      · by_cases h2:c≤90
        · have HL:=Lib.hid (qY h1 h2)
          go_wp2
          refine ⟨⟨k+1,by omega,by go_num,⟨?_⟩,⟨?_⟩⟩,by simp [intOf];omega⟩
          · exact (HB.out).setCell (Nat.le_refl _) _
          · have:=ll HR.out hlt HC.out
            rw [HL.out] at this
            first
            | exact this
            | (rw [show c+97 - 65=c+32 from by omega];exact this)
            | (rw [show ((c+97) - 65) % 256=c+32 from by omega];exact this)
            | (rw [show ((c+97) % 256 - 65) % 256=c+32 from by omega];exact this)
        · have HL:=Lib.hid (jR (c:=c) (by omega))
          have d2:decide (c≤90)=false:=by simpa using h2
          go_wp2
          refine ⟨⟨k+1,by omega,by go_num,HB,⟨iF HR.out HC.out HL.out⟩⟩,by simp [intOf];omega⟩
      · have HL:=Lib.hid (jR (c:=c) (by omega))
        have d1:decide (65≤c)=false:=by simpa using h1
        go_wp2
        refine ⟨⟨k+1,by omega,by go_num,HB,⟨iF HR.out HC.out HL.out⟩⟩,by simp [intOf];omega⟩
    · have hge:¬ (k:Int) < (a0.size:Int):=by omega
      have hst:=fun cap=>jA (P:=Tryz.prog) HR.out cap 34 5 9 Tryz.underlying34 Tryz.underlying5 Tryz.underlying9
      rw [lG a0 k hlt] at hst
      go_wp2
      go_ret
      exact ⟨rfl,HB.out⟩
def ni (p:Nat→Bool):Nat→Nat→Int
  | 0,_=>-1
  | n+1,k=>if p k=true then (k:Int) else ni p n (k+1)
def dY (p:Nat→Bool) (n:Nat):Int:=ni p n 0
theorem kS (p:Nat→Bool):∀ (m r k:Nat),(∀ j,k≤j→j < k+m→p j=false)→ni p (m+r) k=ni p r (k+m)
  | 0,r,k,_=>by rw [Nat.zero_add,Nat.add_zero]
  | m+1,r,k,h=>by
    rw [show m+1+r=(m+r)+1 by omega,ni,if_neg (by rw [h k (Nat.le_refl _) (by omega)];exact Bool.false_ne_true),kS p m r (k+1) (fun j h1 h2=>h j (by omega) (by omega))]
    rw [show k+1+m=k+(m+1) by omega]
theorem fT (p:Nat→Bool) (n k:Nat) (hk:k < n) (hp:p k=true) (h:∀ j,j < k→p j=false):dY p n=(k:Int):=by
  unfold dY
  obtain ⟨r,rfl⟩:∃ r,n=k+(r+1):=⟨n - k - 1,by omega⟩
  rw [kS p k (r+1) 0 (fun j _ h2=>h j (by omega)),Nat.zero_add,ni,if_pos hp]
theorem fq (p:Nat→Bool) (n:Nat) (h:∀ j,j < n→p j=false):dY p n=-1:=by
  unfold dY
  have:=kS p n 0 0 (fun j _ h2=>h j (by omega))
  rw [Nat.add_zero] at this
  rw [this]
  rfl
theorem jS (p:Nat→Bool) (n:Nat):(∃ k,k < n∧p k=true∧(∀ j,j < k→p j=false)∧dY p n=(k:Int))∨((∀ j,j < n→p j=false)∧dY p n=-1):=by
  by_cases h:∃ k,k < n∧p k=true
  · have:∀ m:Nat,(∃ k,k < m∧p k=true)→∃ k,k < m∧p k=true∧∀ j,j < k→p j=false:=by
      intro m
      induction m with
      | zero=>rintro ⟨k,hk,_⟩;omega
      | succ m ih =>
        rintro ⟨k,hk,hp⟩
        by_cases h2:∃ k,k < m∧p k=true
        · obtain ⟨k2,h3,h4,h5⟩:=ih h2
          exact ⟨k2,by omega,h4,h5⟩
        · refine ⟨k,hk,hp,fun j hj=>?_⟩
          cases hq:p j with
          | false=>rfl
          | true=>exact absurd ⟨j,by omega,hq⟩ h2
    obtain ⟨k,h1,h2,h3⟩:=this n h
    exact Or.inl ⟨k,h1,h2,h3,fT p n k h1 h2 h3⟩
  · have hn:∀ j,j < n→p j=false:=fun j hj=>by
      cases hq:p j with
      | false=>rfl
      | true=>exact absurd ⟨j,hj,hq⟩ h
    exact Or.inr ⟨hn,fq p n hn⟩
def gD (p:Nat→Bool) (n:Nat):Bool:=(List.range n).any p
theorem kG (p:Nat→Bool) (n:Nat):decide (0≤dY p n)=gD p n:=by
  unfold gD
  rcases jS p n with ⟨k,h1,h2,h3,h4⟩|⟨h1,h2⟩
  · rw [h4,decide_eq_true (by omega)]
    exact (List.any_eq_true.2 ⟨k,List.mem_range.2 h1,h2⟩).symm
  · rw [h2,decide_eq_false (by omega)]
    exact (List.any_eq_false.2 fun j hj=>by rw [h1 j (List.mem_range.1 hj)];exact Bool.false_ne_true).symm
set_option maxHeartbeats 2000000 in
theorem yx (A0:Option Addr) (c0:Nat) (l0:List S45) (g:Nat) (lb:Array Value) (p:Nat→Bool) (w:World) (eg:∀ args w,(callFunc g args).run Tryz.prog w=.ok (.enter g args) w)
    (hr:Kd.C k45 w A0 l0.length l0) (hp:∀ i:Nat,i < l0.length→∀ (W:World) (A1:Option Addr) (c1:Nat),Below w.heap.size w W→(bQ l0 (i:Int)).f1.length≤c1→Kd.string.C W A1 (bQ l0 (i:Int)).f1.length (bQ l0 (i:Int)).f1→Calls Tryz.prog g (#[.agg #[.string (bQ l0 (i:Int)).f0,.slice A1 (bQ l0 (i:Int)).f1.length c1]]++lb) W fun e w'=>e=.returned (.bool (p i))∧Below w.heap.size w w') :
    Calls Tryz.prog 55 #[.slice A0 l0.length c0,.func (.func g) #[] lb] w fun e w'=>e=.returned (.int .i64 (dY p l0.length))∧Below w.heap.size w w':=by
  have hl:=hr.2.1
  obtain ⟨n,hn⟩:∃ n,l0.length=n:=⟨_,rfl⟩
  go_enter Tryz.func55,Tryz.ntmps55
  go_wp2
  rw [hn]
  go_loopg [5,8] n (fun gg _ s8 wr=>∃ kk:Nat,kk≤n∧n - kk≤gg∧s8=.int .i64 kk∧aa (Below w.heap.size w wr)∧aa (∀ j,j < kk→p j=false))
  case atStart=>exact ⟨0,Nat.zero_le _,by omega,rfl,⟨Below.refl _ w⟩,⟨fun j hj=>absurd hj (Nat.not_lt_zero _)⟩⟩
  case round =>
    obtain ⟨kk,hkk,hg,rfl,BW,AW⟩:=hrel
    by_cases hlt:kk < n
    · have hltz:(kk:Int) < (n:Int):=by omega
      obtain ⟨ad,A1,c1,rfl,x0,x1,lc1,g1⟩:=yV (Kd.bP hr BW.out) (kk:Int) (by omega) (by omega)
      rw [Int.toNat_natCast] at x0 x1
      have hcall:=hp kk (by omega) wr A1 c1 BW.out lc1 g1
      clear g1 hr
      clear hp
      cases hq:p kk with
      | true =>
        rw [hq] at hcall
        have HQ:=Lib.hid hq
        clear hq
        go_wp2_with (go_at_fn g;refine hcall.mono ?_;rintro e w' ⟨rfl,hb'⟩)
        go_ret
        refine ⟨?_,hb'⟩
        first|rw [show dY p (l0.length)=(kk:Int) from by rw [hn];exact fT p n kk hlt HQ.out AW.out]|rw [fT p n kk hlt HQ.out AW.out]
        first|rfl|simp
      | false =>
        rw [hq] at hcall
        have HQ:=Lib.hid hq
        clear hq
        go_wp2_with (go_at_fn g;refine hcall.mono ?_;rintro e w' ⟨rfl,hb'⟩)
        go_roundg (n - (kk+1))
        case measure=>omega
        case rel =>
          refine ⟨kk+1,by omega,by omega,by go_num,⟨hb'⟩,⟨fun j hj=>?_⟩⟩
          by_cases e:j=kk
          · subst e;exact HQ.out
          · exact AW.out j (by omega)
    · have hltz:¬ (kk:Int) < (n:Int):=by omega
      have:kk=n:=by omega
      subst this
      clear hp
      go_wp2
      go_ret
      refine ⟨?_,BW.out⟩
      first|rw [show dY p kk=-1 from fq p kk AW.out]|rw [show dY p (l0.length)=-1 from by rw [hn];exact fq p kk AW.out]
      first|rfl|simp
theorem rM {w:World} {b o:Nat} {s:_} {v:Value} (h:w.cell? ⟨b,o,s⟩=some v):s=none:=by
  unfold World.cell? at h
  cases s with
  | none=>rfl
  | some s=>split at h <;> simp at h
theorem vX (A:Option Addr) (c:Nat) (l:List ByteArray) (w:World) (hr:Kd.string.C w A l.length l) (hs:l.length * 16≤140737488355328) :
    Calls Tryz.prog 58 #[.slice A l.length c] w fun e w'=>∃ v0_:Value,e=.returned v0_∧Kd.R Kd.string 9 w' w.heap.size (fun _=>True) v0_ l∧Below w.heap.size w w':=by
  have hro:=Kd.jY (enc:=Value.string) (d:=ByteArray.empty) (h1:=fun _=>rfl) hr
  rcases A with _|⟨b,o,s⟩
  · have hl:l.length=0:=by
      rcases Nat.eq_zero_or_pos l.length with h|h
      · exact h
      · obtain ⟨ad,e,_⟩:=hro.2.2 h
        cases e
    obtain rfl:=List.eq_nil_of_length_eq_zero hl
    refine (Tryz.slices_Clone_string_nil _ _ w).mono ?_
    rintro e w' ⟨rfl,rfl⟩
    exact ⟨_,rfl,Kd.kN (enc:=Value.string) (h1:=fun _=>rfl) ⟨rfl,Or.inl ⟨rfl,rfl⟩⟩ (fun _ _=>trivial),Below.refl _ _⟩
  · by_cases hl:l.length=0
    · obtain rfl:=List.eq_nil_of_length_eq_zero hl
      refine (Tryz.slices_Clone_string_zero _ _ w).mono ?_
      rintro e w' ⟨v,rfl,ho,_,hb⟩
      exact ⟨v,rfl,Kd.kN (enc:=Value.string) (h1:=fun _=>rfl) ho (fun _ _=>trivial),hb⟩
    · obtain ⟨ad,e,hc⟩:=hro.2.2 (by omega)
      cases e
      have h0:=hc 0 (by omega)
      rw [Addr.add,if_pos rfl] at h0
      obtain rfl:=rM h0
      refine (Tryz.slices_Clone_string b o l.length c l w (Nat.le_refl _) hs (fun j hj=>?_)).mono ?_
      · have:=hc j hj
        rwa [show (⟨b,o,none⟩:Addr).add j=⟨b,o+j,none⟩ from by unfold Addr.add;split <;> simp_all] at this
      · rintro e w' ⟨v,rfl,ho,_,hb⟩
        rw [List.take_length] at ho
        exact ⟨v,rfl,Kd.kN (enc:=Value.string) (h1:=fun _=>rfl) ho (fun _ _=>trivial),hb⟩
theorem xg (s:ByteArray) (w W0:World) (a b:Addr) (u v:Value) (hs:s.size≤9223372036854775807) (ha:w.cell? a=some u) (hb:w.cell? b=some v) (h0:Below W0.heap.size W0 w) :
    Calls Tryz.prog 57 #[.string s] w fun e w'=>e=.returned (.string (gm s))∧w'.cell? a=some u∧w'.cell? b=some v∧Below W0.heap.size W0 w':=by
  refine (qg.any s w hs).mono ?_
  rintro e w' ⟨rfl,hb'⟩
  exact ⟨rfl,(hb'.cell (World.block_lt_of_cell? w _ ha)).trans ha,(hb'.cell (World.block_lt_of_cell? w _ hb)).trans hb,aA h0 hb'⟩
theorem bC {w W0:World} {a:Addr} {u:Value} (ha:w.cell? a=some u) {w':World} (hb:Below w.heap.size w w'):w'.cell? a=some u:=(hb.cell (World.block_lt_of_cell? w _ ha)).trans ha
set_option maxHeartbeats 2000000 in
theorem ww (B:Nat) (t typ:ByteArray) (A1:Option Addr) (n1 c1:Nat) (W:World) (hc:W.cell? ⟨B,0,none⟩=some (.string typ)) (h1:t.size≤9223372036854775807) (h2:typ.size≤9223372036854775807) :
    Calls Tryz.prog 56 (#[.agg #[.string t,.slice A1 n1 c1]]++#[.pointer (some ⟨B,0,none⟩)]) W fun e w'=>e=.returned (.bool ((gm t).toList == (gm typ).toList))∧Below W.heap.size W w':=by
  have hu1:=Tryz.underlying45
  have hlt:=World.block_lt_of_cell? W _ hc
  have hBW:B≠W.heap.size:=by intro h;rw [h] at hlt;exact Nat.lt_irrefl _ hlt
  show Calls Tryz.prog 56 #[.agg #[.string t,.slice A1 n1 c1],.pointer (some ⟨B,0,none⟩)] W _
  go_enter Tryz.func56,Tryz.ntmps56
  go_upto_region 1 with (fail)
  obtain ⟨w0,hw0⟩:∃ w0,W.alloc (.cells #[.string t,.slice A1 n1 c1] 45)=w0:=⟨_,rfl⟩
  have k0:w0.cell? ⟨W.heap.size,0,none⟩=some (.string t):=by rw [← hw0];simp [go_sem]
  have k1:w0.cell? ⟨B,0,none⟩=some (.string typ):=by rw [← hw0];exact bC (W0:=W) hc (af (Below.refl _ _) _)
  have k2:Below W.heap.size W w0:=by rw [← hw0];exact af (Below.refl _ _) _
  rw [hw0]
  clear hw0 hc hlt
  go_region_held3 (fun w'=>w'.cell? ⟨W.heap.size,0,none⟩=some (.string t)∧w'.cell? ⟨B,0,none⟩=some (.string typ)∧Below W.heap.size W w') (first|exact ⟨by assumption,by assumption,by first|assumption|exact ag (by assumption)⟩)
    (first|(go_at_call 57;refine (xg _ _ W ⟨W.heap.size,0,none⟩ ⟨B,0,none⟩ (.string t) (.string typ) (by assumption) (by assumption) (by assumption) (by first|assumption|exact ag (by assumption))).mono ?_;rintro e w' ⟨rfl,q1,q2,q3⟩))
  all_goals (go_wp2;go_ret;exact ⟨by first|rfl|(simp;done),by first|assumption|exact ag (by assumption)⟩)
def jq (l:List S45) (typ:ByteArray) (i:Nat):Bool:=(gm (bQ l (i:Int)).f0).toList == (gm typ).toList
def dF.f (a0:ByteArray) (l:List S45) (typ:ByteArray):Option (List ByteArray) :=
  if l.length≤1000000000∧(∀ i:Nat,i < l.length→(bQ l (i:Int)).f0.size≤9223372036854775807∧(bQ l (i:Int)).f1.length≤1000000000)∧typ.size≤9223372036854775807 then
    some (if dY (jq l typ) l.length < 0 then [] else (bQ l (dY (jq l typ) l.length)).f1) else none
set_option maxHeartbeats 2000000 in
set_option maxRecDepth 100000 in
theorem dF.calls (a0:ByteArray) (A1:Option Addr) (c1:Nat) (l1:List S45) (typ:ByteArray) (r:List ByteArray) (w:World) (hr:Kd.C k45 w A1 l1.length l1) (hc:l1.length≤c1) (h:dF.f a0 l1 typ=some r) :
    Calls Tryz.prog 37 #[.agg #[.string a0,.slice A1 l1.length c1],.string typ] w fun e w'=>∃ v0_:Value,e=.returned v0_∧Kd.R Kd.string 9 w' w.heap.size (fun _=>True) v0_ r∧Below w.heap.size w w':=by
  unfold dF.f at h
  by_cases hg:l1.length≤1000000000∧(∀ i:Nat,i < l1.length→(bQ l1 (i:Int)).f0.size≤9223372036854775807∧(bQ l1 (i:Int)).f1.length≤1000000000)∧typ.size≤9223372036854775807
  · rw [if_pos hg] at h
    have h:=Option.some.inj h
    obtain ⟨g1,g2,g3⟩:=hg
    have hu1:=Tryz.underlying45
    have hu2:=Tryz.underlying28
    have eg:∀ args w,(callFunc 56 args).run Tryz.prog w=.ok (.enter 56 args) w:=enters_of Tryz.func56 (by kernel_rfl) rfl
    have HR:=aa.mk hr
    have HH:=aa.mk h
    have G2:=aa.mk g2
    clear hr h g2
    have idx:∀ W:World,Below w.heap.size w W→W.cell? ⟨w.heap.size+1,0,none⟩=some (.string typ)→w.heap.size+1 < W.heap.size →
        Calls Tryz.prog 55 #[.slice A1 l1.length c1,.func (.func 56) #[] #[.pointer (some ⟨w.heap.size+1,0,none⟩)]] W fun e w'=>e=.returned (.int .i64 (dY (jq l1 typ) l1.length))∧Below W.heap.size W w':=by
      intro W hb hcell hlt
      refine yx A1 c1 l1 56 #[.pointer (some ⟨w.heap.size+1,0,none⟩)] (jq l1 typ) W eg (Kd.bP HR.out hb) (fun i hi W' A2 c2 hb' _ _=>?_)
      refine (ww (w.heap.size+1) _ typ A2 _ c2 W' ((hb'.cell (World.block_lt_of_cell? W _ hcell)).trans hcell) (G2.out i hi).1 g3).mono ?_
      rintro e w' ⟨rfl,hb2⟩
      exact ⟨rfl,aA hb' hb2⟩
    go_enter Tryz.func37,Tryz.ntmps37
    go_upto_region 1 with (fail)
    obtain ⟨w0,hw0⟩:∃ w0,(w.alloc (.cells #[.string a0,.slice A1 l1.length c1] 28)).alloc (.cells #[.string typ] 9)=w0:=⟨_,rfl⟩
    have kE:w0.cell? ⟨w.heap.size,1,none⟩=some (.slice A1 l1.length c1):=by rw [← hw0];simp [go_sem]
    have kT:w0.cell? ⟨w.heap.size+1,0,none⟩=some (.string typ):=by rw [← hw0];simp [go_sem]
    have kB:Below w.heap.size w w0:=by rw [← hw0];exact af (af (Below.refl _ _) _) _
    have klt:w.heap.size+1 < w0.heap.size:=by rw [← hw0];simp
    rw [hw0]
    clear hw0
    have IC:=aa.mk (idx w0 kB kT klt)
    clear idx
    rcases jS (jq l1 typ) l1.length with ⟨k,k1,k2,k3,k4⟩|⟨m1,m2⟩
    · rw [k4] at IC
      have hrr:(bQ l1 (k:Int)).f1=r:=by
        have:=HH.out
        rw [k4,if_neg (by omega)] at this
        exact this
      have HR2:=aa.mk hrr
      clear hrr k2 k3 k4 HH
      have hi0:(0:Int)≤(k:Int):=by omega
      have hi1:(k:Int) < (l1.length:Int):=by omega
      have hsz:=(G2.out k k1).2
      obtain ⟨y,hy⟩:∃ y,(bQ l1 (k:Int)).f1=y:=⟨_,rfl⟩
      obtain ⟨y0,hy0⟩:∃ y,(bQ l1 (k:Int)).f0=y:=⟨_,rfl⟩
      rw [hy] at hsz HR2
      obtain rfl:=HR2.out
      have HY:=Lib.hid hy
      have HY0:=Lib.hid hy0
      clear hy hy0 HR2 k1
      go_upto_region 2 with (go_at_call 55;refine IC.out.mono ?_;rintro e w1 ⟨rfl,hb⟩)
      have kE1:=bC (W0:=w) kE hb
      have kB1:=aA kB hb
      obtain ⟨ad,A2,c2,ea,x0,x1,lc,g1'⟩:=yV (Kd.bP HR.out kB1) (k:Int) hi0 hi1
      subst ea
      rw [Int.toNat_natCast,HY0.out] at x0
      rw [Int.toNat_natCast,HY.out] at x1
      rw [HY.out] at g1' lc
      have G1:=aa.mk g1'
      clear g1' kE kT kB klt IC hb g1 lc g3 eg G2
      go_wp2_with (go_at_call 58;refine (vX A2 c2 y w1 G1.out (by omega)).mono ?_;rintro e w2 ⟨v,rfl,ho,hb2⟩)
      go_ret
      exact ⟨v,rfl,Kd.dM ho (aC kB1),aA kB1 hb2⟩
    · rw [m2] at IC
      have hrr:([]:List ByteArray)=r:=by
        have:=HH.out
        rw [m2,if_pos (by decide)] at this
        exact this
      subst hrr
      clear HH m1 m2
      go_wp2_with (go_at_call 55;refine IC.out.mono ?_;rintro e w1 ⟨rfl,hb⟩)
      go_ret
      exact ⟨_,rfl,Kd.kN (enc:=Value.string) (h1:=fun _=>rfl) ⟨rfl,Or.inl ⟨rfl,rfl⟩⟩ (fun _ _=>trivial),aA kB hb⟩
  · rw [if_neg hg] at h
    cases h
set_option maxHeartbeats 2000000 in
theorem uf (A0:Option Addr) (c0:Nat) (l0:List ByteArray) (g:Nat) (lb:Array Value) (p:Nat→Bool) (w:World) (eg:∀ args w,(callFunc g args).run Tryz.prog w=.ok (.enter g args) w)
    (hr:Kd.string.C w A0 l0.length l0) (hp:∀ i:Nat,i < l0.length→∀ (W:World),Below w.heap.size w W→Calls Tryz.prog g (#[.string (bU ByteArray.empty l0 (i:Int))]++lb) W fun e w'=>e=.returned (.bool (p i))∧Below w.heap.size w w') :
    Calls Tryz.prog 81 #[.slice A0 l0.length c0,.func (.func g) #[] lb] w fun e w'=>e=.returned (.int .i64 (dY p l0.length))∧Below w.heap.size w w':=by
  have hl:=hr.2.1
  obtain ⟨n,hn⟩:∃ n,l0.length=n:=⟨_,rfl⟩
  go_enter Tryz.func81,Tryz.ntmps81
  go_wp2
  rw [hn]
  go_loopg [5,8] n (fun gg _ s8 wr=>∃ kk:Nat,kk≤n∧n - kk≤gg∧s8=.int .i64 kk∧aa (Below w.heap.size w wr)∧aa (∀ j,j < kk→p j=false))
  case atStart=>exact ⟨0,Nat.zero_le _,by omega,rfl,⟨Below.refl _ w⟩,⟨fun j hj=>absurd hj (Nat.not_lt_zero _)⟩⟩
  case round =>
    obtain ⟨kk,hkk,hg,rfl,BW,AW⟩:=hrel
    by_cases hlt:kk < n
    · have hltz:(kk:Int) < (n:Int):=by omega
      obtain ⟨ad,ea,x0⟩:=Kd.fA (Kd.bP hr BW.out) (kk:Int) (by omega) (by omega)
      subst ea
      rw [Int.toNat_natCast] at x0
      have hcall:=hp kk (by omega) wr BW.out
      clear hr
      clear hp
      cases hq:p kk with
      | true =>
        rw [hq] at hcall
        have HQ:=Lib.hid hq
        clear hq
        go_wp2_with (go_at_fn g;refine hcall.mono ?_;rintro e w' ⟨rfl,hb'⟩)
        go_ret
        refine ⟨?_,hb'⟩
        first|rw [show dY p (l0.length)=(kk:Int) from by rw [hn];exact fT p n kk hlt HQ.out AW.out]|rw [fT p n kk hlt HQ.out AW.out]
        first|rfl|simp
      | false =>
        rw [hq] at hcall
        have HQ:=Lib.hid hq
        clear hq
        go_wp2_with (go_at_fn g;refine hcall.mono ?_;rintro e w' ⟨rfl,hb'⟩)
        go_roundg (n - (kk+1))
        case measure=>omega
        case rel =>
          refine ⟨kk+1,by omega,by omega,by go_num,⟨hb'⟩,⟨fun j hj=>?_⟩⟩
          by_cases e:j=kk
          · subst e;exact HQ.out
          · exact AW.out j (by omega)
    · have hltz:¬ (kk:Int) < (n:Int):=by omega
      have:kk=n:=by omega
      subst this
      clear hp
      go_wp2
      go_ret
      refine ⟨?_,BW.out⟩
      first|rw [show dY p kk=-1 from fq p kk AW.out]|rw [show dY p (l0.length)=-1 from by rw [hn];exact fq p kk AW.out]
      first|rfl|simp
theorem iQ (A0:Option Addr) (c0:Nat) (l0:List ByteArray) (g:Nat) (lb:Array Value) (p:Nat→Bool) (w:World) (eg:∀ args w,(callFunc g args).run Tryz.prog w=.ok (.enter g args) w)
    (hr:Kd.string.C w A0 l0.length l0) (hp:∀ i:Nat,i < l0.length→∀ (W:World),Below w.heap.size w W→Calls Tryz.prog g (#[.string (bU ByteArray.empty l0 (i:Int))]++lb) W fun e w'=>e=.returned (.bool (p i))∧Below w.heap.size w w') :
    Calls Tryz.prog 61 #[.slice A0 l0.length c0,.func (.func g) #[] lb] w fun e w'=>e=.returned (.bool (gD p (l0.length)))∧Below w.heap.size w w':=by
  rw [← kG]
  have hI:=uf A0 c0 l0 g lb p w eg hr  hp
  clear hp
  go_enter Tryz.func61,Tryz.ntmps61
  go_wp2_with (go_at_call 81;refine hI.mono ?_;rintro e w' ⟨rfl,hb'⟩)
  go_ret
  exact ⟨rfl,hb'⟩
end Go.Proofs.YthfpaoacjpjnfaaGreatDoor.P
