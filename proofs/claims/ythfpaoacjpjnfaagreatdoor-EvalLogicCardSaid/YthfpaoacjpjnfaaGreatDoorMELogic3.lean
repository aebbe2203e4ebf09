/- Part 3 of 7 of the proof. See the last part. -/
import Derived.Test.YthfpaoacjpjnfaaGreatDoorMELogic2
import Derived.Deep.QuietTactic
import Derived.BigQuiet
import Derived.Deep.RegionHeld3
import Derived.Deep.CutRange
set_option linter.unusedVariables false
set_option linter.unusedSimpArgs false

namespace Go.Proofs.YthfpaoacjpjnfaaGreatDoor.P
open Go.RowKit Go.Proofs.YthfpaoacjpjnfaaGreatDoorW.PrintWords Go.Proofs.YthfpaoacjpjnfaaGreatDoorW.PrintLast Go.Proofs.YthfpaoacjpjnfaaGreatDoorW.PrintMore
theorem letter_eq (c:UInt8):cK.f (c.toNat:Int)=some (jr c):=kM (p:=fun c=>cK.f (c.toNat:Int)=some (jr c)) (by decide +kernel) c
theorem pR (s:ByteArray) (hs:s.size≤1073741824):∀ n i:Nat,s.size - i=n→i≤s.size→Ev (fun k=>bi.l0 k s (i:Int)) ((s.data.toList.drop i).all fH):=by
  intro n
  have hlen:s.data.toList.length=s.size:=(dU s).symm
  induction n with
  | zero =>
    intro i hn hi
    refine Ev.step (fun k=>by rw [bi.l0]) (Ev.ifn (by omega) ?_)
    rw [List.drop_eq_nil_of_le (by omega)]
    exact Ev.now _
  | succ n ih =>
    intro i hn hi
    have hd:=sM s.data.toList i (by omega)
    generalize hc:s.data.toList.getD i 0=c at hd
    have hb:bt s (i:Int)=(c.toNat:Int):=by rw [qK,hc]
    refine Ev.step (fun k=>by rw [bi.l0]) (Ev.ifp (by omega) (Ev.ifp (by omega) ?_))
    rw [hd,List.all_cons,hb,letter_eq,wrap_small _ (by omega) (by omega),show (i:Int)+1=((i+1:Nat):Int) by omega]
    have next:=ih (i+1) (by omega) (by omega)
    refine Ev.bs ?_
    by_cases hl:jr c=true
    · rw [qZ c hl,Bool.true_and];exact Ev.ifp hl next
    refine Ev.ifn hl ?_
    rw [o6 c (Bool.eq_false_iff.2 hl)]
    by_cases h1:(c.toNat:Int) < 48
    · refine Ev.ifp h1 ?_
      rw [decide_eq_false (show ¬ (48:Int)≤(c.toNat:Int) by omega),Bool.false_and,Bool.false_or]
      by_cases h2:(c.toNat:Int)=45
      · rw [decide_eq_true h2,Bool.true_and];exact Ev.ifp h2 next
      · rw [decide_eq_false h2,Bool.false_and];exact Ev.ifn h2 (Ev.now _)
    · refine Ev.ifn h1 ?_
      rw [decide_eq_true (show (48:Int)≤(c.toNat:Int) by omega),Bool.true_and]
      by_cases h3:(c.toNat:Int) > 57
      · refine Ev.ifp h3 ?_
        rw [decide_eq_false (show ¬ (c.toNat:Int)≤57 by omega),Bool.false_or]
        by_cases h2:(c.toNat:Int)=45
        · rw [decide_eq_true h2,Bool.true_and];exact Ev.ifp h2 next
        · rw [decide_eq_false h2,Bool.false_and];exact Ev.ifn h2 (Ev.now _)
      · rw [decide_eq_true (show (c.toNat:Int)≤57 by omega),Bool.true_or,Bool.true_and]
        exact Ev.ifn h3 next
theorem p9 (s:ByteArray) (hs:s.size≤1073741824):Ev (fun k=>bi.f k s) (gp s.data.toList):=by
  have hlen:s.data.toList.length=s.size:=(dU s).symm
  have jt:Ev (fun k=>bi.j0 k s true) false:=Ev.step (fun k=>by rw [bi.j0]) (Ev.ifp rfl (Ev.now _))
  unfold bi.f gp
  rw [toList_data]
  by_cases h0:s.data.toList=[]
  · have e:(!s.data.toList.isEmpty && decide (s.data.toList.length≤30) && jr (s.data.toList.getD 0 0) && s.data.toList.all fH)=false:=by rw [h0];rfl
    rw [e];exact Ev.ifp h0 jt
  refine Ev.ifn h0 ?_
  have hne:(!s.data.toList.isEmpty)=true:=by cases h:s.data.toList with|nil=>exact absurd h h0|cons c r=>rfl
  have hpos:0 < s.data.toList.length:=List.length_pos_iff.2 h0
  rw [hne,Bool.true_and]
  by_cases h1:(s.size:Int) > 30
  · rw [decide_eq_false (show ¬ s.data.toList.length≤30 by omega),Bool.false_and,Bool.false_and];exact Ev.ifp h1 jt
  rw [decide_eq_true (show s.data.toList.length≤30 by omega),Bool.true_and]
  refine Ev.ifn h1 (Ev.ifp (by omega) ?_)
  have hb:bt s 0=((s.data.toList.getD 0 0).toNat:Int):=qK s 0
  rw [hb,letter_eq]
  refine Ev.bs ?_
  cases jr (s.data.toList.getD 0 0) with
  | false=>rw [Bool.false_and];exact jt
  | true =>
    rw [Bool.true_and]
    exact Ev.step (fun k=>by rw [bi.j0]) (Ev.ifn (c:=(!true)=true) (by decide) (show Ev (fun k=>bi.l0 k s 0) _ from pR s hs s.size 0 (by omega) (by omega)))
def uu (l:List UInt8):Int:=match Lib.atoiAll l with|.ok v=>v|_=>0
def wP (r:Int) (x y:Option (List UInt8)):Bool × Bool :=
  match x,y with
  | some a,some b=>if r=1 then (Op.bytesLess a b,true) else if r=2 then (decide (uu a < uu b),true) else (false,false)
  | _,_=>(false,false)
abbrev ic (t:ByteArray):Prop:=t.size≤9223372036854775807∧dO t.data.toList≠3
theorem iq (t v:ByteArray) (ht:ic t):Ev (fun k=>bM.f k t v) (iC (fK t.data.toList v.data.toList)):=ww t v _ ht.1 (fun _ h=>absurd h ht.2)
theorem qp {t v x:List UInt8} (h:fK t v=some x) (hr:dO t=2):gu x=true∧x.length≤100:=by
  unfold fK lg at h
  by_cases hv:v=[]∨100 < v.length
  · rw [if_pos hv] at h
    cases h
  rw [if_neg hv,if_neg (by rw [hr];decide),if_pos hr] at h
  rw [not_or] at hv
  by_cases hn:gu v=true
  · rw [if_pos hn] at h
    obtain rfl:=Option.some.inj h
    exact ⟨hn,by omega⟩
  · rw [if_neg hn] at h
    cases h
theorem sG (t a b:ByteArray) (ht:ic t):Ev (fun k=>gL.f k t a b) (wP (dO t.data.toList) (fK t.data.toList a.data.toList) (fK t.data.toList b.data.toList)):=by
  refine vN ht.1 (iq t a ht) (iq t b ht) ?_
  cases hx:fK t.data.toList a.data.toList with
  | none=>rfl
  | some x =>
    cases hy:fK t.data.toList b.data.toList with
    | none=>rfl
    | some y =>
      show nA (dO t.data.toList) (mk x) (mk y)=some (if dO t.data.toList=1 then (Op.bytesLess x y,true) else if dO t.data.toList=2 then (decide (uu x < uu y),true) else (false,false))
      unfold nA
      by_cases r1:dO t.data.toList=1
      · rw [if_pos r1,if_pos r1,gV,gV]
      rw [if_neg r1,if_neg r1]
      by_cases r2:dO t.data.toList=2
      · obtain ⟨nx,sx⟩:=qp hx r2
        obtain ⟨ny,sy⟩:=qp hy r2
        rw [if_pos r2,if_pos r2,iX,iX,if_pos (by omega)]
        obtain ⟨vx,hvx,_,_⟩:=oG nx
        obtain ⟨vy,hvy,_,_⟩:=oG ny
        unfold pQ uu
        rw [mk_data,mk_data,hvx,hvy]
      · rw [if_neg r2,if_neg r2]
theorem nO (t v:ByteArray) (w:World) (hG:Gl w) (ht:ic t) :
    Calls Tryz.prog 39 #[.string t,.string v] w fun e w'=>e=.returned (.tuple #[.string (iC (fK t.data.toList v.data.toList)).1,.bool (iC (fK t.data.toList v.data.toList)).2])∧Below w.heap.size w w':=by
  obtain ⟨k,hk⟩:=Ev.rounds (iq t v ht)
  exact bM.calls k t v _ _ w hG hk
theorem qR (t a b:ByteArray) (w:World) (hG:Gl w) (ht:ic t) :
    Calls Tryz.prog 68 #[.string t,.string a,.string b] w fun e w'=>e=.returned (.bool (uD (fK t.data.toList a.data.toList) (fK t.data.toList b.data.toList)))∧Below w.heap.size w w':=by
  obtain ⟨k,hk⟩:=Ev.rounds (vH (iq t a ht) (iq t b ht))
  exact iP.calls k t a b _ w hG hk
def iU (t a b:ByteArray):Bool × Bool:=wP (dO t.data.toList) (fK t.data.toList a.data.toList) (fK t.data.toList b.data.toList)
theorem jM (t a b:ByteArray) (w:World) (hG:Gl w) (ht:ic t) :
    Calls Tryz.prog 69 #[.string t,.string a,.string b] w fun e w'=>e=.returned (.tuple #[.bool (iU t a b).1,.bool (iU t a b).2])∧Below w.heap.size w w':=by
  obtain ⟨k,hk⟩:=Ev.rounds (sG t a b ht)
  exact gL.calls k t a b _ _ w hG hk
theorem nQ (t:ByteArray) (w:World) (ht:t.size≤9223372036854775807) :
    Calls Tryz.prog 59 #[.string t] w fun e w'=>e=.returned (.int .i64 (dO t.data.toList))∧Below w.heap.size w w':=by
  refine (dx.calls t _ w (o5 t ht)).mono ?_
  rintro e w' ⟨rfl,hb⟩
  exact ⟨rfl,hb⟩
def wE (t a b:ByteArray):Bool:=uD (fK t.data.toList a.data.toList) (fK t.data.toList b.data.toList)
theorem uw (B C:Nat) (v typ val:ByteArray) (W:World) (hG:Gl W) (hc:W.cell? ⟨B,0,none⟩=some (.string typ)) (hd:W.cell? ⟨C,0,none⟩=some (.string val)) (h2:ic typ) :
    Calls Tryz.prog 67 (#[.string v]++#[.pointer (some ⟨B,0,none⟩),.pointer (some ⟨C,0,none⟩)]) W fun e w'=>e=.returned (.bool (wE typ v val))∧Below W.heap.size W w':=by
  have HG:=aa.mk hG
  have H2:=aa.mk h2
  clear hG h2
  show Calls Tryz.prog 67 #[.string v,.pointer (some ⟨B,0,none⟩),.pointer (some ⟨C,0,none⟩)] W _
  go_enter Tryz.func67,Tryz.ntmps67
  go_wp2_with (go_at_call 68;refine (qR typ v val _ HG.out H2.out).mono ?_;rintro e w' ⟨rfl,hb⟩)
  go_ret
  exact ⟨rfl,hb⟩
def oQ (vs:List ByteArray) (typ val:ByteArray) (i:Nat):Bool:=wE typ (bE ByteArray.empty vs (i:Int)) val
def fI.f (a0:ByteArray) (l:List S45) (typ val:ByteArray):Option Bool :=
  (dP.f a0 l typ).bind fun vs=>if vs.length≤1000000000∧ic typ then some (fZ (oQ vs typ val) vs.length) else none
set_option maxHeartbeats 2000000 in
set_option maxRecDepth 100000 in
theorem fI.calls (a0:ByteArray) (A1:Option Addr) (c1:Nat) (l1:List S45) (typ val:ByteArray) (r:Bool) (w:World) (hr:Kd.C k45 w A1 l1.length l1) (hc:l1.length≤c1) (hG:Gl w) (h:fI.f a0 l1 typ val=some r) :
    Calls Tryz.prog 40 #[.agg #[.string a0,.slice A1 l1.length c1],.string typ,.string val] w fun e w'=>e=.returned (.bool r)∧Below w.heap.size w w':=by
  obtain ⟨vs,hv,h⟩:=Option.bind_eq_some_iff.1 h
  by_cases hs:vs.length≤1000000000∧ic typ
  · rw [if_pos hs] at h
    obtain rfl:=Option.some.inj h
    have hu2:=Tryz.underlying28
    have eg:∀ args w,(callFunc 67 args).run Tryz.prog w=.ok (.enter 67 args) w:=enters_of Tryz.func67 (by kernel_rfl) rfl
    have HR:=aa.mk hr
    have HC:=aa.mk hc
    have HG:=aa.mk hG
    have HV:=aa.mk hv
    have HS:=aa.mk hs
    clear hr hc hG hv hs h
    have ct:∀ (W:World) (A:Option Addr) (c:Nat),Below w.heap.size w W→W.cell? ⟨w.heap.size+1,0,none⟩=some (.string typ)→W.cell? ⟨w.heap.size+2,0,none⟩=some (.string val)→Kd.string.C W A vs.length vs →
        Calls Tryz.prog 61 #[.slice A vs.length c,.func (.func 67) #[] #[.pointer (some ⟨w.heap.size+1,0,none⟩),.pointer (some ⟨w.heap.size+2,0,none⟩)]] W fun e w'=>e=.returned (.bool (fZ (oQ vs typ val) vs.length))∧Below W.heap.size W w':=by
      intro W A c hb hc1 hc2 hcs
      refine iF A c vs 67 _ (oQ vs typ val) W eg hcs (fun i hi W' hb'=>?_)
      refine (uw (w.heap.size+1) (w.heap.size+2) _ typ val W' ((HG.out.below hb).below hb') (bN (W0:=w) hc1 hb') (bN (W0:=w) hc2 hb') HS.out.2).mono ?_
      rintro e w' ⟨rfl,hb2⟩
      exact ⟨rfl,aD hb' hb2⟩
    have CT:=aa.mk ct
    clear ct eg
    go_enter Tryz.func40,Tryz.ntmps40
    go_upto_region 1 with (fail)
    obtain ⟨w0,hw0⟩:∃ w0,((w.alloc (.cells #[.string a0,.slice A1 l1.length c1] 28)).alloc (.cells #[.string typ] 9)).alloc (.cells #[.string val] 9)=w0:=⟨_,rfl⟩
    have kD:w0.cell? ⟨w.heap.size,0,none⟩=some (.string a0):=by rw [← hw0];simp [go_sem]
    have kE:w0.cell? ⟨w.heap.size,1,none⟩=some (.slice A1 l1.length c1):=by rw [← hw0];simp [go_sem]
    have kT:w0.cell? ⟨w.heap.size+1,0,none⟩=some (.string typ):=by rw [← hw0];simp [go_sem]
    have kV:w0.cell? ⟨w.heap.size+2,0,none⟩=some (.string val):=by rw [← hw0];simp [go_sem]
    have kB:Below w.heap.size w w0:=by rw [← hw0];exact af (af (af (Below.refl _ _) _) _) _
    rw [hw0]
    clear hw0
    have KB:=aa.mk kB
    clear kB
    go_wp2_with (first|(go_at_call 37;refine (dP.calls a0 A1 c1 l1 typ vs w0 (Kd.bf HR.out KB.out) HC.out HV.out).mono ?_;rintro e w1 ⟨v,rfl,ho,hb⟩;obtain ⟨Ao,co,eo⟩:=Kd.cO ho;subst eo;have kT1:=bN (W0:=w) kT hb;have kV1:=bN (W0:=w) kV hb;have KB1:=aa.mk (aD KB.out hb);have HO:=aa.mk ho;clear hb ho kT kV kD kE)|(go_at_call 61;refine (CT.out _ _ _ KB1.out kT1 kV1 (Kd.bL HO.out).2.2).mono ?_;rintro e w2 ⟨rfl,hb2⟩))
    go_ret
    exact ⟨rfl,aD KB1.out hb2⟩
  · rw [if_neg hs] at h
    cases h
def wS (kind:Int) (typ val v:ByteArray):Bool:=if kind=7 then ((iU typ val v).2 && !(iU typ val v).1) else ((iU typ v val).2 && !(iU typ v val).1)
set_option maxHeartbeats 2000000 in
set_option maxRecDepth 100000 in
theorem ut (B:Nat) (kind:Int) (v typ val:ByteArray) (W:World) (hG:Gl W) (hk:W.cell? ⟨B,0,none⟩=some (.int .i64 kind)) (hc:W.cell? ⟨B,1,none⟩=some (.string typ)) (hd:W.cell? ⟨B,2,none⟩=some (.string val)) (h2:ic typ) :
    Calls Tryz.prog 70 (#[.string v]++#[.pointer (some ⟨B,0,none⟩)]) W fun e w'=>e=.returned (.bool (wS kind typ val v))∧Below W.heap.size W w':=by
  have HG:=aa.mk hG
  have H2:=aa.mk h2
  have hu:=Tryz.underlying25
  clear hG h2
  show Calls Tryz.prog 70 #[.string v,.pointer (some ⟨B,0,none⟩)] W _
  unfold wS
  by_cases h7:kind=7
  · rw [if_pos h7]
    have b7:(kind == 7)=true:=beq_iff_eq.2 h7
    clear h7
    obtain ⟨p,hp⟩:∃ p,iU typ val v=p:=⟨_,rfl⟩
    rw [hp]
    obtain ⟨p1,p2⟩:=p
    have HL:=aa.mk hp
    clear hp
    go_enter Tryz.func70,Tryz.ntmps70
    go_upto_region 1 with (fail)
    go_quiet (fail)
    go_wp2_with (go_at_call 69;refine (jM typ val v _ (Gl.drewN HG.out _) H2.out).mono ?_;rintro e w' ⟨rfl,hb⟩;rw [HL.out])
    all_goals (go_ret;exact ⟨by first|rfl|(simp [*];done),jK (ae (Below.refl _ _) _) (by simp) hb⟩)
  · rw [if_neg h7]
    have b7:(kind == 7)=false:=beq_eq_false_iff_ne.2 h7
    clear h7
    obtain ⟨p,hp⟩:∃ p,iU typ v val=p:=⟨_,rfl⟩
    rw [hp]
    obtain ⟨p1,p2⟩:=p
    have HL:=aa.mk hp
    clear hp
    go_enter Tryz.func70,Tryz.ntmps70
    go_upto_region 1 with (fail)
    go_quiet (fail)
    go_wp2_with (go_at_call 69;refine (jM typ v val _ (Gl.drewN HG.out _) H2.out).mono ?_;rintro e w' ⟨rfl,hb⟩;rw [HL.out])
    all_goals (go_ret;exact ⟨by first|rfl|(simp [*];done),jK (ae (Below.refl _ _) _) (by simp) hb⟩)
def nI (kind:Int) (vs:List ByteArray) (typ val:ByteArray) (i:Nat):Bool:=wS kind typ val (bE ByteArray.empty vs (i:Int))
def fE.f (a0_0:Int) (a0_1 a0_2:ByteArray) (l0_3:List ByteArray) (l0_4:List S25) (a1_0:ByteArray) (l1_1:List S45):Option Int :=
  if ic a0_1 then (if (iU a0_1 a0_2 a0_2).2=false then some 2 else
    (dP.f a1_0 l1_1 a0_1).bind fun vs=>if vs.length≤1000000000 then some (if fZ (nI a0_0 vs a0_1 a0_2) vs.length=true then 1 else 0) else none) else none
theorem jY (b:Bool):dJ.f b=some (if b=true then 1 else 0):=by cases b <;> rfl
set_option maxHeartbeats 4000000 in
set_option maxRecDepth 100000 in
theorem fE.calls (a0_0:Int) (a0_1:ByteArray) (a0_2:ByteArray) (A0_3:Option Addr) (c0_3:Nat) (l0_3:List ByteArray) (A0_4:Option Addr) (c0_4:Nat) (l0_4:List S25) (a1_0:ByteArray) (A1_1:Option Addr) (c1_1:Nat) (l1_1:List S45) (r:Int) (w:World) (hr0_3:Kd.C Kd.string w A0_3 l0_3.length l0_3) (hc0_3:l0_3.length≤c0_3) (hr0_4:Kd.C k25 w A0_4 l0_4.length l0_4) (hc0_4:l0_4.length≤c0_4) (hr1_1:Kd.C k45 w A1_1 l1_1.length l1_1) (hc1_1:l1_1.length≤c1_1) (hG:Gl w) (h:fE.f a0_0 a0_1 a0_2 l0_3 l0_4 a1_0 l1_1=some r) :
    Calls Tryz.prog 41 #[.agg #[.int .i64 a0_0,.string a0_1,.string a0_2,.slice A0_3 l0_3.length c0_3,.slice A0_4 l0_4.length c0_4],.agg #[.string a1_0,.slice A1_1 l1_1.length c1_1]] w fun e w'=>e=.returned (.int .i64 r)∧Below w.heap.size w w':=by
  unfold fE.f at h
  by_cases hs:ic a0_1
  · rw [if_pos hs] at h
    have hu1:=Tryz.underlying25
    have hu2:=Tryz.underlying28
    have eg:∀ args w,(callFunc 70 args).run Tryz.prog w=.ok (.enter 70 args) w:=enters_of Tryz.func70 (by kernel_rfl) rfl
    have HS:=aa.mk hs
    have HR:=aa.mk hr1_1
    have HC:=aa.mk hc1_1
    have HG:=aa.mk hG
    clear hr0_3 hc0_3 hr0_4 hc0_4 hr1_1 hc1_1 hG hs
    obtain ⟨p,hp⟩:∃ p,iU a0_1 a0_2 a0_2=p:=⟨_,rfl⟩
    rw [hp] at h
    obtain ⟨p1,p2⟩:=p
    have HL:=aa.mk hp
    clear hp
    have HH:=aa.mk h
    clear h
    have cells:∀ W:World,Below (w.alloc (.cells #[.int .i64 a0_0,.string a0_1,.string a0_2,.slice A0_3 l0_3.length c0_3,.slice A0_4 l0_4.length c0_4] 25)).heap.size (w.alloc (.cells #[.int .i64 a0_0,.string a0_1,.string a0_2,.slice A0_3 l0_3.length c0_3,.slice A0_4 l0_4.length c0_4] 25)) W→W.cell? ⟨w.heap.size,0,none⟩=some (.int .i64 a0_0)∧W.cell? ⟨w.heap.size,1,none⟩=some (.string a0_1)∧W.cell? ⟨w.heap.size,2,none⟩=some (.string a0_2):=by
      intro W hb
      exact ⟨bN (W0:=w) (by simp [go_sem]) hb,bN (W0:=w) (by simp [go_sem]) hb,bN (W0:=w) (by simp [go_sem]) hb⟩
    have ct:∀ (vs:List ByteArray) (W:World) (A:Option Addr) (c:Nat),Below w.heap.size w W→(W.cell? ⟨w.heap.size,0,none⟩=some (.int .i64 a0_0)∧W.cell? ⟨w.heap.size,1,none⟩=some (.string a0_1)∧W.cell? ⟨w.heap.size,2,none⟩=some (.string a0_2))→Kd.string.C W A vs.length vs →
        Calls Tryz.prog 61 #[.slice A vs.length c,.func (.func 70) #[] #[.pointer (some ⟨w.heap.size,0,none⟩)]] W fun e w'=>e=.returned (.bool (fZ (nI a0_0 vs a0_1 a0_2) vs.length))∧Below W.heap.size W w':=by
      intro vs W A c hb hcs hv
      refine iF A c vs 70 _ (nI a0_0 vs a0_1 a0_2) W eg hv (fun i hi W' hb'=>?_)
      refine (ut w.heap.size a0_0 _ a0_1 a0_2 W' ((HG.out.below hb).below hb') (bN (W0:=w) hcs.1 hb') (bN (W0:=w) hcs.2.1 hb') (bN (W0:=w) hcs.2.2 hb') HS.out).mono ?_
      rintro e w' ⟨rfl,hb2⟩
      exact ⟨rfl,aD hb' hb2⟩
    have CT:=aa.mk ct
    clear ct eg
    go_enter Tryz.func41,Tryz.ntmps41
    go_upto_region 1 with (fail)
    obtain ⟨w0,hw0⟩:∃ w0,(w.alloc (.cells #[.int .i64 a0_0,.string a0_1,.string a0_2,.slice A0_3 l0_3.length c0_3,.slice A0_4 l0_4.length c0_4] 25)).alloc (.cells #[.string a1_0,.slice A1_1 l1_1.length c1_1] 28)=w0:=⟨_,rfl⟩
    have kq:=cells w0 (by rw [← hw0];exact af (Below.refl _ _) _)
    have k0:=kq.1
    have k1:=kq.2.1
    have k2:=kq.2.2
    have kD:w0.cell? ⟨w.heap.size+1,0,none⟩=some (.string a1_0):=by rw [← hw0];simp [go_sem]
    have kE:w0.cell? ⟨w.heap.size+1,1,none⟩=some (.slice A1_1 l1_1.length c1_1):=by rw [← hw0];simp [go_sem]
    have kB:Below w.heap.size w w0:=by rw [← hw0];exact af (af (Below.refl _ _) _) _
    rw [hw0]
    clear hw0 kq cells
    have KB:=aa.mk kB
    clear kB
    cases p2 with
    | false =>
      have hr2:(2:Int)=r:=Option.some.inj HH.out
      subst hr2
      clear HH
      go_wp2_with (go_at_call 69;refine (jM a0_1 a0_2 a0_2 _ (HG.out.below KB.out) HS.out).mono ?_;rintro e w1 ⟨rfl,hb⟩;rw [HL.out])
      go_ret
      exact ⟨rfl,aD KB.out hb⟩
    | true =>
      obtain ⟨vs,hv,h⟩:=Option.bind_eq_some_iff.1 HH.out
      by_cases hl:vs.length≤1000000000
      · rw [if_pos hl] at h
        have hr2:=Option.some.inj h
        obtain ⟨b,hb0⟩:∃ b,fZ (nI a0_0 vs a0_1 a0_2) vs.length=b:=⟨_,rfl⟩
        rw [hb0] at hr2
        have CT2:=aa.mk (CT.out vs)
        rw [hb0] at CT2
        have HV:=aa.mk hv
        have HT:=aa.mk (jY b)
        subst hr2
        clear HH CT hv h hl hb0
        go_wp2_with (first|(go_at_call 69;refine (jM a0_1 a0_2 a0_2 _ (HG.out.below KB.out) HS.out).mono ?_;rintro e w1 ⟨rfl,hb⟩;rw [HL.out];have j0:=bN (W0:=w) k0 hb;have j1:=bN (W0:=w) k1 hb;have j2:=bN (W0:=w) k2 hb;have jD:=bN (W0:=w) kD hb;have jE:=bN (W0:=w) kE hb;have KB1:=aa.mk (aD KB.out hb);clear hb k0 k1 k2 kD kE)|(go_at_call 37;refine (dP.calls a1_0 A1_1 c1_1 l1_1 a0_1 vs _ (Kd.bf HR.out KB1.out) HC.out HV.out).mono ?_;rintro e w2 ⟨v,rfl,ho,hb⟩;obtain ⟨Ao,co,eo⟩:=Kd.cO ho;subst eo;have KQ:=aa.mk (And.intro (bN (W0:=w) j0 hb) (And.intro (bN (W0:=w) j1 hb) (bN (W0:=w) j2 hb)));have KB2:=aa.mk (aD KB1.out hb);have HO:=aa.mk ho;clear hb ho j0 j1 j2 jD jE)|(go_at_call 61;refine (CT2.out _ _ _ KB2.out KQ.out (Kd.bL HO.out).2.2).mono ?_;rintro e w3 ⟨rfl,hb⟩;have KB3:=aa.mk (aD KB2.out hb);clear hb)|(go_at_call 36;refine (dJ.calls _ _ _ HT.out).mono ?_;rintro e w4 ⟨rfl,⟨nq,rfl⟩⟩))
        all_goals (go_ret;exact ⟨by first|rfl|(simp [*];done),ae KB3.out _⟩)
      · rw [if_neg hl] at h
        cases h
  · rw [if_neg hs] at h
    cases h
def strings_CutPrefix.f (a0 a1:ByteArray):Option (ByteArray × Bool):=some (mk (Lib.trimPrefix a0.data.toList a1.data.toList),Lib.hasPrefix a0.data.toList a1.data.toList)
theorem strings_CutPrefix.calls (a0 a1:ByteArray) (r1:ByteArray) (r2:Bool) (w:World) (h:strings_CutPrefix.f a0 a1=some (r1,r2)) :
    Calls Tryz.prog 82 #[.string a0,.string a1] w fun e w'=>e=.returned (.tuple #[.string r1,.bool r2])∧bg w w':=by
  obtain ⟨rfl,rfl⟩:=Prod.mk.inj (Option.some.inj h)
  refine (Tryz.strings_CutPrefix a0 a1 w).mono ?_
  rintro e w' ⟨rfl,rfl⟩
  exact ⟨rfl,bg.refl _⟩
def strings_HasSuffix.f (a0 a1:ByteArray):Option Bool:=if a0.size≤9223372036854775807 then some (Lib.hasSuffix a0.data.toList a1.data.toList) else none
theorem strings_HasSuffix.calls (a0 a1:ByteArray) (r:Bool) (w:World) (h:strings_HasSuffix.f a0 a1=some r) :
    Calls Tryz.prog 84 #[.string a0,.string a1] w fun e w'=>e=.returned (.bool r)∧bg w w':=by
  unfold strings_HasSuffix.f at h
  by_cases hs:a0.size≤9223372036854775807
  · rw [if_pos hs] at h
    obtain rfl:=Option.some.inj h
    refine (Tryz.strings_HasSuffix a0 a1 w hs).mono ?_
    rintro e w' ⟨rfl,rfl⟩
    exact ⟨rfl,bg.refl _⟩
  · rw [if_neg hs] at h
    cases h
end Go.Proofs.YthfpaoacjpjnfaaGreatDoor.P

namespace Go.Proofs.YthfpaoacjpjnfaaGreatDoor.P
open Go.RowKit Go.Proofs.YthfpaoacjpjnfaaGreatDoorW.PrintWords Go.Proofs.YthfpaoacjpjnfaaGreatDoorW.PrintLast Go.Proofs.YthfpaoacjpjnfaaGreatDoorW.PrintMore
attribute [local go_sem] dW dZ eP eQ dL dM dY dX
def cZ.l0:Nat→List ByteArray→Int→ByteArray→Bool→List ByteArray→Int→Int→Option (Bool)
 | 0,_,_,_,_,_,_,_=>none
 | k+1,x1,x5,x6,x7,x23,x24,x25=>if x25 < x24 then (if 0≤x25 then (if x25 < (x23.length:Int) then (if x7=true then ((strings_Cut.f x6 (bE ByteArray.empty x23 x25)).bind fun bt126=>(cZ.l0 k x1 x5 bt126.2.1 bt126.2.2 x23 x24 (wrap64 (x25+1)))) else (cZ.l0 k x1 x5 x6 x7 x23 x24 (wrap64 (x25+1)))) else (none)) else (none)) else (if x7=true then (if 0≤x5 then (if x5 < (x1.length:Int) then ((strings_HasSuffix.f x6 (bE ByteArray.empty x1 x5)).bind fun t130=>(some t130)) else (none)) else (none)) else (some false))
def cZ.f (k:Nat) (a0:ByteArray) (l1:List ByteArray):Option (Bool):=if 0 < (l1.length:Int) then ((strings_CutPrefix.f a0 (bE ByteArray.empty l1 0)).bind fun bt122=>(if 1≤(wrap64 ((l1.length:Int) - 1)) then (if (wrap64 ((l1.length:Int) - 1))≤(l1.length:Int) then (cZ.l0 k l1 (wrap64 ((l1.length:Int) - 1)) bt122.1 bt122.2 ((l1.take ((wrap64 ((l1.length:Int) - 1)):Int).toNat).drop 1) (((l1.take ((wrap64 ((l1.length:Int) - 1)):Int).toNat).drop 1).length:Int) 0) else (none)) else (none))) else (none)
set_option maxHeartbeats 8000000 in
set_option maxRecDepth 100000 in
theorem cZ.calls (k:Nat) (a0:ByteArray) (A1:Option Addr) (c1:Nat) (l1:List ByteArray) (r:Bool) (w:World) (hr1:Kd.C Kd.string w A1 l1.length l1) (hc1:l1.length≤c1) (hG:Gl w) (h:cZ.f k a0 l1=some r) :
  Calls Tryz.prog 63 #[.string a0,.slice A1 l1.length c1] w fun e w'=>e=.returned (.bool r)∧bg w w':=by
 have HR1:=aa.mk hr1
 have HC1:=aa.mk hc1
 clear hr1 hc1
 have HG:=aa.mk hG
 clear hG
 have H:(if 0 < (l1.length:Int) then ((strings_CutPrefix.f a0 (bE ByteArray.empty l1 0)).bind fun bt122=>(if 1≤(wrap64 ((l1.length:Int) - 1)) then (if (wrap64 ((l1.length:Int) - 1))≤(l1.length:Int) then (cZ.l0 k l1 (wrap64 ((l1.length:Int) - 1)) bt122.1 bt122.2 ((l1.take ((wrap64 ((l1.length:Int) - 1)):Int).toNat).drop 1) (((l1.take ((wrap64 ((l1.length:Int) - 1)):Int).toNat).drop 1).length:Int) 0) else (none)) else (none))) else (none))=some r:=h
 clear h
 by_cases c3:0 < (l1.length:Int)
 ·rw [if_pos c3] at H
  have c3b0:decide (0 < (l1.length:Int))=true:=decide_eq_true c3
  have c3b1:decide (0 < l1.length)=true:=decide_eq_true (by omega)
  clear c3
  replace H:=Option.bind_eq_some_iff.mp H
  obtain ⟨⟨t122,t123⟩,A40,H⟩:=H
  replace H:(if 1≤(wrap64 ((l1.length:Int) - 1)) then (if (wrap64 ((l1.length:Int) - 1))≤(l1.length:Int) then (cZ.l0 k l1 (wrap64 ((l1.length:Int) - 1)) t122 t123 ((l1.take ((wrap64 ((l1.length:Int) - 1)):Int).toNat).drop 1) (((l1.take ((wrap64 ((l1.length:Int) - 1)):Int).toNat).drop 1).length:Int) 0) else (none)) else (none))=some r:=H
  have A4:=aa.mk A40
  clear A40
  by_cases c5:1≤(wrap64 ((l1.length:Int) - 1))
  ·rw [if_pos c5] at H
   have c5b0:=eq_true c5
   have c5b1:decide (1≤(wrap64 ((l1.length:Int) - 1)))=true:=decide_eq_true c5
   clear c5
   by_cases c6:(wrap64 ((l1.length:Int) - 1))≤(l1.length:Int)
   ·rw [if_pos c6] at H
    have c6b0:=eq_true c6
    have HLE:=aa.mk c6
    have c6b1:decide ((wrap64 ((l1.length:Int) - 1))≤(l1.length:Int))=true:=decide_eq_true c6
    clear c6
    have H':=aa.mk H
    clear H
    have p121:0≤(0:Int):=(by omega)
    have q121:0 < (l1.length:Int):=of_decide_eq_true (by first|(with_reducible assumption)|assumption)
    obtain ⟨ad121,e121,hx121_0⟩:=Kd.dz HR1.out 0 p121 q121
    cases e121
    have qi121:(0 < l1.length)=True:=eq_true (by omega)
    (try rw [show ((0:Int)).toNat=0 from rfl] at hx121_0)
    (try rw [Addr.add_zero'] at hx121_0)
    replace p121:=eq_true p121
    replace q121:=eq_true q121
    go_enter Tryz.func63,Tryz.ntmps63
    go_wp2_with (first|((with_reducible refine aV (f:=82) rfl ?_);refine bJ (some 18) rfl rfl Tryz.func82 (by kernel_rfl) rfl #[.string a0,.string (bE ByteArray.empty l1 0)] rfl (by (try simp only [List.map_toArray,List.map_cons,List.map_nil]);first|done|rfl|(simp only [List.length_drop,List.length_take];rfl)) ?_;(with_reducible refine (strings_CutPrefix.calls a0 (bE ByteArray.empty l1 0) t122 t123 _ A4.out).mono ?_);rintro e w' ⟨rfl,⟨nd,rfl⟩⟩;refine ⟨_,rfl,?_⟩;obtain ⟨i07,hi07,_,hsz7,_⟩:=info_parts vC;obtain ⟨A7,hcut7,hA7,hC7⟩:=lw (P:=Tryz.prog) Value.string (⟨#[]⟩:ByteArray) 22 9 .i64 .i64 Tryz.underlying22 hi07 hsz7 (some ad121) c1 l1 1 (wrap64 ((l1.length:Int) - 1)) (by omega) (by first|omega|exact of_decide_eq_true (by first|(with_reducible assumption)|assumption)) (of_decide_eq_true (by first|(with_reducible assumption)|assumption)) HC1.out;have HR124:=aa.mk (Kd.jB (h1:=fun _=>rfl) (hA7 _ (Kd.gN HR1.out)));have HC124:=aa.mk hC7;clear hA7 hC7 hi07 hsz7))
    go_loopg [6,7,25] k (fun kq v6 v7 v25 w'=>∃ (x6_1:ByteArray) (x7_1:Bool) (x25_1:Int),v6=.string x6_1∧v7=.bool x7_1∧v25=.int .i64 x25_1∧aa (cZ.l0 kq l1 (wrap64 ((l1.length:Int) - 1)) x6_1 x7_1 ((l1.take ((wrap64 ((l1.length:Int) - 1)):Int).toNat).drop 1) (((l1.take ((wrap64 ((l1.length:Int) - 1)):Int).toNat).drop 1).length:Int) x25_1=some r)∧aa (kq≤k)∧bg w w')
    case atStart=>exact ⟨(t122),(t123),(0),(by first|rfl|(simp;done)|(simp [*];done)|(simp [*,aT,aU,bU];done)|(simp only [ay,ax];done)|(simp only [ay,ax];simp;done)|(simp only [ay,ax];simp [*];done)),(by first|rfl|(simp;done)|(simp [*];done)|(simp [*,aT,aU,bU];done)|(simp only [ay,ax];done)|(simp only [ay,ax];simp;done)|(simp only [ay,ax];simp [*];done)),(by first|rfl|(simp;done)|(simp [*];done)|(simp [*,aT,aU,bU];done)|(simp only [ay,ax];done)|(simp only [ay,ax];simp;done)|(simp only [ay,ax];simp [*];done)),H',⟨Nat.le_refl _⟩,by repeat (first|exact bg.refl _|apply bg.step)⟩
    case round =>
     clear H'
     try clear c1
     try clear p1
     try clear q1
     try clear hx1
     try clear qi1
     try clear p2
     try clear c3
     try clear c3b0
     try clear c3b1
     try clear c5
     try clear c5b0
     try clear c5b1
     try clear c6
     try clear c6b0
     try clear c6b1
     try clear p6
     try clear hx121_0
     try clear p121
     try clear q121
     obtain ⟨x6_1,x7_1,x25_1,rfl,rfl,rfl,HA,HK1,⟨m1,rfl⟩⟩:=hrel
     cases gk with
     | zero=>exact absurd HA.out (by simp [cZ.l0])
     | succ k1 =>
      have H:=HA.out
      clear HA
      simp only [cZ.l0] at H
      by_cases c8:x25_1 < (((l1.take ((wrap64 ((l1.length:Int) - 1)):Int).toNat).drop 1).length:Int)
      ·rw [if_pos c8] at H
       have c8b0:decide (x25_1 < (((l1.take ((wrap64 ((l1.length:Int) - 1)):Int).toNat).drop 1).length:Int))=true:=decide_eq_true c8
       have c8e0:=c8b0
       rw [show ((l1.take ((wrap64 ((l1.length:Int) - 1)):Int).toNat).drop 1).length=((wrap64 ((l1.length:Int) - 1)):Int).toNat - 1 by rw [List.length_drop,List.length_take];have:=HLE.out;omega] at c8e0
       clear c8
       by_cases c9:0≤x25_1
       ·rw [if_pos c9] at H
        have c9b0:decide (0≤x25_1)=true:=decide_eq_true c9
        clear c9
        by_cases c10:x25_1 < (((l1.take ((wrap64 ((l1.length:Int) - 1)):Int).toNat).drop 1).length:Int)
        ·rw [if_pos c10] at H
         have c10b0:decide (x25_1 < (((l1.take ((wrap64 ((l1.length:Int) - 1)):Int).toNat).drop 1).length:Int))=true:=decide_eq_true c10
         have c10e0:=c10b0
         rw [show ((l1.take ((wrap64 ((l1.length:Int) - 1)):Int).toNat).drop 1).length=((wrap64 ((l1.length:Int) - 1)):Int).toNat - 1 by rw [List.length_drop,List.length_take];have:=HLE.out;omega] at c10e0
         clear c10
         by_cases c11:x7_1=true
         ·subst c11
          have H1:((strings_Cut.f x6_1 (bE ByteArray.empty ((l1.take ((wrap64 ((l1.length:Int) - 1)):Int).toNat).drop 1) x25_1)).bind fun bt126=>(cZ.l0 k1 l1 (wrap64 ((l1.length:Int) - 1)) bt126.2.1 bt126.2.2 ((l1.take ((wrap64 ((l1.length:Int) - 1)):Int).toNat).drop 1) (((l1.take ((wrap64 ((l1.length:Int) - 1)):Int).toNat).drop 1).length:Int) (wrap64 (x25_1+1))))=some r:=by rw [if_pos rfl] at H;exact H
          clear H
          have H:=H1
          clear H1
          replace H:=Option.bind_eq_some_iff.mp H
          obtain ⟨⟨t126,t127,t128⟩,A120,H⟩:=H
          replace H:(cZ.l0 k1 l1 (wrap64 ((l1.length:Int) - 1)) t127 t128 ((l1.take ((wrap64 ((l1.length:Int) - 1)):Int).toNat).drop 1) (((l1.take ((wrap64 ((l1.length:Int) - 1)):Int).toNat).drop 1).length:Int) (wrap64 (x25_1+1)))=some r:=H
          have A12:=aa.mk A120
          clear A120
          have H':=aa.mk H
          clear H
          have p125:0≤(x25_1:Int):=of_decide_eq_true (by first|(with_reducible assumption)|assumption)
          have q125:x25_1 < (((l1.take ((wrap64 ((l1.length:Int) - 1)):Int).toNat).drop 1).length:Int):=of_decide_eq_true (by first|(with_reducible assumption)|assumption)
          obtain ⟨ad125,e125,hx125_0⟩:=Kd.dz HR124.out x25_1 p125 q125
          cases e125
          replace p125:=eq_true p125
          replace q125:=eq_true q125
          have q125e:=q125
          rw [show ((l1.take ((wrap64 ((l1.length:Int) - 1)):Int).toNat).drop 1).length=((wrap64 ((l1.length:Int) - 1)):Int).toNat - 1 by rw [List.length_drop,List.length_take];have:=HLE.out;omega] at q125e
          have A12t:=A12
          rw [List.drop_one] at A12t
          go_wp2_with (first|((with_reducible refine aV (f:=83) rfl ?_);refine bJ (some 33) rfl rfl Tryz.func83 (by kernel_rfl) rfl #[.string x6_1,.string (bE ByteArray.empty ((l1.take ((wrap64 ((l1.length:Int) - 1)):Int).toNat).tail) x25_1)] rfl (by (try simp only [List.map_toArray,List.map_cons,List.map_nil]);first|done|rfl|(simp only [List.length_drop,List.length_take];rfl)) ?_;(with_reducible refine (strings_Cut.calls x6_1 (bE ByteArray.empty ((l1.take ((wrap64 ((l1.length:Int) - 1)):Int).toNat).tail) x25_1) t126 t127 t128 _ ?side1 A12t.out).mono ?_);(case side1=>first|exact HG.out|exact Gl.drewN HG.out _);rintro e w' ⟨rfl,⟨nd,rfl⟩⟩;refine ⟨_,rfl,?_⟩))
          go_roundg k1
          case measure=>have:=HK1.out;omega
          case rel=>exact ⟨(t127),(t128),(wrap64 (x25_1+1)),(by first|rfl|(simp;done)|(simp [*];done)|(simp [*,aT,aU,bU];done)|(simp only [ay,ax];done)|(simp only [ay,ax];simp;done)|(simp only [ay,ax];simp [*];done)),(by first|rfl|(simp;done)|(simp [*];done)|(simp [*,aT,aU,bU];done)|(simp only [ay,ax];done)|(simp only [ay,ax];simp;done)|(simp only [ay,ax];simp [*];done)),(by first|rfl|(simp;done)|(simp [*];done)|(simp [*,aT,aU,bU];done)|(simp only [ay,ax];done)|(simp only [ay,ax];simp;done)|(simp only [ay,ax];simp [*];done)),H',⟨by have:=HK1.out;omega⟩,by repeat (first|exact bg.refl _|apply bg.step)⟩
         ·replace c11:=Bool.eq_false_iff.mpr c11
          subst c11
          have H1:(cZ.l0 k1 l1 (wrap64 ((l1.length:Int) - 1)) x6_1 false ((l1.take ((wrap64 ((l1.length:Int) - 1)):Int).toNat).drop 1) (((l1.take ((wrap64 ((l1.length:Int) - 1)):Int).toNat).drop 1).length:Int) (wrap64 (x25_1+1)))=some r:=by rw [if_neg (show ¬ (false=true) by decide)] at H;exact H
          clear H
          have H:=H1
          clear H1
          have H':=aa.mk H
          clear H
          have p125:0≤(x25_1:Int):=of_decide_eq_true (by first|(with_reducible assumption)|assumption)
          have q125:x25_1 < (((l1.take ((wrap64 ((l1.length:Int) - 1)):Int).toNat).drop 1).length:Int):=of_decide_eq_true (by first|(with_reducible assumption)|assumption)
          obtain ⟨ad125,e125,hx125_0⟩:=Kd.dz HR124.out x25_1 p125 q125
          cases e125
          replace p125:=eq_true p125
          replace q125:=eq_true q125
          have q125e:=q125
          rw [show ((l1.take ((wrap64 ((l1.length:Int) - 1)):Int).toNat).drop 1).length=((wrap64 ((l1.length:Int) - 1)):Int).toNat - 1 by rw [List.length_drop,List.length_take];have:=HLE.out;omega] at q125e
          go_wp2
          go_roundg k1
          case measure=>have:=HK1.out;omega
          case rel=>exact ⟨(x6_1),(false),(wrap64 (x25_1+1)),(by first|rfl|(simp;done)|(simp [*];done)|(simp [*,aT,aU,bU];done)|(simp only [ay,ax];done)|(simp only [ay,ax];simp;done)|(simp only [ay,ax];simp [*];done)),(by first|rfl|(simp;done)|(simp [*];done)|(simp [*,aT,aU,bU];done)|(simp only [ay,ax];done)|(simp only [ay,ax];simp;done)|(simp only [ay,ax];simp [*];done)),(by first|rfl|(simp;done)|(simp [*];done)|(simp [*,aT,aU,bU];done)|(simp only [ay,ax];done)|(simp only [ay,ax];simp;done)|(simp only [ay,ax];simp [*];done)),H',⟨by have:=HK1.out;omega⟩,by repeat (first|exact bg.refl _|apply bg.step)⟩
        ·rw [if_neg c10] at H
         exact absurd H (by simp)
       ·rw [if_neg c9] at H
        exact absurd H (by simp)
      ·rw [if_neg c8] at H
       have c8b0:decide (x25_1 < (((l1.take ((wrap64 ((l1.length:Int) - 1)):Int).toNat).drop 1).length:Int))=false:=decide_eq_false c8
       have c8e0:=c8b0
       rw [show ((l1.take ((wrap64 ((l1.length:Int) - 1)):Int).toNat).drop 1).length=((wrap64 ((l1.length:Int) - 1)):Int).toNat - 1 by rw [List.length_drop,List.length_take];have:=HLE.out;omega] at c8e0
       clear c8
       by_cases c13:x7_1=true
       ·subst c13
        have H1:(if 0≤(wrap64 ((l1.length:Int) - 1)) then (if (wrap64 ((l1.length:Int) - 1)) < (l1.length:Int) then ((strings_HasSuffix.f x6_1 (bE ByteArray.empty l1 (wrap64 ((l1.length:Int) - 1)))).bind fun t130=>(some t130)) else (none)) else (none))=some r:=by rw [if_pos rfl] at H;exact H
        clear H
        have H:=H1
        clear H1
        obtain ⟨ji14,hji14⟩:∃ j_:Int,(wrap64 ((l1.length:Int) - 1))=j_:=⟨_,rfl⟩
        replace H:(if 0≤(ji14) then (if (ji14) < (l1.length:Int) then ((strings_HasSuffix.f x6_1 (bE ByteArray.empty l1 (ji14))).bind fun t130=>(some t130)) else (none)) else (none))=some r:=by first|(rw [hji14] at H;exact H)|(simp only [hji14] at H ⊢;exact H)
        (try rw [hji14] at c5b0)
        (try rw [hji14] at c5b1)
        (try rw [hji14] at c6b0)
        (try rw [hji14] at c6b1)
        (try rw [hji14] at c8b0)
        (try rw [hji14] at c8e0)
        have hji14w:(IntKind.i64.wrap ((l1.length:Int) - 1))=ji14:=(aT _).trans hji14
        by_cases c15:0≤(ji14)
        ·rw [if_pos c15] at H
         have c15b0:decide (0≤(ji14))=true:=decide_eq_true c15
         clear c15
         by_cases c16:(ji14) < (l1.length:Int)
         ·rw [if_pos c16] at H
          have c16b0:decide ((ji14) < (l1.length:Int))=true:=decide_eq_true c16
          clear c16
          replace H:=Option.bind_eq_some_iff.mp H
          obtain ⟨t130,A170,H⟩:=H
          replace H:(some t130)=some r:=H
          have A17:=aa.mk A170
          clear A170
          obtain rfl:=Option.some.inj H
          have p129:0≤((ji14):Int):=of_decide_eq_true (by first|(with_reducible assumption)|assumption)
          have q129:(ji14) < (l1.length:Int):=of_decide_eq_true (by first|(with_reducible assumption)|assumption)
          obtain ⟨ad129,e129,hx129_0⟩:=Kd.dz HR1.out (ji14) p129 q129
          obtain rfl:ad121=ad129:=(by injection e129)
          replace p129:=eq_true p129
          replace q129:=eq_true q129
          go_wp2_with (first|(go_at_call 84;(with_reducible refine (strings_HasSuffix.calls x6_1 (bE ByteArray.empty l1 (ji14)) t130 _ A17.out).mono ?_);rintro e w' ⟨rfl,⟨nd,rfl⟩⟩))
          go_ret
          exact ⟨by first|rfl|(simp;done)|(simp only [← hji14] <;> (first|rfl|simp))|(simp [*];done),by repeat (first|exact bg.refl _|apply bg.step)⟩
         ·rw [if_neg c16] at H
          exact absurd H (by simp)
        ·rw [if_neg c15] at H
         exact absurd H (by simp)
       ·replace c13:=Bool.eq_false_iff.mpr c13
        subst c13
        have H1:(some false)=some r:=by rw [if_neg (show ¬ (false=true) by decide)] at H;exact H
        clear H
        have H:=H1
        clear H1
        obtain rfl:=Option.some.inj H
        go_wp2
        go_ret
        exact ⟨by first|rfl|(simp;done)|(simp [*];done)|(simp [*,aT,aU,bU];done)|(simp only [ay,ax];done)|(simp only [ay,ax];simp;done)|(simp only [ay,ax];simp [*];done),by repeat (first|exact bg.refl _|apply bg.step)⟩
   ·rw [if_neg c6] at H
    exact absurd H (by simp)
  ·rw [if_neg c5] at H
   exact absurd H (by simp)
 ·rw [if_neg c3] at H
  exact absurd H (by simp)
end Go.Proofs.YthfpaoacjpjnfaaGreatDoor.P


namespace Go.Proofs.YthfpaoacjpjnfaaGreatDoor.P
open Go.RowKit Go.Proofs.YthfpaoacjpjnfaaGreatDoorW.PrintWords Go.Proofs.YthfpaoacjpjnfaaGreatDoorW.PrintLast Go.Proofs.YthfpaoacjpjnfaaGreatDoorW.PrintMore
def qj:List ByteArray→ByteArray→Bool→ByteArray × Bool
  | [],s,b=>(s,b)
  | p :: r,s,b=>if b=true then qj r ⟨(Lib.cut s.data.toList p.data.toList).2.1.toArray⟩ (Lib.cut s.data.toList p.data.toList).2.2 else qj r s b
def xI (l:List ByteArray) (q:ByteArray × Bool):Bool:=q.2 && Lib.hasSuffix q.1.data.toList (bE ByteArray.empty l ((l.length - 1:Nat):Int)).data.toList
def lI (s:ByteArray) (l:List ByteArray):Bool :=
  xI l (qj ((l.take (l.length - 1)).drop 1) ⟨(Lib.trimPrefix s.data.toList (bE ByteArray.empty l 0).data.toList).toArray⟩ (Lib.hasPrefix s.data.toList (bE ByteArray.empty l 0).data.toList))
theorem uN (s p:List UInt8):(Lib.cut s p).2.1.length≤s.length:=by
  unfold Lib.cut
  split
  · show (s.drop _).length≤_
    rw [List.length_drop];omega
  · exact Nat.zero_le _
theorem su (s p:List UInt8):(Lib.trimPrefix s p).length≤s.length:=by
  unfold Lib.trimPrefix
  split
  · rw [List.length_drop];omega
  · exact Nat.le_refl _
theorem rR (l:List UInt8):(⟨l.toArray⟩:ByteArray).size=l.length:=rfl
theorem uX (s:ByteArray):s.data.toList.length=s.size:=rfl
theorem wm (m:List ByteArray) (i:Nat) (h:i < m.length):m.drop i=bE ByteArray.empty m (i:Int) :: m.drop (i+1):=by
  rw [List.drop_eq_getElem_cons h]
  congr 1
  unfold bE
  rw [Int.toNat_natCast,List.getD_eq_getElem?_getD,List.getElem?_eq_getElem h]
  rfl
theorem qm (l m:List ByteArray) (h1:1≤l.length) (hl:l.length≤1000000000) (hm:m.length≤1000000000):∀ (n i:Nat) (s:ByteArray) (b:Bool),m.length - i=n→i≤m.length→s.size < 4294967281 →
    Ev (fun k=>cZ.l0 k l ((l.length - 1:Nat):Int) s b m (m.length:Int) (i:Int)) (xI l (qj (m.drop i) s b)):=by
  intro n
  induction n with
  | zero =>
    intro i s b hn hi hs
    have hd:m.drop i=[]:=List.drop_eq_nil_of_le (by omega)
    rw [hd]
    have c1:¬ ((i:Int) < (m.length:Int)):=by omega
    cases b with
    | false=>exact Ev.step (fun k=>by rw [cZ.l0]) (Ev.ifn (c:=(i:Int) < (m.length:Int)) c1 (Ev.ifn (c:=false=true) Bool.false_ne_true (Ev.now false)))
    | true =>
      have e:(strings_HasSuffix.f s (bE ByteArray.empty l ((l.length - 1:Nat):Int)))=some (xI l (qj [] s true)):=by
        unfold strings_HasSuffix.f
        rw [if_pos (by omega)]
        rfl
      exact Ev.step (fun k=>by rw [cZ.l0]) (Ev.ifn (c:=(i:Int) < (m.length:Int)) c1 (Ev.ifp (c:=true=true) rfl (Ev.ifp (c:=0≤((l.length - 1:Nat):Int)) (by omega) (Ev.ifp (c:=((l.length - 1:Nat):Int) < (l.length:Int)) (by omega) (Ev.congr (fun k=>by rw [e];rfl) (Ev.now _))))))
  | succ n ih =>
    intro i s b hn hi hs
    have c1:(i:Int) < (m.length:Int):=by omega
    have hw:wrap64 ((i:Int)+1)=((i+1:Nat):Int):=by unfold wrap64;omega
    rw [wm m i (by omega)]
    cases b with
    | false =>
      have:=ih (i+1) s false (by omega) (by omega) hs
      rw [← hw] at this
      exact Ev.step (fun k=>by rw [cZ.l0]) (Ev.ifp (c:=(i:Int) < (m.length:Int)) c1 (Ev.ifp (c:=0≤(i:Int)) (by omega) (Ev.ifp (c:=(i:Int) < (m.length:Int)) c1 (Ev.ifn (c:=false=true) Bool.false_ne_true this))))
    | true =>
      have:=ih (i+1) ⟨(Lib.cut s.data.toList (bE ByteArray.empty m (i:Int)).data.toList).2.1.toArray⟩ (Lib.cut s.data.toList (bE ByteArray.empty m (i:Int)).data.toList).2.2 (by omega) (by omega) (by
        have:=uN s.data.toList (bE ByteArray.empty m (i:Int)).data.toList
        rw [rR];rw [uX] at this;omega)
      rw [← hw] at this
      have e:strings_Cut.f s (bE ByteArray.empty m (i:Int))=some (⟨(Lib.cut s.data.toList (bE ByteArray.empty m (i:Int)).data.toList).1.toArray⟩,⟨(Lib.cut s.data.toList (bE ByteArray.empty m (i:Int)).data.toList).2.1.toArray⟩,(Lib.cut s.data.toList (bE ByteArray.empty m (i:Int)).data.toList).2.2):=by
        unfold strings_Cut.f
        rw [if_pos hs]
      exact Ev.step (fun k=>by rw [cZ.l0]) (Ev.ifp (c:=(i:Int) < (m.length:Int)) c1 (Ev.ifp (c:=0≤(i:Int)) (by omega) (Ev.ifp (c:=(i:Int) < (m.length:Int)) c1 (Ev.ifp (c:=true=true) rfl (Ev.congr (fun k=>by rw [e];rfl) this)))))
theorem tV (s:ByteArray) (l:List ByteArray) (h2:2≤l.length) (hl:l.length≤1000000000) (hs:s.size < 4294967281):Ev (fun k=>cZ.f k s l) (lI s l):=by
  have hw:wrap64 ((l.length:Int) - 1)=((l.length - 1:Nat):Int):=by unfold wrap64;omega
  have hm:((l.take (l.length - 1)).drop 1).length≤1000000000:=by rw [List.length_drop,List.length_take];omega
  have:=qm l ((l.take (l.length - 1)).drop 1) (by omega) hl hm _ 0 ⟨(Lib.trimPrefix s.data.toList (bE ByteArray.empty l 0).data.toList).toArray⟩ (Lib.hasPrefix s.data.toList (bE ByteArray.empty l 0).data.toList) rfl (by omega) (by
    have:=su s.data.toList (bE ByteArray.empty l 0).data.toList
    rw [rR];rw [uX] at this;omega)
  rw [List.drop_zero] at this
  unfold cZ.f lI
  rw [hw,Int.toNat_natCast]
  exact Ev.ifp (c:=0 < (l.length:Int)) (by omega) (Ev.congr (fun k=>rfl) (Ev.ifp (c:=1≤((l.length - 1:Nat):Int)) (by omega) (Ev.ifp (c:=((l.length - 1:Nat):Int)≤(l.length:Int)) (by omega) this)))
theorem pW.any (a0:ByteArray) (w:World) (hs:a0.size≤9223372036854775807) :
    Calls Tryz.prog 60 #[.string a0] w fun e w'=>e=.returned (.string (gq a0))∧Below w.heap.size w w':=by
  have hcv:=fun W=>Lib.run_convert_string_bytes (P:=Tryz.prog) W 9 34 5 a0 (u:=.string) Tryz.underlying9 Tryz.underlying34 Tryz.underlying5
  go_enter Tryz.func60,Tryz.ntmps60
  go_wp2
  go_loopw [10] (fun i wr=>∃ k:Nat,k≤a0.size∧i=.int .i64 k∧aa (Below w.heap.size w wr)∧aa (iK wr w.heap.size a0.size (iI a0 k))) (fun i _=>a0.size - (intOf i).toNat)
  case atStart=>exact ⟨0,Nat.zero_le _,rfl,⟨Lib.bytesWorld_below _ _ _⟩,⟨by rw [jF];exact iM w a0⟩⟩
  case round =>
    obtain ⟨k,hk,rfl,HB,HR⟩:=hrel
    by_cases hlt:k < a0.size
    · have hc:=HR.out.cell k hlt
      have hz:=HR.out.free k hlt
      rw [jL] at hc
      obtain ⟨c,hcc⟩:∃ c:Int,((a0.data.toList.getD k 0).toNat:Int)=c:=⟨_,rfl⟩
      rw [hcc] at hc
      have hcr:0≤c∧c≤255:=by have:=(a0.data.toList.getD k 0).toNat_lt;omega
      have hc0:0≤c:=hcr.1
      have hc1:c≤255:=hcr.2
      clear hcr
      have HC:=Lib.hid hcc
      clear hcc
      by_cases h1:65≤c
      · by_cases h2:c≤90
        · have HL:=Lib.hid (oZ h1 h2)
          go_wp2
          refine ⟨⟨k+1,by omega,by go_num,⟨?_⟩,⟨?_⟩⟩,by simp [intOf];omega⟩
          · exact (HB.out).setCell (Nat.le_refl _) _
          · have:=kF HR.out hlt HC.out
            rw [HL.out] at this
            first
            | exact this
            | (rw [show c+97 - 65=c+32 from by omega];exact this)
            | (rw [show ((c+97) - 65) % 256=c+32 from by omega];exact this)
            | (rw [show ((c+97) % 256 - 65) % 256=c+32 from by omega];exact this)
        · have HL:=Lib.hid (jy (c:=c) (by omega))
          have d2:decide (c≤90)=false:=by simpa using h2
          go_wp2
          refine ⟨⟨k+1,by omega,by go_num,HB,⟨iA HR.out HC.out HL.out⟩⟩,by simp [intOf];omega⟩
      · have HL:=Lib.hid (jy (c:=c) (by omega))
        have d1:decide (65≤c)=false:=by simpa using h1
        go_wp2
        refine ⟨⟨k+1,by omega,by go_num,HB,⟨iA HR.out HC.out HL.out⟩⟩,by simp [intOf];omega⟩
    · have hge:¬ (k:Int) < (a0.size:Int):=by omega
      have hst:=fun cap=>jc (P:=Tryz.prog) HR.out cap 34 5 9 Tryz.underlying34 Tryz.underlying5 Tryz.underlying9
      rw [kv a0 k hlt] at hst
      go_wp2
      go_ret
      exact ⟨rfl,HB.out⟩
def xJ (typ:ByteArray) (l:List ByteArray) (v:ByteArray):Bool :=
  (iC (fK typ.data.toList v.data.toList)).2 && lI (iC (fK typ.data.toList v.data.toList)).1 l
set_option maxHeartbeats 2000000 in
set_option maxRecDepth 100000 in
theorem uf (B C:Nat) (v typ:ByteArray) (l:List ByteArray) (A:Option Addr) (c:Nat) (W:World) (hG:Gl W) (hc:W.cell? ⟨B,1,none⟩=some (.string typ)) (hd:W.cell? ⟨C,0,none⟩=some (.slice A l.length c)) (hv:Kd.C Kd.string W A l.length l) (hlc:l.length≤c)
    (h2:ic typ) (h3:2≤l.length) (h4:l.length≤1000000000) (h5:(iC (fK typ.data.toList v.data.toList)).1.size < 4294967281) :
    Calls Tryz.prog 62 (#[.string v]++#[.pointer (some ⟨B,0,none⟩),.pointer (some ⟨C,0,none⟩)]) W fun e w'=>e=.returned (.bool (xJ typ l v))∧Below W.heap.size W w':=by
  have hu:=Tryz.underlying25
  have HG:=aa.mk hG
  have H2:=aa.mk h2
  have HV:=aa.mk hv
  have HC:=aa.mk hlc
  obtain ⟨k,hk⟩:=Ev.rounds (tV (iC (fK typ.data.toList v.data.toList)).1 l h3 h4 h5)
  have HK:=aa.mk hk
  have HS:=aa.mk (show xJ typ l v=((iC (fK typ.data.toList v.data.toList)).2 && lI (iC (fK typ.data.toList v.data.toList)).1 l) from rfl)
  obtain ⟨q,hq⟩:∃ q,iC (fK typ.data.toList v.data.toList)=q:=⟨_,rfl⟩
  rw [hq] at HK HS
  have HQ:=aa.mk hq
  clear hG h2 hv hlc hk hq h3 h4 h5
  obtain ⟨q1,q2⟩:=q
  show Calls Tryz.prog 62 #[.string v,.pointer (some ⟨B,0,none⟩),.pointer (some ⟨C,0,none⟩)] W _
  cases q2
  · go_enter Tryz.func62,Tryz.ntmps62
    go_wp2_with (go_at_call 39;refine (nO typ v _ HG.out H2.out).mono ?_;rintro e w1 ⟨rfl,hb⟩;rw [HQ.out];have HB:=aa.mk hb;clear hb)
    go_ret
    exact ⟨congrArg (fun b=>Ending.returned (.bool b)) (by rw [HS.out];rfl),HB.out⟩
  · go_enter Tryz.func62,Tryz.ntmps62
    go_wp2_with (first|(go_at_call 39;refine (nO typ v _ HG.out H2.out).mono ?_;rintro e w1 ⟨rfl,hb⟩;rw [HQ.out];have HB:=aa.mk hb;have hd1:=bN (W0:=W) hd hb;clear hb hc hd)|(go_at_call 63;refine (cZ.calls k q1 A c l (lI q1 l) _ (Kd.bf HV.out HB.out) HC.out (HG.out.below HB.out) HK.out).mono ?_;rintro e w2 ⟨rfl,⟨nq,rfl⟩⟩))
    go_ret
    exact ⟨congrArg (fun b=>Ending.returned (.bool b)) (by rw [HS.out];rfl),ae HB.out nq⟩
structure gz (w W:World) (P:Nat) (o1 o2:Array Value) (v:Value) (xs:List ByteArray):Prop where
  b1:W.heap[w.heap.size]?=some (.cells o1 25 (0,0))
  b2:W.heap[w.heap.size+1]?=some (.cells o2 28 (0,0))
  bp:W.heap[P]?=some (.cells #[v] 22 (0,0))
  row:Kd.R Kd.string 9 W w.heap.size (fun _=>True) v xs
  bl:Below w.heap.size w W
section
variable {w W W':World} {P:Nat} {o1 o2:Array Value} {v:Value} {xs:List ByteArray}
theorem gz.below (h:gz w W P o1 o2 v xs) (hb:Below W.heap.size W W'):gz w W' P o1 o2 v xs :=
  ⟨aI h.b1 hb,aI h.b2 hb,aI h.bp hb,Kd.bR h.row hb,aD h.bl hb⟩
theorem gz.drew (h:gz w W P o1 o2 v xs):gz w W.drew P o1 o2 v xs:=h.below (ag (Below.refl _ _))
theorem gz.cellP (h:gz w W P o1 o2 v xs):W.cell? ⟨P,0,none⟩=some v:=(aj h.bp 0).trans rfl
theorem gz.put {W1:World} {v1:Value} {p:ByteArray} (h:gz w W P o1 o2 v xs) (hr:Kd.R Kd.string 9 W1 w.heap.size (fun _=>True) v1 (xs++[p])) (hb:Below w.heap.size w W1) (hg:W.grownBy W1 v.ownBlock) (hP:w.heap.size+1 < P):gz w (W1.setCell ⟨P,0,none⟩ v1) P o1 o2 v1 (xs++[p]):=by
  have g1:=dH h.b1 hg (Kd.mK h.row h.b1 (by decide))
  have g2:=dH h.b2 hg (Kd.mK h.row h.b2 (by decide))
  have g3:=dH h.bp hg (Kd.mK h.row h.bp (by decide))
  refine ⟨dB g1 (by show w.heap.size≠P;omega) _,dB g2 (by show w.heap.size+1≠P;omega) _,bG g3 0 v1 rfl,Kd.yh hr g3 (by decide) 0 v1,ah hb (by omega)⟩
end
theorem vk {w:World} {P:Nat} {o1 o2:Array Value} {v:Value} {xs:List ByteArray} (s:ByteArray) (W:World) (hs:s.size≤9223372036854775807) (h:gz w W P o1 o2 v xs) :
    Calls Tryz.prog 60 #[.string s] W fun e w'=>e=.returned (.string (gq s))∧w'.cell? ⟨P,0,none⟩=some v∧gz w w' P o1 o2 v xs:=by
  refine (pW.any s W hs).mono ?_
  rintro e w' ⟨rfl,hb⟩
  exact ⟨rfl,(h.below hb).cellP,h.below hb⟩
def nU (typ:ByteArray) (l vs:List ByteArray) (i:Nat):Bool:=xJ typ l (bE ByteArray.empty vs (i:Int))
def oI (typ:ByteArray) (l vs:List ByteArray):Prop :=
  2≤l.length∧l.length≤1000000000∧(∀ i:Nat,i < l.length→(bE ByteArray.empty l (i:Int)).size≤9223372036854775807)∧vs.length≤1000000000∧∀ i:Nat,i < vs.length→(iC (fK typ.data.toList (bE ByteArray.empty vs (i:Int)).data.toList)).1.size < 4294967281
instance oI.dec (typ:ByteArray) (l vs:List ByteArray):Decidable (oI typ l vs):=by unfold oI;infer_instance
def ib.f (a0_0:Int) (a0_1 a0_2:ByteArray) (l0_3:List ByteArray) (l0_4:List S25) (a1_0:ByteArray) (l1_1:List S45):Option Int :=
  if a0_1.size≤9223372036854775807 then (if dO a0_1.data.toList≠1 then some 2 else
    (dP.f a1_0 l1_1 a0_1).bind fun vs=>if oI a0_1 l0_3 vs then some (if fZ (nU a0_1 (l0_3.map gq) vs) vs.length=true then 1 else 0) else none) else none
set_option maxHeartbeats 4000000 in
set_option maxRecDepth 100000 in
theorem ib.calls (a0_0:Int) (a0_1:ByteArray) (a0_2:ByteArray) (A0_3:Option Addr) (c0_3:Nat) (l0_3:List ByteArray) (A0_4:Option Addr) (c0_4:Nat) (l0_4:List S25) (a1_0:ByteArray) (A1_1:Option Addr) (c1_1:Nat) (l1_1:List S45) (r:Int) (w:World) (hr0_3:Kd.C Kd.string w A0_3 l0_3.length l0_3) (hc0_3:l0_3.length≤c0_3) (hr0_4:Kd.C k25 w A0_4 l0_4.length l0_4) (hc0_4:l0_4.length≤c0_4) (hr1_1:Kd.C k45 w A1_1 l1_1.length l1_1) (hc1_1:l1_1.length≤c1_1) (hG:Gl w) (h:ib.f a0_0 a0_1 a0_2 l0_3 l0_4 a1_0 l1_1=some r) :
    Calls Tryz.prog 38 #[.agg #[.int .i64 a0_0,.string a0_1,.string a0_2,.slice A0_3 l0_3.length c0_3,.slice A0_4 l0_4.length c0_4],.agg #[.string a1_0,.slice A1_1 l1_1.length c1_1]] w fun e w'=>e=.returned (.int .i64 r)∧Below w.heap.size w w':=by
  unfold ib.f at h
  by_cases hs:a0_1.size≤9223372036854775807
  · rw [if_pos hs] at h
    have hu1:=Tryz.underlying25
    have hu2:=Tryz.underlying28
    have eg:∀ args w,(callFunc 62 args).run Tryz.prog w=.ok (.enter 62 args) w:=enters_of Tryz.func62 (by kernel_rfl) rfl
    obtain ⟨rl,hrl⟩:∃ x,dO a0_1.data.toList=x:=⟨_,rfl⟩
    rw [hrl] at h
    have HS:=aa.mk hs
    have HR:=aa.mk hr1_1
    have HC:=aa.mk hc1_1
    have HP3:=aa.mk hr0_3
    have HG:=aa.mk hG
    have HRL:=aa.mk hrl
    have HH:=aa.mk h
    clear hr0_3 hc0_3 hr0_4 hc0_4 hr1_1 hc1_1 hG hs hrl h
    obtain ⟨o1,ho1⟩:∃ o:Array Value,#[.int .i64 a0_0,.string a0_1,.string a0_2,.slice A0_3 l0_3.length c0_3,.slice A0_4 l0_4.length c0_4]=o:=⟨_,rfl⟩
    obtain ⟨o2,ho2⟩:∃ o:Array Value,#[.string a1_0,.slice A1_1 l1_1.length c1_1]=o:=⟨_,rfl⟩
    have HO1:=aa.mk ho1
    have HO2:=aa.mk ho2
    clear ho1 ho2
    go_enter Tryz.func38,Tryz.ntmps38
    go_upto_region 1 with (fail)
    obtain ⟨w0,hw0⟩:∃ w0,(w.alloc (.cells #[.int .i64 a0_0,.string a0_1,.string a0_2,.slice A0_3 l0_3.length c0_3,.slice A0_4 l0_4.length c0_4] 25)).alloc (.cells #[.string a1_0,.slice A1_1 l1_1.length c1_1] 28)=w0:=⟨_,rfl⟩
    have k1:w0.cell? ⟨w.heap.size,1,none⟩=some (.string a0_1):=by rw [← hw0];simp [go_sem]
    have B1:=aa.mk (show w0.heap[w.heap.size]?=some (.cells o1 25 (0,0)) by rw [← hw0,← HO1.out];exact ak (mP _ _) _)
    have B2:=aa.mk (show w0.heap[w.heap.size+1]?=some (.cells o2 28 (0,0)) by rw [← hw0,← HO2.out];exact (by have:=mP (w.alloc (.cells #[.int .i64 a0_0,.string a0_1,.string a0_2,.slice A0_3 l0_3.length c0_3,.slice A0_4 l0_4.length c0_4] 25)) (.cells #[.string a1_0,.slice A1_1 l1_1.length c1_1] 28);simpa using this))
    have kB:Below w.heap.size w w0:=by rw [← hw0];exact af (af (Below.refl _ _) _) _
    have klt:w.heap.size+1 < w0.heap.size:=by rw [← hw0];simp
    rw [hw0]
    clear hw0
    have KB:=aa.mk kB
    have KL:=aa.mk klt
    clear kB klt
    by_cases h1:rl=1
    · subst h1
      obtain ⟨vs,hv,h⟩:=Option.bind_eq_some_iff.1 (show (dP.f a1_0 l1_1 a0_1).bind _=some r by have:=HH.out;rw [if_neg (fun hne=>hne rfl)] at this;exact this)
      by_cases hok:oI a0_1 l0_3 vs
      · rw [if_pos hok] at h
        have hrr:=Option.some.inj h
        have HV:=aa.mk hv
        have HK:=aa.mk hok
        have HRR:=aa.mk hrr
        clear HH hv h hok hrr
        go_upto_region 3 with (go_at_call 59;refine (nQ a0_1 _ HS.out).mono ?_;rintro e w1 ⟨rfl,hb⟩;rw [HRL.out];have KB1:=aa.mk (aD KB.out hb);have KL1:=aa.mk (Nat.lt_of_lt_of_le KL.out (aG hb));have B11:=aa.mk (aI B1.out hb);have B21:=aa.mk (aI B2.out hb);clear hb B1 B2 KB KL k1)
        go_upto_region 4 with (fail)
        obtain ⟨w2,hw2⟩:∃ w2,w1.alloc (.cells #[.slice none 0 0] 22)=w2:=⟨_,rfl⟩
        have I2:=aa.mk (show gz w w2 w1.heap.size o1 o2 (.slice none 0 0) [] by
          rw [← hw2]
          exact ⟨ak B11.out _,ak B21.out _,mP _ _,Kd.ko _ _ _ _ _,af KB1.out _⟩)
        rw [hw2]
        clear hw2
        obtain ⟨P,hP⟩:∃ P,w1.heap.size=P:=⟨_,rfl⟩
        rw [hP] at I2 KL1
        rw [hP]
        clear hP B11 B21 KB1
        have k3:w2.cell? ⟨w.heap.size,3,none⟩=some (.slice A0_3 l0_3.length c0_3):=(aj I2.out.b1 3).trans (by rw [← HO1.out];rfl)
        go_wp2_with (fail)
        clear k3
        go_loopg [7,15] l0_3.length (fun gg s7 s15 wr=>∃ (kk:Nat) (v:Value),kk≤l0_3.length∧l0_3.length - kk≤gg∧s15=.int .i64 kk∧aa (gz w wr P o1 o2 v ((l0_3.take kk).map gq)))
        case atStart=>exact ⟨0,.slice none 0 0,Nat.zero_le _,by omega,rfl,I2⟩
        case round =>
          obtain ⟨kk,v,hkk,hg,rfl,IV⟩:=hrel
          clear I2
          by_cases hlt:kk < l0_3.length
          · have hltz:(kk:Int) < (l0_3.length:Int):=by omega
            obtain ⟨ad,ea,x0⟩:=Kd.dz (Kd.bf HP3.out IV.out.bl) (kk:Int) (by omega) (by omega)
            subst ea
            rw [Int.toNat_natCast] at x0
            have hsz:=HK.out.2.2.1 kk hlt
            obtain ⟨xs,hxs⟩:∃ xs,(l0_3.take kk).map gq=xs:=⟨_,rfl⟩
            rw [hxs] at IV
            have HXS:=aa.mk hxs
            clear hxs
            obtain ⟨p,hp⟩:∃ p,bE ByteArray.empty l0_3 (kk:Int)=p:=⟨_,rfl⟩
            rw [hp] at x0 hsz
            have HPP:=aa.mk hp
            clear hp
            go_upto_region 7 with (fail)
            have iv:=IV.out
            have kP:=iv.cellP
            clear IV
            have hPlt:=KL1.out
            have hn1:(xs.length+1) * 16≤140737488355328:=by
              have:=HK.out.2.1
              rw [← HXS.out,List.length_map,List.length_take]
              omega
            go_region_law (first|(refine Kd.kZ Kd.string (w0:=w) w.heap.size (by rfl) (.tmp 19) (.tmp 22) 22 9 (.string ⟨#[]⟩) 16 (by rfl) Tryz.underlying22 vC rfl (by decide) (by omega) v xs (gq p) [.string (gq p)] (fun _=>True) (fun _=>False) (by rfl) (by rfl) (by rfl) (fun _ hk=>hk.elim) (fun _ _=>trivial) q2.row q2.bl (aG q2.bl) hn1 ?_;intro v1 w4 r1 b1 g1 t1;obtain ⟨A4,c4,e4⟩:=Kd.cO r1;subst e4;have kP4:w4.cell? ⟨P,0,none⟩=some v:=(aj (dH q2.bp g1 (Kd.mK q2.row q2.bp (by decide))) 0).trans rfl;have fP4:w4.frozen? ⟨P,0,none⟩=false:=ai (dH q2.bp g1 (Kd.mK q2.row q2.bp (by decide))) 0)|(go_simp;go_at_call 60;refine (vk _ _ hsz (by first|assumption|exact gz.drew (by assumption))).mono ?_;rintro e w' ⟨rfl,q1,q2⟩;have kQ:(w'.alloc (.cells #[.string (gq p)] 9)).cell? ⟨P,0,none⟩=some v:=(aj (ak q2.bp _) 0).trans rfl))
            all_goals
              have inv:=q2.put r1 b1 g1 hPlt
              rw [show (xs++[gq p]).length=xs.length+1 by simp] at inv
              have INV:=aa.mk inv
              clear inv iv kP q1 q2 r1 b1 g1 t1 kP4 fP4 kQ x0
              generalize hW5:w4.setCell ⟨P,0,none⟩ (.slice A4 (xs.length+1) c4)=w5 at INV ⊢
              clear hW5
              go_wp2
              go_roundg (l0_3.length - (kk+1))
              case measure=>omega
              case rel =>
                have hbd:=HK.out.2.1
                refine ⟨kk+1,.slice A4 (xs.length+1) c4,by omega,by omega,congrArg (Value.int IntKind.i64) (by unfold wrap64;omega),⟨?_⟩⟩
                have e:(l0_3.take (kk+1)).map gq=xs++[gq p]:=by
                  rw [← HXS.out,← HPP.out,List.take_add_one,List.map_append]
                  congr 1
                  unfold bE
                  rw [Int.toNat_natCast,List.getD_eq_getElem?_getD,List.getElem?_eq_getElem hlt]
                  rfl
                rw [e]
                exact INV.out
          · have hltz:¬ (kk:Int) < (l0_3.length:Int):=by omega
            have hkn:kk=l0_3.length:=by omega
            subst hkn
            rw [List.take_length] at IV
            clear hlt hkk hg
            obtain ⟨A5,c5,e5⟩:=Kd.cO IV.out.row
            subst e5
            obtain ⟨ls,hls⟩:∃ ls,l0_3.map gq=ls:=⟨_,rfl⟩
            rw [hls] at IV
            have HRR2:=aa.mk (show (if fZ (nU a0_1 ls vs) vs.length=true then (1:Int) else 0)=r by rw [← hls];exact HRR.out)
            have hn3:2≤ls.length:=by rw [← hls,List.length_map];exact HK.out.1
            have hn4:ls.length≤1000000000:=by rw [← hls,List.length_map];exact HK.out.2.1
            have hlen:l0_3.length=ls.length:=by rw [← hls,List.length_map]
            have HLN:=aa.mk hlen
            clear hls hlen
            have ct:∀ (W:World) (A:Option Addr) (c:Nat),gz w W P o1 o2 (.slice A5 ls.length c5) ls→Kd.string.C W A vs.length vs →
                Calls Tryz.prog 61 #[.slice A vs.length c,.func (.func 62) #[] #[.pointer (some ⟨w.heap.size,0,none⟩),.pointer (some ⟨P,0,none⟩)]] W fun e w'=>e=.returned (.bool (fZ (nU a0_1 ls vs) vs.length))∧Below W.heap.size W w':=by
              intro W A c hi hvc
              refine iF A c vs 62 _ (nU a0_1 ls vs) W eg hvc (fun i hi2 W' hb'=>?_)
              have iv:=hi.below hb'
              have hrd:=Kd.bL iv.row
              refine (uf w.heap.size P _ a0_1 ls A5 c5 W' (HG.out.below iv.bl) ((aj iv.b1 1).trans (by rw [← HO1.out];rfl)) iv.cellP hrd.2.2 hrd.2.1 ⟨HS.out,by rw [HRL.out];decide⟩ hn3 hn4 (HK.out.2.2.2.2 i hi2)).mono ?_
              rintro e w' ⟨rfl,hb2⟩
              exact ⟨rfl,aD hb' hb2⟩
            obtain ⟨b,hb0⟩:∃ b,fZ (nU a0_1 ls vs) vs.length=b:=⟨_,rfl⟩
            rw [hb0] at HRR2
            have CT:=aa.mk ct
            rw [hb0] at CT
            have HT:=aa.mk (jY b)
            have hrr:=HRR2.out
            subst hrr
            have j1:wr.cell? ⟨w.heap.size,1,none⟩=some (.string a0_1):=(aj IV.out.b1 1).trans (by rw [← HO1.out];rfl)
            have jD:wr.cell? ⟨w.heap.size+1,0,none⟩=some (.string a1_0):=(aj IV.out.b2 0).trans (by rw [← HO2.out];rfl)
            have jE:wr.cell? ⟨w.heap.size+1,1,none⟩=some (.slice A1_1 l1_1.length c1_1):=(aj IV.out.b2 1).trans (by rw [← HO2.out];rfl)
            clear ct eg hb0 hn3 hn4 HRR HRR2
            go_wp2_with (first|(go_at_call 37;refine (dP.calls a1_0 A1_1 c1_1 l1_1 a0_1 vs _ (Kd.bf HR.out IV.out.bl) HC.out HV.out).mono ?_;rintro e w2 ⟨v,rfl,ho,hb⟩;obtain ⟨Ao,co,eo⟩:=Kd.cO ho;subst eo;have IV2:=aa.mk (IV.out.below hb);have HO:=aa.mk ho;clear hb ho j1 jD jE)|(go_at_call 61;refine (CT.out _ _ _ IV2.out (Kd.bL HO.out).2.2).mono ?_;rintro e w3 ⟨rfl,hb⟩;have KB3:=aa.mk (aD IV2.out.bl hb);clear hb)|(go_at_call 36;refine (dJ.calls _ _ _ HT.out).mono ?_;rintro e w4 ⟨rfl,⟨nq,rfl⟩⟩))
            all_goals (go_ret;exact ⟨by first|rfl|(simp [*];done),ae KB3.out _⟩)
      · rw [if_neg hok] at h
        cases h
    · have hr2:(2:Int)=r:=by
        have:=HH.out
        rw [if_pos h1] at this
        exact Option.some.inj this
      subst hr2
      have e1:(rl == 1)=false:=beq_eq_false_iff_ne.2 h1
      clear HH h1
      go_wp2_with (go_at_call 59;refine (nQ a0_1 _ HS.out).mono ?_;rintro e w1 ⟨rfl,hb⟩;rw [HRL.out];have KB1:=aa.mk (aD KB.out hb);clear hb)
      go_ret
      exact ⟨rfl,KB1.out⟩
  · rw [if_neg hs] at h
    cases h
end Go.Proofs.YthfpaoacjpjnfaaGreatDoor.P

namespace Go.Proofs.YthfpaoacjpjnfaaGreatDoor.P
open Go.RowKit Go.Proofs.YthfpaoacjpjnfaaGreatDoorW.PrintWords Go.Proofs.YthfpaoacjpjnfaaGreatDoorW.PrintLast Go.Proofs.YthfpaoacjpjnfaaGreatDoorW.PrintMore
attribute [local go_sem] dW dZ eP eQ dL dM dY dX
mutual
def bP.l0:Nat→List Int→List (S25)→Int→Int→Int→ByteArray→ByteArray→List ByteArray→List (S25)→ByteArray→List (S45)→Option (Int)
 | 0,_,_,_,_,_,_,_,_,_,_,_=>none
 | k+1,x5,x13,x14,x15,x196000,x196001,x196002,x196003,x196004,x197000,x197001=>if x15 < x14 then (if 0≤x15 then (if x15 < (x13.length:Int) then ((bP.f k ((az x13 x15).f0) ((az x13 x15).f1) ((az x13 x15).f2) ((az x13 x15).f3) ((az x13 x15).f4) x197000 x197001).bind fun t199=>(if x5.length < 17592186044416 then (bP.l0 k (x5++[t199]) x13 x14 (wrap64 (x15+1)) x196000 x196001 x196002 x196003 x196004 x197000 x197001) else (none))) else (none)) else (none)) else (if x196000=1 then ((fT.f k x5 0 1).bind fun t203=>(some t203)) else (if x196000=2 then ((fT.f k x5 1 0).bind fun t204=>(some t204)) else (if x196000=3 then ((some (([1,0,2]:List Int):List Int)).bind fun y205=>(if 0 < (x5.length:Int) then (if 0≤(rd x5 0) then (if (rd x5 0) < (y205.length:Int) then (some (rd y205 (rd x5 0))) else (none)) else (none)) else (none))) else ((dA.f x196001).bind fun bt210=>(if bt210.2=true then (if x196000=8 then ((dP.f x197000 x197001 x196001).bind fun t212=>((dJ.f (decide ((t212.length:Int) > 0))).bind fun t215=>(some t215))) else (if x196000=5 then ((ib.f x196000 x196001 x196002 x196003 x196004 x197000 x197001).bind fun t216=>(some t216)) else (if x196000=4 then ((bM.f k x196001 x196002).bind fun bt217=>(if bt217.2=true then ((fI.f x197000 x197001 x196001 x196002).bind fun t219=>((dJ.f t219).bind fun t220=>(some t220))) else (some 2))) else ((fE.f x196000 x196001 x196002 x196003 x196004 x197000 x197001).bind fun t221=>(some t221))))) else (some 2))))))
def bP.f:Nat→Int→ByteArray→ByteArray→List ByteArray→List (S25)→ByteArray→List (S45)→Option (Int)
 | 0,_,_,_,_,_,_,_=>none
 | k+1,a0_0,a0_1,a0_2,l0_3,l0_4,a1_0,l1_1=>bP.l0 k ([]:List Int) l0_4 (l0_4.length:Int) 0 a0_0 a0_1 a0_2 l0_3 l0_4 a1_0 l1_1
end
set_option maxHeartbeats 8000000 in
set_option maxRecDepth 100000 in
theorem bP.calls (k:Nat):∀ (a0_0:Int) (a0_1:ByteArray) (a0_2:ByteArray) (A0_3:Option Addr) (c0_3:Nat) (l0_3:List ByteArray) (A0_4:Option Addr) (c0_4:Nat) (l0_4:List (S25)) (a1_0:ByteArray) (A1_1:Option Addr) (c1_1:Nat) (l1_1:List (S45)) (r:Int) (w:World) (hr0_3:Kd.C Kd.string w A0_3 l0_3.length l0_3) (hc0_3:l0_3.length≤c0_3) (hr0_4:Kd.C k25 w A0_4 l0_4.length l0_4) (hc0_4:l0_4.length≤c0_4) (hr1_1:Kd.C k45 w A1_1 l1_1.length l1_1) (hc1_1:l1_1.length≤c1_1) (hG:Gl w) (h:bP.f k a0_0 a0_1 a0_2 l0_3 l0_4 a1_0 l1_1=some r),
  Calls Tryz.prog 27 #[.agg #[.int .i64 a0_0,.string a0_1,.string a0_2,.slice A0_3 l0_3.length c0_3,.slice A0_4 l0_4.length c0_4],.agg #[.string a1_0,.slice A1_1 l1_1.length c1_1]] w fun e w'=>e=.returned (.int .i64 r)∧Below w.heap.size w w':=by
 induction k using Nat.strongRecOn with
 | _ k ih =>
 intro a0_0 a0_1 a0_2 A0_3 c0_3 l0_3 A0_4 c0_4 l0_4 a1_0 A1_1 c1_1 l1_1 r w hr0_3 hc0_3 hr0_4 hc0_4 hr1_1 hc1_1 hG h
 cases k with
 | zero=>exact absurd h (by simp [bP.f])
 | succ k =>
 simp only [bP.f] at h
 have hu25:=Tryz.underlying25
 have hu28:=Tryz.underlying28
 have HR0_3:=aa.mk hr0_3
 have HC0_3:=aa.mk hc0_3
 clear hr0_3 hc0_3
 have HR0_4:=aa.mk hr0_4
 have HC0_4:=aa.mk hc0_4
 clear hr0_4 hc0_4
 have HR1_1:=aa.mk hr1_1
 have HC1_1:=aa.mk hc1_1
 clear hr1_1 hc1_1
 have HB:=aa.mk (Below.refl w.heap.size w)
 have HG:=aa.mk hG
 clear hG
 have H:(bP.l0 k ([]:List Int) l0_4 (l0_4.length:Int) 0 a0_0 a0_1 a0_2 l0_3 l0_4 a1_0 l1_1)=some r:=h
 clear h
 have H':=aa.mk H
 clear H
 go_enter Tryz.func27,Tryz.ntmps27
 go_wp2_with (first|((with_reducible refine bS (N:=2) rfl ?_);refine eu ?hg (N:=2) ?hd (cs:=#[.int .i64 a0_0,.string a0_1,.string a0_2,.slice A0_3 l0_3.length c0_3,.slice A0_4 l0_4.length c0_4]) (t:=25) ?hr ?_;(case hd=>rfl);(case hg=>rfl);(case hr=>first|(go_simp;done)|(go_simp;rfl));intro gb195 hg w3 hbox hb;have n0_:=aa.mk (aD (by repeat (first|(with_reducible first|exact HB.out|apply af|apply ae|apply ag)|exact HB.out)) hb);have n1_:=aa.mk (hbox);have n2_:=aa.mk ((by rw [hg];exact (aG (by repeat (first|(with_reducible first|exact HB.out|apply af|apply ae|apply ag)|exact HB.out))):w.heap.size≤gb195));have n3_:=aa.mk ((by rw [hg];exact (aG (by repeat (first|(with_reducible first|exact HB.out|apply af|apply ae|apply ag)|exact HB.out))):w.heap.size≤gb195));clear HB;have HB:=n0_;have BK195:=n1_;have GW195:=n2_;have GE195:=n3_;clear n0_ n1_ n2_ n3_;clear hb hbox hg)|((with_reducible refine bS (N:=3) rfl ?_);refine eu ?hg (N:=3) ?hd (cs:=#[.string a1_0,.slice A1_1 l1_1.length c1_1]) (t:=28) ?hr ?_;(case hd=>rfl);(case hg=>rfl);(case hr=>first|(go_simp;done)|(go_simp;rfl));intro gb196 hg w4 hbox hb;have n0_:=aa.mk (aI (g:=gb195) (o:=.cells #[.int .i64 a0_0,.string a0_1,.string a0_2,.slice A0_3 l0_3.length c0_3,.slice A0_4 l0_4.length c0_4] 25 (0,0)) (by (with_reducible repeat (first|refine au ?_ _|refine av ?_|refine ak ?_ _));exact BK195.out) hb);have n1_:=aa.mk (aD (by repeat (first|(with_reducible first|exact HB.out|apply af|apply ae|apply ag|refine ah ?_ GE195.out)|exact HB.out)) hb);have n2_:=aa.mk (hbox);have n3_:=aa.mk ((by rw [hg];exact (aG (by repeat (first|(with_reducible first|exact HB.out|apply af|apply ae|apply ag|refine ah ?_ GE195.out)|exact HB.out))):w.heap.size≤gb196));have n4_:=aa.mk ((by rw [hg];exact (aG (by repeat (first|(with_reducible first|exact HB.out|apply af|apply ae|apply ag|refine ah ?_ GE195.out)|exact HB.out))):w.heap.size≤gb196));have n5_:=aa.mk ((by rw [hg];exact Nat.ne_of_lt (fO (g:=gb195) (o:=.cells #[.int .i64 a0_0,.string a0_1,.string a0_2,.slice A0_3 l0_3.length c0_3,.slice A0_4 l0_4.length c0_4] 25 (0,0)) (by (with_reducible repeat (first|refine au ?_ _|refine av ?_|refine ak ?_ _));exact BK195.out)):gb195≠gb196));have n6_:=aa.mk ((by rw [hg];exact Nat.ne_of_gt (fO (g:=gb195) (o:=.cells #[.int .i64 a0_0,.string a0_1,.string a0_2,.slice A0_3 l0_3.length c0_3,.slice A0_4 l0_4.length c0_4] 25 (0,0)) (by (with_reducible repeat (first|refine au ?_ _|refine av ?_|refine ak ?_ _));exact BK195.out)):gb196≠gb195));clear BK195;clear HB;have BK195:=n0_;have HB:=n1_;have BK196:=n2_;have GW196:=n3_;have GE196:=n4_;have NB195_196:=n5_;have NB196_195:=n6_;clear n0_ n1_ n2_ n3_ n4_ n5_ n6_;clear hb hbox hg;have hnb5:=NB195_196.out;have hnc5:=NB196_195.out;have hcz6_0:w4.cell? ⟨gb195,0,none⟩=some (.int .i64 a0_0):=(aj BK195.out 0).trans rfl;have hcz6_1:w4.cell? ⟨gb195,1,none⟩=some (.string a0_1):=(aj BK195.out 1).trans rfl;have hcz6_2:w4.cell? ⟨gb195,2,none⟩=some (.string a0_2):=(aj BK195.out 2).trans rfl;have hcz6_3:w4.cell? ⟨gb195,3,none⟩=some (.slice A0_3 l0_3.length c0_3):=(aj BK195.out 3).trans rfl;have hcz6_4:w4.cell? ⟨gb195,4,none⟩=some (.slice A0_4 l0_4.length c0_4):=(aj BK195.out 4).trans rfl;have hfz6_0:=ai BK195.out 0;have hfz6_1:=ai BK195.out 1;have hfz6_2:=ai BK195.out 2;have hfz6_3:=ai BK195.out 3;have hfz6_4:=ai BK195.out 4))
 go_loopg [5,15] k (fun kq v5 v15 w'=>∃ (x5_1:List Int) (x15_1:Int),v15=.int .i64 x15_1∧aa (bP.l0 kq x5_1 l0_4 (l0_4.length:Int) x15_1 a0_0 a0_1 a0_2 l0_3 l0_4 a1_0 l1_1=some r)∧aa (kq≤k)∧aa (Kd.R (Kd.int .i64) 3 w' w.heap.size (fun _=>True) v5 x5_1)∧aa (w'.heap[gb195]?=some (.cells #[.int .i64 a0_0,.string a0_1,.string a0_2,(.slice A0_3 l0_3.length c0_3),(.slice A0_4 l0_4.length c0_4)] 25 (0,0)))∧aa (w'.heap[gb196]?=some (.cells #[.string a1_0,(.slice A1_1 l1_1.length c1_1)] 28 (0,0)))∧aa (Below w.heap.size w w'))
 case atStart=>exact ⟨(([]:List Int)),(0),(by first|rfl|(simp;done)|(simp [*];done)|(simp [*,aT,aU,bU];done)|(simp only [ay,ax];done)|(simp only [ay,ax];simp;done)|(simp only [ay,ax];simp [*];done)),H',⟨Nat.le_refl _⟩,⟨by first|exact Kd.ko _ _ _ _ _|exact Kd.oL _ _ _ _ _|exact Kd.jw _ _ _ _ _|exact Kd.oO _ _ _ _ _|exact Kd.oP _ _ _ _ _⟩,⟨by (with_reducible repeat (first|refine au ?_ _|refine av ?_|refine ak ?_ _));exact BK195.out⟩,⟨by (with_reducible repeat (first|refine au ?_ _|refine av ?_|refine ak ?_ _));exact BK196.out⟩,⟨by repeat (first|(with_reducible first|exact HB.out|apply af|apply ae|apply ag|refine ah ?_ GE195.out|refine ah ?_ GE196.out)|exact HB.out)⟩⟩
 case round =>
  clear H'
  try clear c1
  try clear c2
  try clear p2
  try clear c5
  try clear hcz6_0
  try clear hcz6_1
  try clear hcz6_2
  try clear hcz6_3
  try clear hcz6_4
  try clear hfz6_0
  try clear hfz6_1
  try clear hfz6_2
  try clear hfz6_3
  try clear hfz6_4
  obtain ⟨x5_1,x15_1,rfl,HA,HK1,HO_5,BK195,BK196,HB⟩:=hrel
  cases gk with
  | zero=>exact absurd HA.out (by simp [bP.l0])
  | succ k1 =>
   have H:=HA.out
   clear HA
   simp only [bP.l0] at H
   by_cases c7:x15_1 < (l0_4.length:Int)
   ·rw [if_pos c7] at H
    have c7b0:decide (x15_1 < (l0_4.length:Int))=true:=decide_eq_true c7
    clear c7
    by_cases c8:0≤x15_1
    ·rw [if_pos c8] at H
     have c8b0:decide (0≤x15_1)=true:=decide_eq_true c8
     clear c8
     by_cases c9:x15_1 < (l0_4.length:Int)
     ·rw [if_pos c9] at H
      have c9b0:decide (x15_1 < (l0_4.length:Int))=true:=decide_eq_true c9
      clear c9
      replace H:=Option.bind_eq_some_iff.mp H
      obtain ⟨t199,A100,H⟩:=H
      replace H:(if x5_1.length < 17592186044416 then (bP.l0 k1 (x5_1++[t199]) l0_4 (l0_4.length:Int) (wrap64 (x15_1+1)) a0_0 a0_1 a0_2 l0_3 l0_4 a1_0 l1_1) else (none))=some r:=H
      have A10:=aa.mk A100
      clear A100
      by_cases c11:x5_1.length < 17592186044416
      ·rw [if_pos c11] at H
       have LMc11:=aa.mk c11
       clear c11
       obtain ⟨y200,hy200⟩:∃ y_:List Int,y_=(x5_1++[t199]):=⟨_,rfl⟩
       replace H:(bP.l0 k1 y200 l0_4 (l0_4.length:Int) (wrap64 (x15_1+1)) a0_0 a0_1 a0_2 l0_3 l0_4 a1_0 l1_1)=some r:=by first|(rw [hy200];with_reducible exact H)|(have H2_:=(Option.bind_some _ _).symm.trans H;rw [hy200];with_reducible exact H2_)|(have H2_:=(Option.bind_some _ _).symm.trans H;with_reducible exact H2_)|with_reducible exact H|(rw [hy200];exact H)|exact H
       have Ny200:=aa.mk hy200
       clear hy200
       have H':=aa.mk H
       clear H
       have p197:0≤(x15_1:Int):=of_decide_eq_true (by first|(with_reducible assumption)|assumption)
       have q197:x15_1 < (l0_4.length:Int):=of_decide_eq_true (by first|(with_reducible assumption)|assumption)
       obtain ⟨ad197,A197_3,c197_3,A197_4,c197_4,e197,hx197_0,hx197_1,hx197_2,hx197_3,hx197_4,hl197_3,hi197_3,hl197_4,hi197_4⟩:=jo HR0_4.out x15_1 p197 q197
       cases e197
       replace hx197_0:=(HB.out.cell (World.block_lt_of_cell? w _ hx197_0)).trans hx197_0
       replace hx197_1:=(HB.out.cell (World.block_lt_of_cell? w _ hx197_1)).trans hx197_1
       replace hx197_2:=(HB.out.cell (World.block_lt_of_cell? w _ hx197_2)).trans hx197_2
       replace hx197_3:=(HB.out.cell (World.block_lt_of_cell? w _ hx197_3)).trans hx197_3
       replace hx197_4:=(HB.out.cell (World.block_lt_of_cell? w _ hx197_4)).trans hx197_4
       have HR197_3:=aa.mk hi197_3
       have HC197_3:=aa.mk hl197_3
       clear hi197_3 hl197_3
       have HR197_4:=aa.mk hi197_4
       have HC197_4:=aa.mk hl197_4
       clear hi197_4 hl197_4
       replace p197:=eq_true p197
       replace q197:=eq_true q197
       go_wp2_with (first|((with_reducible refine bS (N:=7) rfl ?_);refine eu ?hg (N:=7) ?hd (cs:=#[.int .i64 0,.string (⟨#[]⟩:ByteArray),.string (⟨#[]⟩:ByteArray),.slice none 0 0,.slice none 0 0]) (t:=25) ?hr ?_;(case hd=>rfl);(case hg=>rfl);(case hr=>first|(go_simp;done)|(go_simp;rfl));intro gb198 hg w12 hbox hb;have n0_:=aa.mk (Kd.bR (by (with_reducible repeat (first|apply Kd.bz|apply Kd.bq|apply Kd.bB));exact HO_5.out) hb);have n1_:=aa.mk (aI (g:=gb195) (o:=.cells #[.int .i64 a0_0,.string a0_1,.string a0_2,.slice A0_3 l0_3.length c0_3,.slice (some ad197) l0_4.length c0_4] 25 (0,0)) (by (with_reducible repeat (first|refine au ?_ _|refine av ?_|refine ak ?_ _));exact BK195.out) hb);have n2_:=aa.mk (aI (g:=gb196) (o:=.cells #[.string a1_0,.slice A1_1 l1_1.length c1_1] 28 (0,0)) (by (with_reducible repeat (first|refine au ?_ _|refine av ?_|refine ak ?_ _));exact BK196.out) hb);have n3_:=aa.mk (aD (by repeat (first|(with_reducible first|exact HB.out|apply af|apply ae|apply ag|refine ah ?_ GE195.out|refine ah ?_ GE196.out)|exact HB.out)) hb);have n4_:=aa.mk (hbox);have n5_:=aa.mk ((by rw [hg];exact (aG (by repeat (first|(with_reducible first|exact HB.out|apply af|apply ae|apply ag|refine ah ?_ GE195.out|refine ah ?_ GE196.out)|exact HB.out))):w.heap.size≤gb198));have n6_:=aa.mk ((by rw [hg];exact (aG (by repeat (first|(with_reducible first|exact HB.out|apply af|apply ae|apply ag|refine ah ?_ GE195.out|refine ah ?_ GE196.out)|exact HB.out))):w.heap.size≤gb198));have n7_:=aa.mk ((by rw [hg];exact Nat.ne_of_lt (fO (g:=gb195) (o:=.cells #[.int .i64 a0_0,.string a0_1,.string a0_2,.slice A0_3 l0_3.length c0_3,.slice (some ad197) l0_4.length c0_4] 25 (0,0)) (by (with_reducible repeat (first|refine au ?_ _|refine av ?_|refine ak ?_ _));exact BK195.out)):gb195≠gb198));have n8_:=aa.mk ((by rw [hg];exact Nat.ne_of_gt (fO (g:=gb195) (o:=.cells #[.int .i64 a0_0,.string a0_1,.string a0_2,.slice A0_3 l0_3.length c0_3,.slice (some ad197) l0_4.length c0_4] 25 (0,0)) (by (with_reducible repeat (first|refine au ?_ _|refine av ?_|refine ak ?_ _));exact BK195.out)):gb198≠gb195));have n9_:=aa.mk ((by rw [hg];exact Nat.ne_of_lt (fO (g:=gb196) (o:=.cells #[.string a1_0,.slice A1_1 l1_1.length c1_1] 28 (0,0)) (by (with_reducible repeat (first|refine au ?_ _|refine av ?_|refine ak ?_ _));exact BK196.out)):gb196≠gb198));have n10_:=aa.mk ((by rw [hg];exact Nat.ne_of_gt (fO (g:=gb196) (o:=.cells #[.string a1_0,.slice A1_1 l1_1.length c1_1] 28 (0,0)) (by (with_reducible repeat (first|refine au ?_ _|refine av ?_|refine ak ?_ _));exact BK196.out)):gb198≠gb196));clear HO_5;clear BK195;clear BK196;clear HB;have HO_5:=n0_;have BK195:=n1_;have BK196:=n2_;have HB:=n3_;have BK198:=n4_;have GW198:=n5_;have GE198:=n6_;have NB195_198:=n7_;have NB198_195:=n8_;have NB196_198:=n9_;have NB198_196:=n10_;clear n0_ n1_ n2_ n3_ n4_ n5_ n6_ n7_ n8_ n9_ n10_;clear hb hbox hg;have hnb13:=NB198_195.out;have hnc13:=NB195_198.out;have hnb14:=NB198_196.out;have hnc14:=NB196_198.out;have hcz15_0:w12.cell? ⟨gb198,0,none⟩=some (.int .i64 0):=(aj BK198.out 0).trans rfl;have hcz15_1:w12.cell? ⟨gb198,1,none⟩=some (.string (⟨#[]⟩:ByteArray)):=(aj BK198.out 1).trans rfl;have hcz15_2:w12.cell? ⟨gb198,2,none⟩=some (.string (⟨#[]⟩:ByteArray)):=(aj BK198.out 2).trans rfl;have hcz15_3:w12.cell? ⟨gb198,3,none⟩=some (.slice none 0 0):=(aj BK198.out 3).trans rfl;have hcz15_4:w12.cell? ⟨gb198,4,none⟩=some (.slice none 0 0):=(aj BK198.out 4).trans rfl;have hfz15_0:=ai BK198.out 0;have hfz15_1:=ai BK198.out 1;have hfz15_2:=ai BK198.out 2;have hfz15_3:=ai BK198.out 3;have hfz15_4:=ai BK198.out 4;have hnb16:=NB196_195.out;have hnc16:=NB195_196.out;have hcz17_0:w12.cell? ⟨gb196,0,none⟩=some (.string a1_0):=(aj BK196.out 0).trans rfl;have hcz17_1:w12.cell? ⟨gb196,1,none⟩=some (.slice A1_1 l1_1.length c1_1):=(aj BK196.out 1).trans rfl;have hfz17_0:=ai BK196.out 0;have hfz17_1:=ai BK196.out 1)|((with_reducible refine aV (f:=27) rfl ?_);refine bJ (some 22) rfl rfl Tryz.func27 (by kernel_rfl) rfl #[.agg #[.int .i64 ((az l0_4 x15_1).f0),.string ((az l0_4 x15_1).f1),.string ((az l0_4 x15_1).f2),.slice A197_3 ((az l0_4 x15_1).f3).length c197_3,.slice A197_4 ((az l0_4 x15_1).f4).length c197_4],.agg #[.string a1_0,.slice A1_1 l1_1.length c1_1]] rfl (by (try simp only [List.map_toArray,List.map_cons,List.map_nil]);first|done|rfl|(simp only [List.length_drop,List.length_take];rfl)) ?_;(with_reducible refine (ih k1 (by have:=HK1.out;omega) ((az l0_4 x15_1).f0) ((az l0_4 x15_1).f1) ((az l0_4 x15_1).f2) _ _ ((az l0_4 x15_1).f3) _ _ ((az l0_4 x15_1).f4) a1_0 _ _ l1_1 t199 _ ?side1 ?side2 ?side3 ?side4 ?side5 ?side6 ?side7 A10.out).mono ?_);(case side1=>exact Kd.bf HR197_3.out (by repeat (first|(with_reducible first|exact HB.out|apply af|apply ae|apply ag|refine ah ?_ GE195.out|refine ah ?_ GE196.out|refine ah ?_ GE198.out)|exact HB.out)));(case side2=>exact HC197_3.out);(case side3=>exact Kd.bf HR197_4.out (by repeat (first|(with_reducible first|exact HB.out|apply af|apply ae|apply ag|refine ah ?_ GE195.out|refine ah ?_ GE196.out|refine ah ?_ GE198.out)|exact HB.out)));(case side4=>exact HC197_4.out);(case side5=>exact Kd.bf HR1_1.out (by repeat (first|(with_reducible first|exact HB.out|apply af|apply ae|apply ag|refine ah ?_ GE195.out|refine ah ?_ GE196.out|refine ah ?_ GE198.out)|exact HB.out)));(case side6=>exact HC1_1.out);(case side7=>first|exact HG.out|exact Gl.drewN HG.out _|exact Gl.below HG.out (by repeat (first|(with_reducible first|exact HB.out|apply af|apply ae|apply ag|refine ah ?_ GE195.out|refine ah ?_ GE196.out|refine ah ?_ GE198.out)|exact HB.out)));rintro e w18 ⟨rfl,hb⟩;refine ⟨_,rfl,?_⟩;have n0_:=aa.mk (Kd.bR (by (with_reducible repeat (first|apply Kd.bz|apply Kd.bq|apply Kd.bB));exact (Kd.bX (Kd.je (p:=⟨gb198,4,none⟩) (Kd.je (p:=⟨gb198,3,none⟩) (Kd.je (p:=⟨gb198,2,none⟩) (Kd.je (p:=⟨gb198,1,none⟩) (Kd.je (p:=⟨gb198,0,none⟩) (Kd.bK HO_5.out BK198.out (by decide)) (fun _ hk=>hk.2) (.int .i64 ((az l0_4 x15_1).f0))) (fun _ hk=>hk.2) (.string ((az l0_4 x15_1).f1))) (fun _ hk=>hk.2) (.string ((az l0_4 x15_1).f2))) (fun _ hk=>hk.2) (.slice A197_3 ((az l0_4 x15_1).f3).length c197_3)) (fun _ hk=>hk.2) (.slice A197_4 ((az l0_4 x15_1).f4).length c197_4)) (fun _ h_=>h_.1))) hb);have n1_:=aa.mk (aI (g:=gb195) (o:=.cells #[.int .i64 a0_0,.string a0_1,.string a0_2,.slice A0_3 l0_3.length c0_3,.slice (some ad197) l0_4.length c0_4] 25 (0,0)) (by (with_reducible repeat (first|refine au ?_ _|refine av ?_|refine ak ?_ _));refine dB ?_ NB195_198.out _;(with_reducible repeat (first|refine au ?_ _|refine av ?_|refine ak ?_ _));refine dB ?_ NB195_198.out _;(with_reducible repeat (first|refine au ?_ _|refine av ?_|refine ak ?_ _));refine dB ?_ NB195_198.out _;(with_reducible repeat (first|refine au ?_ _|refine av ?_|refine ak ?_ _));refine dB ?_ NB195_198.out _;(with_reducible repeat (first|refine au ?_ _|refine av ?_|refine ak ?_ _));refine dB ?_ NB195_198.out _;(with_reducible repeat (first|refine au ?_ _|refine av ?_|refine ak ?_ _));exact BK195.out) hb);have n2_:=aa.mk (aI (g:=gb196) (o:=.cells #[.string a1_0,.slice A1_1 l1_1.length c1_1] 28 (0,0)) (by (with_reducible repeat (first|refine au ?_ _|refine av ?_|refine ak ?_ _));refine dB ?_ NB196_198.out _;(with_reducible repeat (first|refine au ?_ _|refine av ?_|refine ak ?_ _));refine dB ?_ NB196_198.out _;(with_reducible repeat (first|refine au ?_ _|refine av ?_|refine ak ?_ _));refine dB ?_ NB196_198.out _;(with_reducible repeat (first|refine au ?_ _|refine av ?_|refine ak ?_ _));refine dB ?_ NB196_198.out _;(with_reducible repeat (first|refine au ?_ _|refine av ?_|refine ak ?_ _));refine dB ?_ NB196_198.out _;(with_reducible repeat (first|refine au ?_ _|refine av ?_|refine ak ?_ _));exact BK196.out) hb);have n3_:=aa.mk (aI (g:=gb198) (o:=.cells #[.int .i64 ((az l0_4 x15_1).f0),.string ((az l0_4 x15_1).f1),.string ((az l0_4 x15_1).f2),.slice A197_3 ((az l0_4 x15_1).f3).length c197_3,.slice A197_4 ((az l0_4 x15_1).f4).length c197_4] 25 (0,0)) (by (with_reducible repeat (first|refine au ?_ _|refine av ?_|refine ak ?_ _));refine bG (cs:=#[.int .i64 ((az l0_4 x15_1).f0),.string ((az l0_4 x15_1).f1),.string ((az l0_4 x15_1).f2),.slice A197_3 ((az l0_4 x15_1).f3).length c197_3,.slice none 0 0]) ?_ 4 _ (by first|rfl|(simp only [ay,ax];rfl)|simp [ay,ax]);(with_reducible repeat (first|refine au ?_ _|refine av ?_|refine ak ?_ _));refine bG (cs:=#[.int .i64 ((az l0_4 x15_1).f0),.string ((az l0_4 x15_1).f1),.string ((az l0_4 x15_1).f2),.slice none 0 0,.slice none 0 0]) ?_ 3 _ (by first|rfl|(simp only [ay,ax];rfl)|simp [ay,ax]);(with_reducible repeat (first|refine au ?_ _|refine av ?_|refine ak ?_ _));refine bG (cs:=#[.int .i64 ((az l0_4 x15_1).f0),.string ((az l0_4 x15_1).f1),.string (⟨#[]⟩:ByteArray),.slice none 0 0,.slice none 0 0]) ?_ 2 _ (by first|rfl|(simp only [ay,ax];rfl)|simp [ay,ax]);(with_reducible repeat (first|refine au ?_ _|refine av ?_|refine ak ?_ _));refine bG (cs:=#[.int .i64 ((az l0_4 x15_1).f0),.string (⟨#[]⟩:ByteArray),.string (⟨#[]⟩:ByteArray),.slice none 0 0,.slice none 0 0]) ?_ 1 _ (by first|rfl|(simp only [ay,ax];rfl)|simp [ay,ax]);(with_reducible repeat (first|refine au ?_ _|refine av ?_|refine ak ?_ _));refine bG (cs:=#[.int .i64 0,.string (⟨#[]⟩:ByteArray),.string (⟨#[]⟩:ByteArray),.slice none 0 0,.slice none 0 0]) ?_ 0 _ (by first|rfl|(simp only [ay,ax];rfl)|simp [ay,ax]);(with_reducible repeat (first|refine au ?_ _|refine av ?_|refine ak ?_ _));exact BK198.out) hb);have n4_:=aa.mk (aD (by repeat (first|(with_reducible first|exact HB.out|apply af|apply ae|apply ag|refine ah ?_ GE195.out|refine ah ?_ GE196.out|refine ah ?_ GE198.out)|exact HB.out)) hb);clear HO_5;clear BK195;clear BK196;clear BK198;clear HB;have HO_5:=n0_;have BK195:=n1_;have BK196:=n2_;have BK198:=n3_;have HB:=n4_;clear n0_ n1_ n2_ n3_ n4_;(try clear hb);(try clear hb2);(try clear hk);(try clear hi))|((with_reducible refine iL (b:=.append) (xs:=#[.tmp 19,.tmp 23]) rfl ?_);at_builtin;refine Kd.lU (Kd.int .i64) (w0:=w) w.heap.size rfl (.tmp 19) (.tmp 23) 41 3 (.int .i64 0) 8 rfl Tryz.underlying41 info3 rfl (by decide) (by omega) u5 x5_1 t199 [.int .i64 t199] (fun _=>True) (fun _=>False) rfl rfl ?aP (fun _ hk=>hk.elim) ?aF ?aO ?aB ?aS ?aL ?_;(case aP=>exact rfl);(case aB=>exact (by repeat (first|(with_reducible first|exact HB.out|apply af|apply ae|apply ag|refine ah ?_ GE195.out|refine ah ?_ GE196.out|refine ah ?_ GE198.out)|exact HB.out)));(case aF=>exact (fun _ _=>trivial));(case aO=>exact (by (with_reducible repeat (first|apply Kd.bz|apply Kd.bq|apply Kd.bB));exact HO_5.out));(case aS=>exact (aG (by repeat (first|(with_reducible first|exact HB.out|apply af|apply ae|apply ag|refine ah ?_ GE195.out|refine ah ?_ GE196.out|refine ah ?_ GE198.out)|exact HB.out))));(case aL=>have:=LMc11.out;omega);intro v201 w19 ho hb hg hat;rw [← Ny200.out] at ho;have n0_:=aa.mk (dH (g:=gb195) (o:=.cells #[.int .i64 a0_0,.string a0_1,.string a0_2,.slice A0_3 l0_3.length c0_3,.slice (some ad197) l0_4.length c0_4] 25 (0,0)) (by (with_reducible repeat (first|refine au ?_ _|refine av ?_|refine ak ?_ _));exact BK195.out) hg (Kd.mK HO_5.out BK195.out (by decide)));have n1_:=aa.mk (dH (g:=gb196) (o:=.cells #[.string a1_0,.slice A1_1 l1_1.length c1_1] 28 (0,0)) (by (with_reducible repeat (first|refine au ?_ _|refine av ?_|refine ak ?_ _));exact BK196.out) hg (Kd.mK HO_5.out BK196.out (by decide)));have n2_:=aa.mk (dH (g:=gb198) (o:=.cells #[.int .i64 ((az l0_4 x15_1).f0),.string ((az l0_4 x15_1).f1),.string ((az l0_4 x15_1).f2),.slice A197_3 ((az l0_4 x15_1).f3).length c197_3,.slice A197_4 ((az l0_4 x15_1).f4).length c197_4] 25 (0,0)) (by (with_reducible repeat (first|refine au ?_ _|refine av ?_|refine ak ?_ _));exact BK198.out) hg (Kd.mK HO_5.out BK198.out (by decide)));have n3_:=aa.mk (hb);have n4_:=aa.mk (ho);clear BK195;clear BK196;clear BK198;clear HB;clear HO_5;have BK195:=n0_;have BK196:=n1_;have BK198:=n2_;have HB:=n3_;have HO202:=n4_;clear n0_ n1_ n2_ n3_ n4_;clear ho hb hg hat))
       go_roundg k1
       case measure=>have:=HK1.out;omega
       case rel=>exact ⟨(y200),(wrap64 (x15_1+1)),(by first|rfl|(simp;done)|(simp [*];done)|(simp [*,aT,aU,bU];done)|(simp only [ay,ax];done)|(simp only [ay,ax];simp;done)|(simp only [ay,ax];simp [*];done)),H',⟨by have:=HK1.out;omega⟩,⟨by (with_reducible repeat (first|apply Kd.bz|apply Kd.bq|apply Kd.bB));exact HO202.out⟩,⟨by (with_reducible repeat (first|refine au ?_ _|refine av ?_|refine ak ?_ _));exact BK195.out⟩,⟨by (with_reducible repeat (first|refine au ?_ _|refine av ?_|refine ak ?_ _));exact BK196.out⟩,⟨by repeat (first|(with_reducible first|exact HB.out|apply af|apply ae|apply ag|refine ah ?_ GE195.out|refine ah ?_ GE196.out|refine ah ?_ GE198.out)|exact HB.out)⟩⟩
      ·rw [if_neg c11] at H
       exact absurd H (by simp)
     ·rw [if_neg c9] at H
      exact absurd H (by simp)
    ·rw [if_neg c8] at H
     exact absurd H (by simp)
   ·rw [if_neg c7] at H
    have c7b0:decide (x15_1 < (l0_4.length:Int))=false:=decide_eq_false c7
    clear c7
    by_cases c20:a0_0=1
    ·rw [if_pos c20] at H
     have c20b0:(a0_0 == 1)=true:=beq_iff_eq.mpr c20
     have c20b1:(a0_0 != 1)=false:=bne_eq_false_iff_eq.mpr c20
     clear c20
     replace H:=Option.bind_eq_some_iff.mp H
     obtain ⟨t203,A210,H⟩:=H
     replace H:(some t203)=some r:=H
     have A21:=aa.mk A210
     clear A210
     obtain rfl:=Option.some.inj H
     have hnb22:=NB195_196.out
     have hnc22:=NB196_195.out
     have hcz23_0:wr.cell? ⟨gb195,0,none⟩=some (.int .i64 a0_0):=(aj BK195.out 0).trans rfl
     have hcz23_1:wr.cell? ⟨gb195,1,none⟩=some (.string a0_1):=(aj BK195.out 1).trans rfl
     have hcz23_2:wr.cell? ⟨gb195,2,none⟩=some (.string a0_2):=(aj BK195.out 2).trans rfl
     have hcz23_3:wr.cell? ⟨gb195,3,none⟩=some (.slice A0_3 l0_3.length c0_3):=(aj BK195.out 3).trans rfl
     have hcz23_4:wr.cell? ⟨gb195,4,none⟩=some (.slice A0_4 l0_4.length c0_4):=(aj BK195.out 4).trans rfl
     have hfz23_0:=ai BK195.out 0
     have hfz23_1:=ai BK195.out 1
     have hfz23_2:=ai BK195.out 2
     have hfz23_3:=ai BK195.out 3
     have hfz23_4:=ai BK195.out 4
     obtain ⟨Ao24,co24,eo24⟩:=Kd.cO HO_5.out
     subst eo24
     go_wp2_with (first|((with_reducible refine aV (f:=34) rfl ?_);refine bJ (some 31) rfl rfl Tryz.func34 (by kernel_rfl) rfl #[.slice Ao24 x5_1.length co24,.int .i64 0,.int .i64 1] rfl (by (try simp only [List.map_toArray,List.map_cons,List.map_nil]);first|done|rfl|(simp only [List.length_drop,List.length_take];rfl)) ?_;(with_reducible refine (fT.calls k1 _ _ x5_1 0 1 t203 _ ?side1 ?side2 A21.out).mono ?_);(case side1=>repeat (first|exact (Kd.bL HO_5.out).2.2|(with_reducible refine Kd.aN ?_ _)|(with_reducible refine Kd.aQ ?_ _)|(with_reducible refine Kd.aW ?_)));(case side2=>exact (Kd.bL HO_5.out).2.1);rintro e w' ⟨rfl,⟨nd,rfl⟩⟩;refine ⟨_,rfl,?_⟩))
     go_ret
     exact ⟨by first|rfl|(simp [aM,aK] <;> rfl)|(simp [*,aM,aK] <;> rfl),by repeat (first|(with_reducible first|exact HB.out|apply af|apply ae|apply ag|refine ah ?_ GE195.out|refine ah ?_ GE196.out)|exact HB.out)⟩
    ·rw [if_neg c20] at H
     have c20b0:(a0_0 == 1)=false:=beq_eq_false_iff_ne.mpr c20
     have c20b1:(a0_0 != 1)=true:=bne_iff_ne.mpr c20
     by_cases c25:a0_0=2
     ·rw [if_pos c25] at H
      have c25b0:(a0_0 == 2)=true:=beq_iff_eq.mpr c25
      have c25b1:(a0_0 != 2)=false:=bne_eq_false_iff_eq.mpr c25
      clear c25
      replace H:=Option.bind_eq_some_iff.mp H
      obtain ⟨t204,A260,H⟩:=H
      replace H:(some t204)=some r:=H
      have A26:=aa.mk A260
      clear A260
      obtain rfl:=Option.some.inj H
      have hnb27:=NB195_196.out
      have hnc27:=NB196_195.out
      have hcz28_0:wr.cell? ⟨gb195,0,none⟩=some (.int .i64 a0_0):=(aj BK195.out 0).trans rfl
      have hcz28_1:wr.cell? ⟨gb195,1,none⟩=some (.string a0_1):=(aj BK195.out 1).trans rfl
      have hcz28_2:wr.cell? ⟨gb195,2,none⟩=some (.string a0_2):=(aj BK195.out 2).trans rfl
      have hcz28_3:wr.cell? ⟨gb195,3,none⟩=some (.slice A0_3 l0_3.length c0_3):=(aj BK195.out 3).trans rfl
      have hcz28_4:wr.cell? ⟨gb195,4,none⟩=some (.slice A0_4 l0_4.length c0_4):=(aj BK195.out 4).trans rfl
      have hfz28_0:=ai BK195.out 0
      have hfz28_1:=ai BK195.out 1
      have hfz28_2:=ai BK195.out 2
      have hfz28_3:=ai BK195.out 3
      have hfz28_4:=ai BK195.out 4
      obtain ⟨Ao29,co29,eo29⟩:=Kd.cO HO_5.out
      subst eo29
      go_wp2_with (first|((with_reducible refine aV (f:=34) rfl ?_);refine bJ (some 35) rfl rfl Tryz.func34 (by kernel_rfl) rfl #[.slice Ao29 x5_1.length co29,.int .i64 1,.int .i64 0] rfl (by (try simp only [List.map_toArray,List.map_cons,List.map_nil]);first|done|rfl|(simp only [List.length_drop,List.length_take];rfl)) ?_;(with_reducible refine (fT.calls k1 _ _ x5_1 1 0 t204 _ ?side1 ?side2 A26.out).mono ?_);(case side1=>repeat (first|exact (Kd.bL HO_5.out).2.2|(with_reducible refine Kd.aN ?_ _)|(with_reducible refine Kd.aQ ?_ _)|(with_reducible refine Kd.aW ?_)));(case side2=>exact (Kd.bL HO_5.out).2.1);rintro e w' ⟨rfl,⟨nd,rfl⟩⟩;refine ⟨_,rfl,?_⟩))
      go_ret
      exact ⟨by first|rfl|(simp [aM,aK] <;> rfl)|(simp [*,aM,aK] <;> rfl),by repeat (first|(with_reducible first|exact HB.out|apply af|apply ae|apply ag|refine ah ?_ GE195.out|refine ah ?_ GE196.out)|exact HB.out)⟩
     ·rw [if_neg c25] at H
      have c25b0:(a0_0 == 2)=false:=beq_eq_false_iff_ne.mpr c25
      have c25b1:(a0_0 != 2)=true:=bne_iff_ne.mpr c25
      by_cases c30:a0_0=3
      ·rw [if_pos c30] at H
       have c30b0:(a0_0 == 3)=true:=beq_iff_eq.mpr c30
       have c30b1:(a0_0 != 3)=false:=bne_eq_false_iff_eq.mpr c30
       clear c30
       obtain ⟨y205,hy205⟩:∃ y_:List Int,y_=(([1,0,2]:List Int)):=⟨_,rfl⟩
       replace H:(if 0 < (x5_1.length:Int) then (if 0≤(rd x5_1 0) then (if (rd x5_1 0) < (y205.length:Int) then (some (rd y205 (rd x5_1 0))) else (none)) else (none)) else (none))=some r:=by first|(rw [hy205];with_reducible exact H)|(have H2_:=(Option.bind_some _ _).symm.trans H;rw [hy205];with_reducible exact H2_)|(have H2_:=(Option.bind_some _ _).symm.trans H;with_reducible exact H2_)|with_reducible exact H|(rw [hy205];exact H)|exact H
       have Ny205:=aa.mk hy205
       clear hy205
       by_cases c31:0 < (x5_1.length:Int)
       ·rw [if_pos c31] at H
        have c31b0:decide (0 < (x5_1.length:Int))=true:=decide_eq_true c31
        have c31b1:decide (0 < x5_1.length)=true:=decide_eq_true (by omega)
        clear c31
        by_cases c32:0≤(rd x5_1 0)
        ·rw [if_pos c32] at H
         have c32b0:decide (0≤(rd x5_1 0))=true:=decide_eq_true c32
         clear c32
         by_cases c33:(rd x5_1 0) < (y205.length:Int)
         ·rw [if_pos c33] at H
          have c33b0:decide ((rd x5_1 0) < (y205.length:Int))=true:=decide_eq_true c33
          clear c33
          obtain rfl:=Option.some.inj H
          have hnb34:=NB195_196.out
          have hnc34:=NB196_195.out
          have hcz35_0:wr.cell? ⟨gb195,0,none⟩=some (.int .i64 a0_0):=(aj BK195.out 0).trans rfl
          have hcz35_1:wr.cell? ⟨gb195,1,none⟩=some (.string a0_1):=(aj BK195.out 1).trans rfl
          have hcz35_2:wr.cell? ⟨gb195,2,none⟩=some (.string a0_2):=(aj BK195.out 2).trans rfl
          have hcz35_3:wr.cell? ⟨gb195,3,none⟩=some (.slice A0_3 l0_3.length c0_3):=(aj BK195.out 3).trans rfl
          have hcz35_4:wr.cell? ⟨gb195,4,none⟩=some (.slice A0_4 l0_4.length c0_4):=(aj BK195.out 4).trans rfl
          have hfz35_0:=ai BK195.out 0
          have hfz35_1:=ai BK195.out 1
          have hfz35_2:=ai BK195.out 2
          have hfz35_3:=ai BK195.out 3
          have hfz35_4:=ai BK195.out 4
          go_wp2_with (first|((with_reducible refine bS (N:=38) rfl ?_);refine Kd.jb (Kd.int .i64) _ 3 ?hg (N:=38) ?hd (xs:=([1,0,2]:List Int)) (inner:=[.int .i64 1,.int .i64 0,.int .i64 2]) (ok:=fun _=>True) (okp:=fun _=>True) ?hr ?hp (fun _ hk=>hk) trivial (Below.refl _ _) (Nat.le_refl _) (by simp) ?_;(case hd=>rfl);(case hg=>rfl);(case hr=>first|(go_simp;done)|(go_simp;rfl));(case hp=>exact (bI.one (show Kd.M (Kd.int .i64) _ _ _ 1 [.int .i64 1] from rfl) (bI.one (show Kd.M (Kd.int .i64) _ _ _ 0 [.int .i64 0] from rfl) (bI.one (show Kd.M (Kd.int .i64) _ _ _ 2 [.int .i64 2] from rfl) (bI.none _ _)))));intro v206 w36 ho37 hb hg_ hnew_;clear hg_ hnew_;(first|rw [← Ny205.out] at ho37|(simp only [Int.reduceToNat] at ho37;rw [← Ny205.out] at ho37));have n0_:=aa.mk (Kd.eY (by (with_reducible repeat (first|apply Kd.bz|apply Kd.bq|apply Kd.bB));exact HO_5.out) (Kd.dI ho37) hb);have n1_:=aa.mk (Kd.dN (Kd.gB ho37 (Kd.iD (by (with_reducible repeat (first|apply Kd.bz|apply Kd.bq|apply Kd.bB));exact HO_5.out))) (aG (by repeat (first|(with_reducible first|exact HB.out|apply af|apply ae|apply ag|refine ah ?_ GE195.out|refine ah ?_ GE196.out)|exact HB.out))));have n2_:=aa.mk (aI (g:=gb195) (o:=.cells #[.int .i64 a0_0,.string a0_1,.string a0_2,.slice A0_3 l0_3.length c0_3,.slice A0_4 l0_4.length c0_4] 25 (0,0)) (by (with_reducible repeat (first|refine au ?_ _|refine av ?_|refine ak ?_ _));exact BK195.out) hb);have n3_:=aa.mk (aI (g:=gb196) (o:=.cells #[.string a1_0,.slice A1_1 l1_1.length c1_1] 28 (0,0)) (by (with_reducible repeat (first|refine au ?_ _|refine av ?_|refine ak ?_ _));exact BK196.out) hb);have n4_:=aa.mk (aD (by repeat (first|(with_reducible first|exact HB.out|apply af|apply ae|apply ag|refine ah ?_ GE195.out|refine ah ?_ GE196.out)|exact HB.out)) hb);clear HO_5;clear BK195;clear BK196;clear HB;have HO_5:=n0_;have HO207:=n1_;have BK195:=n2_;have BK196:=n3_;have HB:=n4_;clear n0_ n1_ n2_ n3_ n4_;clear hb ho37;obtain ⟨Ao38,co38,eo38⟩:=Kd.cO HO_5.out;subst eo38;have p208:0≤(0:Int):=(by omega);have q208:0 < (x5_1.length:Int):=of_decide_eq_true (by first|(with_reducible assumption)|assumption);obtain ⟨ad208,e208,hx208_0⟩:=Kd.fD (Kd.bL HO_5.out).2.2 0 p208 q208;cases e208;have qi208:(0 < x5_1.length)=True:=eq_true (by omega);(try rw [show ((0:Int)).toNat=0 from rfl] at hx208_0);(try rw [Addr.add_zero'] at hx208_0);replace p208:=eq_true p208;replace q208:=eq_true q208;obtain ⟨Ao39,co39,eo39⟩:=Kd.cO HO207.out;subst eo39;have p209:0≤((rd x5_1 0):Int):=of_decide_eq_true (by first|(with_reducible assumption)|assumption);have q209:(rd x5_1 0) < (y205.length:Int):=of_decide_eq_true (by first|(with_reducible assumption)|assumption);obtain ⟨ad209,e209,hx209_0⟩:=Kd.fD (Kd.bL HO207.out).2.2 (rd x5_1 0) p209 q209;cases e209;replace p209:=eq_true p209;replace q209:=eq_true q209))
          go_ret
          exact ⟨by first|rfl|(simp [aM,aK] <;> rfl)|(simp [*,aM,aK] <;> rfl),by repeat (first|(with_reducible first|exact HB.out|apply af|apply ae|apply ag|refine ah ?_ GE195.out|refine ah ?_ GE196.out)|exact HB.out)⟩
         ·rw [if_neg c33] at H
          exact absurd H (by simp)
        ·rw [if_neg c32] at H
         exact absurd H (by simp)
       ·rw [if_neg c31] at H
        exact absurd H (by simp)
      ·rw [if_neg c30] at H
       have c30b0:(a0_0 == 3)=false:=beq_eq_false_iff_ne.mpr c30
       have c30b1:(a0_0 != 3)=true:=bne_iff_ne.mpr c30
       replace H:=Option.bind_eq_some_iff.mp H
       obtain ⟨⟨t210,t211⟩,A400,H⟩:=H
       replace H:(if t211=true then (if a0_0=8 then ((dP.f a1_0 l1_1 a0_1).bind fun t212=>((dJ.f (decide ((t212.length:Int) > 0))).bind fun t215=>(some t215))) else (if a0_0=5 then ((ib.f a0_0 a0_1 a0_2 l0_3 l0_4 a1_0 l1_1).bind fun t216=>(some t216)) else (if a0_0=4 then ((bM.f k1 a0_1 a0_2).bind fun bt217=>(if bt217.2=true then ((fI.f a1_0 l1_1 a0_1 a0_2).bind fun t219=>((dJ.f t219).bind fun t220=>(some t220))) else (some 2))) else ((fE.f a0_0 a0_1 a0_2 l0_3 l0_4 a1_0 l1_1).bind fun t221=>(some t221))))) else (some 2))=some r:=H
       have A40:=aa.mk A400
       clear A400
       by_cases c41:t211=true
       ·subst c41
        have H1:(if a0_0=8 then ((dP.f a1_0 l1_1 a0_1).bind fun t212=>((dJ.f (decide ((t212.length:Int) > 0))).bind fun t215=>(some t215))) else (if a0_0=5 then ((ib.f a0_0 a0_1 a0_2 l0_3 l0_4 a1_0 l1_1).bind fun t216=>(some t216)) else (if a0_0=4 then ((bM.f k1 a0_1 a0_2).bind fun bt217=>(if bt217.2=true then ((fI.f a1_0 l1_1 a0_1 a0_2).bind fun t219=>((dJ.f t219).bind fun t220=>(some t220))) else (some 2))) else ((fE.f a0_0 a0_1 a0_2 l0_3 l0_4 a1_0 l1_1).bind fun t221=>(some t221)))))=some r:=by rw [if_pos rfl] at H;exact H
        clear H
        have H:=H1
        clear H1
        by_cases c42:a0_0=8
        ·rw [if_pos c42] at H
         have c42b0:(a0_0 == 8)=true:=beq_iff_eq.mpr c42
         have c42b1:(a0_0 != 8)=false:=bne_eq_false_iff_eq.mpr c42
         clear c42
         replace H:=Option.bind_eq_some_iff.mp H
         obtain ⟨t212,A430,H⟩:=H
         replace H:((dJ.f (decide ((t212.length:Int) > 0))).bind fun t215=>(some t215))=some r:=H
         have A43:=aa.mk A430
         clear A430
         replace H:=Option.bind_eq_some_iff.mp H
         obtain ⟨t215,A440,H⟩:=H
         replace H:(some t215)=some r:=H
         have A44:=aa.mk A440
         clear A440
         obtain rfl:=Option.some.inj H
         have hnb45:=NB195_196.out
         have hnc45:=NB196_195.out
         have hcz46_0:wr.cell? ⟨gb195,0,none⟩=some (.int .i64 a0_0):=(aj BK195.out 0).trans rfl
         have hcz46_1:wr.cell? ⟨gb195,1,none⟩=some (.string a0_1):=(aj BK195.out 1).trans rfl
         have hcz46_2:wr.cell? ⟨gb195,2,none⟩=some (.string a0_2):=(aj BK195.out 2).trans rfl
         have hcz46_3:wr.cell? ⟨gb195,3,none⟩=some (.slice A0_3 l0_3.length c0_3):=(aj BK195.out 3).trans rfl
         have hcz46_4:wr.cell? ⟨gb195,4,none⟩=some (.slice A0_4 l0_4.length c0_4):=(aj BK195.out 4).trans rfl
         have hfz46_0:=ai BK195.out 0
         have hfz46_1:=ai BK195.out 1
         have hfz46_2:=ai BK195.out 2
         have hfz46_3:=ai BK195.out 3
         have hfz46_4:=ai BK195.out 4
         rcases Nat.eq_zero_or_pos t212.length with hq|hq
         ·have q1:decide ((0:Int) < (t212.length:Int))=false:=decide_eq_false (by omega)
          have q2:(0 < t212.length)=False:=eq_false (by omega)
          have q3:((0:Int) < (t212.length:Int))=False:=eq_false (by omega)
          have A44:aa (dJ.f false=some t215):=⟨by have:=A44.out;rw [show decide ((t212.length:Int) > 0)=false from decide_eq_false (by omega)] at this;exact this⟩
          clear hq
          go_wp2_with (first|((with_reducible refine aV (f:=35) rfl ?_);refine bJ (some 47) rfl rfl Tryz.func35 (by kernel_rfl) rfl #[.string a0_1] rfl (by (try simp only [List.map_toArray,List.map_cons,List.map_nil]);first|done|rfl|(simp only [List.length_drop,List.length_take];rfl)) ?_;(with_reducible refine (dA.calls a0_1 t210 true _ A40.out).mono ?_);rintro e w47 ⟨rfl,hb⟩;refine ⟨_,rfl,?_⟩;have n0_:=aa.mk (Kd.bR (by (with_reducible repeat (first|apply Kd.bz|apply Kd.bq|apply Kd.bB));exact HO_5.out) hb);have n1_:=aa.mk (aI (g:=gb195) (o:=.cells #[.int .i64 a0_0,.string a0_1,.string a0_2,.slice A0_3 l0_3.length c0_3,.slice A0_4 l0_4.length c0_4] 25 (0,0)) (by (with_reducible repeat (first|refine au ?_ _|refine av ?_|refine ak ?_ _));exact BK195.out) hb);have n2_:=aa.mk (aI (g:=gb196) (o:=.cells #[.string a1_0,.slice A1_1 l1_1.length c1_1] 28 (0,0)) (by (with_reducible repeat (first|refine au ?_ _|refine av ?_|refine ak ?_ _));exact BK196.out) hb);have n3_:=aa.mk (aD (by repeat (first|(with_reducible first|exact HB.out|apply af|apply ae|apply ag|refine ah ?_ GE195.out|refine ah ?_ GE196.out)|exact HB.out)) hb);clear HO_5;clear BK195;clear BK196;clear HB;have HO_5:=n0_;have BK195:=n1_;have BK196:=n2_;have HB:=n3_;clear n0_ n1_ n2_ n3_;(try clear hb);(try clear hb2);(try clear hk);(try clear hi);have hcz48_0:w47.cell? ⟨gb195,0,none⟩=some (.int .i64 a0_0):=(aj BK195.out 0).trans rfl;have hcz48_1:w47.cell? ⟨gb195,1,none⟩=some (.string a0_1):=(aj BK195.out 1).trans rfl;have hcz48_2:w47.cell? ⟨gb195,2,none⟩=some (.string a0_2):=(aj BK195.out 2).trans rfl;have hcz48_3:w47.cell? ⟨gb195,3,none⟩=some (.slice A0_3 l0_3.length c0_3):=(aj BK195.out 3).trans rfl;have hcz48_4:w47.cell? ⟨gb195,4,none⟩=some (.slice A0_4 l0_4.length c0_4):=(aj BK195.out 4).trans rfl;have hfz48_0:=ai BK195.out 0;have hfz48_1:=ai BK195.out 1;have hfz48_2:=ai BK195.out 2;have hfz48_3:=ai BK195.out 3;have hfz48_4:=ai BK195.out 4;have hcz49_0:w47.cell? ⟨gb196,0,none⟩=some (.string a1_0):=(aj BK196.out 0).trans rfl;have hcz49_1:w47.cell? ⟨gb196,1,none⟩=some (.slice A1_1 l1_1.length c1_1):=(aj BK196.out 1).trans rfl;have hfz49_0:=ai BK196.out 0;have hfz49_1:=ai BK196.out 1)|((with_reducible refine aV (f:=37) rfl ?_);refine bJ (some 59) rfl rfl Tryz.func37 (by kernel_rfl) rfl #[.agg #[.string a1_0,.slice A1_1 l1_1.length c1_1],.string a0_1] rfl (by (try simp only [List.map_toArray,List.map_cons,List.map_nil]);first|done|rfl|(simp only [List.length_drop,List.length_take];rfl)) ?_;(with_reducible refine (dP.calls a1_0 _ _ l1_1 a0_1 t212 _ ?side1 ?side2 A43.out).mono ?_);(case side1=>repeat (first|exact (Kd.bf HR1_1.out HB.out)|(with_reducible refine Kd.aN ?_ _)|(with_reducible refine Kd.aQ ?_ _)|(with_reducible refine Kd.aW ?_)));(case side2=>exact HC1_1.out);rintro e w50 ⟨v213,rfl,ho0,hb⟩;refine ⟨_,rfl,?_⟩;have n0_:=aa.mk (Kd.bR (by (with_reducible repeat (first|apply Kd.bz|apply Kd.bq|apply Kd.bB));exact HO_5.out) hb);have n1_:=aa.mk (Kd.dN ho0 (aG (by repeat (first|(with_reducible first|exact HB.out|apply af|apply ae|apply ag|refine ah ?_ GE195.out|refine ah ?_ GE196.out)|exact HB.out))));have n2_:=aa.mk (aI (g:=gb195) (o:=.cells #[.int .i64 a0_0,.string a0_1,.string a0_2,.slice A0_3 l0_3.length c0_3,.slice A0_4 l0_4.length c0_4] 25 (0,0)) (by (with_reducible repeat (first|refine au ?_ _|refine av ?_|refine ak ?_ _));exact BK195.out) hb);have n3_:=aa.mk (aI (g:=gb196) (o:=.cells #[.string a1_0,.slice A1_1 l1_1.length c1_1] 28 (0,0)) (by (with_reducible repeat (first|refine au ?_ _|refine av ?_|refine ak ?_ _));exact BK196.out) hb);have n4_:=aa.mk (aD (by repeat (first|(with_reducible first|exact HB.out|apply af|apply ae|apply ag|refine ah ?_ GE195.out|refine ah ?_ GE196.out)|exact HB.out)) hb);clear HO_5;clear BK195;clear BK196;clear HB;have HO_5:=n0_;have HO214:=n1_;have BK195:=n2_;have BK196:=n3_;have HB:=n4_;clear n0_ n1_ n2_ n3_ n4_;(try clear hb);(try clear hb2);(try clear hk);(try clear hi);(try clear ho0);obtain ⟨Ao51,co51,eo51⟩:=Kd.cO HO214.out;subst eo51)|((with_reducible refine aV (f:=36) rfl ?_);refine bJ (some 62) rfl rfl Tryz.func36 (by kernel_rfl) rfl #[.bool false] rfl (by (try simp only [List.map_toArray,List.map_cons,List.map_nil]);first|done|rfl|(simp only [List.length_drop,List.length_take];rfl)) ?_;(with_reducible refine (dJ.calls false t215 _ A44.out).mono ?_);rintro e w' ⟨rfl,⟨nd,rfl⟩⟩;refine ⟨_,rfl,?_⟩))
          go_ret
          exact ⟨by first|rfl|(simp [aM,aK] <;> rfl)|(simp [*,aM,aK] <;> rfl),by repeat (first|(with_reducible first|exact HB.out|apply af|apply ae|apply ag|refine ah ?_ GE195.out|refine ah ?_ GE196.out)|exact HB.out)⟩
         ·have q1:decide ((0:Int) < (t212.length:Int))=true:=decide_eq_true (by omega)
          have q2:(0 < t212.length)=True:=eq_true (by omega)
          have q3:((0:Int) < (t212.length:Int))=True:=eq_true (by omega)
          have A44:aa (dJ.f true=some t215):=⟨by have:=A44.out;rw [show decide ((t212.length:Int) > 0)=true from decide_eq_true (by omega)] at this;exact this⟩
          clear hq
          go_wp2_with (first|((with_reducible refine aV (f:=35) rfl ?_);refine bJ (some 47) rfl rfl Tryz.func35 (by kernel_rfl) rfl #[.string a0_1] rfl (by (try simp only [List.map_toArray,List.map_cons,List.map_nil]);first|done|rfl|(simp only [List.length_drop,List.length_take];rfl)) ?_;(with_reducible refine (dA.calls a0_1 t210 true _ A40.out).mono ?_);rintro e w47 ⟨rfl,hb⟩;refine ⟨_,rfl,?_⟩;have n0_:=aa.mk (Kd.bR (by (with_reducible repeat (first|apply Kd.bz|apply Kd.bq|apply Kd.bB));exact HO_5.out) hb);have n1_:=aa.mk (aI (g:=gb195) (o:=.cells #[.int .i64 a0_0,.string a0_1,.string a0_2,.slice A0_3 l0_3.length c0_3,.slice A0_4 l0_4.length c0_4] 25 (0,0)) (by (with_reducible repeat (first|refine au ?_ _|refine av ?_|refine ak ?_ _));exact BK195.out) hb);have n2_:=aa.mk (aI (g:=gb196) (o:=.cells #[.string a1_0,.slice A1_1 l1_1.length c1_1] 28 (0,0)) (by (with_reducible repeat (first|refine au ?_ _|refine av ?_|refine ak ?_ _));exact BK196.out) hb);have n3_:=aa.mk (aD (by repeat (first|(with_reducible first|exact HB.out|apply af|apply ae|apply ag|refine ah ?_ GE195.out|refine ah ?_ GE196.out)|exact HB.out)) hb);clear HO_5;clear BK195;clear BK196;clear HB;have HO_5:=n0_;have BK195:=n1_;have BK196:=n2_;have HB:=n3_;clear n0_ n1_ n2_ n3_;(try clear hb);(try clear hb2);(try clear hk);(try clear hi);have hcz48_0:w47.cell? ⟨gb195,0,none⟩=some (.int .i64 a0_0):=(aj BK195.out 0).trans rfl;have hcz48_1:w47.cell? ⟨gb195,1,none⟩=some (.string a0_1):=(aj BK195.out 1).trans rfl;have hcz48_2:w47.cell? ⟨gb195,2,none⟩=some (.string a0_2):=(aj BK195.out 2).trans rfl;have hcz48_3:w47.cell? ⟨gb195,3,none⟩=some (.slice A0_3 l0_3.length c0_3):=(aj BK195.out 3).trans rfl;have hcz48_4:w47.cell? ⟨gb195,4,none⟩=some (.slice A0_4 l0_4.length c0_4):=(aj BK195.out 4).trans rfl;have hfz48_0:=ai BK195.out 0;have hfz48_1:=ai BK195.out 1;have hfz48_2:=ai BK195.out 2;have hfz48_3:=ai BK195.out 3;have hfz48_4:=ai BK195.out 4;have hcz49_0:w47.cell? ⟨gb196,0,none⟩=some (.string a1_0):=(aj BK196.out 0).trans rfl;have hcz49_1:w47.cell? ⟨gb196,1,none⟩=some (.slice A1_1 l1_1.length c1_1):=(aj BK196.out 1).trans rfl;have hfz49_0:=ai BK196.out 0;have hfz49_1:=ai BK196.out 1)|((with_reducible refine aV (f:=37) rfl ?_);refine bJ (some 59) rfl rfl Tryz.func37 (by kernel_rfl) rfl #[.agg #[.string a1_0,.slice A1_1 l1_1.length c1_1],.string a0_1] rfl (by (try simp only [List.map_toArray,List.map_cons,List.map_nil]);first|done|rfl|(simp only [List.length_drop,List.length_take];rfl)) ?_;(with_reducible refine (dP.calls a1_0 _ _ l1_1 a0_1 t212 _ ?side1 ?side2 A43.out).mono ?_);(case side1=>repeat (first|exact (Kd.bf HR1_1.out HB.out)|(with_reducible refine Kd.aN ?_ _)|(with_reducible refine Kd.aQ ?_ _)|(with_reducible refine Kd.aW ?_)));(case side2=>exact HC1_1.out);rintro e w50 ⟨v213,rfl,ho0,hb⟩;refine ⟨_,rfl,?_⟩;have n0_:=aa.mk (Kd.bR (by (with_reducible repeat (first|apply Kd.bz|apply Kd.bq|apply Kd.bB));exact HO_5.out) hb);have n1_:=aa.mk (Kd.dN ho0 (aG (by repeat (first|(with_reducible first|exact HB.out|apply af|apply ae|apply ag|refine ah ?_ GE195.out|refine ah ?_ GE196.out)|exact HB.out))));have n2_:=aa.mk (aI (g:=gb195) (o:=.cells #[.int .i64 a0_0,.string a0_1,.string a0_2,.slice A0_3 l0_3.length c0_3,.slice A0_4 l0_4.length c0_4] 25 (0,0)) (by (with_reducible repeat (first|refine au ?_ _|refine av ?_|refine ak ?_ _));exact BK195.out) hb);have n3_:=aa.mk (aI (g:=gb196) (o:=.cells #[.string a1_0,.slice A1_1 l1_1.length c1_1] 28 (0,0)) (by (with_reducible repeat (first|refine au ?_ _|refine av ?_|refine ak ?_ _));exact BK196.out) hb);have n4_:=aa.mk (aD (by repeat (first|(with_reducible first|exact HB.out|apply af|apply ae|apply ag|refine ah ?_ GE195.out|refine ah ?_ GE196.out)|exact HB.out)) hb);clear HO_5;clear BK195;clear BK196;clear HB;have HO_5:=n0_;have HO214:=n1_;have BK195:=n2_;have BK196:=n3_;have HB:=n4_;clear n0_ n1_ n2_ n3_ n4_;(try clear hb);(try clear hb2);(try clear hk);(try clear hi);(try clear ho0);obtain ⟨Ao51,co51,eo51⟩:=Kd.cO HO214.out;subst eo51)|((with_reducible refine aV (f:=36) rfl ?_);refine bJ (some 62) rfl rfl Tryz.func36 (by kernel_rfl) rfl #[.bool true] rfl (by (try simp only [List.map_toArray,List.map_cons,List.map_nil]);first|done|rfl|(simp only [List.length_drop,List.length_take];rfl)) ?_;(with_reducible refine (dJ.calls true t215 _ A44.out).mono ?_);rintro e w' ⟨rfl,⟨nd,rfl⟩⟩;refine ⟨_,rfl,?_⟩))
          go_ret
          exact ⟨by first|rfl|(simp [aM,aK] <;> rfl)|(simp [*,aM,aK] <;> rfl),by repeat (first|(with_reducible first|exact HB.out|apply af|apply ae|apply ag|refine ah ?_ GE195.out|refine ah ?_ GE196.out)|exact HB.out)⟩
        ·rw [if_neg c42] at H
         have c42b0:(a0_0 == 8)=false:=beq_eq_false_iff_ne.mpr c42
         have c42b1:(a0_0 != 8)=true:=bne_iff_ne.mpr c42
         by_cases c52:a0_0=5
         ·rw [if_pos c52] at H
          have c52b0:(a0_0 == 5)=true:=beq_iff_eq.mpr c52
          have c52b1:(a0_0 != 5)=false:=bne_eq_false_iff_eq.mpr c52
          clear c52
          replace H:=Option.bind_eq_some_iff.mp H
          obtain ⟨t216,A530,H⟩:=H
          replace H:(some t216)=some r:=H
          have A53:=aa.mk A530
          clear A530
          obtain rfl:=Option.some.inj H
          have hnb54:=NB195_196.out
          have hnc54:=NB196_195.out
          have hcz55_0:wr.cell? ⟨gb195,0,none⟩=some (.int .i64 a0_0):=(aj BK195.out 0).trans rfl
          have hcz55_1:wr.cell? ⟨gb195,1,none⟩=some (.string a0_1):=(aj BK195.out 1).trans rfl
          have hcz55_2:wr.cell? ⟨gb195,2,none⟩=some (.string a0_2):=(aj BK195.out 2).trans rfl
          have hcz55_3:wr.cell? ⟨gb195,3,none⟩=some (.slice A0_3 l0_3.length c0_3):=(aj BK195.out 3).trans rfl
          have hcz55_4:wr.cell? ⟨gb195,4,none⟩=some (.slice A0_4 l0_4.length c0_4):=(aj BK195.out 4).trans rfl
          have hfz55_0:=ai BK195.out 0
          have hfz55_1:=ai BK195.out 1
          have hfz55_2:=ai BK195.out 2
          have hfz55_3:=ai BK195.out 3
          have hfz55_4:=ai BK195.out 4
          go_wp2_with (first|((with_reducible refine aV (f:=35) rfl ?_);refine bJ (some 47) rfl rfl Tryz.func35 (by kernel_rfl) rfl #[.string a0_1] rfl (by (try simp only [List.map_toArray,List.map_cons,List.map_nil]);first|done|rfl|(simp only [List.length_drop,List.length_take];rfl)) ?_;(with_reducible refine (dA.calls a0_1 t210 true _ A40.out).mono ?_);rintro e w56 ⟨rfl,hb⟩;refine ⟨_,rfl,?_⟩;have n0_:=aa.mk (Kd.bR (by (with_reducible repeat (first|apply Kd.bz|apply Kd.bq|apply Kd.bB));exact HO_5.out) hb);have n1_:=aa.mk (aI (g:=gb195) (o:=.cells #[.int .i64 a0_0,.string a0_1,.string a0_2,.slice A0_3 l0_3.length c0_3,.slice A0_4 l0_4.length c0_4] 25 (0,0)) (by (with_reducible repeat (first|refine au ?_ _|refine av ?_|refine ak ?_ _));exact BK195.out) hb);have n2_:=aa.mk (aI (g:=gb196) (o:=.cells #[.string a1_0,.slice A1_1 l1_1.length c1_1] 28 (0,0)) (by (with_reducible repeat (first|refine au ?_ _|refine av ?_|refine ak ?_ _));exact BK196.out) hb);have n3_:=aa.mk (aD (by repeat (first|(with_reducible first|exact HB.out|apply af|apply ae|apply ag|refine ah ?_ GE195.out|refine ah ?_ GE196.out)|exact HB.out)) hb);clear HO_5;clear BK195;clear BK196;clear HB;have HO_5:=n0_;have BK195:=n1_;have BK196:=n2_;have HB:=n3_;clear n0_ n1_ n2_ n3_;(try clear hb);(try clear hb2);(try clear hk);(try clear hi);have hcz57_0:w56.cell? ⟨gb195,0,none⟩=some (.int .i64 a0_0):=(aj BK195.out 0).trans rfl;have hcz57_1:w56.cell? ⟨gb195,1,none⟩=some (.string a0_1):=(aj BK195.out 1).trans rfl;have hcz57_2:w56.cell? ⟨gb195,2,none⟩=some (.string a0_2):=(aj BK195.out 2).trans rfl;have hcz57_3:w56.cell? ⟨gb195,3,none⟩=some (.slice A0_3 l0_3.length c0_3):=(aj BK195.out 3).trans rfl;have hcz57_4:w56.cell? ⟨gb195,4,none⟩=some (.slice A0_4 l0_4.length c0_4):=(aj BK195.out 4).trans rfl;have hfz57_0:=ai BK195.out 0;have hfz57_1:=ai BK195.out 1;have hfz57_2:=ai BK195.out 2;have hfz57_3:=ai BK195.out 3;have hfz57_4:=ai BK195.out 4;have hcz58_0:w56.cell? ⟨gb196,0,none⟩=some (.string a1_0):=(aj BK196.out 0).trans rfl;have hcz58_1:w56.cell? ⟨gb196,1,none⟩=some (.slice A1_1 l1_1.length c1_1):=(aj BK196.out 1).trans rfl;have hfz58_0:=ai BK196.out 0;have hfz58_1:=ai BK196.out 1)|((with_reducible refine aV (f:=38) rfl ?_);refine bJ (some 67) rfl rfl Tryz.func38 (by kernel_rfl) rfl #[.agg #[.int .i64 a0_0,.string a0_1,.string a0_2,.slice A0_3 l0_3.length c0_3,.slice A0_4 l0_4.length c0_4],.agg #[.string a1_0,.slice A1_1 l1_1.length c1_1]] rfl (by (try simp only [List.map_toArray,List.map_cons,List.map_nil]);first|done|rfl|(simp only [List.length_drop,List.length_take];rfl)) ?_;(with_reducible refine (ib.calls a0_0 a0_1 a0_2 _ _ l0_3 _ _ l0_4 a1_0 _ _ l1_1 t216 _ ?side1 ?side2 ?side3 ?side4 ?side5 ?side6 ?side7 A53.out).mono ?_);(case side1=>repeat (first|exact (Kd.bf HR0_3.out HB.out)|(with_reducible refine Kd.aN ?_ _)|(with_reducible refine Kd.aQ ?_ _)|(with_reducible refine Kd.aW ?_)));(case side2=>exact HC0_3.out);(case side3=>repeat (first|exact (Kd.bf HR0_4.out HB.out)|(with_reducible refine Kd.aN ?_ _)|(with_reducible refine Kd.aQ ?_ _)|(with_reducible refine Kd.aW ?_)));(case side4=>exact HC0_4.out);(case side5=>repeat (first|exact (Kd.bf HR1_1.out HB.out)|(with_reducible refine Kd.aN ?_ _)|(with_reducible refine Kd.aQ ?_ _)|(with_reducible refine Kd.aW ?_)));(case side6=>exact HC1_1.out);(case side7=>first|exact HG.out|exact Gl.drewN HG.out _|exact Gl.below HG.out (by repeat (first|(with_reducible first|exact HB.out|apply af|apply ae|apply ag|refine ah ?_ GE195.out|refine ah ?_ GE196.out)|exact HB.out)));rintro e w59 ⟨rfl,hb⟩;refine ⟨_,rfl,?_⟩;have n0_:=aa.mk (Kd.bR (by (with_reducible repeat (first|apply Kd.bz|apply Kd.bq|apply Kd.bB));exact HO_5.out) hb);have n1_:=aa.mk (aI (g:=gb195) (o:=.cells #[.int .i64 a0_0,.string a0_1,.string a0_2,.slice A0_3 l0_3.length c0_3,.slice A0_4 l0_4.length c0_4] 25 (0,0)) (by (with_reducible repeat (first|refine au ?_ _|refine av ?_|refine ak ?_ _));exact BK195.out) hb);have n2_:=aa.mk (aI (g:=gb196) (o:=.cells #[.string a1_0,.slice A1_1 l1_1.length c1_1] 28 (0,0)) (by (with_reducible repeat (first|refine au ?_ _|refine av ?_|refine ak ?_ _));exact BK196.out) hb);have n3_:=aa.mk (aD (by repeat (first|(with_reducible first|exact HB.out|apply af|apply ae|apply ag|refine ah ?_ GE195.out|refine ah ?_ GE196.out)|exact HB.out)) hb);clear HO_5;clear BK195;clear BK196;clear HB;have HO_5:=n0_;have BK195:=n1_;have BK196:=n2_;have HB:=n3_;clear n0_ n1_ n2_ n3_;(try clear hb);(try clear hb2);(try clear hk);(try clear hi)))
          go_ret
          exact ⟨by first|rfl|(simp [aM,aK] <;> rfl)|(simp [*,aM,aK] <;> rfl),by repeat (first|(with_reducible first|exact HB.out|apply af|apply ae|apply ag|refine ah ?_ GE195.out|refine ah ?_ GE196.out)|exact HB.out)⟩
         ·rw [if_neg c52] at H
          have c52b0:(a0_0 == 5)=false:=beq_eq_false_iff_ne.mpr c52
          have c52b1:(a0_0 != 5)=true:=bne_iff_ne.mpr c52
          by_cases c60:a0_0=4
          ·rw [if_pos c60] at H
           have c60b0:(a0_0 == 4)=true:=beq_iff_eq.mpr c60
           have c60b1:(a0_0 != 4)=false:=bne_eq_false_iff_eq.mpr c60
           clear c60
           replace H:=Option.bind_eq_some_iff.mp H
           obtain ⟨⟨t217,t218⟩,A610,H⟩:=H
           replace H:(if t218=true then ((fI.f a1_0 l1_1 a0_1 a0_2).bind fun t219=>((dJ.f t219).bind fun t220=>(some t220))) else (some 2))=some r:=H
           have A61:=aa.mk A610
           clear A610
           by_cases c62:t218=true
           ·subst c62
            have H1:((fI.f a1_0 l1_1 a0_1 a0_2).bind fun t219=>((dJ.f t219).bind fun t220=>(some t220)))=some r:=by rw [if_pos rfl] at H;exact H
            clear H
            have H:=H1
            clear H1
            replace H:=Option.bind_eq_some_iff.mp H
            obtain ⟨t219,A630,H⟩:=H
            replace H:((dJ.f t219).bind fun t220=>(some t220))=some r:=H
            have A63:=aa.mk A630
            clear A630
            replace H:=Option.bind_eq_some_iff.mp H
            obtain ⟨t220,A640,H⟩:=H
            replace H:(some t220)=some r:=H
            have A64:=aa.mk A640
            clear A640
            obtain rfl:=Option.some.inj H
            have hnb65:=NB195_196.out
            have hnc65:=NB196_195.out
            have hcz66_0:wr.cell? ⟨gb195,0,none⟩=some (.int .i64 a0_0):=(aj BK195.out 0).trans rfl
            have hcz66_1:wr.cell? ⟨gb195,1,none⟩=some (.string a0_1):=(aj BK195.out 1).trans rfl
            have hcz66_2:wr.cell? ⟨gb195,2,none⟩=some (.string a0_2):=(aj BK195.out 2).trans rfl
            have hcz66_3:wr.cell? ⟨gb195,3,none⟩=some (.slice A0_3 l0_3.length c0_3):=(aj BK195.out 3).trans rfl
            have hcz66_4:wr.cell? ⟨gb195,4,none⟩=some (.slice A0_4 l0_4.length c0_4):=(aj BK195.out 4).trans rfl
            have hfz66_0:=ai BK195.out 0
            have hfz66_1:=ai BK195.out 1
            have hfz66_2:=ai BK195.out 2
            have hfz66_3:=ai BK195.out 3
            have hfz66_4:=ai BK195.out 4
            go_wp2_with (first|((with_reducible refine aV (f:=35) rfl ?_);refine bJ (some 47) rfl rfl Tryz.func35 (by kernel_rfl) rfl #[.string a0_1] rfl (by (try simp only [List.map_toArray,List.map_cons,List.map_nil]);first|done|rfl|(simp only [List.length_drop,List.length_take];rfl)) ?_;(with_reducible refine (dA.calls a0_1 t210 true _ A40.out).mono ?_);rintro e w67 ⟨rfl,hb⟩;refine ⟨_,rfl,?_⟩;have n0_:=aa.mk (Kd.bR (by (with_reducible repeat (first|apply Kd.bz|apply Kd.bq|apply Kd.bB));exact HO_5.out) hb);have n1_:=aa.mk (aI (g:=gb195) (o:=.cells #[.int .i64 a0_0,.string a0_1,.string a0_2,.slice A0_3 l0_3.length c0_3,.slice A0_4 l0_4.length c0_4] 25 (0,0)) (by (with_reducible repeat (first|refine au ?_ _|refine av ?_|refine ak ?_ _));exact BK195.out) hb);have n2_:=aa.mk (aI (g:=gb196) (o:=.cells #[.string a1_0,.slice A1_1 l1_1.length c1_1] 28 (0,0)) (by (with_reducible repeat (first|refine au ?_ _|refine av ?_|refine ak ?_ _));exact BK196.out) hb);have n3_:=aa.mk (aD (by repeat (first|(with_reducible first|exact HB.out|apply af|apply ae|apply ag|refine ah ?_ GE195.out|refine ah ?_ GE196.out)|exact HB.out)) hb);clear HO_5;clear BK195;clear BK196;clear HB;have HO_5:=n0_;have BK195:=n1_;have BK196:=n2_;have HB:=n3_;clear n0_ n1_ n2_ n3_;(try clear hb);(try clear hb2);(try clear hk);(try clear hi);have hcz68_0:w67.cell? ⟨gb195,0,none⟩=some (.int .i64 a0_0):=(aj BK195.out 0).trans rfl;have hcz68_1:w67.cell? ⟨gb195,1,none⟩=some (.string a0_1):=(aj BK195.out 1).trans rfl;have hcz68_2:w67.cell? ⟨gb195,2,none⟩=some (.string a0_2):=(aj BK195.out 2).trans rfl;have hcz68_3:w67.cell? ⟨gb195,3,none⟩=some (.slice A0_3 l0_3.length c0_3):=(aj BK195.out 3).trans rfl;have hcz68_4:w67.cell? ⟨gb195,4,none⟩=some (.slice A0_4 l0_4.length c0_4):=(aj BK195.out 4).trans rfl;have hfz68_0:=ai BK195.out 0;have hfz68_1:=ai BK195.out 1;have hfz68_2:=ai BK195.out 2;have hfz68_3:=ai BK195.out 3;have hfz68_4:=ai BK195.out 4)|((with_reducible refine aV (f:=39) rfl ?_);refine bJ (some 75) rfl rfl Tryz.func39 (by kernel_rfl) rfl #[.string a0_1,.string a0_2] rfl (by (try simp only [List.map_toArray,List.map_cons,List.map_nil]);first|done|rfl|(simp only [List.length_drop,List.length_take];rfl)) ?_;(with_reducible refine (bM.calls k1 a0_1 a0_2 t217 true _ ?side1 A61.out).mono ?_);(case side1=>first|exact HG.out|exact Gl.drewN HG.out _|exact Gl.below HG.out (by repeat (first|(with_reducible first|exact HB.out|apply af|apply ae|apply ag|refine ah ?_ GE195.out|refine ah ?_ GE196.out)|exact HB.out)));rintro e w69 ⟨rfl,hb⟩;refine ⟨_,rfl,?_⟩;have n0_:=aa.mk (Kd.bR (by (with_reducible repeat (first|apply Kd.bz|apply Kd.bq|apply Kd.bB));exact HO_5.out) hb);have n1_:=aa.mk (aI (g:=gb195) (o:=.cells #[.int .i64 a0_0,.string a0_1,.string a0_2,.slice A0_3 l0_3.length c0_3,.slice A0_4 l0_4.length c0_4] 25 (0,0)) (by (with_reducible repeat (first|refine au ?_ _|refine av ?_|refine ak ?_ _));exact BK195.out) hb);have n2_:=aa.mk (aI (g:=gb196) (o:=.cells #[.string a1_0,.slice A1_1 l1_1.length c1_1] 28 (0,0)) (by (with_reducible repeat (first|refine au ?_ _|refine av ?_|refine ak ?_ _));exact BK196.out) hb);have n3_:=aa.mk (aD (by repeat (first|(with_reducible first|exact HB.out|apply af|apply ae|apply ag|refine ah ?_ GE195.out|refine ah ?_ GE196.out)|exact HB.out)) hb);clear HO_5;clear BK195;clear BK196;clear HB;have HO_5:=n0_;have BK195:=n1_;have BK196:=n2_;have HB:=n3_;clear n0_ n1_ n2_ n3_;(try clear hb);(try clear hb2);(try clear hk);(try clear hi);have hcz70_0:w69.cell? ⟨gb196,0,none⟩=some (.string a1_0):=(aj BK196.out 0).trans rfl;have hcz70_1:w69.cell? ⟨gb196,1,none⟩=some (.slice A1_1 l1_1.length c1_1):=(aj BK196.out 1).trans rfl;have hfz70_0:=ai BK196.out 0;have hfz70_1:=ai BK196.out 1;have hcz71_0:w69.cell? ⟨gb195,0,none⟩=some (.int .i64 a0_0):=(aj BK195.out 0).trans rfl;have hcz71_1:w69.cell? ⟨gb195,1,none⟩=some (.string a0_1):=(aj BK195.out 1).trans rfl;have hcz71_2:w69.cell? ⟨gb195,2,none⟩=some (.string a0_2):=(aj BK195.out 2).trans rfl;have hcz71_3:w69.cell? ⟨gb195,3,none⟩=some (.slice A0_3 l0_3.length c0_3):=(aj BK195.out 3).trans rfl;have hcz71_4:w69.cell? ⟨gb195,4,none⟩=some (.slice A0_4 l0_4.length c0_4):=(aj BK195.out 4).trans rfl;have hfz71_0:=ai BK195.out 0;have hfz71_1:=ai BK195.out 1;have hfz71_2:=ai BK195.out 2;have hfz71_3:=ai BK195.out 3;have hfz71_4:=ai BK195.out 4)|((with_reducible refine aV (f:=40) rfl ?_);refine bJ (some 85) rfl rfl Tryz.func40 (by kernel_rfl) rfl #[.agg #[.string a1_0,.slice A1_1 l1_1.length c1_1],.string a0_1,.string a0_2] rfl (by (try simp only [List.map_toArray,List.map_cons,List.map_nil]);first|done|rfl|(simp only [List.length_drop,List.length_take];rfl)) ?_;(with_reducible refine (fI.calls a1_0 _ _ l1_1 a0_1 a0_2 t219 _ ?side1 ?side2 ?side3 A63.out).mono ?_);(case side1=>repeat (first|exact (Kd.bf HR1_1.out HB.out)|(with_reducible refine Kd.aN ?_ _)|(with_reducible refine Kd.aQ ?_ _)|(with_reducible refine Kd.aW ?_)));(case side2=>exact HC1_1.out);(case side3=>first|exact HG.out|exact Gl.drewN HG.out _|exact Gl.below HG.out (by repeat (first|(with_reducible first|exact HB.out|apply af|apply ae|apply ag|refine ah ?_ GE195.out|refine ah ?_ GE196.out)|exact HB.out)));rintro e w72 ⟨rfl,hb⟩;refine ⟨_,rfl,?_⟩;have n0_:=aa.mk (Kd.bR (by (with_reducible repeat (first|apply Kd.bz|apply Kd.bq|apply Kd.bB));exact HO_5.out) hb);have n1_:=aa.mk (aI (g:=gb195) (o:=.cells #[.int .i64 a0_0,.string a0_1,.string a0_2,.slice A0_3 l0_3.length c0_3,.slice A0_4 l0_4.length c0_4] 25 (0,0)) (by (with_reducible repeat (first|refine au ?_ _|refine av ?_|refine ak ?_ _));exact BK195.out) hb);have n2_:=aa.mk (aI (g:=gb196) (o:=.cells #[.string a1_0,.slice A1_1 l1_1.length c1_1] 28 (0,0)) (by (with_reducible repeat (first|refine au ?_ _|refine av ?_|refine ak ?_ _));exact BK196.out) hb);have n3_:=aa.mk (aD (by repeat (first|(with_reducible first|exact HB.out|apply af|apply ae|apply ag|refine ah ?_ GE195.out|refine ah ?_ GE196.out)|exact HB.out)) hb);clear HO_5;clear BK195;clear BK196;clear HB;have HO_5:=n0_;have BK195:=n1_;have BK196:=n2_;have HB:=n3_;clear n0_ n1_ n2_ n3_;(try clear hb);(try clear hb2);(try clear hk);(try clear hi))|((with_reducible refine aV (f:=36) rfl ?_);refine bJ (some 86) rfl rfl Tryz.func36 (by kernel_rfl) rfl #[.bool t219] rfl (by (try simp only [List.map_toArray,List.map_cons,List.map_nil]);first|done|rfl|(simp only [List.length_drop,List.length_take];rfl)) ?_;(with_reducible refine (dJ.calls t219 t220 _ A64.out).mono ?_);rintro e w' ⟨rfl,⟨nd,rfl⟩⟩;refine ⟨_,rfl,?_⟩))
            go_ret
            exact ⟨by first|rfl|(simp [aM,aK] <;> rfl)|(simp [*,aM,aK] <;> rfl),by repeat (first|(with_reducible first|exact HB.out|apply af|apply ae|apply ag|refine ah ?_ GE195.out|refine ah ?_ GE196.out)|exact HB.out)⟩
           ·replace c62:=Bool.eq_false_iff.mpr c62
            subst c62
            have H1:(some 2)=some r:=by rw [if_neg (show ¬ (false=true) by decide)] at H;exact H
            clear H
            have H:=H1
            clear H1
            obtain rfl:=Option.some.inj H
            have hnb73:=NB195_196.out
            have hnc73:=NB196_195.out
            have hcz74_0:wr.cell? ⟨gb195,0,none⟩=some (.int .i64 a0_0):=(aj BK195.out 0).trans rfl
            have hcz74_1:wr.cell? ⟨gb195,1,none⟩=some (.string a0_1):=(aj BK195.out 1).trans rfl
            have hcz74_2:wr.cell? ⟨gb195,2,none⟩=some (.string a0_2):=(aj BK195.out 2).trans rfl
            have hcz74_3:wr.cell? ⟨gb195,3,none⟩=some (.slice A0_3 l0_3.length c0_3):=(aj BK195.out 3).trans rfl
            have hcz74_4:wr.cell? ⟨gb195,4,none⟩=some (.slice A0_4 l0_4.length c0_4):=(aj BK195.out 4).trans rfl
            have hfz74_0:=ai BK195.out 0
            have hfz74_1:=ai BK195.out 1
            have hfz74_2:=ai BK195.out 2
            have hfz74_3:=ai BK195.out 3
            have hfz74_4:=ai BK195.out 4
            go_wp2_with (first|((with_reducible refine aV (f:=35) rfl ?_);refine bJ (some 47) rfl rfl Tryz.func35 (by kernel_rfl) rfl #[.string a0_1] rfl (by (try simp only [List.map_toArray,List.map_cons,List.map_nil]);first|done|rfl|(simp only [List.length_drop,List.length_take];rfl)) ?_;(with_reducible refine (dA.calls a0_1 t210 true _ A40.out).mono ?_);rintro e w75 ⟨rfl,hb⟩;refine ⟨_,rfl,?_⟩;have n0_:=aa.mk (Kd.bR (by (with_reducible repeat (first|apply Kd.bz|apply Kd.bq|apply Kd.bB));exact HO_5.out) hb);have n1_:=aa.mk (aI (g:=gb195) (o:=.cells #[.int .i64 a0_0,.string a0_1,.string a0_2,.slice A0_3 l0_3.length c0_3,.slice A0_4 l0_4.length c0_4] 25 (0,0)) (by (with_reducible repeat (first|refine au ?_ _|refine av ?_|refine ak ?_ _));exact BK195.out) hb);have n2_:=aa.mk (aI (g:=gb196) (o:=.cells #[.string a1_0,.slice A1_1 l1_1.length c1_1] 28 (0,0)) (by (with_reducible repeat (first|refine au ?_ _|refine av ?_|refine ak ?_ _));exact BK196.out) hb);have n3_:=aa.mk (aD (by repeat (first|(with_reducible first|exact HB.out|apply af|apply ae|apply ag|refine ah ?_ GE195.out|refine ah ?_ GE196.out)|exact HB.out)) hb);clear HO_5;clear BK195;clear BK196;clear HB;have HO_5:=n0_;have BK195:=n1_;have BK196:=n2_;have HB:=n3_;clear n0_ n1_ n2_ n3_;(try clear hb);(try clear hb2);(try clear hk);(try clear hi);have hcz76_0:w75.cell? ⟨gb195,0,none⟩=some (.int .i64 a0_0):=(aj BK195.out 0).trans rfl;have hcz76_1:w75.cell? ⟨gb195,1,none⟩=some (.string a0_1):=(aj BK195.out 1).trans rfl;have hcz76_2:w75.cell? ⟨gb195,2,none⟩=some (.string a0_2):=(aj BK195.out 2).trans rfl;have hcz76_3:w75.cell? ⟨gb195,3,none⟩=some (.slice A0_3 l0_3.length c0_3):=(aj BK195.out 3).trans rfl;have hcz76_4:w75.cell? ⟨gb195,4,none⟩=some (.slice A0_4 l0_4.length c0_4):=(aj BK195.out 4).trans rfl;have hfz76_0:=ai BK195.out 0;have hfz76_1:=ai BK195.out 1;have hfz76_2:=ai BK195.out 2;have hfz76_3:=ai BK195.out 3;have hfz76_4:=ai BK195.out 4)|((with_reducible refine aV (f:=39) rfl ?_);refine bJ (some 75) rfl rfl Tryz.func39 (by kernel_rfl) rfl #[.string a0_1,.string a0_2] rfl (by (try simp only [List.map_toArray,List.map_cons,List.map_nil]);first|done|rfl|(simp only [List.length_drop,List.length_take];rfl)) ?_;(with_reducible refine (bM.calls k1 a0_1 a0_2 t217 false _ ?side1 A61.out).mono ?_);(case side1=>first|exact HG.out|exact Gl.drewN HG.out _|exact Gl.below HG.out (by repeat (first|(with_reducible first|exact HB.out|apply af|apply ae|apply ag|refine ah ?_ GE195.out|refine ah ?_ GE196.out)|exact HB.out)));rintro e w77 ⟨rfl,hb⟩;refine ⟨_,rfl,?_⟩;have n0_:=aa.mk (Kd.bR (by (with_reducible repeat (first|apply Kd.bz|apply Kd.bq|apply Kd.bB));exact HO_5.out) hb);have n1_:=aa.mk (aI (g:=gb195) (o:=.cells #[.int .i64 a0_0,.string a0_1,.string a0_2,.slice A0_3 l0_3.length c0_3,.slice A0_4 l0_4.length c0_4] 25 (0,0)) (by (with_reducible repeat (first|refine au ?_ _|refine av ?_|refine ak ?_ _));exact BK195.out) hb);have n2_:=aa.mk (aI (g:=gb196) (o:=.cells #[.string a1_0,.slice A1_1 l1_1.length c1_1] 28 (0,0)) (by (with_reducible repeat (first|refine au ?_ _|refine av ?_|refine ak ?_ _));exact BK196.out) hb);have n3_:=aa.mk (aD (by repeat (first|(with_reducible first|exact HB.out|apply af|apply ae|apply ag|refine ah ?_ GE195.out|refine ah ?_ GE196.out)|exact HB.out)) hb);clear HO_5;clear BK195;clear BK196;clear HB;have HO_5:=n0_;have BK195:=n1_;have BK196:=n2_;have HB:=n3_;clear n0_ n1_ n2_ n3_;(try clear hb);(try clear hb2);(try clear hk);(try clear hi)))
            go_ret
            exact ⟨by first|rfl|(simp [aM,aK] <;> rfl)|(simp [*,aM,aK] <;> rfl),by repeat (first|(with_reducible first|exact HB.out|apply af|apply ae|apply ag|refine ah ?_ GE195.out|refine ah ?_ GE196.out)|exact HB.out)⟩
          ·rw [if_neg c60] at H
           have c60b0:(a0_0 == 4)=false:=beq_eq_false_iff_ne.mpr c60
           have c60b1:(a0_0 != 4)=true:=bne_iff_ne.mpr c60
           replace H:=Option.bind_eq_some_iff.mp H
           obtain ⟨t221,A780,H⟩:=H
           replace H:(some t221)=some r:=H
           have A78:=aa.mk A780
           clear A780
           obtain rfl:=Option.some.inj H
           have hnb79:=NB195_196.out
           have hnc79:=NB196_195.out
           have hcz80_0:wr.cell? ⟨gb195,0,none⟩=some (.int .i64 a0_0):=(aj BK195.out 0).trans rfl
           have hcz80_1:wr.cell? ⟨gb195,1,none⟩=some (.string a0_1):=(aj BK195.out 1).trans rfl
           have hcz80_2:wr.cell? ⟨gb195,2,none⟩=some (.string a0_2):=(aj BK195.out 2).trans rfl
           have hcz80_3:wr.cell? ⟨gb195,3,none⟩=some (.slice A0_3 l0_3.length c0_3):=(aj BK195.out 3).trans rfl
           have hcz80_4:wr.cell? ⟨gb195,4,none⟩=some (.slice A0_4 l0_4.length c0_4):=(aj BK195.out 4).trans rfl
           have hfz80_0:=ai BK195.out 0
           have hfz80_1:=ai BK195.out 1
           have hfz80_2:=ai BK195.out 2
           have hfz80_3:=ai BK195.out 3
           have hfz80_4:=ai BK195.out 4
           go_wp2_with (first|((with_reducible refine aV (f:=35) rfl ?_);refine bJ (some 47) rfl rfl Tryz.func35 (by kernel_rfl) rfl #[.string a0_1] rfl (by (try simp only [List.map_toArray,List.map_cons,List.map_nil]);first|done|rfl|(simp only [List.length_drop,List.length_take];rfl)) ?_;(with_reducible refine (dA.calls a0_1 t210 true _ A40.out).mono ?_);rintro e w81 ⟨rfl,hb⟩;refine ⟨_,rfl,?_⟩;have n0_:=aa.mk (Kd.bR (by (with_reducible repeat (first|apply Kd.bz|apply Kd.bq|apply Kd.bB));exact HO_5.out) hb);have n1_:=aa.mk (aI (g:=gb195) (o:=.cells #[.int .i64 a0_0,.string a0_1,.string a0_2,.slice A0_3 l0_3.length c0_3,.slice A0_4 l0_4.length c0_4] 25 (0,0)) (by (with_reducible repeat (first|refine au ?_ _|refine av ?_|refine ak ?_ _));exact BK195.out) hb);have n2_:=aa.mk (aI (g:=gb196) (o:=.cells #[.string a1_0,.slice A1_1 l1_1.length c1_1] 28 (0,0)) (by (with_reducible repeat (first|refine au ?_ _|refine av ?_|refine ak ?_ _));exact BK196.out) hb);have n3_:=aa.mk (aD (by repeat (first|(with_reducible first|exact HB.out|apply af|apply ae|apply ag|refine ah ?_ GE195.out|refine ah ?_ GE196.out)|exact HB.out)) hb);clear HO_5;clear BK195;clear BK196;clear HB;have HO_5:=n0_;have BK195:=n1_;have BK196:=n2_;have HB:=n3_;clear n0_ n1_ n2_ n3_;(try clear hb);(try clear hb2);(try clear hk);(try clear hi);have hcz82_0:w81.cell? ⟨gb195,0,none⟩=some (.int .i64 a0_0):=(aj BK195.out 0).trans rfl;have hcz82_1:w81.cell? ⟨gb195,1,none⟩=some (.string a0_1):=(aj BK195.out 1).trans rfl;have hcz82_2:w81.cell? ⟨gb195,2,none⟩=some (.string a0_2):=(aj BK195.out 2).trans rfl;have hcz82_3:w81.cell? ⟨gb195,3,none⟩=some (.slice A0_3 l0_3.length c0_3):=(aj BK195.out 3).trans rfl;have hcz82_4:w81.cell? ⟨gb195,4,none⟩=some (.slice A0_4 l0_4.length c0_4):=(aj BK195.out 4).trans rfl;have hfz82_0:=ai BK195.out 0;have hfz82_1:=ai BK195.out 1;have hfz82_2:=ai BK195.out 2;have hfz82_3:=ai BK195.out 3;have hfz82_4:=ai BK195.out 4;have hcz83_0:w81.cell? ⟨gb196,0,none⟩=some (.string a1_0):=(aj BK196.out 0).trans rfl;have hcz83_1:w81.cell? ⟨gb196,1,none⟩=some (.slice A1_1 l1_1.length c1_1):=(aj BK196.out 1).trans rfl;have hfz83_0:=ai BK196.out 0;have hfz83_1:=ai BK196.out 1)|((with_reducible refine aV (f:=41) rfl ?_);refine bJ (some 89) rfl rfl Tryz.func41 (by kernel_rfl) rfl #[.agg #[.int .i64 a0_0,.string a0_1,.string a0_2,.slice A0_3 l0_3.length c0_3,.slice A0_4 l0_4.length c0_4],.agg #[.string a1_0,.slice A1_1 l1_1.length c1_1]] rfl (by (try simp only [List.map_toArray,List.map_cons,List.map_nil]);first|done|rfl|(simp only [List.length_drop,List.length_take];rfl)) ?_;(with_reducible refine (fE.calls a0_0 a0_1 a0_2 _ _ l0_3 _ _ l0_4 a1_0 _ _ l1_1 t221 _ ?side1 ?side2 ?side3 ?side4 ?side5 ?side6 ?side7 A78.out).mono ?_);(case side1=>repeat (first|exact (Kd.bf HR0_3.out HB.out)|(with_reducible refine Kd.aN ?_ _)|(with_reducible refine Kd.aQ ?_ _)|(with_reducible refine Kd.aW ?_)));(case side2=>exact HC0_3.out);(case side3=>repeat (first|exact (Kd.bf HR0_4.out HB.out)|(with_reducible refine Kd.aN ?_ _)|(with_reducible refine Kd.aQ ?_ _)|(with_reducible refine Kd.aW ?_)));(case side4=>exact HC0_4.out);(case side5=>repeat (first|exact (Kd.bf HR1_1.out HB.out)|(with_reducible refine Kd.aN ?_ _)|(with_reducible refine Kd.aQ ?_ _)|(with_reducible refine Kd.aW ?_)));(case side6=>exact HC1_1.out);(case side7=>first|exact HG.out|exact Gl.drewN HG.out _|exact Gl.below HG.out (by repeat (first|(with_reducible first|exact HB.out|apply af|apply ae|apply ag|refine ah ?_ GE195.out|refine ah ?_ GE196.out)|exact HB.out)));rintro e w84 ⟨rfl,hb⟩;refine ⟨_,rfl,?_⟩;have n0_:=aa.mk (Kd.bR (by (with_reducible repeat (first|apply Kd.bz|apply Kd.bq|apply Kd.bB));exact HO_5.out) hb);have n1_:=aa.mk (aI (g:=gb195) (o:=.cells #[.int .i64 a0_0,.string a0_1,.string a0_2,.slice A0_3 l0_3.length c0_3,.slice A0_4 l0_4.length c0_4] 25 (0,0)) (by (with_reducible repeat (first|refine au ?_ _|refine av ?_|refine ak ?_ _));exact BK195.out) hb);have n2_:=aa.mk (aI (g:=gb196) (o:=.cells #[.string a1_0,.slice A1_1 l1_1.length c1_1] 28 (0,0)) (by (with_reducible repeat (first|refine au ?_ _|refine av ?_|refine ak ?_ _));exact BK196.out) hb);have n3_:=aa.mk (aD (by repeat (first|(with_reducible first|exact HB.out|apply af|apply ae|apply ag|refine ah ?_ GE195.out|refine ah ?_ GE196.out)|exact HB.out)) hb);clear HO_5;clear BK195;clear BK196;clear HB;have HO_5:=n0_;have BK195:=n1_;have BK196:=n2_;have HB:=n3_;clear n0_ n1_ n2_ n3_;(try clear hb);(try clear hb2);(try clear hk);(try clear hi)))
           go_ret
           exact ⟨by first|rfl|(simp [aM,aK] <;> rfl)|(simp [*,aM,aK] <;> rfl),by repeat (first|(with_reducible first|exact HB.out|apply af|apply ae|apply ag|refine ah ?_ GE195.out|refine ah ?_ GE196.out)|exact HB.out)⟩
       ·replace c41:=Bool.eq_false_iff.mpr c41
        subst c41
        have H1:(some 2)=some r:=by rw [if_neg (show ¬ (false=true) by decide)] at H;exact H
        clear H
        have H:=H1
        clear H1
        obtain rfl:=Option.some.inj H
        have hnb85:=NB195_196.out
        have hnc85:=NB196_195.out
        have hcz86_0:wr.cell? ⟨gb195,0,none⟩=some (.int .i64 a0_0):=(aj BK195.out 0).trans rfl
        have hcz86_1:wr.cell? ⟨gb195,1,none⟩=some (.string a0_1):=(aj BK195.out 1).trans rfl
        have hcz86_2:wr.cell? ⟨gb195,2,none⟩=some (.string a0_2):=(aj BK195.out 2).trans rfl
        have hcz86_3:wr.cell? ⟨gb195,3,none⟩=some (.slice A0_3 l0_3.length c0_3):=(aj BK195.out 3).trans rfl
        have hcz86_4:wr.cell? ⟨gb195,4,none⟩=some (.slice A0_4 l0_4.length c0_4):=(aj BK195.out 4).trans rfl
        have hfz86_0:=ai BK195.out 0
        have hfz86_1:=ai BK195.out 1
        have hfz86_2:=ai BK195.out 2
        have hfz86_3:=ai BK195.out 3
        have hfz86_4:=ai BK195.out 4
        go_wp2_with (first|((with_reducible refine aV (f:=35) rfl ?_);refine bJ (some 47) rfl rfl Tryz.func35 (by kernel_rfl) rfl #[.string a0_1] rfl (by (try simp only [List.map_toArray,List.map_cons,List.map_nil]);first|done|rfl|(simp only [List.length_drop,List.length_take];rfl)) ?_;(with_reducible refine (dA.calls a0_1 t210 false _ A40.out).mono ?_);rintro e w87 ⟨rfl,hb⟩;refine ⟨_,rfl,?_⟩;have n0_:=aa.mk (Kd.bR (by (with_reducible repeat (first|apply Kd.bz|apply Kd.bq|apply Kd.bB));exact HO_5.out) hb);have n1_:=aa.mk (aI (g:=gb195) (o:=.cells #[.int .i64 a0_0,.string a0_1,.string a0_2,.slice A0_3 l0_3.length c0_3,.slice A0_4 l0_4.length c0_4] 25 (0,0)) (by (with_reducible repeat (first|refine au ?_ _|refine av ?_|refine ak ?_ _));exact BK195.out) hb);have n2_:=aa.mk (aI (g:=gb196) (o:=.cells #[.string a1_0,.slice A1_1 l1_1.length c1_1] 28 (0,0)) (by (with_reducible repeat (first|refine au ?_ _|refine av ?_|refine ak ?_ _));exact BK196.out) hb);have n3_:=aa.mk (aD (by repeat (first|(with_reducible first|exact HB.out|apply af|apply ae|apply ag|refine ah ?_ GE195.out|refine ah ?_ GE196.out)|exact HB.out)) hb);clear HO_5;clear BK195;clear BK196;clear HB;have HO_5:=n0_;have BK195:=n1_;have BK196:=n2_;have HB:=n3_;clear n0_ n1_ n2_ n3_;(try clear hb);(try clear hb2);(try clear hk);(try clear hi)))
        go_ret
        exact ⟨by first|rfl|(simp [aM,aK] <;> rfl)|(simp [*,aM,aK] <;> rfl),by repeat (first|(with_reducible first|exact HB.out|apply af|apply ae|apply ag|refine ah ?_ GE195.out|refine ah ?_ GE196.out)|exact HB.out)⟩
mutual
def bC.j0:Nat→List ByteArray→Bool→Option (Bool)
 | 0,_,_=>none
 | k+1,x0,x27=>if x27=true then (some false) else (bC.l0 k x0 x0 (x0.length:Int) 0)
def bC.l0:Nat→List ByteArray→List ByteArray→Int→Int→Option (Bool)
 | 0,_,_,_,_=>none
 | k+1,x0,x28,x29,x30=>if x30 < x29 then (if 0≤x30 then (if x30 < (x28.length:Int) then (if ((bE ByteArray.empty x28 x30).size:Int) > 100 then (some false) else (if (bE ByteArray.empty x28 x30).toList=([]:List UInt8) then (if x30 > 0 then (if x30 < (wrap64 ((x0.length:Int) - 1)) then (some false) else (bC.l0 k x0 x28 x29 (wrap64 (x30+1)))) else (bC.l0 k x0 x28 x29 (wrap64 (x30+1)))) else (bC.l0 k x0 x28 x29 (wrap64 (x30+1))))) else (none)) else (none)) else (some true)
end
def bC.f (k:Nat) (l0:List ByteArray):Option (Bool):=if (l0.length:Int) < 2 then (bC.j0 k l0 true) else (if (l0.length:Int) > 8 then (bC.j0 k l0 true) else (if (l0.length:Int)=2 then (if 0 < (l0.length:Int) then (if 1 < (l0.length:Int) then (if (bE ByteArray.empty l0 0).size+(bE ByteArray.empty l0 1).size≤9223372036854775807 then (bC.j0 k l0 (((bE ByteArray.empty l0 0)++(bE ByteArray.empty l0 1)).toList == ([]:List UInt8))) else (none)) else (none)) else (none)) else (bC.j0 k l0 false)))
set_option maxHeartbeats 8000000 in
set_option maxRecDepth 100000 in
theorem bC.calls (k:Nat) (A0:Option Addr) (c0:Nat) (l0:List ByteArray) (r:Bool) (w:World) (hr0:Kd.C Kd.string w A0 l0.length l0) (hc0:l0.length≤c0) (h:bC.f k l0=some r) :
  Calls Tryz.prog 50 #[.slice A0 l0.length c0] w fun e w'=>e=.returned (.bool r)∧bg w w':=by
 have HR0:=aa.mk hr0
 have HC0:=aa.mk hc0
 clear hr0 hc0
 have H:(if (l0.length:Int) < 2 then (bC.j0 k l0 true) else (if (l0.length:Int) > 8 then (bC.j0 k l0 true) else (if (l0.length:Int)=2 then (if 0 < (l0.length:Int) then (if 1 < (l0.length:Int) then (if (bE ByteArray.empty l0 0).size+(bE ByteArray.empty l0 1).size≤9223372036854775807 then (bC.j0 k l0 (((bE ByteArray.empty l0 0)++(bE ByteArray.empty l0 1)).toList == ([]:List UInt8))) else (none)) else (none)) else (none)) else (bC.j0 k l0 false))))=some r:=h
 clear h
 have HC2:=aa.mk H
 clear H
 go_enter Tryz.func50,Tryz.ntmps50
 go_upto_region 1 with (fail)
 repeat (go_quiet (fail);go_upto_region 1 with (fail))
 go_cut [27] (fun v27 wc=>∃ (kq:Nat) (x27_1:Bool),v27=.bool x27_1∧aa (bC.j0 kq l0 x27_1=some r)∧aa (kq≤k)∧bg w wc)
 case first =>
  have H:=HC2.out
  clear HC2
  by_cases c3:(l0.length:Int) < 2
  ·rw [if_pos c3] at H
   have c3b0:decide ((l0.length:Int) < 2)=true:=decide_eq_true c3
   have c3b1:decide (l0.length < 2)=true:=decide_eq_true (by omega)
   clear c3
   (first|rw [c3b0]|(simp only [aT,aU];rw [c3b0])|skip)
   have H':=aa.mk H
   clear H
   go_wp2
   repeat (go_quiet (fail);try go_wp2)
   go_meet
   case rel=>exact ⟨_,(true),(by first|rfl|(simp;done)|(simp [*];done)|(simp [*,aT,aU,bU];done)|(simp only [ay,ax];done)|(simp only [ay,ax];simp;done)|(simp only [ay,ax];simp [*];done)),H',⟨by first|omega|exact Nat.le_refl _⟩,by repeat (first|exact bg.refl _|apply bg.step)⟩
  ·rw [if_neg c3] at H
   have c3b0:decide ((l0.length:Int) < 2)=false:=decide_eq_false c3
   have c3b1:decide (l0.length < 2)=false:=decide_eq_false (by omega)
   clear c3
   (first|rw [c3b0]|(simp only [aT,aU];rw [c3b0])|skip)
   by_cases c4:(l0.length:Int) > 8
   ·rw [if_pos c4] at H
    have c4b0:decide (8 < (l0.length:Int))=true:=decide_eq_true c4
    have c4b1:decide (8 < l0.length)=true:=decide_eq_true (by omega)
    clear c4
    have H':=aa.mk H
    clear H
    go_wp2
    repeat (go_quiet (fail);try go_wp2)
    go_meet
    case rel=>exact ⟨_,(true),(by first|rfl|(simp;done)|(simp [*];done)|(simp [*,aT,aU,bU];done)|(simp only [ay,ax];done)|(simp only [ay,ax];simp;done)|(simp only [ay,ax];simp [*];done)),H',⟨by first|omega|exact Nat.le_refl _⟩,by repeat (first|exact bg.refl _|apply bg.step)⟩
   ·rw [if_neg c4] at H
    have c4b0:decide (8 < (l0.length:Int))=false:=decide_eq_false c4
    have c4b1:decide (8 < l0.length)=false:=decide_eq_false (by omega)
    clear c4
    by_cases c5:(l0.length:Int)=2
    ·rw [if_pos c5] at H
     have c5b0:((l0.length:Int) == 2)=true:=beq_iff_eq.mpr c5
     have c5b1:((l0.length:Int) != 2)=false:=bne_eq_false_iff_eq.mpr c5
     clear c5
     by_cases c6:0 < (l0.length:Int)
     ·rw [if_pos c6] at H
      have c6b0:decide (0 < (l0.length:Int))=true:=decide_eq_true c6
      have c6b1:decide (0 < l0.length)=true:=decide_eq_true (by omega)
      clear c6
      by_cases c7:1 < (l0.length:Int)
      ·rw [if_pos c7] at H
       have c7b0:decide (1 < (l0.length:Int))=true:=decide_eq_true c7
       have c7b1:decide (1 < l0.length)=true:=decide_eq_true (by omega)
       clear c7
       by_cases c8:(bE ByteArray.empty l0 0).size+(bE ByteArray.empty l0 1).size≤9223372036854775807
       ·rw [if_pos c8] at H
        have c8b0:=eq_true c8
        have c8b1:decide ((bE ByteArray.empty l0 0).size+(bE ByteArray.empty l0 1).size≤9223372036854775807)=true:=decide_eq_true c8
        try have c8b2:(9223372036854775807 < (bE ByteArray.empty l0 0).size+(bE ByteArray.empty l0 1).size)=False:=eq_false (Nat.not_lt.2 c8)
        have H':=aa.mk H
        clear H
        have p113:0≤(0:Int):=(by omega)
        have q113:0 < (l0.length:Int):=of_decide_eq_true (by first|(with_reducible assumption)|assumption)
        obtain ⟨ad113,e113,hx113_0⟩:=Kd.dz HR0.out 0 p113 q113
        cases e113
        have qi113:(0 < l0.length)=True:=eq_true (by omega)
        (try rw [show ((0:Int)).toNat=0 from rfl] at hx113_0)
        (try rw [Addr.add_zero'] at hx113_0)
        replace p113:=eq_true p113
        replace q113:=eq_true q113
        have p114:0≤(1:Int):=(by omega)
        have q114:1 < (l0.length:Int):=of_decide_eq_true (by first|(with_reducible assumption)|assumption)
        obtain ⟨ad114,e114,hx114_0⟩:=Kd.dz HR0.out 1 p114 q114
        obtain rfl:ad113=ad114:=(by injection e114)
        (try simp only [show (1:Int).toNat=1 from rfl,Nat.reduceMul,Nat.reduceEqDiff,Go.Addr.add,↓reduceIte] at hx114_0)
        have qi114:(1 < l0.length)=True:=eq_true (by omega)
        (try rw [show ((1:Int)).toNat=1 from rfl] at hx114_0)
        replace p114:=eq_true p114
        replace q114:=eq_true q114
        go_wp2
        repeat (go_quiet (fail);try go_wp2)
        go_meet
        case rel=>exact ⟨_,((((bE ByteArray.empty l0 0)++(bE ByteArray.empty l0 1)).toList == ([]:List UInt8))),(by first|rfl|(simp;done)|(simp [*];done)|(simp [*,aT,aU,bU];done)|(simp only [ay,ax];done)|(simp only [ay,ax];simp;done)|(simp only [ay,ax];simp [*];done)),H',⟨by first|omega|exact Nat.le_refl _⟩,by repeat (first|exact bg.refl _|apply bg.step)⟩
       ·rw [if_neg c8] at H
        exact absurd H (by simp)
      ·rw [if_neg c7] at H
       exact absurd H (by simp)
     ·rw [if_neg c6] at H
      exact absurd H (by simp)
    ·rw [if_neg c5] at H
     have c5b0:((l0.length:Int) == 2)=false:=beq_eq_false_iff_ne.mpr c5
     have c5b1:((l0.length:Int) != 2)=true:=bne_iff_ne.mpr c5
     have H':=aa.mk H
     clear H
     go_wp2
     repeat (go_quiet (fail);try go_wp2)
     go_meet
     case rel=>exact ⟨_,(false),(by first|rfl|(simp;done)|(simp [*];done)|(simp [*,aT,aU,bU];done)|(simp only [ay,ax];done)|(simp only [ay,ax];simp;done)|(simp only [ay,ax];simp [*];done)),H',⟨by first|omega|exact Nat.le_refl _⟩,by repeat (first|exact bg.refl _|apply bg.step)⟩
 case rest =>
  clear HC2
  try clear p1
  try clear q1
  try clear hx1
  try clear qi1
  try clear p2
  try clear c3
  try clear c3b0
  try clear c3b1
  try clear c4
  try clear c4b0
  try clear c4b1
  try clear c5
  try clear c5b0
  try clear c5b1
  try clear c6
  try clear c6b0
  try clear c6b1
  try clear c7
  try clear c7b0
  try clear c7b1
  try clear c8
  try clear c8b0
  try clear c8b1
  try clear c8b2
  try clear hx113_0
  try clear hx114_0
  try clear p113
  try clear p114
  try clear q113
  try clear q114
  obtain ⟨kq,x27_1,rfl,HA,HJ1,⟨mc1,rfl⟩⟩:=hcut
  cases kq with
  | zero=>exact absurd HA.out (by simp [bC.j0])
  | succ kj1 =>
   have H:=HA.out
   clear HA
   simp only [bC.j0] at H
   by_cases c9:x27_1=true
   ·subst c9
    have H1:(some false)=some r:=by rw [if_pos rfl] at H;exact H
    clear H
    have H:=H1
    clear H1
    obtain rfl:=Option.some.inj H
    go_wp2
    repeat (go_quiet (fail);try go_wp2)
    go_ret
    exact ⟨by first|rfl|(simp;done)|(simp [*];done)|(simp [*,aT,aU,bU];done)|(simp only [ay,ax];done)|(simp only [ay,ax];simp;done)|(simp only [ay,ax];simp [*];done),by repeat (first|exact bg.refl _|apply bg.step)⟩
   ·replace c9:=Bool.eq_false_iff.mpr c9
    subst c9
    have H1:(bC.l0 kj1 l0 l0 (l0.length:Int) 0)=some r:=by rw [if_neg (show ¬ (false=true) by decide)] at H;exact H
    clear H
    have H:=H1
    clear H1
    have H':=aa.mk H
    clear H
    go_wp2
    repeat (go_quiet (fail);try go_wp2)
    go_loopg [30] kj1 (fun kq v30 w'=>∃ (x30_2:Int),v30=.int .i64 x30_2∧aa (bC.l0 kq l0 l0 (l0.length:Int) x30_2=some r)∧aa (kq≤kj1)∧bg w w')
    case atStart=>exact ⟨(0),(by first|rfl|(simp;done)|(simp [*];done)|(simp [*,aT,aU,bU];done)|(simp only [ay,ax];done)|(simp only [ay,ax];simp;done)|(simp only [ay,ax];simp [*];done)),H',⟨Nat.le_refl _⟩,by repeat (first|exact bg.refl _|apply bg.step)⟩
    case round =>
     clear H'
     try clear c1
     try clear p1
     try clear q1
     try clear hx1
     try clear qi1
     try clear p2
     try clear c3
     try clear c3b0
     try clear c3b1
     try clear c4
     try clear c4b0
     try clear c4b1
     try clear c5
     try clear c5b0
     try clear c5b1
     try clear c6
     try clear c6b0
     try clear c6b1
     try clear c7
     try clear c7b0
     try clear c7b1
     try clear c8
     try clear c8b0
     try clear c8b1
     try clear c8b2
     try clear c9
     try clear hx113_0
     try clear hx114_0
     try clear p1
     try clear p113
     try clear p114
     try clear p2
     try clear q1
     try clear q113
     try clear q114
     obtain ⟨x30_2,rfl,HA,HK2,⟨m2,rfl⟩⟩:=hrel
     cases gk with
     | zero=>exact absurd HA.out (by simp [bC.l0])
     | succ k2 =>
      have H:=HA.out
      clear HA
      simp only [bC.l0] at H
      by_cases c10:x30_2 < (l0.length:Int)
      ·rw [if_pos c10] at H
       have c10b0:decide (x30_2 < (l0.length:Int))=true:=decide_eq_true c10
       clear c10
       by_cases c11:0≤x30_2
       ·rw [if_pos c11] at H
        have c11b0:decide (0≤x30_2)=true:=decide_eq_true c11
        clear c11
        by_cases c12:x30_2 < (l0.length:Int)
        ·rw [if_pos c12] at H
         have c12b0:decide (x30_2 < (l0.length:Int))=true:=decide_eq_true c12
         clear c12
         by_cases c13:((bE ByteArray.empty l0 x30_2).size:Int) > 100
         ·rw [if_pos c13] at H
          have c13b0:decide (100 < ((bE ByteArray.empty l0 x30_2).size:Int))=true:=decide_eq_true c13
          have c13b1:decide (100 < (bE ByteArray.empty l0 x30_2).size)=true:=decide_eq_true (by omega)
          clear c13
          obtain rfl:=Option.some.inj H
          have p115:0≤(x30_2:Int):=of_decide_eq_true (by first|(with_reducible assumption)|assumption)
          have q115:x30_2 < (l0.length:Int):=of_decide_eq_true (by first|(with_reducible assumption)|assumption)
          obtain ⟨ad115,e115,hx115_0⟩:=Kd.dz HR0.out x30_2 p115 q115
          cases e115
          replace p115:=eq_true p115
          replace q115:=eq_true q115
          go_wp2
          repeat (go_quiet (fail);try go_wp2)
          go_ret
          exact ⟨by first|rfl|(simp;done)|(simp [*];done)|(simp [*,aT,aU,bU];done)|(simp only [ay,ax];done)|(simp only [ay,ax];simp;done)|(simp only [ay,ax];simp [*];done),by repeat (first|exact bg.refl _|apply bg.step)⟩
         ·rw [if_neg c13] at H
          have c13b0:decide (100 < ((bE ByteArray.empty l0 x30_2).size:Int))=false:=decide_eq_false c13
          have c13b1:decide (100 < (bE ByteArray.empty l0 x30_2).size)=false:=decide_eq_false (by omega)
          clear c13
          by_cases c14:(bE ByteArray.empty l0 x30_2).toList=([]:List UInt8)
          ·rw [if_pos c14] at H
           have c14b0:((bE ByteArray.empty l0 x30_2).toList == ([]:List UInt8))=true:=beq_iff_eq.mpr c14
           have c14b1:((bE ByteArray.empty l0 x30_2).toList != ([]:List UInt8))=false:=bne_eq_false_iff_eq.mpr c14
           clear c14
           by_cases c15:x30_2 > 0
           ·rw [if_pos c15] at H
            have c15b0:decide (0 < x30_2)=true:=decide_eq_true c15
            clear c15
            by_cases c16:x30_2 < (wrap64 ((l0.length:Int) - 1))
            ·rw [if_pos c16] at H
             have c16b0:decide (x30_2 < (wrap64 ((l0.length:Int) - 1)))=true:=decide_eq_true c16
             clear c16
             obtain rfl:=Option.some.inj H
             have p115:0≤(x30_2:Int):=of_decide_eq_true (by first|(with_reducible assumption)|assumption)
             have q115:x30_2 < (l0.length:Int):=of_decide_eq_true (by first|(with_reducible assumption)|assumption)
             obtain ⟨ad115,e115,hx115_0⟩:=Kd.dz HR0.out x30_2 p115 q115
             cases e115
             replace p115:=eq_true p115
             replace q115:=eq_true q115
             go_wp2
             repeat (go_quiet (fail);try go_wp2)
             go_ret
             exact ⟨by first|rfl|(simp;done)|(simp [*];done)|(simp [*,aT,aU,bU];done)|(simp only [ay,ax];done)|(simp only [ay,ax];simp;done)|(simp only [ay,ax];simp [*];done),by repeat (first|exact bg.refl _|apply bg.step)⟩
            ·rw [if_neg c16] at H
             have c16b0:decide (x30_2 < (wrap64 ((l0.length:Int) - 1)))=false:=decide_eq_false c16
             clear c16
             have H':=aa.mk H
             clear H
             have p115:0≤(x30_2:Int):=of_decide_eq_true (by first|(with_reducible assumption)|assumption)
             have q115:x30_2 < (l0.length:Int):=of_decide_eq_true (by first|(with_reducible assumption)|assumption)
             obtain ⟨ad115,e115,hx115_0⟩:=Kd.dz HR0.out x30_2 p115 q115
             cases e115
             replace p115:=eq_true p115
             replace q115:=eq_true q115
             go_wp2
             repeat (go_quiet (fail);try go_wp2)
             go_roundg k2
             case measure=>have:=HJ1.out;have:=HK2.out;omega
             case rel=>exact ⟨(wrap64 (x30_2+1)),(by first|rfl|(simp;done)|(simp [*];done)|(simp [*,aT,aU,bU];done)|(simp only [ay,ax];done)|(simp only [ay,ax];simp;done)|(simp only [ay,ax];simp [*];done)),H',⟨by have:=HJ1.out;have:=HK2.out;omega⟩,by repeat (first|exact bg.refl _|apply bg.step)⟩
           ·rw [if_neg c15] at H
            have c15b0:decide (0 < x30_2)=false:=decide_eq_false c15
            clear c15
            have H':=aa.mk H
            clear H
            have p115:0≤(x30_2:Int):=of_decide_eq_true (by first|(with_reducible assumption)|assumption)
            have q115:x30_2 < (l0.length:Int):=of_decide_eq_true (by first|(with_reducible assumption)|assumption)
            obtain ⟨ad115,e115,hx115_0⟩:=Kd.dz HR0.out x30_2 p115 q115
            cases e115
            replace p115:=eq_true p115
            replace q115:=eq_true q115
            go_wp2
            repeat (go_quiet (fail);try go_wp2)
            go_roundg k2
            case measure=>have:=HJ1.out;have:=HK2.out;omega
            case rel=>exact ⟨(wrap64 (x30_2+1)),(by first|rfl|(simp;done)|(simp [*];done)|(simp [*,aT,aU,bU];done)|(simp only [ay,ax];done)|(simp only [ay,ax];simp;done)|(simp only [ay,ax];simp [*];done)),H',⟨by have:=HJ1.out;have:=HK2.out;omega⟩,by repeat (first|exact bg.refl _|apply bg.step)⟩
          ·rw [if_neg c14] at H
           have c14b0:((bE ByteArray.empty l0 x30_2).toList == ([]:List UInt8))=false:=beq_eq_false_iff_ne.mpr c14
           have c14b1:((bE ByteArray.empty l0 x30_2).toList != ([]:List UInt8))=true:=bne_iff_ne.mpr c14
           have H':=aa.mk H
           clear H
           have p115:0≤(x30_2:Int):=of_decide_eq_true (by first|(with_reducible assumption)|assumption)
           have q115:x30_2 < (l0.length:Int):=of_decide_eq_true (by first|(with_reducible assumption)|assumption)
           obtain ⟨ad115,e115,hx115_0⟩:=Kd.dz HR0.out x30_2 p115 q115
           cases e115
           replace p115:=eq_true p115
           replace q115:=eq_true q115
           go_wp2
           repeat (go_quiet (fail);try go_wp2)
           go_roundg k2
           case measure=>have:=HJ1.out;have:=HK2.out;omega
           case rel=>exact ⟨(wrap64 (x30_2+1)),(by first|rfl|(simp;done)|(simp [*];done)|(simp [*,aT,aU,bU];done)|(simp only [ay,ax];done)|(simp only [ay,ax];simp;done)|(simp only [ay,ax];simp [*];done)),H',⟨by have:=HJ1.out;have:=HK2.out;omega⟩,by repeat (first|exact bg.refl _|apply bg.step)⟩
        ·rw [if_neg c12] at H
         exact absurd H (by simp)
       ·rw [if_neg c11] at H
        exact absurd H (by simp)
      ·rw [if_neg c10] at H
       have c10b0:decide (x30_2 < (l0.length:Int))=false:=decide_eq_false c10
       clear c10
       obtain rfl:=Option.some.inj H
       go_wp2
       repeat (go_quiet (fail);try go_wp2)
       go_ret
       exact ⟨by first|rfl|(simp;done)|(simp [*];done)|(simp [*,aT,aU,bU];done)|(simp only [ay,ax];done)|(simp only [ay,ax];simp;done)|(simp only [ay,ax];simp [*];done),by repeat (first|exact bg.refl _|apply bg.step)⟩
end Go.Proofs.YthfpaoacjpjnfaaGreatDoor.P


namespace Go.Proofs.YthfpaoacjpjnfaaGreatDoor.P
open Go.RowKit Go.Proofs.YthfpaoacjpjnfaaGreatDoorW.PrintWords Go.Proofs.YthfpaoacjpjnfaaGreatDoorW.PrintLast Go.Proofs.YthfpaoacjpjnfaaGreatDoorW.PrintMore
def qf (l:List ByteArray) (i:Nat):Bool:=decide ((bE ByteArray.empty l (i:Int)).size≤100) && !(decide ((bE ByteArray.empty l (i:Int)).toList=[]) && decide (0 < i) && decide (i+1 < l.length))
def fV (l:List ByteArray) (i:Nat):Nat→Bool
  | 0=>true
  | n+1=>qf l i && fV l (i+1) n
def il (l:List ByteArray):Bool:=decide (2≤l.length) && decide (l.length≤8) && !(decide (l.length=2) && (decide ((bE ByteArray.empty l 0).toList=[]) && decide ((bE ByteArray.empty l 1).toList=[]))) && fV l 0 l.length
theorem q9 (l:List ByteArray) (hl:l.length≤8):∀ (n i:Nat),l.length - i=n→i≤l.length→Ev (fun k=>bC.l0 k l l (l.length:Int) (i:Int)) (fV l i n):=by
  intro n
  induction n with
  | zero =>
    intro i hn hi
    have h1:¬ ((i:Int) < (l.length:Int)):=by omega
    exact Ev.step (fun k=>by rw [bC.l0]) (Ev.ifn (c:=(i:Int) < (l.length:Int)) h1 (Ev.now true))
  | succ n ih =>
    intro i hn hi
    have h1:(i:Int) < (l.length:Int):=by omega
    have hw:wrap64 ((i:Int)+1)=((i+1:Nat):Int):=by unfold wrap64;omega
    have hw2:wrap64 ((l.length:Int) - 1)=(l.length:Int) - 1:=by unfold wrap64;omega
    have hih:=ih (i+1) (by omega) (by omega)
    rw [← hw] at hih
    unfold fV qf
    refine Ev.step (fun k=>by rw [bC.l0]) (Ev.ifp h1 (Ev.ifp (by omega) (Ev.ifp h1 ?_)))
    by_cases c1:(bE ByteArray.empty l (i:Int)).size≤100
    · rw [decide_eq_true c1]
      refine Ev.ifn (by omega) ?_
      by_cases c2:(bE ByteArray.empty l (i:Int)).toList=[]
      · rw [decide_eq_true c2]
        refine Ev.ifp c2 ?_
        by_cases c3:0 < i
        · rw [decide_eq_true c3]
          refine Ev.ifp (by omega) ?_
          by_cases c4:i+1 < l.length
          · rw [decide_eq_true c4]
            exact Ev.ifp (by rw [hw2];omega) (Ev.now _)
          · rw [decide_eq_false c4]
            exact Ev.ifn (by rw [hw2];omega) hih
        · rw [decide_eq_false c3]
          exact Ev.ifn (by omega) hih
      · rw [decide_eq_false c2]
        exact Ev.ifn c2 hih
    · rw [decide_eq_false c1]
      exact Ev.ifp (by omega) (Ev.now _)
theorem mI (a b:ByteArray):(a++b).toList=[]↔a.toList=[]∧b.toList=[]:=by
  rw [toList_data,toList_data,toList_data,ja,List.append_eq_nil_iff]
theorem qd (l:List ByteArray) (hb:∀ i:Nat,i < l.length→(bE ByteArray.empty l (i:Int)).size≤4611686018427387903):Ev (fun k=>bC.f k l) (il l):=by
  have jt:Ev (fun k=>bC.j0 k l true) false:=Ev.step (fun k=>by rw [bC.j0]) (Ev.ifp rfl (Ev.now _))
  unfold bC.f il
  by_cases c1:2≤l.length
  · rw [decide_eq_true c1]
    refine Ev.ifn (by omega) ?_
    by_cases c2:l.length≤8
    · rw [decide_eq_true c2]
      refine Ev.ifn (by omega) ?_
      have jl:Ev (fun k=>bC.l0 k l l (l.length:Int) 0) (fV l 0 l.length):=q9 l c2 l.length 0 (by omega) (by omega)
      have jf:Ev (fun k=>bC.j0 k l false) (fV l 0 l.length):=Ev.step (fun k=>by rw [bC.j0]) (Ev.ifn (c:=false=true) Bool.false_ne_true jl)
      by_cases c3:l.length=2
      · rw [decide_eq_true c3]
        have b0:=hb 0 (by omega)
        have b1:=hb 1 (by omega)
        refine Ev.ifp (by omega) (Ev.ifp (by omega) (Ev.ifp (by omega) (Ev.ifp (by
          have e0:(bE ByteArray.empty l ((0:Nat):Int))=bE ByteArray.empty l 0:=rfl
          have e1:(bE ByteArray.empty l ((1:Nat):Int))=bE ByteArray.empty l 1:=rfl
          rw [e0] at b0
          rw [e1] at b1
          omega) ?_)))
        by_cases c4:(bE ByteArray.empty l 0).toList=[]∧(bE ByteArray.empty l 1).toList=[]
        · rw [decide_eq_true c4.1,decide_eq_true c4.2]
          have e:((bE ByteArray.empty l 0++bE ByteArray.empty l 1).toList == ([]:List UInt8))=true:=beq_iff_eq.2 ((mI _ _).2 c4)
          rw [e]
          exact jt
        · have e:((bE ByteArray.empty l 0++bE ByteArray.empty l 1).toList == ([]:List UInt8))=false:=beq_eq_false_iff_ne.2 (fun h=>c4 ((mI _ _).1 h))
          rw [e]
          have e2:(decide ((bE ByteArray.empty l 0).toList=[]) && decide ((bE ByteArray.empty l 1).toList=[]))=false:=by
            cases h:(decide ((bE ByteArray.empty l 0).toList=[]) && decide ((bE ByteArray.empty l 1).toList=[])) with
            | false=>rfl
            | true=>rw [Bool.and_eq_true,decide_eq_true_eq,decide_eq_true_eq] at h;exact absurd h c4
          rw [e2]
          exact jf
      · rw [decide_eq_false c3]
        exact Ev.ifn (by omega) jf
    · rw [decide_eq_false c2]
      exact Ev.ifp (by omega) jt
  · rw [decide_eq_false c1]
    exact Ev.ifp (by omega) jt
def jQ (a1 a2:ByteArray) (l3:List ByteArray):Bool:=decide (a1.toList=[]) && decide (a2.toList=[]) && decide (l3.length=0)
def gH (a1:ByteArray) (l4:List S25):Bool:=gp a1.data.toList && decide (l4.length=0)
def dh (a0:Int) (a1 a2:ByteArray) (l3:List ByteArray) (l4:List S25) (deepOk kidsOk:Bool):Bool :=
  if a0=1∨a0=2 then jQ a1 a2 l3 && decide (l4.length≤40) && (deepOk && kidsOk)
  else if a0=3 then jQ a1 a2 l3 && decide (l4.length=1) && (deepOk && kidsOk)
  else if a0=4∨a0=6∨a0=7 then gH a1 l4 && decide (l3.length=0) && decide (a2.size≤100)
  else if a0=5 then gH a1 l4 && decide (a2.toList=[]) && il l3
  else if a0=8 then gH a1 l4 && decide (a2.toList=[]) && decide (l3.length=0)
  else false
def fC:Nat→S25→Bool
  | 0,f=>dh f.f0 f.f1 f.f2 f.f3 f.f4 (decide (f.f4.length=0)) true
  | n+1,f=>dh f.f0 f.f1 f.f2 f.f3 f.f4 true (f.f4.all (fC n))
def szF:Nat→S25→Prop
  | 0,f=>∀ i:Nat,i < f.f3.length→(bE ByteArray.empty f.f3 (i:Int)).size≤4611686018427387903
  | n+1,f=>(∀ i:Nat,i < f.f3.length→(bE ByteArray.empty f.f3 (i:Int)).size≤4611686018427387903)∧∀ x ∈ f.f4,szF n x
theorem oC {n:Nat} {f:S25} (h:szF n f):∀ i:Nat,i < f.f3.length→(bE ByteArray.empty f.f3 (i:Int)).size≤4611686018427387903:=by
  cases n with
  | zero=>exact h
  | succ n=>exact h.1
theorem pE {l:List S25} {i:Nat} (h:i < l.length):az l (i:Int) ∈ l:=by
  unfold az
  rw [Int.toNat_natCast,List.getD_eq_getElem?_getD,List.getElem?_eq_getElem h]
  exact List.getElem_mem h
theorem pU (l:List S25) (q:S25→Bool):fZ (fun i=>!q (az l (i:Int))) l.length=!l.all q:=by
  unfold fZ
  induction l with
  | nil=>rfl
  | cons a r ih =>
    rw [List.length_cons,List.range_succ_eq_map,List.any_cons,List.any_map,List.all_cons]
    have:((fun i:Nat=>!q (az (a :: r) (i:Int))) ∘ Nat.succ)=fun i:Nat=>!q (az r (i:Int)):=by
      funext j
      show (!q (az (a :: r) ((j+1:Nat):Int)))=_
      unfold az
      rw [Int.toNat_natCast,Int.toNat_natCast]
      rfl
    rw [this,ih]
    have h0:az (a :: r) ((0:Nat):Int)=a:=rfl
    rw [h0]
    cases q a <;> simp
set_option maxHeartbeats 2000000 in
theorem vz (B n0 cap:Nat) (f:Nat→Int) (g:Nat) (lb:Array Value) (p:Nat→Bool) (w:World) (eg:∀ args w,(callFunc g args).run Tryz.prog w=.ok (.enter g args) w)
    (hr:iK w B n0 f) (hB:B < w.heap.size) (hl:n0≤4611686018427387904)
    (hp:∀ i:Nat,i < n0→∀ (W:World),Below w.heap.size w W→Calls Tryz.prog g (#[.int .u8 (f i)]++lb) W fun e w'=>e=.returned (.bool (p i))∧Below w.heap.size w w') :
    Calls Tryz.prog 96 #[.slice (some ⟨B,0,none⟩) n0 cap,.func (.func g) #[] lb] w fun e w'=>e=.returned (.int .i64 (eH p n0))∧Below w.heap.size w w':=by
  obtain ⟨n,hn⟩:∃ n,n0=n:=⟨_,rfl⟩
  go_enter Tryz.func96,Tryz.ntmps96
  go_wp2
  rw [hn]
  go_loopg [5,8] n (fun gg _ s8 wr=>∃ kk:Nat,kk≤n∧n - kk≤gg∧s8=.int .i64 kk∧aa (Below w.heap.size w wr)∧aa (∀ j,j < kk→p j=false))
  case atStart=>exact ⟨0,Nat.zero_le _,by omega,rfl,⟨Below.refl _ w⟩,⟨fun j hj=>absurd hj (Nat.not_lt_zero _)⟩⟩
  case round =>
    obtain ⟨kk,hkk,hg,rfl,BW,AW⟩:=hrel
    by_cases hlt:kk < n
    · have hltz:(kk:Int) < (n:Int):=by omega
      have x0:=(qW hr hB BW.out).cell kk (by omega)
      have hcall:=hp kk (by omega) wr BW.out
      clear hr
      clear hp
      cases hq:p kk with
      | true =>
        rw [hq] at hcall
        have HQ:=Lib.hid hq
        clear hq
        go_wp2_with (go_at_fn g;refine hcall.mono ?_;rintro e w' ⟨rfl,hb'⟩)
        go_ret
        refine ⟨?_,hb'⟩
        first|rw [show eH p (n0)=(kk:Int) from by rw [hn];exact fP p n kk hlt HQ.out AW.out]|rw [fP p n kk hlt HQ.out AW.out]
        first|rfl|simp
      | false =>
        rw [hq] at hcall
        have HQ:=Lib.hid hq
        clear hq
        go_wp2_with (go_at_fn g;refine hcall.mono ?_;rintro e w' ⟨rfl,hb'⟩)
        go_roundg (n - (kk+1))
        case measure=>omega
        case rel =>
          refine ⟨kk+1,by omega,by omega,by go_num,⟨hb'⟩,⟨fun j hj=>?_⟩⟩
          by_cases e:j=kk
          · subst e;exact HQ.out
          · exact AW.out j (by omega)
    · have hltz:¬ (kk:Int) < (n:Int):=by omega
      have:kk=n:=by omega
      subst this
      clear hp
      go_wp2
      go_ret
      refine ⟨?_,BW.out⟩
      first|rw [show eH p kk=-1 from fJ p kk AW.out]|rw [show eH p (n0)=-1 from by rw [hn];exact fJ p kk AW.out]
      first|rfl|simp
theorem om (B n0 cap:Nat) (f:Nat→Int) (g:Nat) (lb:Array Value) (p:Nat→Bool) (w:World) (eg:∀ args w,(callFunc g args).run Tryz.prog w=.ok (.enter g args) w)
    (hr:iK w B n0 f) (hB:B < w.heap.size) (hl:n0≤4611686018427387904)
    (hp:∀ i:Nat,i < n0→∀ (W:World),Below w.heap.size w W→Calls Tryz.prog g (#[.int .u8 (f i)]++lb) W fun e w'=>e=.returned (.bool (p i))∧Below w.heap.size w w') :
    Calls Tryz.prog 76 #[.slice (some ⟨B,0,none⟩) n0 cap,.func (.func g) #[] lb] w fun e w'=>e=.returned (.bool (fZ p (n0)))∧Below w.heap.size w w':=by
  rw [← jT]
  have hI:=vz B n0 cap f g lb p w eg hr hB hl hp
  clear hp
  go_enter Tryz.func76,Tryz.ntmps76
  go_wp2_with (go_at_call 96;refine hI.mono ?_;rintro e w' ⟨rfl,hb'⟩)
  go_ret
  exact ⟨rfl,hb'⟩
end Go.Proofs.YthfpaoacjpjnfaaGreatDoor.P

namespace Go.Proofs.YthfpaoacjpjnfaaGreatDoor.P
open Go.RowKit Go.Proofs.YthfpaoacjpjnfaaGreatDoorW.PrintWords Go.Proofs.YthfpaoacjpjnfaaGreatDoorW.PrintLast Go.Proofs.YthfpaoacjpjnfaaGreatDoorW.PrintMore
attribute [local go_sem] dW dZ eP eQ dL dM dY dX
def dV.f (a0:Int):Option (Bool):=if 97≤a0 then (if a0≤122 then (some true) else (if 65≤a0 then (some (decide (a0≤90))) else (some false))) else (if 65≤a0 then (some (decide (a0≤90))) else (some false))
set_option maxHeartbeats 8000000 in
set_option maxRecDepth 100000 in
theorem dV.calls (a0:Int) (r:Bool) (w:World) (h:dV.f a0=some r) :
  Calls Tryz.prog 75 #[.int .u8 a0] w fun e w'=>e=.returned (.bool r)∧bg w w':=by
 have H:(if 97≤a0 then (if a0≤122 then (some true) else (if 65≤a0 then (some (decide (a0≤90))) else (some false))) else (if 65≤a0 then (some (decide (a0≤90))) else (some false)))=some r:=h
 clear h
 by_cases c2:97≤a0
 ·rw [if_pos c2] at H
  have c2b0:decide (97≤a0)=true:=decide_eq_true c2
  clear c2
  by_cases c3:a0≤122
  ·rw [if_pos c3] at H
   have c3b0:decide (a0≤122)=true:=decide_eq_true c3
   clear c3
   obtain rfl:=Option.some.inj H
   go_enter Tryz.func75,Tryz.ntmps75
   go_wp2
   go_ret
   exact ⟨by first|rfl|(simp;done)|(simp [*];done)|(simp [*,aT,aU,bU];done)|(simp only [ay,ax];done)|(simp only [ay,ax];simp;done)|(simp only [ay,ax];simp [*];done),by repeat (first|exact bg.refl _|apply bg.step)⟩
  ·rw [if_neg c3] at H
   have c3b0:decide (a0≤122)=false:=decide_eq_false c3
   clear c3
   by_cases c4:65≤a0
   ·rw [if_pos c4] at H
    have c4b0:decide (65≤a0)=true:=decide_eq_true c4
    clear c4
    obtain rfl:=Option.some.inj H
    go_enter Tryz.func75,Tryz.ntmps75
    go_wp2
    go_ret
    exact ⟨by first|rfl|(simp;done)|(simp [*];done)|(simp [*,aT,aU,bU];done)|(simp only [ay,ax];done)|(simp only [ay,ax];simp;done)|(simp only [ay,ax];simp [*];done),by repeat (first|exact bg.refl _|apply bg.step)⟩
   ·rw [if_neg c4] at H
    have c4b0:decide (65≤a0)=false:=decide_eq_false c4
    clear c4
    obtain rfl:=Option.some.inj H
    go_enter Tryz.func75,Tryz.ntmps75
    go_wp2
    go_ret
    exact ⟨by first|rfl|(simp;done)|(simp [*];done)|(simp [*,aT,aU,bU];done)|(simp only [ay,ax];done)|(simp only [ay,ax];simp;done)|(simp only [ay,ax];simp [*];done),by repeat (first|exact bg.refl _|apply bg.step)⟩
 ·rw [if_neg c2] at H
  have c2b0:decide (97≤a0)=false:=decide_eq_false c2
  clear c2
  by_cases c5:65≤a0
  ·rw [if_pos c5] at H
   have c5b0:decide (65≤a0)=true:=decide_eq_true c5
   clear c5
   obtain rfl:=Option.some.inj H
   go_enter Tryz.func75,Tryz.ntmps75
   go_wp2
   go_ret
   exact ⟨by first|rfl|(simp;done)|(simp [*];done)|(simp [*,aT,aU,bU];done)|(simp only [ay,ax];done)|(simp only [ay,ax];simp;done)|(simp only [ay,ax];simp [*];done),by repeat (first|exact bg.refl _|apply bg.step)⟩
  ·rw [if_neg c5] at H
   have c5b0:decide (65≤a0)=false:=decide_eq_false c5
   clear c5
   obtain rfl:=Option.some.inj H
   go_enter Tryz.func75,Tryz.ntmps75
   go_wp2
   go_ret
   exact ⟨by first|rfl|(simp;done)|(simp [*];done)|(simp [*,aT,aU,bU];done)|(simp only [ay,ax];done)|(simp only [ay,ax];simp;done)|(simp only [ay,ax];simp [*];done),by repeat (first|exact bg.refl _|apply bg.step)⟩
def iE.f (a0:Int):Option (Bool):=(dV.f a0).bind fun t116=>(if t116=true then (some true) else (if 48≤a0 then (if a0≤57 then (some true) else (some (a0 == 45))) else (some (a0 == 45))))
set_option maxHeartbeats 8000000 in
set_option maxRecDepth 100000 in
theorem iE.calls (a0:Int) (r:Bool) (w:World) (h:iE.f a0=some r) :
  Calls Tryz.prog 78 #[.int .u8 a0] w fun e w'=>e=.returned (.bool r)∧bg w w':=by
 have H:((dV.f a0).bind fun t116=>(if t116=true then (some true) else (if 48≤a0 then (if a0≤57 then (some true) else (some (a0 == 45))) else (some (a0 == 45)))))=some r:=h
 clear h
 replace H:=Option.bind_eq_some_iff.mp H
 obtain ⟨t116,A20,H⟩:=H
 replace H:(if t116=true then (some true) else (if 48≤a0 then (if a0≤57 then (some true) else (some (a0 == 45))) else (some (a0 == 45))))=some r:=H
 have A2:=aa.mk A20
 clear A20
 by_cases c3:t116=true
 ·subst c3
  have H1:(some true)=some r:=by rw [if_pos rfl] at H;exact H
  clear H
  have H:=H1
  clear H1
  obtain rfl:=Option.some.inj H
  go_enter Tryz.func78,Tryz.ntmps78
  go_wp2_with (first|((with_reducible refine aV (f:=75) rfl ?_);refine bJ (some 4) rfl rfl Tryz.func75 (by kernel_rfl) rfl #[.int .u8 a0] rfl (by (try simp only [List.map_toArray,List.map_cons,List.map_nil]);first|done|rfl|(simp only [List.length_drop,List.length_take];rfl)) ?_;(with_reducible refine (dV.calls a0 true _ A2.out).mono ?_);rintro e w' ⟨rfl,⟨nd,rfl⟩⟩;refine ⟨_,rfl,?_⟩))
  go_ret
  exact ⟨by first|rfl|(simp;done)|(simp [*];done)|(simp [*,aT,aU,bU];done)|(simp only [ay,ax];done)|(simp only [ay,ax];simp;done)|(simp only [ay,ax];simp [*];done),by repeat (first|exact bg.refl _|apply bg.step)⟩
 ·replace c3:=Bool.eq_false_iff.mpr c3
  subst c3
  have H1:(if 48≤a0 then (if a0≤57 then (some true) else (some (a0 == 45))) else (some (a0 == 45)))=some r:=by rw [if_neg (show ¬ (false=true) by decide)] at H;exact H
  clear H
  have H:=H1
  clear H1
  by_cases c4:48≤a0
  ·rw [if_pos c4] at H
   have c4b0:decide (48≤a0)=true:=decide_eq_true c4
   clear c4
   by_cases c5:a0≤57
   ·rw [if_pos c5] at H
    have c5b0:decide (a0≤57)=true:=decide_eq_true c5
    clear c5
    obtain rfl:=Option.some.inj H
    go_enter Tryz.func78,Tryz.ntmps78
    go_wp2_with (first|((with_reducible refine aV (f:=75) rfl ?_);refine bJ (some 4) rfl rfl Tryz.func75 (by kernel_rfl) rfl #[.int .u8 a0] rfl (by (try simp only [List.map_toArray,List.map_cons,List.map_nil]);first|done|rfl|(simp only [List.length_drop,List.length_take];rfl)) ?_;(with_reducible refine (dV.calls a0 false _ A2.out).mono ?_);rintro e w' ⟨rfl,⟨nd,rfl⟩⟩;refine ⟨_,rfl,?_⟩))
    go_ret
    exact ⟨by first|rfl|(simp;done)|(simp [*];done)|(simp [*,aT,aU,bU];done)|(simp only [ay,ax];done)|(simp only [ay,ax];simp;done)|(simp only [ay,ax];simp [*];done),by repeat (first|exact bg.refl _|apply bg.step)⟩
   ·rw [if_neg c5] at H
    have c5b0:decide (a0≤57)=false:=decide_eq_false c5
    clear c5
    obtain rfl:=Option.some.inj H
    go_enter Tryz.func78,Tryz.ntmps78
    go_wp2_with (first|((with_reducible refine aV (f:=75) rfl ?_);refine bJ (some 4) rfl rfl Tryz.func75 (by kernel_rfl) rfl #[.int .u8 a0] rfl (by (try simp only [List.map_toArray,List.map_cons,List.map_nil]);first|done|rfl|(simp only [List.length_drop,List.length_take];rfl)) ?_;(with_reducible refine (dV.calls a0 false _ A2.out).mono ?_);rintro e w' ⟨rfl,⟨nd,rfl⟩⟩;refine ⟨_,rfl,?_⟩))
    go_ret
    exact ⟨by first|rfl|(simp;done)|(simp [*];done)|(simp [*,aT,aU,bU];done)|(simp only [ay,ax];done)|(simp only [ay,ax];simp;done)|(simp only [ay,ax];simp [*];done),by repeat (first|exact bg.refl _|apply bg.step)⟩
  ·rw [if_neg c4] at H
   have c4b0:decide (48≤a0)=false:=decide_eq_false c4
   clear c4
   obtain rfl:=Option.some.inj H
   go_enter Tryz.func78,Tryz.ntmps78
   go_wp2_with (first|((with_reducible refine aV (f:=75) rfl ?_);refine bJ (some 4) rfl rfl Tryz.func75 (by kernel_rfl) rfl #[.int .u8 a0] rfl (by (try simp only [List.map_toArray,List.map_cons,List.map_nil]);first|done|rfl|(simp only [List.length_drop,List.length_take];rfl)) ?_;(with_reducible refine (dV.calls a0 false _ A2.out).mono ?_);rintro e w' ⟨rfl,⟨nd,rfl⟩⟩;refine ⟨_,rfl,?_⟩))
   go_ret
   exact ⟨by first|rfl|(simp;done)|(simp [*];done)|(simp [*,aT,aU,bU];done)|(simp only [ay,ax];done)|(simp only [ay,ax];simp;done)|(simp only [ay,ax];simp [*];done),by repeat (first|exact bg.refl _|apply bg.step)⟩
end Go.Proofs.YthfpaoacjpjnfaaGreatDoor.P


namespace Go.Proofs.YthfpaoacjpjnfaaGreatDoor.P
open Go.RowKit Go.Proofs.YthfpaoacjpjnfaaGreatDoorW.PrintWords Go.Proofs.YthfpaoacjpjnfaaGreatDoorW.PrintLast Go.Proofs.YthfpaoacjpjnfaaGreatDoorW.PrintMore
theorem rf (c:UInt8):dV.f (c.toNat:Int)=some (jr c):=kM (p:=fun c=>dV.f (c.toNat:Int)=some (jr c)) (by decide +kernel) c
theorem uZ (c:UInt8):iE.f (c.toNat:Int)=some (fH c):=kM (p:=fun c=>iE.f (c.toNat:Int)=some (fH c)) (by decide +kernel) c
theorem qA (c:UInt8) (w:World) :
    Calls Tryz.prog 77 (#[.int .u8 (c.toNat:Int)]++#[]) w fun e w'=>e=.returned (.bool (!fH c))∧Below w.heap.size w w':=by
  have HN:=aa.mk (uZ c)
  show Calls Tryz.prog 77 #[.int .u8 (c.toNat:Int)] w _
  go_enter Tryz.func77,Tryz.ntmps77
  go_wp2_with (go_at_call 78;refine (iE.calls _ _ _ HN.out).mono ?_;rintro e w' ⟨rfl,⟨nq,rfl⟩⟩)
  go_ret
  exact ⟨rfl,ae (Below.refl _ _) _⟩
theorem ol (l:List UInt8):(List.range l.length).any (fun j=>!fH (l.getD j 0))=!l.all fH:=by
  have:∀ (m:List UInt8) (k:Nat),((List.range m.length).any fun j=>!fH (m.getD j 0))=!m.all fH:=by
    intro m k
    induction m with
    | nil=>rfl
    | cons a r ih =>
      rw [List.length_cons,List.range_succ_eq_map,List.any_cons,List.any_map,List.all_cons]
      have:((fun j=>!fH ((a :: r).getD j 0)) ∘ Nat.succ)=fun j=>!fH (r.getD j 0):=by funext j;rfl
      rw [this,ih]
      cases h:fH a <;> simp [h]
  exact this l 0
set_option maxHeartbeats 8000000 in
theorem lQ (a0:ByteArray) (w:World) :
    Calls Tryz.prog 49 #[.string a0] w fun e w'=>e=.returned (.bool (gp a0.data.toList))∧Below w.heap.size w w':=by
  have hcv:=fun W=>Lib.run_convert_string_bytes (P:=Tryz.prog) W 9 34 5 a0 (u:=.string) Tryz.underlying9 Tryz.underlying34 Tryz.underlying5
  by_cases h0:a0.toList=[]
  · have hr:gp a0.data.toList=false:=by rw [← toList_data,h0];rfl
    have b0:(a0.toList == ([]:List UInt8))=true:=beq_iff_eq.2 h0
    rw [hr]
    clear hr h0
    go_enter Tryz.func49,Tryz.ntmps49
    go_wp2
    go_ret
    exact ⟨rfl,Below.refl _ _⟩
  · have b0:(a0.toList == ([]:List UInt8))=false:=beq_eq_false_iff_ne.2 h0
    have hp:0 < a0.size:=Nat.pos_of_ne_zero fun h=>h0 ((jZ a0).2 h)
    have he:a0.data.toList.isEmpty=false:=by rw [← toList_data];cases hh:a0.toList with|nil=>exact absurd hh h0|cons _ _=>rfl
    by_cases h3:a0.size≤30
    · have d3:decide (30 < a0.size)=false:=decide_eq_false (by omega)
      have d3':decide ((30:Int) < (a0.size:Int))=false:=decide_eq_false (by omega)
      have hx0:∀ h:0 < a0.size,((a0[0]'h).toNat:Int)=bt a0 0:=gU a0 0
      have qi0:((0:Int) < (a0.size:Int))=True:=eq_true (by omega)
      have q0:(0 < a0.size)=True:=eq_true hp
      clear hp
      have hL0:=rf (a0.data.toList.getD 0 0)
      rw [← qK a0 0] at hL0
      have HL0:=Lib.hid hL0
      clear hL0
      by_cases hl:jr (a0.data.toList.getD 0 0)=true
      · rw [hl] at HL0
        have hr:gp a0.data.toList=!(!a0.data.toList.all fH):=by
          unfold gp
          rw [he,hl,decide_eq_true (by rw [← dU];exact h3)]
          cases a0.data.toList.all fH <;> rfl
        rw [hr,← ol]
        clear hr
        have eg:∀ args w,(callFunc 77 args).run Tryz.prog w=.ok (.enter 77 args) w:=enters_of Tryz.func77 (by kernel_rfl) rfl
        have ct:∀ (W:World) (nq cap:Nat),W=Lib.bytesWorld (w.drewN nq) 5 a0→Calls Tryz.prog 76 #[.slice (some ⟨w.heap.size,0,none⟩) a0.size cap,.func (.func 77) #[] #[]] W fun e w'=>e=.returned (.bool ((List.range a0.data.toList.length).any fun j=>!fH (a0.data.toList.getD j 0)))∧Below w.heap.size w w':=by
          intro W nq cap hW
          subst hW
          have hlt:w.heap.size < (Lib.bytesWorld (w.drewN nq) 5 a0).heap.size:=by
            have h:=(nK w nq a0).cell 0 (of_eq_true q0)
            exact World.block_lt_of_cell? (Lib.bytesWorld (w.drewN nq) 5 a0) _ h
          have h:=om w.heap.size a0.size cap (fun j=>((a0.data.toList.getD j 0).toNat:Int)) 77 #[] (fun j=>!fH (a0.data.toList.getD j 0)) (Lib.bytesWorld (w.drewN nq) 5 a0) eg (nK w nq a0) hlt (by omega) (fun i hi W' hb'=>by
            refine (qA (a0.data.toList.getD i 0) W').mono ?_
            rintro e w' ⟨rfl,hb2⟩
            exact ⟨rfl,aD hb' hb2⟩)
          refine h.mono ?_
          rintro e w' ⟨rfl,hb⟩
          refine ⟨?_,jK (qa w nq a0) (Nat.le_of_lt hlt) hb⟩
          unfold fZ
          rw [dU]
        have CT:=aa.mk ct
        clear ct eg h3
        obtain ⟨R,hR⟩:∃ R,((List.range a0.data.toList.length).any fun j=>!fH (a0.data.toList.getD j 0))=R:=⟨_,rfl⟩
        rw [hR] at CT ⊢
        clear hR
        go_enter Tryz.func49,Tryz.ntmps49
        go_wp2_with (first|(go_at_call 75;refine (dV.calls _ _ _ HL0.out).mono ?_;rintro e w' ⟨rfl,⟨nq,rfl⟩⟩)|(go_at_call 76;refine (CT.out _ nq _ (by rfl)).mono ?_;rintro e w2 ⟨rfl,hb⟩))
        go_ret
        exact ⟨rfl,hb⟩
      · replace hl:=Bool.eq_false_iff.2 hl
        rw [hl] at HL0
        have hr:gp a0.data.toList=false:=by
          unfold gp
          rw [he,hl]
          simp
        rw [hr]
        clear hr h3
        go_enter Tryz.func49,Tryz.ntmps49
        go_wp2_with (go_at_call 75;refine (dV.calls _ _ _ HL0.out).mono ?_;rintro e w' ⟨rfl,⟨nq,rfl⟩⟩)
        go_ret
        exact ⟨rfl,ae (Below.refl _ _) _⟩
    · have d3:decide (30 < a0.size)=true:=decide_eq_true (by omega)
      have d3':decide ((30:Int) < (a0.size:Int))=true:=decide_eq_true (by omega)
      have hr:gp a0.data.toList=false:=by
        unfold gp
        rw [decide_eq_false (by rw [← dU];exact h3)]
        simp
      rw [hr]
      clear hr h3 hp
      go_enter Tryz.func49,Tryz.ntmps49
      go_wp2
      go_ret
      exact ⟨rfl,Below.refl _ _⟩
set_option maxHeartbeats 2000000 in
theorem qO (A0:Option Addr) (c0:Nat) (l0:List S25) (g:Nat) (lb:Array Value) (p:Nat→Bool) (w:World) (eg:∀ args w,(callFunc g args).run Tryz.prog w=.ok (.enter g args) w)
    (hr:Kd.C k25 w A0 l0.length l0) (hp:∀ i:Nat,i < l0.length→∀ (W:World) (A3:Option Addr) (c3:Nat) (A4:Option Addr) (c4:Nat),Below w.heap.size w W→(az l0 (i:Int)).f3.length≤c3→Kd.string.C W A3 (az l0 (i:Int)).f3.length (az l0 (i:Int)).f3→(az l0 (i:Int)).f4.length≤c4→Kd.C k25 W A4 (az l0 (i:Int)).f4.length (az l0 (i:Int)).f4→Calls Tryz.prog g (#[.agg #[.int .i64 (az l0 (i:Int)).f0,.string (az l0 (i:Int)).f1,.string (az l0 (i:Int)).f2,.slice A3 (az l0 (i:Int)).f3.length c3,.slice A4 (az l0 (i:Int)).f4.length c4]]++lb) W fun e w'=>e=.returned (.bool (p i))∧Below w.heap.size w w') :
    Calls Tryz.prog 79 #[.slice A0 l0.length c0,.func (.func g) #[] lb] w fun e w'=>e=.returned (.int .i64 (eH p l0.length))∧Below w.heap.size w w':=by
  have hl:=hr.2.1
  obtain ⟨n,hn⟩:∃ n,l0.length=n:=⟨_,rfl⟩
  go_enter Tryz.func79,Tryz.ntmps79
  go_wp2
  rw [hn]
  go_loopg [5,8] n (fun gg _ s8 wr=>∃ kk:Nat,kk≤n∧n - kk≤gg∧s8=.int .i64 kk∧aa (Below w.heap.size w wr)∧aa (∀ j,j < kk→p j=false))
  case atStart=>exact ⟨0,Nat.zero_le _,by omega,rfl,⟨Below.refl _ w⟩,⟨fun j hj=>absurd hj (Nat.not_lt_zero _)⟩⟩
  case round =>
    obtain ⟨kk,hkk,hg,rfl,BW,AW⟩:=hrel
    by_cases hlt:kk < n
    · have hltz:(kk:Int) < (n:Int):=by omega
      obtain ⟨ad,A3,c3,A4,c4,rfl,x0,x1,x2,x3,x4,lc3,g3,lc4,g4⟩:=jo (Kd.bf hr BW.out) (kk:Int) (by omega) (by omega)
      rw [Int.toNat_natCast] at x0 x1 x2 x3 x4
      have hcall:=hp kk (by omega) wr A3 c3 A4 c4 BW.out lc3 g3 lc4 g4
      clear g3 g4 hr
      clear hp
      cases hq:p kk with
      | true =>
        rw [hq] at hcall
        have HQ:=Lib.hid hq
        clear hq
        go_wp2_with (go_at_fn g;refine hcall.mono ?_;rintro e w' ⟨rfl,hb'⟩)
        go_ret
        refine ⟨?_,hb'⟩
        first|rw [show eH p (l0.length)=(kk:Int) from by rw [hn];exact fP p n kk hlt HQ.out AW.out]|rw [fP p n kk hlt HQ.out AW.out]
        first|rfl|simp
      | false =>
        rw [hq] at hcall
        have HQ:=Lib.hid hq
        clear hq
        go_wp2_with (go_at_fn g;refine hcall.mono ?_;rintro e w' ⟨rfl,hb'⟩)
        go_roundg (n - (kk+1))
        case measure=>omega
        case rel =>
          refine ⟨kk+1,by omega,by omega,by go_num,⟨hb'⟩,⟨fun j hj=>?_⟩⟩
          by_cases e:j=kk
          · subst e;exact HQ.out
          · exact AW.out j (by omega)
    · have hltz:¬ (kk:Int) < (n:Int):=by omega
      have:kk=n:=by omega
      subst this
      clear hp
      go_wp2
      go_ret
      refine ⟨?_,BW.out⟩
      first|rw [show eH p kk=-1 from fJ p kk AW.out]|rw [show eH p (l0.length)=-1 from by rw [hn];exact fJ p kk AW.out]
      first|rfl|simp
theorem jR (A0:Option Addr) (c0:Nat) (l0:List S25) (g:Nat) (lb:Array Value) (p:Nat→Bool) (w:World) (eg:∀ args w,(callFunc g args).run Tryz.prog w=.ok (.enter g args) w)
    (hr:Kd.C k25 w A0 l0.length l0) (hp:∀ i:Nat,i < l0.length→∀ (W:World) (A3:Option Addr) (c3:Nat) (A4:Option Addr) (c4:Nat),Below w.heap.size w W→(az l0 (i:Int)).f3.length≤c3→Kd.string.C W A3 (az l0 (i:Int)).f3.length (az l0 (i:Int)).f3→(az l0 (i:Int)).f4.length≤c4→Kd.C k25 W A4 (az l0 (i:Int)).f4.length (az l0 (i:Int)).f4→Calls Tryz.prog g (#[.agg #[.int .i64 (az l0 (i:Int)).f0,.string (az l0 (i:Int)).f1,.string (az l0 (i:Int)).f2,.slice A3 (az l0 (i:Int)).f3.length c3,.slice A4 (az l0 (i:Int)).f4.length c4]]++lb) W fun e w'=>e=.returned (.bool (p i))∧Below w.heap.size w w') :
    Calls Tryz.prog 51 #[.slice A0 l0.length c0,.func (.func g) #[] lb] w fun e w'=>e=.returned (.bool (fZ p (l0.length)))∧Below w.heap.size w w':=by
  rw [← jT]
  have hI:=qO A0 c0 l0 g lb p w eg hr  hp
  clear hp
  go_enter Tryz.func51,Tryz.ntmps51
  go_wp2_with (go_at_call 79;refine hI.mono ?_;rintro e w' ⟨rfl,hb'⟩)
  go_ret
  exact ⟨rfl,hb'⟩
theorem wH (a:ByteArray):(a.toList == ([]:List UInt8))=decide (a.toList=[]):=by
  by_cases h:a.toList=[]
  · rw [decide_eq_true h];exact beq_iff_eq.2 h
  · rw [decide_eq_false h];exact beq_eq_false_iff_ne.2 h
theorem wL (n m:Nat):((n:Int) == (m:Int))=decide (n=m):=by
  by_cases h:n=m
  · rw [decide_eq_true h];exact beq_iff_eq.2 (by omega)
  · rw [decide_eq_false h];exact beq_eq_false_iff_ne.2 (by omega)
set_option maxHeartbeats 4000000 in
set_option maxRecDepth 100000 in
theorem qC (n:Nat) (deepOk kidsOk:Bool) (a0:Int) (a1 a2:ByteArray) (A3:Option Addr) (c3:Nat) (l3:List ByteArray) (A4:Option Addr) (c4:Nat) (l4:List S25) (w:World)
    (hr3:Kd.C Kd.string w A3 l3.length l3) (hc3:l3.length≤c3) (hd:deepOk=!(decide (0 < l4.length) && decide (n < 1)))
    (hsz:∀ i:Nat,i < l3.length→(bE ByteArray.empty l3 (i:Int)).size≤4611686018427387903)
    (hk:deepOk=true→∀ W:World,Below w.heap.size w W→W.cell? ⟨w.heap.size+1,0,none⟩=some (.int .i64 (n:Int)) →
        Calls Tryz.prog 51 #[.slice A4 l4.length c4,.func (.func 52) #[] #[.pointer (some ⟨w.heap.size+1,0,none⟩)]] W fun e w'=>e=.returned (.bool (!kidsOk))∧Below W.heap.size W w') :
    Calls Tryz.prog 33 #[.agg #[.int .i64 a0,.string a1,.string a2,.slice A3 l3.length c3,.slice A4 l4.length c4],.int .i64 (n:Int)] w fun e w'=>e=.returned (.bool (dh a0 a1 a2 l3 l4 deepOk kidsOk))∧Below w.heap.size w w':=by
  have hu:=Tryz.underlying25
  have HR:=aa.mk hr3
  have HC:=aa.mk hc3
  have HK:=aa.mk hk
  have HD:=aa.mk hd
  have HS:=aa.mk hsz
  clear hr3 hc3 hk hd hsz
  go_enter Tryz.func33,Tryz.ntmps33
  go_upto_region 1 with (fail)
  obtain ⟨w0,hw0⟩:∃ w0,(w.alloc (.cells #[.int .i64 a0,.string a1,.string a2,.slice A3 l3.length c3,.slice A4 l4.length c4] 25)).alloc (.cells #[.int .i64 (n:Int)] 3)=w0:=⟨_,rfl⟩
  have k0:w0.cell? ⟨w.heap.size,0,none⟩=some (.int .i64 a0):=by rw [← hw0];simp [go_sem]
  have k1:w0.cell? ⟨w.heap.size,1,none⟩=some (.string a1):=by rw [← hw0];simp [go_sem]
  have k2:w0.cell? ⟨w.heap.size,2,none⟩=some (.string a2):=by rw [← hw0];simp [go_sem]
  have k3:w0.cell? ⟨w.heap.size,3,none⟩=some (.slice A3 l3.length c3):=by rw [← hw0];simp [go_sem]
  have k4:w0.cell? ⟨w.heap.size,4,none⟩=some (.slice A4 l4.length c4):=by rw [← hw0];simp [go_sem]
  have kd:w0.cell? ⟨w.heap.size+1,0,none⟩=some (.int .i64 (n:Int)):=by rw [← hw0];simp [go_sem]
  have kB:Below w.heap.size w w0:=by rw [← hw0];exact af (af (Below.refl _ _) _) _
  rw [hw0]
  clear hw0
  have KB:=aa.mk kB
  clear kB
  have QB:=aa.mk (show jQ a1 a2 l3=((a1.toList == ([]:List UInt8)) && (a2.toList == ([]:List UInt8)) && ((l3.length:Int) == 0)) by
    unfold jQ;rw [wH,wH,← wL];rfl)
  go_cut [5] from 7 to 20 (fun s wx=>s=.bool (jQ a1 a2 l3)∧wx=w0)
  case first =>
    obtain ⟨x1,b1⟩:∃ x,(a1.toList == ([]:List UInt8))=x:=⟨_,rfl⟩
    obtain ⟨x2,b2⟩:∃ x,(a2.toList == ([]:List UInt8))=x:=⟨_,rfl⟩
    obtain ⟨x3,b3⟩:∃ x,((l3.length:Int) == 0)=x:=⟨_,rfl⟩
    cases x1 <;> cases x2 <;> cases x3 <;> (go_wp2;go_meet;exact ⟨congrArg Value.bool (by rw [QB.out,b1,b2,b3];rfl),rfl⟩)
  case rest =>
    obtain ⟨rfl,rfl⟩:=hcut
    clear QB
    have QL:=aa.mk (show gH a1 l4=(gp a1.data.toList && ((l4.length:Int) == 0)) by unfold gH;rw [← wL];rfl)
    go_upto_region 2 with (fail)
    go_cut [6] from 21 to 29 (fun s wx=>s=.bool (gH a1 l4)∧Below w.heap.size w wx∧(wx.cell? ⟨w.heap.size,0,none⟩=some (.int .i64 a0)∧wx.cell? ⟨w.heap.size,2,none⟩=some (.string a2)∧wx.cell? ⟨w.heap.size,3,none⟩=some (.slice A3 l3.length c3)∧wx.cell? ⟨w.heap.size,4,none⟩=some (.slice A4 l4.length c4)∧wx.cell? ⟨w.heap.size+1,0,none⟩=some (.int .i64 (n:Int))))
    case first =>
      obtain ⟨x1,b1⟩:∃ x,gp a1.data.toList=x:=⟨_,rfl⟩
      cases x1
      · have q:=aa.mk (show false=gH a1 l4 by rw [QL.out,b1];rfl)
        have B1:=aa.mk b1
        clear b1
        go_wp2_with (go_at_call 49;refine (lQ a1 _).mono ?_;rintro e w1 ⟨rfl,hb⟩;rw [B1.out];have KB1:=aa.mk (aD KB.out hb);have HB1:=aa.mk hb;clear hb)
        go_meet
        exact ⟨congrArg Value.bool q.out,KB1.out,bN (W0:=wc) k0 HB1.out,bN (W0:=wc) k2 HB1.out,bN (W0:=wc) k3 HB1.out,bN (W0:=wc) k4 HB1.out,bN (W0:=wc) kd HB1.out⟩
      · have B1:=aa.mk b1
        clear b1
        obtain ⟨x2,b2⟩:∃ x,((l4.length:Int) == 0)=x:=⟨_,rfl⟩
        have q:=aa.mk (show x2=gH a1 l4 by rw [QL.out,B1.out,b2];rfl)
        cases x2 <;> (go_wp2_with (go_at_call 49;refine (lQ a1 _).mono ?_;rintro e w1 ⟨rfl,hb⟩;rw [B1.out];have KB1:=aa.mk (aD KB.out hb);have j0:=bN (W0:=wc) k0 hb;have j2:=bN (W0:=wc) k2 hb;have j3:=bN (W0:=wc) k3 hb;have j4:=bN (W0:=wc) k4 hb;have jd:=bN (W0:=wc) kd hb;clear hb k0 k1 k2 k3 k4 kd);go_meet;exact ⟨congrArg Value.bool q.out,KB1.out,j0,j2,j3,j4,jd⟩)
    case rest =>
      obtain ⟨rfl,kB2,j0,j2,j3,j4,jd⟩:=hcut
      have KB2:=aa.mk kB2
      clear KB kB2 k0 k1 k2 k3 k4 kd QL
      have HDC:=aa.mk (show (deepOk=false∧0 < l4.length∧n < 1)∨(deepOk=true∧¬ 0 < l4.length)∨(deepOk=true∧0 < l4.length∧¬ n < 1) by
        rw [HD.out]
        by_cases c1:0 < l4.length
        · by_cases c2:n < 1
          · exact .inl ⟨by rw [decide_eq_true c1,decide_eq_true c2];rfl,c1,c2⟩
          · exact .inr (.inr ⟨by rw [decide_eq_false c2,Bool.and_false];rfl,c1,c2⟩)
        · exact .inr (.inl ⟨by rw [decide_eq_false c1];rfl,c1⟩))
      clear HD
      have hkind:a0=1∨a0=2∨a0=3∨a0=4∨a0=5∨a0=6∨a0=7∨a0=8∨¬ (a0=1∨a0=2∨a0=3∨a0=4∨a0=5∨a0=6∨a0=7∨a0=8):=by omega
      rcases hkind with ek|ek|ek|ek|ek|ek|ek|ek|ek
      · subst ek
        obtain ⟨x,hx⟩:∃ x,jQ a1 a2 l3=x:=⟨_,rfl⟩
        rw [hx]
        have XB:=aa.mk hx
        clear hx
        cases x
        · have HM:=aa.mk (show dh 1 a1 a2 l3 l4 deepOk kidsOk=false by unfold dh;simp [XB.out])
          go_wp2
          go_ret
          exact ⟨congrArg (fun b=>Ending.returned (.bool b)) HM.out.symm,KB2.out⟩
        · by_cases hc:l4.length≤40
          · have HC2:=aa.mk hc
            have p1:decide ((40:Int) < (l4.length:Int))=false:=decide_eq_false (by omega)
            have p2:((40:Int) < (l4.length:Int))=False:=eq_false (by omega)
            clear hc
            rcases HDC.out with ⟨d1,d2,d3⟩|⟨d1,d2⟩|⟨d1,d2,d3⟩
            · have HM:=aa.mk (show dh 1 a1 a2 l3 l4 deepOk kidsOk=false by unfold dh;simp [d1])
              have q1:decide ((0:Int) < (l4.length:Int))=true:=decide_eq_true (by omega)
              have q2:decide ((n:Int) < 1)=true:=decide_eq_true (by omega)
              have q3:(0 < l4.length)=True:=eq_true (by omega)
              have q4:((n:Int) < 1)=True:=eq_true (by omega)
              clear d1 d2 d3
              go_wp2
              go_ret
              exact ⟨congrArg (fun b=>Ending.returned (.bool b)) HM.out.symm,KB2.out⟩
            · have HM:=aa.mk (show dh 1 a1 a2 l3 l4 deepOk kidsOk=kidsOk by unfold dh;simp [d1,XB.out,HC2.out])
              have q1:decide ((0:Int) < (l4.length:Int))=false:=decide_eq_false (by omega)
              have q3:(0 < l4.length)=False:=eq_false (by omega)
              have HK2:=aa.mk (HK.out d1)
              clear d1 d2
              go_wp2_with (go_at_call 51;refine (HK2.out _ KB2.out jd).mono ?_;rintro e w3 ⟨rfl,hb⟩;have KB3:=aa.mk (aD KB2.out hb);clear hb)
              go_ret
              exact ⟨congrArg (fun b=>Ending.returned (.bool b)) HM.out.symm,KB3.out⟩
            · have HM:=aa.mk (show dh 1 a1 a2 l3 l4 deepOk kidsOk=kidsOk by unfold dh;simp [d1,XB.out,HC2.out])
              have q1:decide ((0:Int) < (l4.length:Int))=true:=decide_eq_true (by omega)
              have q2:decide ((n:Int) < 1)=false:=decide_eq_false (by omega)
              have q3:(0 < l4.length)=True:=eq_true (by omega)
              have q4:((n:Int) < 1)=False:=eq_false (by omega)
              have HK2:=aa.mk (HK.out d1)
              clear d1 d2 d3
              go_wp2_with (go_at_call 51;refine (HK2.out _ KB2.out jd).mono ?_;rintro e w3 ⟨rfl,hb⟩;have KB3:=aa.mk (aD KB2.out hb);clear hb)
              go_ret
              exact ⟨congrArg (fun b=>Ending.returned (.bool b)) HM.out.symm,KB3.out⟩
          · have HM:=aa.mk (show dh 1 a1 a2 l3 l4 deepOk kidsOk=false by unfold dh;simp [XB.out,hc])
            have p1:decide ((40:Int) < (l4.length:Int))=true:=decide_eq_true (by omega)
            have p2:((40:Int) < (l4.length:Int))=True:=eq_true (by omega)
            clear hc
            go_wp2
            go_ret
            exact ⟨congrArg (fun b=>Ending.returned (.bool b)) HM.out.symm,KB2.out⟩
      · subst ek
        obtain ⟨x,hx⟩:∃ x,jQ a1 a2 l3=x:=⟨_,rfl⟩
        rw [hx]
        have XB:=aa.mk hx
        clear hx
        cases x
        · have HM:=aa.mk (show dh 2 a1 a2 l3 l4 deepOk kidsOk=false by unfold dh;simp [XB.out])
          go_wp2
          go_ret
          exact ⟨congrArg (fun b=>Ending.returned (.bool b)) HM.out.symm,KB2.out⟩
        · by_cases hc:l4.length≤40
          · have HC2:=aa.mk hc
            have p1:decide ((40:Int) < (l4.length:Int))=false:=decide_eq_false (by omega)
            have p2:((40:Int) < (l4.length:Int))=False:=eq_false (by omega)
            clear hc
            rcases HDC.out with ⟨d1,d2,d3⟩|⟨d1,d2⟩|⟨d1,d2,d3⟩
            · have HM:=aa.mk (show dh 2 a1 a2 l3 l4 deepOk kidsOk=false by unfold dh;simp [d1])
              have q1:decide ((0:Int) < (l4.length:Int))=true:=decide_eq_true (by omega)
              have q2:decide ((n:Int) < 1)=true:=decide_eq_true (by omega)
              have q3:(0 < l4.length)=True:=eq_true (by omega)
              have q4:((n:Int) < 1)=True:=eq_true (by omega)
              clear d1 d2 d3
              go_wp2
              go_ret
              exact ⟨congrArg (fun b=>Ending.returned (.bool b)) HM.out.symm,KB2.out⟩
            · have HM:=aa.mk (show dh 2 a1 a2 l3 l4 deepOk kidsOk=kidsOk by unfold dh;simp [d1,XB.out,HC2.out])
              have q1:decide ((0:Int) < (l4.length:Int))=false:=decide_eq_false (by omega)
              have q3:(0 < l4.length)=False:=eq_false (by omega)
              have HK2:=aa.mk (HK.out d1)
              clear d1 d2
              go_wp2_with (go_at_call 51;refine (HK2.out _ KB2.out jd).mono ?_;rintro e w3 ⟨rfl,hb⟩;have KB3:=aa.mk (aD KB2.out hb);clear hb)
              go_ret
              exact ⟨congrArg (fun b=>Ending.returned (.bool b)) HM.out.symm,KB3.out⟩
            · have HM:=aa.mk (show dh 2 a1 a2 l3 l4 deepOk kidsOk=kidsOk by unfold dh;simp [d1,XB.out,HC2.out])
              have q1:decide ((0:Int) < (l4.length:Int))=true:=decide_eq_true (by omega)
              have q2:decide ((n:Int) < 1)=false:=decide_eq_false (by omega)
              have q3:(0 < l4.length)=True:=eq_true (by omega)
              have q4:((n:Int) < 1)=False:=eq_false (by omega)
              have HK2:=aa.mk (HK.out d1)
              clear d1 d2 d3
              go_wp2_with (go_at_call 51;refine (HK2.out _ KB2.out jd).mono ?_;rintro e w3 ⟨rfl,hb⟩;have KB3:=aa.mk (aD KB2.out hb);clear hb)
              go_ret
              exact ⟨congrArg (fun b=>Ending.returned (.bool b)) HM.out.symm,KB3.out⟩
          · have HM:=aa.mk (show dh 2 a1 a2 l3 l4 deepOk kidsOk=false by unfold dh;simp [XB.out,hc])
            have p1:decide ((40:Int) < (l4.length:Int))=true:=decide_eq_true (by omega)
            have p2:((40:Int) < (l4.length:Int))=True:=eq_true (by omega)
            clear hc
            go_wp2
            go_ret
            exact ⟨congrArg (fun b=>Ending.returned (.bool b)) HM.out.symm,KB2.out⟩
      · subst ek
        obtain ⟨x,hx⟩:∃ x,jQ a1 a2 l3=x:=⟨_,rfl⟩
        rw [hx]
        have XB:=aa.mk hx
        clear hx
        cases x
        · have HM:=aa.mk (show dh 3 a1 a2 l3 l4 deepOk kidsOk=false by unfold dh;simp [XB.out])
          go_wp2
          go_ret
          exact ⟨congrArg (fun b=>Ending.returned (.bool b)) HM.out.symm,KB2.out⟩
        · by_cases hc:l4.length=1
          · have HC2:=aa.mk hc
            have p1:((l4.length:Int) == 1)=true:=beq_iff_eq.2 (by omega)
            have p2:((l4.length:Int) != 1)=false:=by rw [bne,p1];rfl
            clear hc
            rcases HDC.out with ⟨d1,d2,d3⟩|⟨d1,d2⟩|⟨d1,d2,d3⟩
            · have HM:=aa.mk (show dh 3 a1 a2 l3 l4 deepOk kidsOk=false by unfold dh;simp [d1])
              have q1:decide ((0:Int) < (l4.length:Int))=true:=decide_eq_true (by omega)
              have q2:decide ((n:Int) < 1)=true:=decide_eq_true (by omega)
              have q3:(0 < l4.length)=True:=eq_true (by omega)
              have q4:((n:Int) < 1)=True:=eq_true (by omega)
              clear d1 d2 d3
              go_wp2
              go_ret
              exact ⟨congrArg (fun b=>Ending.returned (.bool b)) HM.out.symm,KB2.out⟩
            · have HM:=aa.mk (show dh 3 a1 a2 l3 l4 deepOk kidsOk=kidsOk by unfold dh;simp [d1,XB.out,HC2.out])
              have q1:decide ((0:Int) < (l4.length:Int))=false:=decide_eq_false (by omega)
              have q3:(0 < l4.length)=False:=eq_false (by omega)
              have HK2:=aa.mk (HK.out d1)
              clear d1 d2
              go_wp2_with (go_at_call 51;refine (HK2.out _ KB2.out jd).mono ?_;rintro e w3 ⟨rfl,hb⟩;have KB3:=aa.mk (aD KB2.out hb);clear hb)
              go_ret
              exact ⟨congrArg (fun b=>Ending.returned (.bool b)) HM.out.symm,KB3.out⟩
            · have HM:=aa.mk (show dh 3 a1 a2 l3 l4 deepOk kidsOk=kidsOk by unfold dh;simp [d1,XB.out,HC2.out])
              have q1:decide ((0:Int) < (l4.length:Int))=true:=decide_eq_true (by omega)
              have q2:decide ((n:Int) < 1)=false:=decide_eq_false (by omega)
              have q3:(0 < l4.length)=True:=eq_true (by omega)
              have q4:((n:Int) < 1)=False:=eq_false (by omega)
              have HK2:=aa.mk (HK.out d1)
              clear d1 d2 d3
              go_wp2_with (go_at_call 51;refine (HK2.out _ KB2.out jd).mono ?_;rintro e w3 ⟨rfl,hb⟩;have KB3:=aa.mk (aD KB2.out hb);clear hb)
              go_ret
              exact ⟨congrArg (fun b=>Ending.returned (.bool b)) HM.out.symm,KB3.out⟩
          · have HM:=aa.mk (show dh 3 a1 a2 l3 l4 deepOk kidsOk=false by unfold dh;simp [XB.out,hc])
            have p1:((l4.length:Int) == 1)=false:=beq_eq_false_iff_ne.2 (by omega)
            have p2:((l4.length:Int) != 1)=true:=by rw [bne,p1];rfl
            clear hc
            go_wp2
            go_ret
            exact ⟨congrArg (fun b=>Ending.returned (.bool b)) HM.out.symm,KB2.out⟩
      · subst ek
        obtain ⟨x,hx⟩:∃ x,gH a1 l4=x:=⟨_,rfl⟩
        rw [hx]
        have XB:=aa.mk hx
        clear hx
        cases x
        · have HM:=aa.mk (show dh 4 a1 a2 l3 l4 deepOk kidsOk=false by unfold dh;simp [XB.out])
          go_wp2
          go_ret
          exact ⟨congrArg (fun b=>Ending.returned (.bool b)) HM.out.symm,KB2.out⟩
        · by_cases h0:l3.length=0
          case neg =>
            have HM:=aa.mk (show dh 4 a1 a2 l3 l4 deepOk kidsOk=false by unfold dh;simp [XB.out,h0])
            have r1:((l3.length:Int) == 0)=false:=beq_eq_false_iff_ne.2 (by omega)
            clear h0
            go_wp2
            go_ret
            exact ⟨congrArg (fun b=>Ending.returned (.bool b)) HM.out.symm,KB2.out⟩
          have r1:((l3.length:Int) == 0)=true:=beq_iff_eq.2 (by omega)
          have H0:=aa.mk h0
          clear h0
          · by_cases h1:a2.size≤100
            case neg =>
              have HM:=aa.mk (show dh 4 a1 a2 l3 l4 deepOk kidsOk=false by unfold dh;simp [XB.out,H0.out,h1])
              have s1:decide ((a2.size:Int)≤100)=false:=decide_eq_false (by omega)
              have s2:((a2.size:Int)≤100)=False:=eq_false (by omega)
              clear h1
              go_wp2
              go_ret
              exact ⟨congrArg (fun b=>Ending.returned (.bool b)) HM.out.symm,KB2.out⟩
            have s1:decide ((a2.size:Int)≤100)=true:=decide_eq_true (by omega)
            have s2:((a2.size:Int)≤100)=True:=eq_true (by omega)
            have H1:=aa.mk h1
            clear h1
            have HM:=aa.mk (show dh 4 a1 a2 l3 l4 deepOk kidsOk=true by unfold dh;simp [XB.out,H0.out,H1.out])
            go_wp2
            go_ret
            exact ⟨congrArg (fun b=>Ending.returned (.bool b)) HM.out.symm,KB2.out⟩
      · subst ek
        obtain ⟨x,hx⟩:∃ x,gH a1 l4=x:=⟨_,rfl⟩
        rw [hx]
        have XB:=aa.mk hx
        clear hx
        cases x
        · have HM:=aa.mk (show dh 5 a1 a2 l3 l4 deepOk kidsOk=false by unfold dh;simp [XB.out])
          go_wp2
          go_ret
          exact ⟨congrArg (fun b=>Ending.returned (.bool b)) HM.out.symm,KB2.out⟩
        · by_cases h0:a2.toList=[]
          case neg =>
            have HM:=aa.mk (show dh 5 a1 a2 l3 l4 deepOk kidsOk=false by unfold dh;simp [XB.out,h0])
            have s1:(a2.toList == ([]:List UInt8))=false:=beq_eq_false_iff_ne.2 (by assumption)
            clear h0
            go_wp2
            go_ret
            exact ⟨congrArg (fun b=>Ending.returned (.bool b)) HM.out.symm,KB2.out⟩
          have s1:(a2.toList == ([]:List UInt8))=true:=beq_iff_eq.2 (by assumption)
          have H0:=aa.mk h0
          clear h0
          have HM:=aa.mk (show dh 5 a1 a2 l3 l4 deepOk kidsOk=il l3 by unfold dh;simp [XB.out,H0.out])
          obtain ⟨m,hm⟩:=qd l3 HS.out
          have HP:=aa.mk (hm m (Nat.le_refl m))
          clear hm
          go_wp2_with (go_at_call 50;refine (bC.calls m A3 c3 l3 (il l3) _ (Kd.bf HR.out KB2.out) HC.out HP.out).mono ?_;rintro e w3 ⟨rfl,⟨nq,rfl⟩⟩;have KB3:=aa.mk (ae KB2.out nq))
          go_ret
          exact ⟨congrArg (fun b=>Ending.returned (.bool b)) HM.out.symm,KB3.out⟩
      · subst ek
        obtain ⟨x,hx⟩:∃ x,gH a1 l4=x:=⟨_,rfl⟩
        rw [hx]
        have XB:=aa.mk hx
        clear hx
        cases x
        · have HM:=aa.mk (show dh 6 a1 a2 l3 l4 deepOk kidsOk=false by unfold dh;simp [XB.out])
          go_wp2
          go_ret
          exact ⟨congrArg (fun b=>Ending.returned (.bool b)) HM.out.symm,KB2.out⟩
        · by_cases h0:l3.length=0
          case neg =>
            have HM:=aa.mk (show dh 6 a1 a2 l3 l4 deepOk kidsOk=false by unfold dh;simp [XB.out,h0])
            have r1:((l3.length:Int) == 0)=false:=beq_eq_false_iff_ne.2 (by omega)
            clear h0
            go_wp2
            go_ret
            exact ⟨congrArg (fun b=>Ending.returned (.bool b)) HM.out.symm,KB2.out⟩
          have r1:((l3.length:Int) == 0)=true:=beq_iff_eq.2 (by omega)
          have H0:=aa.mk h0
          clear h0
          · by_cases h1:a2.size≤100
            case neg =>
              have HM:=aa.mk (show dh 6 a1 a2 l3 l4 deepOk kidsOk=false by unfold dh;simp [XB.out,H0.out,h1])
              have s1:decide ((a2.size:Int)≤100)=false:=decide_eq_false (by omega)
              have s2:((a2.size:Int)≤100)=False:=eq_false (by omega)
              clear h1
              go_wp2
              go_ret
              exact ⟨congrArg (fun b=>Ending.returned (.bool b)) HM.out.symm,KB2.out⟩
            have s1:decide ((a2.size:Int)≤100)=true:=decide_eq_true (by omega)
            have s2:((a2.size:Int)≤100)=True:=eq_true (by omega)
            have H1:=aa.mk h1
            clear h1
            have HM:=aa.mk (show dh 6 a1 a2 l3 l4 deepOk kidsOk=true by unfold dh;simp [XB.out,H0.out,H1.out])
            go_wp2
            go_ret
            exact ⟨congrArg (fun b=>Ending.returned (.bool b)) HM.out.symm,KB2.out⟩
      · subst ek
        obtain ⟨x,hx⟩:∃ x,gH a1 l4=x:=⟨_,rfl⟩
        rw [hx]
        have XB:=aa.mk hx
        clear hx
        cases x
        · have HM:=aa.mk (show dh 7 a1 a2 l3 l4 deepOk kidsOk=false by unfold dh;simp [XB.out])
          go_wp2
          go_ret
          exact ⟨congrArg (fun b=>Ending.returned (.bool b)) HM.out.symm,KB2.out⟩
        · by_cases h0:l3.length=0
          case neg =>
            have HM:=aa.mk (show dh 7 a1 a2 l3 l4 deepOk kidsOk=false by unfold dh;simp [XB.out,h0])
            have r1:((l3.length:Int) == 0)=false:=beq_eq_false_iff_ne.2 (by omega)
            clear h0
            go_wp2
            go_ret
            exact ⟨congrArg (fun b=>Ending.returned (.bool b)) HM.out.symm,KB2.out⟩
          have r1:((l3.length:Int) == 0)=true:=beq_iff_eq.2 (by omega)
          have H0:=aa.mk h0
          clear h0
          · by_cases h1:a2.size≤100
            case neg =>
              have HM:=aa.mk (show dh 7 a1 a2 l3 l4 deepOk kidsOk=false by unfold dh;simp [XB.out,H0.out,h1])
              have s1:decide ((a2.size:Int)≤100)=false:=decide_eq_false (by omega)
              have s2:((a2.size:Int)≤100)=False:=eq_false (by omega)
              clear h1
              go_wp2
              go_ret
              exact ⟨congrArg (fun b=>Ending.returned (.bool b)) HM.out.symm,KB2.out⟩
            have s1:decide ((a2.size:Int)≤100)=true:=decide_eq_true (by omega)
            have s2:((a2.size:Int)≤100)=True:=eq_true (by omega)
            have H1:=aa.mk h1
            clear h1
            have HM:=aa.mk (show dh 7 a1 a2 l3 l4 deepOk kidsOk=true by unfold dh;simp [XB.out,H0.out,H1.out])
            go_wp2
            go_ret
            exact ⟨congrArg (fun b=>Ending.returned (.bool b)) HM.out.symm,KB2.out⟩
      · subst ek
        obtain ⟨x,hx⟩:∃ x,gH a1 l4=x:=⟨_,rfl⟩
        rw [hx]
        have XB:=aa.mk hx
        clear hx
        cases x
        · have HM:=aa.mk (show dh 8 a1 a2 l3 l4 deepOk kidsOk=false by unfold dh;simp [XB.out])
          go_wp2
          go_ret
          exact ⟨congrArg (fun b=>Ending.returned (.bool b)) HM.out.symm,KB2.out⟩
        · by_cases h0:a2.toList=[]
          case neg =>
            have HM:=aa.mk (show dh 8 a1 a2 l3 l4 deepOk kidsOk=false by unfold dh;simp [XB.out,h0])
            have s1:(a2.toList == ([]:List UInt8))=false:=beq_eq_false_iff_ne.2 (by assumption)
            clear h0
            go_wp2
            go_ret
            exact ⟨congrArg (fun b=>Ending.returned (.bool b)) HM.out.symm,KB2.out⟩
          have s1:(a2.toList == ([]:List UInt8))=true:=beq_iff_eq.2 (by assumption)
          have H0:=aa.mk h0
          clear h0
          · by_cases h1:l3.length=0
            case neg =>
              have HM:=aa.mk (show dh 8 a1 a2 l3 l4 deepOk kidsOk=false by unfold dh;simp [XB.out,H0.out,h1])
              have r1:((l3.length:Int) == 0)=false:=beq_eq_false_iff_ne.2 (by omega)
              clear h1
              go_wp2
              go_ret
              exact ⟨congrArg (fun b=>Ending.returned (.bool b)) HM.out.symm,KB2.out⟩
            have r1:((l3.length:Int) == 0)=true:=beq_iff_eq.2 (by omega)
            have H1:=aa.mk h1
            clear h1
            have HM:=aa.mk (show dh 8 a1 a2 l3 l4 deepOk kidsOk=true by unfold dh;simp [XB.out,H0.out,H1.out])
            go_wp2
            go_ret
            exact ⟨congrArg (fun b=>Ending.returned (.bool b)) HM.out.symm,KB2.out⟩
      · have HM:=aa.mk (show dh a0 a1 a2 l3 l4 deepOk kidsOk=false by
          unfold dh
          rw [if_neg (by omega),if_neg (by omega),if_neg (by omega),if_neg (by omega),if_neg (by omega)])
        have e1:(a0 == 1)=false:=beq_eq_false_iff_ne.2 (by omega)
        have e2:(a0 == 2)=false:=beq_eq_false_iff_ne.2 (by omega)
        have e3:(a0 == 3)=false:=beq_eq_false_iff_ne.2 (by omega)
        have e4:(a0 == 4)=false:=beq_eq_false_iff_ne.2 (by omega)
        have e5:(a0 == 5)=false:=beq_eq_false_iff_ne.2 (by omega)
        have e6:(a0 == 6)=false:=beq_eq_false_iff_ne.2 (by omega)
        have e7:(a0 == 7)=false:=beq_eq_false_iff_ne.2 (by omega)
        have e8:(a0 == 8)=false:=beq_eq_false_iff_ne.2 (by omega)
        clear ek
        go_wp2
        go_ret
        exact ⟨congrArg (fun b=>Ending.returned (.bool b)) HM.out.symm,KB2.out⟩
theorem uO (n B:Nat) (x:S25) (A3:Option Addr) (c3:Nat) (A4:Option Addr) (c4:Nat) (W:World) (ok:Bool) (hc:W.cell? ⟨B,0,none⟩=some (.int .i64 ((n+1:Nat):Int))) (hn:n≤1000)
    (hm:∀ W':World,Below W.heap.size W W'→Calls Tryz.prog 33 #[.agg #[.int .i64 x.f0,.string x.f1,.string x.f2,.slice A3 x.f3.length c3,.slice A4 x.f4.length c4],.int .i64 (n:Int)] W' fun e w'=>e=.returned (.bool ok)∧Below W'.heap.size W' w') :
    Calls Tryz.prog 52 (#[.agg #[.int .i64 x.f0,.string x.f1,.string x.f2,.slice A3 x.f3.length c3,.slice A4 x.f4.length c4]]++#[.pointer (some ⟨B,0,none⟩)]) W fun e w'=>e=.returned (.bool (!ok))∧Below W.heap.size W w':=by
  have hu:=Tryz.underlying25
  have HM:=aa.mk hm
  clear hm
  show Calls Tryz.prog 52 #[.agg #[.int .i64 x.f0,.string x.f1,.string x.f2,.slice A3 x.f3.length c3,.slice A4 x.f4.length c4],.pointer (some ⟨B,0,none⟩)] W _
  have hw:wrap64 (((n+1:Nat):Int) - 1)=(n:Int):=by unfold wrap64;omega
  go_enter Tryz.func52,Tryz.ntmps52
  go_upto_region 1 with (fail)
  obtain ⟨w0,hw0⟩:∃ w0,W.alloc (.cells #[.int .i64 x.f0,.string x.f1,.string x.f2,.slice A3 x.f3.length c3,.slice A4 x.f4.length c4] 25)=w0:=⟨_,rfl⟩
  have kd:w0.cell? ⟨B,0,none⟩=some (.int .i64 ((n+1:Nat):Int)):=by rw [← hw0];exact bN (W0:=W) hc (af (Below.refl _ _) _)
  have k0:w0.cell? ⟨W.heap.size,0,none⟩=some (.int .i64 x.f0):=by rw [← hw0];simp [go_sem]
  have k1:w0.cell? ⟨W.heap.size,1,none⟩=some (.string x.f1):=by rw [← hw0];simp [go_sem]
  have k2:w0.cell? ⟨W.heap.size,2,none⟩=some (.string x.f2):=by rw [← hw0];simp [go_sem]
  have k3:w0.cell? ⟨W.heap.size,3,none⟩=some (.slice A3 x.f3.length c3):=by rw [← hw0];simp [go_sem]
  have k4:w0.cell? ⟨W.heap.size,4,none⟩=some (.slice A4 x.f4.length c4):=by rw [← hw0];simp [go_sem]
  have kB:Below W.heap.size W w0:=by rw [← hw0];exact af (Below.refl _ _) _
  rw [hw0]
  clear hw0 hc
  have KB:=aa.mk kB
  clear kB
  have HW:=aa.mk hw
  clear hw
  go_wp2_with (go_at_call 33;(try rw [show IntKind.i64.wrap (((n+1:Nat):Int) - 1)=(n:Int) from HW.out]);refine (HM.out _ KB.out).mono ?_;rintro e w1 ⟨rfl,hb⟩;have KB1:=aa.mk (aD KB.out hb);clear hb)
  go_ret
  exact ⟨rfl,KB1.out⟩
set_option maxHeartbeats 2000000 in
set_option maxRecDepth 100000 in
theorem tQ:∀ (n:Nat),n≤1000→∀ (x:S25) (A3:Option Addr) (c3:Nat) (A4:Option Addr) (c4:Nat) (w:World)
    (hr3:Kd.C Kd.string w A3 x.f3.length x.f3) (hc3:x.f3.length≤c3) (hr4:Kd.C k25 w A4 x.f4.length x.f4) (hs:szF n x),
    Calls Tryz.prog 33 #[.agg #[.int .i64 x.f0,.string x.f1,.string x.f2,.slice A3 x.f3.length c3,.slice A4 x.f4.length c4],.int .i64 (n:Int)] w fun e w'=>e=.returned (.bool (fC n x))∧Below w.heap.size w w':=by
  have eg:∀ args w,(callFunc 52 args).run Tryz.prog w=.ok (.enter 52 args) w:=enters_of Tryz.func52 (by kernel_rfl) rfl
  intro n
  induction n with
  | zero =>
    intro hn x A3 c3 A4 c4 w hr3 hc3 hr4 hs
    refine qC 0 (decide (x.f4.length=0)) true x.f0 x.f1 x.f2 A3 c3 x.f3 A4 c4 x.f4 w hr3 hc3 ?_ (oC hs) ?_
    · by_cases h:x.f4.length=0
      · rw [decide_eq_true h,decide_eq_false (show ¬ 0 < x.f4.length by omega)];rfl
      · rw [decide_eq_false h,decide_eq_true (show 0 < x.f4.length by omega)];rfl
    · intro hd W hb hc
      have h0:x.f4.length=0:=of_decide_eq_true hd
      have h1:x.f4=[]:=List.length_eq_zero_iff.1 h0
      refine (jR A4 c4 x.f4 52 _ (fun _=>false) W eg (Kd.bf hr4 hb) (fun i hi=>absurd hi (by omega))).mono ?_
      rintro e w' ⟨rfl,hb2⟩
      exact ⟨by rw [h1];rfl,hb2⟩
  | succ n ih =>
    intro hn x A3 c3 A4 c4 w hr3 hc3 hr4 hs
    refine qC (n+1) true (x.f4.all (fC n)) x.f0 x.f1 x.f2 A3 c3 x.f3 A4 c4 x.f4 w hr3 hc3 ?_ (oC hs) ?_
    · rw [decide_eq_false (show ¬ n+1 < 1 by omega),Bool.and_false];rfl
    · intro _ W hb hc
      rw [← pU]
      refine jR A4 c4 x.f4 52 _ (fun i=>!fC n (az x.f4 (i:Int))) W eg (Kd.bf hr4 hb) (fun i hi W' B3 d3 B4 d4 hb' g3 r3 g4 r4=>?_)
      refine (uO n (w.heap.size+1) (az x.f4 (i:Int)) B3 d3 B4 d4 W' (fC n (az x.f4 (i:Int))) (bN (W0:=W) hc hb') (by omega) (fun W2 hb2=>ih (by omega) (az x.f4 (i:Int)) B3 d3 B4 d4 W2 (Kd.bf r3 hb2) g3 (Kd.bf r4 hb2) (hs.2 _ (pE hi)))).mono ?_
      rintro e w' ⟨rfl,hb2⟩
      exact ⟨rfl,aD hb' hb2⟩
def szF.dec:(n:Nat)→(f:S25)→Decidable (szF n f)
  | 0,f=>by unfold szF;infer_instance
  | n+1,f=>by
    unfold szF
    have:=fun x=>szF.dec n x
    infer_instance
instance (n:Nat) (f:S25):Decidable (szF n f):=szF.dec n f
def eX.f (a0_0:Int) (a0_1 a0_2:ByteArray) (l0_3:List ByteArray) (l0_4:List S25):Option Bool :=
  if szF 12 ⟨a0_0,a0_1,a0_2,l0_3,l0_4⟩ then some (fC 12 ⟨a0_0,a0_1,a0_2,l0_3,l0_4⟩) else none
theorem eX.calls (a0_0:Int) (a0_1:ByteArray) (a0_2:ByteArray) (A0_3:Option Addr) (c0_3:Nat) (l0_3:List ByteArray) (A0_4:Option Addr) (c0_4:Nat) (l0_4:List S25) (r:Bool) (w:World) (hr0_3:Kd.C Kd.string w A0_3 l0_3.length l0_3) (hc0_3:l0_3.length≤c0_3) (hr0_4:Kd.C k25 w A0_4 l0_4.length l0_4) (hc0_4:l0_4.length≤c0_4) (h:eX.f a0_0 a0_1 a0_2 l0_3 l0_4=some r) :
    Calls Tryz.prog 26 #[.agg #[.int .i64 a0_0,.string a0_1,.string a0_2,.slice A0_3 l0_3.length c0_3,.slice A0_4 l0_4.length c0_4]] w fun e w'=>e=.returned (.bool r)∧Below w.heap.size w w':=by
  unfold eX.f at h
  by_cases hs:szF 12 ⟨a0_0,a0_1,a0_2,l0_3,l0_4⟩
  · rw [if_pos hs] at h
    obtain rfl:=Option.some.inj h
    have hu:=Tryz.underlying25
    have M:=aa.mk (fun W' (hb:Below w.heap.size w W')=>tQ 12 (by omega) ⟨a0_0,a0_1,a0_2,l0_3,l0_4⟩ A0_3 c0_3 A0_4 c0_4 W' (Kd.bf hr0_3 hb) hc0_3 (Kd.bf hr0_4 hb) hs)
    obtain ⟨b,hb⟩:∃ b,fC 12 ⟨a0_0,a0_1,a0_2,l0_3,l0_4⟩=b:=⟨_,rfl⟩
    rw [hb] at M ⊢
    clear hb h hs hr0_3 hr0_4
    go_enter Tryz.func26,Tryz.ntmps26
    go_upto_region 1 with (fail)
    obtain ⟨w0,hw0⟩:∃ w0,w.alloc (.cells #[.int .i64 a0_0,.string a0_1,.string a0_2,.slice A0_3 l0_3.length c0_3,.slice A0_4 l0_4.length c0_4] 25)=w0:=⟨_,rfl⟩
    have k0:w0.cell? ⟨w.heap.size,0,none⟩=some (.int .i64 a0_0):=by rw [← hw0];simp [go_sem]
    have k1:w0.cell? ⟨w.heap.size,1,none⟩=some (.string a0_1):=by rw [← hw0];simp [go_sem]
    have k2:w0.cell? ⟨w.heap.size,2,none⟩=some (.string a0_2):=by rw [← hw0];simp [go_sem]
    have k3:w0.cell? ⟨w.heap.size,3,none⟩=some (.slice A0_3 l0_3.length c0_3):=by rw [← hw0];simp [go_sem]
    have k4:w0.cell? ⟨w.heap.size,4,none⟩=some (.slice A0_4 l0_4.length c0_4):=by rw [← hw0];simp [go_sem]
    have kB:Below w.heap.size w w0:=by rw [← hw0];exact af (Below.refl _ _) _
    rw [hw0]
    clear hw0
    have KB:=aa.mk kB
    clear kB
    go_wp2_with (go_at_call 33;refine (M.out _ KB.out).mono ?_;rintro e w1 ⟨rfl,hb⟩;have KB1:=aa.mk (aD KB.out hb);clear hb)
    go_ret
    exact ⟨rfl,KB1.out⟩
  · rw [if_neg hs] at h
    cases h
end Go.Proofs.YthfpaoacjpjnfaaGreatDoor.P
