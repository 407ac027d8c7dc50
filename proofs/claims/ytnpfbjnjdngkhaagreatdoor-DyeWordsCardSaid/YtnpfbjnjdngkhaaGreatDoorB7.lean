import Derived.Test.YtnpfbjnjdngkhaaGreatDoorB6
set_option maxHeartbeats 8000000
set_option maxRecDepth 100000
set_option linter.unusedVariables false
set_option linter.unusedSimpArgs false
set_option linter.unusedSectionVars false
namespace Go.Proofs.YtnpfbjnjdngkhaaGreatDoor.P
open Go.RowKit Go.Proofs.YtnpfbjnjdngkhaaGreatDoorW.aQ Go.Proofs.YtnpfbjnjdngkhaaGreatDoorW.bO Go.Proofs.YtnpfbjnjdngkhaaGreatDoorW.bT
attribute [local go_sem] eP eT fU fV dS dU eU eX
def gW.f (bq:Int) (aU:Int) (a1:Int) (a2:Int) (a3:Int):Option Bool:=if bq>=a1 then (if bq<=aU then (if aU<=a2 then (some (decide ((wrap64 (aU - bq))<=a3))) else (some false)) else (some false)) else (some false)
theorem gW.calls (bq:Int) (aU:Int) (a1:Int) (a2:Int) (a3:Int) (r:Bool) (w:World) (h:gW.f bq aU a1 a2 a3=some r) :
  Calls Tryz.prog 108 #[.agg #[.int .i64 bq,.int .i64 aU],.int .i64 a1,.int .i64 a2,.int .i64 a3] w fun e w'=>e=.returned (.bool r)∧Below w.heap.size w w':=by
 have jY:=Tryz.underlying37;have HB:=aj.mk (Below.refl w.heap.size w);have H:(if bq>=a1 then (if bq<=aU then (if aU<=a2 then (some (decide ((wrap64 (aU - bq))<=a3))) else (some false)) else (some false)) else (some false))=some r:=h;clear h
 by_cases c5:bq>=a1
 ·rw [if_pos c5] at H
  have zC:decide (a1<=bq)=true:=decide_eq_true c5;clear c5
  by_cases c6:bq<=aU
  ·rw [if_pos c6] at H
   have GV:decide (bq<=aU)=true:=decide_eq_true c6;clear c6
   by_cases c7:aU<=a2
   ·rw [if_pos c7] at H
    have yL:decide (aU<=a2)=true:=decide_eq_true c7;clear c7;obtain rfl:=Option.some.inj H
    go_enter Tryz.func108,Tryz.ntmps108
    go_wp2_with (first|((with_reducible refine au (N:=4) rfl ?_);refine fA 4 #[.int .i64 bq,.int .i64 aU] 37 HB ?_;clear HB;intro Vv w8 hg tV Vw HB hb;clear hb hg;obtain ⟨GZ,qaJ⟩:=bc2 tV;have G5:=bf tV 0;have qaK:=bf tV 1))
    go_ret
    exact ⟨tF,tB⟩
   ·rw [if_neg c7] at H
    have yL:decide (aU<=a2)=false:=decide_eq_false c7;clear c7;obtain rfl:=Option.some.inj H
    go_enter Tryz.func108,Tryz.ntmps108
    go_wp2_with (first|((with_reducible refine au (N:=4) rfl ?_);refine fA 4 #[.int .i64 bq,.int .i64 aU] 37 HB ?_;clear HB;intro Vv Lr hg tV Vw HB hb;clear hb hg;obtain ⟨yt,G6⟩:=bc2 tV;have yu:=bf tV 0;have G7:=bf tV 1))
    go_ret
    exact ⟨tF,tB⟩
  ·rw [if_neg c6] at H
   have GV:decide (bq<=aU)=false:=decide_eq_false c6;clear c6;obtain rfl:=Option.some.inj H
   go_enter Tryz.func108,Tryz.ntmps108
   go_wp2_with (first|((with_reducible refine au (N:=4) rfl ?_);refine fA 4 #[.int .i64 bq,.int .i64 aU] 37 HB ?_;clear HB;intro Vv yO hg tV Vw HB hb;clear hb hg;obtain ⟨vS,Db⟩:=bc2 tV;have vT:=bf tV 0;have Dc:=bf tV 1))
   go_ret
   exact ⟨tF,tB⟩
 ·rw [if_neg c5] at H
  have zC:decide (a1<=bq)=false:=decide_eq_false c5;clear c5;obtain rfl:=Option.some.inj H
  go_enter Tryz.func108,Tryz.ntmps108
  go_wp2_with (first|((with_reducible refine au (N:=4) rfl ?_);refine fA 4 #[.int .i64 bq,.int .i64 aU] 37 HB ?_;clear HB;intro Vv R8 hg tV Vw HB hb;clear hb hg;obtain ⟨yw,He⟩:=bc2 tV;have yx:=bf tV 0;have Hf:=bf tV 1))
  go_ret
  exact ⟨tF,tB⟩
def fD.f (a0:Int) (a1:Int) (a2:Int):Option Bool:=if a0>=a1 then (some (decide (a0<=a2))) else (some false)
theorem fD.calls (a0:Int) (a1:Int) (a2:Int) (r:Bool) (w:World) (h:fD.f a0 a1 a2=some r) :
  Calls Tryz.prog 109 #[.int .i64 a0,.int .i64 a1,.int .i64 a2] w fun e w'=>e=.returned (.bool r)∧gU w w':=by
 have H:(if a0>=a1 then (some (decide (a0<=a2))) else (some false))=some r:=h;clear h
 by_cases c4:a0>=a1
 ·rw [if_pos c4] at H
  have pR:decide (a1<=a0)=true:=decide_eq_true c4;clear c4;obtain rfl:=Option.some.inj H
  go_enter Tryz.func109,Tryz.ntmps109
  go_wp2
  go_ret
  exact ⟨tS,tD⟩
 ·rw [if_neg c4] at H
  have pR:decide (a1<=a0)=false:=decide_eq_false c4;clear c4;obtain rfl:=Option.some.inj H
  go_enter Tryz.func109,Tryz.ntmps109
  go_wp2
  go_ret
  exact ⟨tS,tD⟩
mutual
def bP.l0:Nat->Int->List bI->Option Bool
 | 0,_,_=>none
 | k+1,x3,nZ=>if x3<(nZ.length:Int) then (bP.l1 k x3 0 nZ) else ((fD.f (nZ.length:Int) 1 3).bind fun qb7=>(some qb7))
def bP.l1:Nat->Int->Int->List bI->Option Bool
 | 0,_,_,_=>none
 | k+1,x3,x4,nZ=>if 0<=x3 then (if x3<(nZ.length:Int) then (if x4<(((aX nZ x3).f0).length:Int) then (if 0<=x4 then ((gW.f ((bH ((aX nZ x3).f0) x4).f0) ((bH ((aX nZ x3).f0) x4).f1) 0 20 2).bind fun qb8=>(if qb8=true then (bP.l1 k x3 (wrap64 (x4+1)) nZ) else (some false))) else (none)) else (if (((aX nZ x3).f0).length:Int)=3 then ((fD.f ((aX nZ x3).f1) 0 100).bind fun qb9=>(if qb9=true then (bP.l0 k (wrap64 (x3+1)) nZ) else (some false))) else (some false))) else (none)) else (none)
end
def bP.f (k:Nat) (av:List bI):Option Bool:=bP.l0 k 0 av
theorem bP.calls (k:Nat) (bC:Option Addr) (aZ:Nat) (av:List bI) (r:Bool) (w:World) (dw:Kd.C iG w bC av.length av) (dG:av.length<=aZ) (h:bP.f k av=some r) :
  Calls Tryz.prog 30 #[.agg #[.slice bC av.length aZ]] w fun e w'=>e=.returned (.bool r)∧Below w.heap.size w w':=by
 have qb:=Tryz.underlying24;have jY:=Tryz.underlying37;have dM:=aj.mk dw;have fu:=aj.mk dG;clear dw dG;have HB:=aj.mk (Below.refl w.heap.size w);have H:(bP.l0 k 0 av)=some r:=h;clear h;have H':=aj.mk H;clear H
 go_enter Tryz.func30,Tryz.ntmps30
 go_wp2_with (first|((with_reducible refine au (N:=1) rfl ?_);refine fA 1 #[.slice bC av.length aZ] 24 HB ?_;clear HB;intro qaa w2 hg oM qn0 HB hb;clear hb hg))
 go_loopg [3] k (fun kq v3 w'=>∃ (dH:Int),v3=.int .i64 dH∧aj (bP.l0 kq dH av=some r)∧aj (kq<=k)∧aj (w'.heap[qaa]?=some (.cells #[(.slice bC av.length aZ)] 24 (0,0)))∧aj (Below w.heap.size w w'))
 case atStart=>exact ⟨(0),tS,H',⟨Nat.le_refl _⟩,⟨(qB2 oM)⟩,⟨tB⟩⟩
 case round =>
  clear H'
  try clear p2
  obtain ⟨dH,rfl,HA,qg,oM,HB⟩:=hrel
  cases gk with
  | zero=>exact absurd HA.out (by simp [bP.l0])
  | succ k1 =>
   have H:=HA.out;clear HA;simp only [bP.l0] at H
   by_cases c3:dH<(av.length:Int)
   ·rw [if_pos c3] at H
    have qd:decide (dH<(av.length:Int))=true:=decide_eq_true c3;clear c3;have H':=aj.mk H;clear H;have yT:=bc1 oM;have yU:=bf oM 0
    go_wp2
    go_loopg [4] k1 (fun kq v4 w'=>∃ (tY:Int),v4=.int .i64 tY∧aj (bP.l1 kq dH tY av=some r)∧aj (kq<=k1)∧aj (w'.heap[qaa]?=some (.cells #[(.slice bC av.length aZ)] 24 (0,0)))∧aj (Below w.heap.size w w'))
    case atStart=>exact ⟨(0),tS,H',⟨Nat.le_refl _⟩,⟨(qB2 oM)⟩,⟨tB⟩⟩
    case round =>
     clear H'
     try clear p2
     try clear c3
     try clear qd
     try clear yT
     try clear yU
     try clear p2
     obtain ⟨tY,rfl,HA,VO,oM,HB⟩:=hrel
     cases gk with
     | zero=>exact absurd HA.out (by simp [bP.l1])
     | succ k2 =>
      have H:=HA.out;clear HA;simp only [bP.l1] at H
      by_cases c5:0<=dH
      ·rw [if_pos c5] at H
       have zC:decide (0<=dH)=true:=decide_eq_true c5;clear c5
       by_cases c6:dH<(av.length:Int)
       ·rw [if_pos c6] at H
        have GV:decide (dH<(av.length:Int))=true:=decide_eq_true c6;clear c6
        by_cases c7:tY<(((aX av dH).f0).length:Int)
        ·rw [if_pos c7] at H
         have yL:decide (tY<(((aX av dH).f0).length:Int))=true:=decide_eq_true c7;clear c7
         by_cases c8:0<=tY
         ·rw [if_pos c8] at H
          have Hz:decide (0<=tY)=true:=decide_eq_true c8;clear c8;obtain ⟨qb8,A9,H⟩:=nU H
          by_cases c10:qb8=true
          ·subst c10
           rw [if_pos rfl] at H;have H':=aj.mk H;clear H;have yt:=bc1 oM;have yu:=bf oM 0;have wG:0<=(dH:Int):=of_decide_eq_true tA;have wH:dH<(av.length:Int):=of_decide_eq_true tA;obtain ⟨xX,I8,I9,Ja,iU,mg,mh,mo⟩:=jd dM.out dH wG wH
           cases Ja
           replace iU:=dz HB iU;replace mg:=dz HB mg;have DU:=aj.mk mo;have DV:=aj.mk mh;clear mo mh;replace wG:=eq_true wG;replace wH:=eq_true wH;have NT:0<=(dH:Int):=of_decide_eq_true tA;have NU:dH<(av.length:Int):=of_decide_eq_true tA;obtain ⟨Vx,qca,qcb,qcc,wI,AQ,AR,AU⟩:=jd dM.out dH NT NU;obtain rfl:xX=Vx:=(by injection qcc);replace wI:=dz HB wI;replace AQ:=dz HB AQ;have Jb:=aj.mk AU;have YG:=aj.mk AR;clear AU AR;replace NT:=eq_true NT;replace NU:=eq_true NU;have BI:=Option.some.inj (iU.symm.trans wI)
           injection BI with BI R6 R7
           subst BI;subst R7;clear R6;have NV:0<=(tY:Int):=of_decide_eq_true tA;have NW:tY<(((aX av dH).f0).length:Int):=of_decide_eq_true tA;obtain ⟨qft,qcd,AV,AX⟩:=nI Jb.out tY NV NW
           cases qcd
           replace AV:=dz HB AV;replace AX:=dz HB AX;replace NV:=eq_true NV;replace NW:=eq_true NW
           go_wp2_with (first|((with_reducible refine aG (f:=108) rfl ?_);refine bX (some 32) rfl rfl Tryz.func108 tX rfl #[.agg #[.int .i64 ((bH ((aX av dH).f0) tY).f0),.int .i64 ((bH ((aX av dH).f0) tY).f1)],.int .i64 0,.int .i64 20,.int .i64 2] rfl tM ?_;(with_reducible refine (gW.calls ((bH ((aX av dH).f0) tY).f0) ((bH ((aX av dH).f0) tY).f1) 0 20 2 true _ A9.out).mono ?_);rintro e yO ⟨rfl,hb⟩;refine ⟨_,rfl,?_⟩;replace oM:=bW oM hb;replace HB:=dL HB hb;(try clear hb)))
           go_roundg k2
           case measure=>have:=qg.out;have:=VO.out;omega
           case rel=>exact ⟨(wrap64 (tY+1)),tS,H',⟨by have:=qg.out;have:=VO.out;omega⟩,⟨(qB2 oM)⟩,⟨tB⟩⟩
          ·replace c10:=Bool.eq_false_iff.mpr c10
           subst c10
           have H1:(some false)=some r:=by rw [if_neg (show ¬ (false=true) by decide)] at H;exact H
           clear H;have H:=H1;clear H1;obtain rfl:=Option.some.inj H;have vS:=bc1 oM;have vT:=bf oM 0;have wG:0<=(dH:Int):=of_decide_eq_true tA;have wH:dH<(av.length:Int):=of_decide_eq_true tA;obtain ⟨xX,I8,I9,Ja,iU,mg,mh,mo⟩:=jd dM.out dH wG wH
           cases Ja
           replace iU:=dz HB iU;replace mg:=dz HB mg;have DU:=aj.mk mo;have DV:=aj.mk mh;clear mo mh;replace wG:=eq_true wG;replace wH:=eq_true wH;have NT:0<=(dH:Int):=of_decide_eq_true tA;have NU:dH<(av.length:Int):=of_decide_eq_true tA;obtain ⟨Vx,qca,qcb,qcc,wI,AQ,AR,AU⟩:=jd dM.out dH NT NU;obtain rfl:xX=Vx:=(by injection qcc);replace wI:=dz HB wI;replace AQ:=dz HB AQ;have Jb:=aj.mk AU;have YG:=aj.mk AR;clear AU AR;replace NT:=eq_true NT;replace NU:=eq_true NU;have BI:=Option.some.inj (iU.symm.trans wI)
           injection BI with BI R6 R7
           subst BI;subst R7;clear R6;have NV:0<=(tY:Int):=of_decide_eq_true tA;have NW:tY<(((aX av dH).f0).length:Int):=of_decide_eq_true tA;obtain ⟨qft,qcd,AV,AX⟩:=nI Jb.out tY NV NW
           cases qcd
           replace AV:=dz HB AV;replace AX:=dz HB AX;replace NV:=eq_true NV;replace NW:=eq_true NW
           go_wp2_with (first|((with_reducible refine aG (f:=108) rfl ?_);refine bX (some 32) rfl rfl Tryz.func108 tX rfl #[.agg #[.int .i64 ((bH ((aX av dH).f0) tY).f0),.int .i64 ((bH ((aX av dH).f0) tY).f1)],.int .i64 0,.int .i64 20,.int .i64 2] rfl tM ?_;(with_reducible refine (gW.calls ((bH ((aX av dH).f0) tY).f0) ((bH ((aX av dH).f0) tY).f1) 0 20 2 false _ A9.out).mono ?_);rintro e R8 ⟨rfl,hb⟩;refine ⟨_,rfl,?_⟩;replace oM:=bW oM hb;replace HB:=dL HB hb;(try clear hb)))
           go_ret
           exact ⟨tF,tB⟩
         ·rw [if_neg c8] at H
          exact absurd H (by simp)
        ·rw [if_neg c7] at H
         have yL:decide (tY<(((aX av dH).f0).length:Int))=false:=decide_eq_false c7;clear c7
         by_cases c15:(((aX av dH).f0).length:Int)=3
         ·rw [if_pos c15] at H
          have qfu:((((aX av dH).f0).length:Int) == 3)=true:=beq_iff_eq.mpr c15;have qfv:((((aX av dH).f0).length:Int) != 3)=false:=bne_eq_false_iff_eq.mpr c15;clear c15;obtain ⟨qb9,A16,H⟩:=nU H
          by_cases c17:qb9=true
          ·subst c17
           rw [if_pos rfl] at H;have H':=aj.mk H;clear H;have Qe:=bc1 oM;have Qf:=bf oM 0;have wG:0<=(dH:Int):=of_decide_eq_true tA;have wH:dH<(av.length:Int):=of_decide_eq_true tA;obtain ⟨xX,I8,I9,Ja,iU,mg,mh,mo⟩:=jd dM.out dH wG wH
           cases Ja
           replace iU:=dz HB iU;replace mg:=dz HB mg;have DU:=aj.mk mo;have DV:=aj.mk mh;clear mo mh;replace wG:=eq_true wG;replace wH:=eq_true wH;have E9:0<=(dH:Int):=of_decide_eq_true tA;have Fa:dH<(av.length:Int):=of_decide_eq_true tA;obtain ⟨Li,Vy,Vz,VA,pO,uI,uJ,uK⟩:=jd dM.out dH E9 Fa;obtain rfl:xX=Li:=(by injection VA);replace pO:=dz HB pO;replace uI:=dz HB uI;have QC:=aj.mk uK;have QD:=aj.mk uJ;clear uK uJ;replace E9:=eq_true E9;replace Fa:=eq_true Fa;have BI:=Option.some.inj (iU.symm.trans pO)
           injection BI with BI R6 R7
           subst BI;subst R7;clear R6;have NY:0<=(dH:Int):=of_decide_eq_true tA;have NZ:dH<(av.length:Int):=of_decide_eq_true tA;obtain ⟨VB,qce,qcf,qcg,wJ,AY,AZ,Ba⟩:=jd dM.out dH NY NZ;obtain rfl:xX=VB:=(by injection qcg);replace wJ:=dz HB wJ;replace AY:=dz HB AY;have YH:=aj.mk Ba;have YI:=aj.mk AZ;clear Ba AZ;replace NY:=eq_true NY;replace NZ:=eq_true NZ;have BI:=Option.some.inj (iU.symm.trans wJ)
           injection BI with BI R6 R7
           subst BI;subst R7;clear R6
           go_wp2_with (first|(go_at_call 109;(with_reducible refine (fD.calls ((aX av dH).f1) 0 100 true _ A16.out).mono ?_);rintro e w' ⟨rfl,⟨nd,rfl⟩⟩))
           go_roundg k2
           case measure=>have:=qg.out;have:=VO.out;omega
           case rel=>exact ⟨(wrap64 (dH+1)),tS,H',⟨by have:=qg.out;have:=VO.out;omega⟩,⟨(qB2 oM)⟩,⟨tB⟩⟩
          ·replace c17:=Bool.eq_false_iff.mpr c17
           subst c17
           have H1:(some false)=some r:=by rw [if_neg (show ¬ (false=true) by decide)] at H;exact H
           clear H;have H:=H1;clear H1;obtain rfl:=Option.some.inj H;have Pg:=bc1 oM;have Ph:=bf oM 0;have wG:0<=(dH:Int):=of_decide_eq_true tA;have wH:dH<(av.length:Int):=of_decide_eq_true tA;obtain ⟨xX,I8,I9,Ja,iU,mg,mh,mo⟩:=jd dM.out dH wG wH
           cases Ja
           replace iU:=dz HB iU;replace mg:=dz HB mg;have DU:=aj.mk mo;have DV:=aj.mk mh;clear mo mh;replace wG:=eq_true wG;replace wH:=eq_true wH;have E9:0<=(dH:Int):=of_decide_eq_true tA;have Fa:dH<(av.length:Int):=of_decide_eq_true tA;obtain ⟨Li,Vy,Vz,VA,pO,uI,uJ,uK⟩:=jd dM.out dH E9 Fa;obtain rfl:xX=Li:=(by injection VA);replace pO:=dz HB pO;replace uI:=dz HB uI;have QC:=aj.mk uK;have QD:=aj.mk uJ;clear uK uJ;replace E9:=eq_true E9;replace Fa:=eq_true Fa;have BI:=Option.some.inj (iU.symm.trans pO)
           injection BI with BI R6 R7
           subst BI;subst R7;clear R6;have NY:0<=(dH:Int):=of_decide_eq_true tA;have NZ:dH<(av.length:Int):=of_decide_eq_true tA;obtain ⟨VB,qce,qcf,qcg,wJ,AY,AZ,Ba⟩:=jd dM.out dH NY NZ;obtain rfl:xX=VB:=(by injection qcg);replace wJ:=dz HB wJ;replace AY:=dz HB AY;have YH:=aj.mk Ba;have YI:=aj.mk AZ;clear Ba AZ;replace NY:=eq_true NY;replace NZ:=eq_true NZ;have BI:=Option.some.inj (iU.symm.trans wJ)
           injection BI with BI R6 R7
           subst BI;subst R7;clear R6
           go_wp2_with (first|(go_at_call 109;(with_reducible refine (fD.calls ((aX av dH).f1) 0 100 false _ A16.out).mono ?_);rintro e w' ⟨rfl,⟨nd,rfl⟩⟩))
           go_ret
           exact ⟨tF,tB⟩
         ·rw [if_neg c15] at H
          have qfu:((((aX av dH).f0).length:Int) == 3)=false:=beq_eq_false_iff_ne.mpr c15;have qfv:((((aX av dH).f0).length:Int) != 3)=true:=bne_iff_ne.mpr c15;obtain rfl:=Option.some.inj H;have OA:=bc1 oM;have OB:=bf oM 0;have wG:0<=(dH:Int):=of_decide_eq_true tA;have wH:dH<(av.length:Int):=of_decide_eq_true tA;obtain ⟨xX,I8,I9,Ja,iU,mg,mh,mo⟩:=jd dM.out dH wG wH
          cases Ja
          replace iU:=dz HB iU;replace mg:=dz HB mg;have DU:=aj.mk mo;have DV:=aj.mk mh;clear mo mh;replace wG:=eq_true wG;replace wH:=eq_true wH;have E9:0<=(dH:Int):=of_decide_eq_true tA;have Fa:dH<(av.length:Int):=of_decide_eq_true tA;obtain ⟨Li,Vy,Vz,VA,pO,uI,uJ,uK⟩:=jd dM.out dH E9 Fa;obtain rfl:xX=Li:=(by injection VA);replace pO:=dz HB pO;replace uI:=dz HB uI;have QC:=aj.mk uK;have QD:=aj.mk uJ;clear uK uJ;replace E9:=eq_true E9;replace Fa:=eq_true Fa;have BI:=Option.some.inj (iU.symm.trans pO)
          injection BI with BI R6 R7
          subst BI;subst R7;clear R6
          go_wp2
          go_ret
          exact ⟨tF,tB⟩
       ·rw [if_neg c6] at H
        exact absurd H (by simp)
      ·rw [if_neg c5] at H
       exact absurd H (by simp)
   ·rw [if_neg c3] at H
    have qd:decide (dH<(av.length:Int))=false:=decide_eq_false c3;clear c3;obtain ⟨qb7,A21,H⟩:=nU H;obtain rfl:=Option.some.inj H;have Xc:=bc1 oM;have Xd:=bf oM 0
    go_wp2_with (first|((with_reducible refine aG (f:=109) rfl ?_);refine bX (some 55) rfl rfl Tryz.func109 tX rfl #[.int .i64 (av.length:Int),.int .i64 1,.int .i64 3] rfl tM ?_;(with_reducible refine (fD.calls (av.length:Int) 1 3 qb7 _ A21.out).mono ?_);rintro e w' ⟨rfl,⟨nd,rfl⟩⟩;refine ⟨_,rfl,?_⟩))
    go_ret
    exact ⟨tF,tB⟩
def iL.f (av:List bI) (a1:Int):Option Bool:=(fD.f a1 0 (wrap64 ((av.length:Int) - 1))).bind fun VD=>(some VD)
theorem iL.calls (bC:Option Addr) (aZ:Nat) (av:List bI) (a1:Int) (r:Bool) (w:World) (dw:Kd.C iG w bC av.length av) (dG:av.length<=aZ) (h:iL.f av a1=some r) :
  Calls Tryz.prog 42 #[.agg #[.slice bC av.length aZ],.int .i64 a1] w fun e w'=>e=.returned (.bool r)∧Below w.heap.size w w':=by
 have qb:=Tryz.underlying24;have dM:=aj.mk dw;have fu:=aj.mk dG;clear dw dG;have HB:=aj.mk (Below.refl w.heap.size w);have H:((fD.f a1 0 (wrap64 ((av.length:Int) - 1))).bind fun VD=>(some VD))=some r:=h;clear h;obtain ⟨VD,A3,H⟩:=nU H;obtain rfl:=Option.some.inj H
 go_enter Tryz.func42,Tryz.ntmps42
 go_wp2_with (first|((with_reducible refine au (N:=2) rfl ?_);refine fA 2 #[.slice bC av.length aZ] 24 HB ?_;clear HB;intro qn2 w4 hg qab qn3 HB hb;clear hb hg;have Bg:=bc1 qab;have Bh:=bf qab 0)|((with_reducible refine aG (f:=109) rfl ?_);refine bX (some 10) rfl rfl Tryz.func109 tX rfl #[.int .i64 a1,.int .i64 0,.int .i64 (wrap64 ((av.length:Int) - 1))] rfl tM ?_;(with_reducible refine (fD.calls a1 0 (wrap64 ((av.length:Int) - 1)) VD _ A3.out).mono ?_);rintro e w' ⟨rfl,⟨nd,rfl⟩⟩;refine ⟨_,rfl,?_⟩))
 go_ret
 exact ⟨tF,tB⟩
def iw.f (a0:Int):Option Bool:=(fD.f a0 0 2).bind fun VE=>(some VE)
theorem iw.calls (a0:Int) (r:Bool) (w:World) (h:iw.f a0=some r) :
  Calls Tryz.prog 43 #[.int .i64 a0] w fun e w'=>e=.returned (.bool r)∧gU w w':=by
 have H:((fD.f a0 0 2).bind fun VE=>(some VE))=some r:=h;clear h;obtain ⟨VE,A2,H⟩:=nU H;obtain rfl:=Option.some.inj H
 go_enter Tryz.func43,Tryz.ntmps43
 go_wp2_with (first|((with_reducible refine aG (f:=109) rfl ?_);refine bX (some 4) rfl rfl Tryz.func109 tX rfl #[.int .i64 a0,.int .i64 0,.int .i64 2] rfl tM ?_;(with_reducible refine (fD.calls a0 0 2 VE _ A2.out).mono ?_);rintro e w' ⟨rfl,⟨nd,rfl⟩⟩;refine ⟨_,rfl,?_⟩))
 go_ret
 exact ⟨tS,tD⟩
def bG.l0:Nat->List bB->Int->List bI->Option Bool
 | 0,_,_,_=>none
 | k+1,x1,x5,QE=>if x5<(x1.length:Int) then (if 0<=x5 then ((iL.f QE ((aC x1 x5).f0)).bind fun qch=>(if qch=true then ((iw.f ((aC x1 x5).f1)).bind fun qci=>(if qci=true then ((gW.f ((aC x1 x5).f2.f0) ((aC x1 x5).f2.f1) 0 12 2).bind fun qcj=>(if qcj=true then (bG.l0 k x1 (wrap64 (x5+1)) QE) else (some false))) else (some false))) else (some false))) else (none)) else (some (decide ((x1.length:Int)<=3)))
def bG.f (k:Nat) (av:List bI) (l1:List bB):Option Bool:=bG.l0 k l1 0 av
def bG.T4:Bool × List (List Nat × List Nat):=(true,[([],[]),([],[]),([],[]),([1,2],[1,2]),([3],[3]),([4],[4]),([0,5],[0,5]),([6],[6]),([7,6],[7]),([8],[8]),([8],[8]),([9,10,8],[8,9,10]),([11,8],[8,11]),([12,8],[8,12]),([13,8,8],[8,13]),([14,8],[8,14]),([8,15],[8,15]),([16,14],[16]),([17],[17]),([17],[17]),([18,19,17],[17,18,19]),([20,17],[17,20]),([21,17],[17,21]),([22,17,17],[17,22]),([23,17],[17,23]),([17,24],[17,24])])
def bG.B4:List Nat:=[0,0,0,6,14,30,63,127,255,511,511,2047,4095,8191,16383,32767,65535,131071,262143,262143,1048575,2097151,4194303,8388607,16777215,33554431]
theorem bG.YJ:pQ .any (opsOf Tryz.f31 4)=bG.T4:=by kernel_rfl
theorem bG.QF:nT bG.T4.2 bG.B4=true:=by kernel_rfl
theorem bG.calls (k:Nat) (bC:Option Addr) (aZ:Nat) (av:List bI) (A1:Option Addr) (c1:Nat) (l1:List bB) (r:Bool) (w:World) (dw:Kd.C iG w bC av.length av) (dG:av.length<=aZ) (hr1:Kd.C eD w A1 l1.length l1) (hc1:l1.length<=c1) (h:bG.f k av l1=some r) :
  Calls Tryz.prog 31 #[.agg #[.slice bC av.length aZ],.slice A1 l1.length c1] w fun e w'=>e=.returned (.bool r)∧Below w.heap.size w w':=by
 have qb:=Tryz.underlying24;have jY:=Tryz.underlying37;have dM:=aj.mk dw;have fu:=aj.mk dG;clear dw dG;have HR1:=aj.mk hr1;have yE:=aj.mk hc1;clear hr1 hc1;have HB:=aj.mk (Below.refl w.heap.size w);have H:(bG.l0 k l1 0 av)=some r:=h;clear h;have H':=aj.mk H;clear H
 go_enter Tryz.func31,Tryz.ntmps31
 go_wp2_with (first|((with_reducible refine au (N:=2) rfl ?_);refine fA 2 #[.slice bC av.length aZ] 24 HB ?_;clear HB;intro Lj w3 hg iM qn4 HB hb;clear hb hg))
 go_loopg [5] k (fun kq v5 w'=>∃ (aT:Int),v5=.int .i64 aT∧aj (bG.l0 kq l1 aT av=some r)∧aj (kq<=k)∧aj (w'.heap[Lj]?=some (.cells #[(.slice bC av.length aZ)] 24 (0,0)))∧aj (Below w.heap.size w w'))
 case atStart=>exact ⟨(0),tS,H',⟨Nat.le_refl _⟩,⟨(qB2 iM)⟩,⟨tB⟩⟩
 case round =>
  clear H'
  try clear c1
  try clear p2
  try clear c3
  obtain ⟨aT,rfl,HA,qg,iM,HB⟩:=hrel
  cases gk with
  | zero=>exact absurd HA.out (by simp [bG.l0])
  | succ k1 =>
   have H:=HA.out;clear HA;simp only [bG.l0] at H
   by_cases c4:aT<(l1.length:Int)
   ·rw [if_pos c4] at H
    have pR:decide (aT<(l1.length:Int))=true:=decide_eq_true c4;clear c4
    by_cases c5:0<=aT
    ·rw [if_pos c5] at H
     have zC:decide (0<=aT)=true:=decide_eq_true c5;clear c5;obtain ⟨qch,A6,H⟩:=nU H
     by_cases c7:qch=true
     ·subst c7
      rw [if_pos rfl] at H;obtain ⟨qci,A8,H⟩:=nU H
      by_cases c9:qci=true
      ·subst c9
       rw [if_pos rfl] at H;obtain ⟨qcj,Lp,H⟩:=nU H
       by_cases c11:qcj=true
       ·subst c11
        rw [if_pos rfl] at H;have H':=aj.mk H;clear H
        try go_wp2
        replace iM:=aj.mk (aN iM.out);replace HB:=aj.mk (jD HB.out);have zl:0<=(aT:Int):=of_decide_eq_true tA;have zm:aT<(l1.length:Int):=of_decide_eq_true tA;obtain ⟨dY,N8,jw,jy,jA,jB⟩:=lC HR1.out aT zl zm;have kC:=jB;have kD:=jA;have kE:=jy;have kF:=jw
        cases N8
        replace jw:=dz HB jw;replace jy:=dz HB jy;replace jA:=dz HB jA;replace jB:=dz HB jB;replace zl:=eq_true zl;replace zm:=eq_true zm;have Fb:0<=(aT:Int):=of_decide_eq_true tA;have Fe:aT<(l1.length:Int):=of_decide_eq_true tA;obtain ⟨Ll,VF,mq,mD,mE,mF⟩:=lC HR1.out aT Fb Fe;have ny:=mF;have nA:=mE;have nC:=mD;have nD:=mq;obtain rfl:dY=Ll:=(by injection VF);replace mq:=dz HB mq;replace mD:=dz HB mD;replace mE:=dz HB mE;replace mF:=dz HB mF;replace Fb:=eq_true Fb;replace Fe:=eq_true Fe;have Oa:0<=(aT:Int):=of_decide_eq_true tA;have Ob:aT<(l1.length:Int):=of_decide_eq_true tA;obtain ⟨VG,qck,rP,rQ,rR,rT⟩:=lC HR1.out aT Oa Ob;have rU:=rT;have rV:=rR;have rW:=rQ;have rX:=rP;obtain rfl:dY=VG:=(by injection qck);replace rP:=dz HB rP;replace rQ:=dz HB rQ;replace rR:=dz HB rR;replace rT:=dz HB rT;replace Oa:=eq_true Oa;replace Ob:=eq_true Ob;refine kK (n:=26) (S:=fun w'=>w'.cell? ⟨Lj,0,none⟩=some (.slice bC av.length aZ)∧w'.cell? (dY.add ((aT).toNat*4))=some (.int .i64 ((aC l1 aT).f0))∧w'.cell? ⟨(dY.add ((aT).toNat*4)).block,(dY.add ((aT).toNat*4)).off+1,none⟩=some (.int .i64 ((aC l1 aT).f1))∧w'.cell? ⟨(dY.add ((aT).toNat*4)).block,(dY.add ((aT).toNat*4)).off+2,none⟩=some (.int .i64 ((aC l1 aT).f2.f0))∧w'.cell? ⟨(dY.add ((aT).toNat*4)).block,(dY.add ((aT).toNat*4)).off+3,none⟩=some (.int .i64 ((aC l1 aT).f2.f1))∧w'.cell? (dY.add ((aT).toNat*4))=some (.int .i64 ((aC l1 aT).f0))∧w'.cell? ⟨(dY.add ((aT).toNat*4)).block,(dY.add ((aT).toNat*4)).off+1,none⟩=some (.int .i64 ((aC l1 aT).f1))∧w'.cell? ⟨(dY.add ((aT).toNat*4)).block,(dY.add ((aT).toNat*4)).off+2,none⟩=some (.int .i64 ((aC l1 aT).f2.f0))∧w'.cell? ⟨(dY.add ((aT).toNat*4)).block,(dY.add ((aT).toNat*4)).off+3,none⟩=some (.int .i64 ((aC l1 aT).f2.f1))∧w'.cell? (dY.add ((aT).toNat*4))=some (.int .i64 ((aC l1 aT).f0))∧w'.cell? ⟨(dY.add ((aT).toNat*4)).block,(dY.add ((aT).toNat*4)).off+1,none⟩=some (.int .i64 ((aC l1 aT).f1))∧w'.cell? ⟨(dY.add ((aT).toNat*4)).block,(dY.add ((aT).toNat*4)).off+2,none⟩=some (.int .i64 ((aC l1 aT).f2.f0))∧w'.cell? ⟨(dY.add ((aT).toNat*4)).block,(dY.add ((aT).toNat*4)).off+3,none⟩=some (.int .i64 ((aC l1 aT).f2.f1))) (ds:=[]) #[false,false,false,false,false,false,false,false,false,false,false,false,false,false,false,false,false,false,false,false,false,false,false,false,false,false] tX rfl rfl ⟨(aM iM.out 0).trans rfl,(dz HB kF :),(dz HB kE :),(dz HB kD :),(dz HB kC :),(dz HB nD :),(dz HB nC :),(dz HB nA :),(dz HB ny :),(dz HB rX :),(dz HB rW :),(dz HB rV :),(dz HB rU :)⟩ (fun hHeld=>?_);refine mX bG.YJ bG.QF (fun fq yF=>?_)
        generalize wr.drew=yO at iM HB jw jy jA jB mq mD mE mF rP rQ rR rT hHeld ⊢
        refine pS 1 13 (bA 26 2) fq ?_;refine pS 2 14 (bA 26 6) fq ?_;refine pS 3 15 (bA 26 14) fq ?_;refine pS 4 16 (bA 26 30) fq ?_;refine qyJ 0 12 (bA 26 31) fq yF hHeld ?_;refine qyJ 5 17 (bA 26 63) fq yF hHeld ?_;refine gZ (i:=6) (N:=some 18) (bA 26 127) rfl rfl (jq fq.out tX) (by decide) (fun K hK=>?_);refine gK Tryz.func42 tX rfl #[.agg #[.slice bC av.length aZ],.int .i64 ((aC l1 aT).f0)] (by rfl) rfl rfl tM ?_
        with_reducible refine (iL.calls _ _ av ((aC l1 aT).f0) true _ ?bK ?bL A6.out).mono ?_
        (case bK=>exact cS dM)
        (case bL=>exact fu.out)
        rintro e w13 ⟨rfl,hb⟩;refine ⟨_,rfl,?_⟩;replace iM:=bW iM hb;replace HB:=dL HB hb
        (try clear hb)
        (try clear hb2)
        (try clear hk)
        (try clear hi)
        refine hK.out _ _ ⟨(aM iM.out 0).trans rfl,(dz HB kF :),(dz HB kE :),(dz HB kD :),(dz HB kC :),(dz HB nD :),(dz HB nC :),(dz HB nA :),(dz HB ny :),(dz HB rX :),(dz HB rW :),(dz HB rV :),(dz HB rU :)⟩ (fun hHeld=>?_);clear hK K;refine dn (a':=?_) ?_ ?_;rotate_left
        ·show Act.put _ (some 18) _=_
         simp only [Act.put,sL,ay,aA]
         rfl
        refine pS 7 19 (bA 26 255) fq ?_;refine pS 8 20 (bA 26 511) fq ?_;refine pS 9 21 (bA 26 1023) fq ?_;refine pS 10 22 (bA 26 2047) fq ?_;refine pS 11 23 (bA 26 4095) fq ?_;refine pS 12 24 (bA 26 8191) fq ?_;refine qyJ 13 25 (bA 26 16383) fq yF hHeld ?_;refine gZ (i:=14) (N:=some 26) (bA 26 32767) rfl rfl (jq fq.out tX) (by decide) (fun K hK=>?_);refine gK Tryz.func43 tX rfl #[.int .i64 ((aC l1 aT).f1)] (by rfl) rfl rfl tM ?_
        with_reducible refine (iw.calls ((aC l1 aT).f1) true _ A8.out).mono ?_
        rintro e w' ⟨rfl,⟨nd,rfl⟩⟩;refine ⟨_,rfl,?_⟩;refine hK.out _ _ ⟨(aM iM.out 0).trans rfl,(dz HB kF :),(dz HB kE :),(dz HB kD :),(dz HB kC :),(dz HB nD :),(dz HB nC :),(dz HB nA :),(dz HB ny :),(dz HB rX :),(dz HB rW :),(dz HB rV :),(dz HB rU :)⟩ (fun hHeld=>?_);clear hK K;refine dn (a':=?_) ?_ ?_;rotate_left
        ·show Act.put _ (some 26) _=_
         simp only [Act.put,sL,ay,aA]
         rfl
        refine pS 15 27 (bA 26 65535) fq ?_;refine pS 16 28 (bA 26 131071) fq ?_;refine pS 17 29 (bA 26 262143) fq ?_;refine pS 18 30 (bA 26 524287) fq ?_;refine pS 19 31 (bA 26 1048575) fq ?_;refine pS 20 32 (bA 26 2097151) fq ?_;refine pS 21 33 (bA 26 4194303) fq ?_;refine qyJ 22 34 (bA 26 8388607) fq yF hHeld ?_;refine gZ (i:=23) (N:=some 35) (bA 26 16777215) rfl rfl (jq fq.out tX) (by decide) (fun K hK=>?_);refine gK Tryz.func108 tX rfl #[.agg #[.int .i64 ((aC l1 aT).f2.f0),.int .i64 ((aC l1 aT).f2.f1)],.int .i64 0,.int .i64 12,.int .i64 2] (by rfl) rfl rfl tM ?_
        with_reducible refine (gW.calls ((aC l1 aT).f2.f0) ((aC l1 aT).f2.f1) 0 12 2 true _ Lp.out).mono ?_
        rintro e R8 ⟨rfl,hb⟩;refine ⟨_,rfl,?_⟩;replace iM:=bW iM hb;replace HB:=dL HB hb
        (try clear hb)
        (try clear hb2)
        (try clear hk)
        (try clear hi)
        refine hK.out _ _ ⟨(aM iM.out 0).trans rfl,(dz HB kF :),(dz HB kE :),(dz HB kD :),(dz HB kC :),(dz HB nD :),(dz HB nC :),(dz HB nA :),(dz HB ny :),(dz HB rX :),(dz HB rW :),(dz HB rV :),(dz HB rU :)⟩ (fun hHeld=>?_);clear hK K;refine dn (a':=?_) ?_ ?_;rotate_left
        ·show Act.put _ (some 35) _=_
         simp only [Act.put,sL,ay,aA]
         rfl
        refine pS 24 36 (bA 26 33554431) fq ?_;refine pS 25 37 (bA 26 67108863) fq ?_;refine lK (qU fq.out tX) ?_
        try go_wp2
        go_roundg k1
        case measure=>have:=qg.out;omega
        case rel=>exact ⟨(wrap64 (aT+1)),tS,H',⟨by have:=qg.out;omega⟩,⟨(qB2 iM)⟩,⟨tB⟩⟩
       ·replace c11:=Bool.eq_false_iff.mpr c11
        subst c11
        have H1:(some false)=some r:=by rw [if_neg (show ¬ (false=true) by decide)] at H;exact H
        clear H;have H:=H1;clear H1;obtain rfl:=Option.some.inj H
        try go_wp2
        replace iM:=aj.mk (aN iM.out);replace HB:=aj.mk (jD HB.out);have zl:0<=(aT:Int):=of_decide_eq_true tA;have zm:aT<(l1.length:Int):=of_decide_eq_true tA;obtain ⟨dY,N8,jw,jy,jA,jB⟩:=lC HR1.out aT zl zm;have kC:=jB;have kD:=jA;have kE:=jy;have kF:=jw
        cases N8
        replace jw:=dz HB jw;replace jy:=dz HB jy;replace jA:=dz HB jA;replace jB:=dz HB jB;replace zl:=eq_true zl;replace zm:=eq_true zm;have Fb:0<=(aT:Int):=of_decide_eq_true tA;have Fe:aT<(l1.length:Int):=of_decide_eq_true tA;obtain ⟨Ll,VF,mq,mD,mE,mF⟩:=lC HR1.out aT Fb Fe;have ny:=mF;have nA:=mE;have nC:=mD;have nD:=mq;obtain rfl:dY=Ll:=(by injection VF);replace mq:=dz HB mq;replace mD:=dz HB mD;replace mE:=dz HB mE;replace mF:=dz HB mF;replace Fb:=eq_true Fb;replace Fe:=eq_true Fe;have Oa:0<=(aT:Int):=of_decide_eq_true tA;have Ob:aT<(l1.length:Int):=of_decide_eq_true tA;obtain ⟨VG,qck,rP,rQ,rR,rT⟩:=lC HR1.out aT Oa Ob;have rU:=rT;have rV:=rR;have rW:=rQ;have rX:=rP;obtain rfl:dY=VG:=(by injection qck);replace rP:=dz HB rP;replace rQ:=dz HB rQ;replace rR:=dz HB rR;replace rT:=dz HB rT;replace Oa:=eq_true Oa;replace Ob:=eq_true Ob;refine kK (n:=26) (S:=fun w'=>w'.cell? ⟨Lj,0,none⟩=some (.slice bC av.length aZ)∧w'.cell? (dY.add ((aT).toNat*4))=some (.int .i64 ((aC l1 aT).f0))∧w'.cell? ⟨(dY.add ((aT).toNat*4)).block,(dY.add ((aT).toNat*4)).off+1,none⟩=some (.int .i64 ((aC l1 aT).f1))∧w'.cell? ⟨(dY.add ((aT).toNat*4)).block,(dY.add ((aT).toNat*4)).off+2,none⟩=some (.int .i64 ((aC l1 aT).f2.f0))∧w'.cell? ⟨(dY.add ((aT).toNat*4)).block,(dY.add ((aT).toNat*4)).off+3,none⟩=some (.int .i64 ((aC l1 aT).f2.f1))∧w'.cell? (dY.add ((aT).toNat*4))=some (.int .i64 ((aC l1 aT).f0))∧w'.cell? ⟨(dY.add ((aT).toNat*4)).block,(dY.add ((aT).toNat*4)).off+1,none⟩=some (.int .i64 ((aC l1 aT).f1))∧w'.cell? ⟨(dY.add ((aT).toNat*4)).block,(dY.add ((aT).toNat*4)).off+2,none⟩=some (.int .i64 ((aC l1 aT).f2.f0))∧w'.cell? ⟨(dY.add ((aT).toNat*4)).block,(dY.add ((aT).toNat*4)).off+3,none⟩=some (.int .i64 ((aC l1 aT).f2.f1))∧w'.cell? (dY.add ((aT).toNat*4))=some (.int .i64 ((aC l1 aT).f0))∧w'.cell? ⟨(dY.add ((aT).toNat*4)).block,(dY.add ((aT).toNat*4)).off+1,none⟩=some (.int .i64 ((aC l1 aT).f1))∧w'.cell? ⟨(dY.add ((aT).toNat*4)).block,(dY.add ((aT).toNat*4)).off+2,none⟩=some (.int .i64 ((aC l1 aT).f2.f0))∧w'.cell? ⟨(dY.add ((aT).toNat*4)).block,(dY.add ((aT).toNat*4)).off+3,none⟩=some (.int .i64 ((aC l1 aT).f2.f1))) (ds:=[]) #[false,false,false,false,false,false,false,false,false,false,false,false,false,false,false,false,false,false,false,false,false,false,false,false,false,false] tX rfl rfl ⟨(aM iM.out 0).trans rfl,(dz HB kF :),(dz HB kE :),(dz HB kD :),(dz HB kC :),(dz HB nD :),(dz HB nC :),(dz HB nA :),(dz HB ny :),(dz HB rX :),(dz HB rW :),(dz HB rV :),(dz HB rU :)⟩ (fun hHeld=>?_);refine mX bG.YJ bG.QF (fun fq yF=>?_)
        generalize wr.drew=Mf at iM HB jw jy jA jB mq mD mE mF rP rQ rR rT hHeld ⊢
        refine pS 1 13 (bA 26 2) fq ?_;refine pS 2 14 (bA 26 6) fq ?_;refine pS 3 15 (bA 26 14) fq ?_;refine pS 4 16 (bA 26 30) fq ?_;refine qyJ 0 12 (bA 26 31) fq yF hHeld ?_;refine qyJ 5 17 (bA 26 63) fq yF hHeld ?_;refine gZ (i:=6) (N:=some 18) (bA 26 127) rfl rfl (jq fq.out tX) (by decide) (fun K hK=>?_);refine gK Tryz.func42 tX rfl #[.agg #[.slice bC av.length aZ],.int .i64 ((aC l1 aT).f0)] (by rfl) rfl rfl tM ?_
        with_reducible refine (iL.calls _ _ av ((aC l1 aT).f0) true _ ?bK ?bL A6.out).mono ?_
        (case bK=>exact cS dM)
        (case bL=>exact fu.out)
        rintro e w16 ⟨rfl,hb⟩;refine ⟨_,rfl,?_⟩;replace iM:=bW iM hb;replace HB:=dL HB hb
        (try clear hb)
        (try clear hb2)
        (try clear hk)
        (try clear hi)
        refine hK.out _ _ ⟨(aM iM.out 0).trans rfl,(dz HB kF :),(dz HB kE :),(dz HB kD :),(dz HB kC :),(dz HB nD :),(dz HB nC :),(dz HB nA :),(dz HB ny :),(dz HB rX :),(dz HB rW :),(dz HB rV :),(dz HB rU :)⟩ (fun hHeld=>?_);clear hK K;refine dn (a':=?_) ?_ ?_;rotate_left
        ·show Act.put _ (some 18) _=_
         simp only [Act.put,sL,ay,aA]
         rfl
        refine pS 7 19 (bA 26 255) fq ?_;refine pS 8 20 (bA 26 511) fq ?_;refine pS 9 21 (bA 26 1023) fq ?_;refine pS 10 22 (bA 26 2047) fq ?_;refine pS 11 23 (bA 26 4095) fq ?_;refine pS 12 24 (bA 26 8191) fq ?_;refine qyJ 13 25 (bA 26 16383) fq yF hHeld ?_;refine gZ (i:=14) (N:=some 26) (bA 26 32767) rfl rfl (jq fq.out tX) (by decide) (fun K hK=>?_);refine gK Tryz.func43 tX rfl #[.int .i64 ((aC l1 aT).f1)] (by rfl) rfl rfl tM ?_
        with_reducible refine (iw.calls ((aC l1 aT).f1) true _ A8.out).mono ?_
        rintro e w' ⟨rfl,⟨nd,rfl⟩⟩;refine ⟨_,rfl,?_⟩;refine hK.out _ _ ⟨(aM iM.out 0).trans rfl,(dz HB kF :),(dz HB kE :),(dz HB kD :),(dz HB kC :),(dz HB nD :),(dz HB nC :),(dz HB nA :),(dz HB ny :),(dz HB rX :),(dz HB rW :),(dz HB rV :),(dz HB rU :)⟩ (fun hHeld=>?_);clear hK K;refine dn (a':=?_) ?_ ?_;rotate_left
        ·show Act.put _ (some 26) _=_
         simp only [Act.put,sL,ay,aA]
         rfl
        refine pS 15 27 (bA 26 65535) fq ?_;refine pS 16 28 (bA 26 131071) fq ?_;refine pS 17 29 (bA 26 262143) fq ?_;refine pS 18 30 (bA 26 524287) fq ?_;refine pS 19 31 (bA 26 1048575) fq ?_;refine pS 20 32 (bA 26 2097151) fq ?_;refine pS 21 33 (bA 26 4194303) fq ?_;refine qyJ 22 34 (bA 26 8388607) fq yF hHeld ?_;refine gZ (i:=23) (N:=some 35) (bA 26 16777215) rfl rfl (jq fq.out tX) (by decide) (fun K hK=>?_);refine gK Tryz.func108 tX rfl #[.agg #[.int .i64 ((aC l1 aT).f2.f0),.int .i64 ((aC l1 aT).f2.f1)],.int .i64 0,.int .i64 12,.int .i64 2] (by rfl) rfl rfl tM ?_
        with_reducible refine (gW.calls ((aC l1 aT).f2.f0) ((aC l1 aT).f2.f1) 0 12 2 false _ Lp.out).mono ?_
        rintro e w17 ⟨rfl,hb⟩;refine ⟨_,rfl,?_⟩;replace iM:=bW iM hb;replace HB:=dL HB hb
        (try clear hb)
        (try clear hb2)
        (try clear hk)
        (try clear hi)
        refine hK.out _ _ ⟨(aM iM.out 0).trans rfl,(dz HB kF :),(dz HB kE :),(dz HB kD :),(dz HB kC :),(dz HB nD :),(dz HB nC :),(dz HB nA :),(dz HB ny :),(dz HB rX :),(dz HB rW :),(dz HB rV :),(dz HB rU :)⟩ (fun hHeld=>?_);clear hK K;refine dn (a':=?_) ?_ ?_;rotate_left
        ·show Act.put _ (some 35) _=_
         simp only [Act.put,sL,ay,aA]
         rfl
        refine pS 24 36 (bA 26 33554431) fq ?_;refine pS 25 37 (bA 26 67108863) fq ?_;refine lK (qU fq.out tX) ?_
        try go_wp2
        go_ret
        exact ⟨tF,tB⟩
      ·replace c9:=Bool.eq_false_iff.mpr c9
       subst c9
       have H1:(some false)=some r:=by rw [if_neg (show ¬ (false=true) by decide)] at H;exact H
       clear H;have H:=H1;clear H1;obtain rfl:=Option.some.inj H
       try go_wp2
       replace iM:=aj.mk (aN iM.out);replace HB:=aj.mk (jD HB.out);have zl:0<=(aT:Int):=of_decide_eq_true tA;have zm:aT<(l1.length:Int):=of_decide_eq_true tA;obtain ⟨dY,N8,jw,jy,jA,jB⟩:=lC HR1.out aT zl zm;have kC:=jB;have kD:=jA;have kE:=jy;have kF:=jw
       cases N8
       replace jw:=dz HB jw;replace jy:=dz HB jy;replace jA:=dz HB jA;replace jB:=dz HB jB;replace zl:=eq_true zl;replace zm:=eq_true zm;have Fb:0<=(aT:Int):=of_decide_eq_true tA;have Fe:aT<(l1.length:Int):=of_decide_eq_true tA;obtain ⟨Ll,VF,mq,mD,mE,mF⟩:=lC HR1.out aT Fb Fe;have ny:=mF;have nA:=mE;have nC:=mD;have nD:=mq;obtain rfl:dY=Ll:=(by injection VF);replace mq:=dz HB mq;replace mD:=dz HB mD;replace mE:=dz HB mE;replace mF:=dz HB mF;replace Fb:=eq_true Fb;replace Fe:=eq_true Fe;refine kK (n:=26) (S:=fun w'=>w'.cell? ⟨Lj,0,none⟩=some (.slice bC av.length aZ)∧w'.cell? (dY.add ((aT).toNat*4))=some (.int .i64 ((aC l1 aT).f0))∧w'.cell? ⟨(dY.add ((aT).toNat*4)).block,(dY.add ((aT).toNat*4)).off+1,none⟩=some (.int .i64 ((aC l1 aT).f1))∧w'.cell? ⟨(dY.add ((aT).toNat*4)).block,(dY.add ((aT).toNat*4)).off+2,none⟩=some (.int .i64 ((aC l1 aT).f2.f0))∧w'.cell? ⟨(dY.add ((aT).toNat*4)).block,(dY.add ((aT).toNat*4)).off+3,none⟩=some (.int .i64 ((aC l1 aT).f2.f1))∧w'.cell? (dY.add ((aT).toNat*4))=some (.int .i64 ((aC l1 aT).f0))∧w'.cell? ⟨(dY.add ((aT).toNat*4)).block,(dY.add ((aT).toNat*4)).off+1,none⟩=some (.int .i64 ((aC l1 aT).f1))∧w'.cell? ⟨(dY.add ((aT).toNat*4)).block,(dY.add ((aT).toNat*4)).off+2,none⟩=some (.int .i64 ((aC l1 aT).f2.f0))∧w'.cell? ⟨(dY.add ((aT).toNat*4)).block,(dY.add ((aT).toNat*4)).off+3,none⟩=some (.int .i64 ((aC l1 aT).f2.f1))) (ds:=[]) #[false,false,false,false,false,false,false,false,false,false,false,false,false,false,false,false,false,false,false,false,false,false,false,false,false,false] tX rfl rfl ⟨(aM iM.out 0).trans rfl,(dz HB kF :),(dz HB kE :),(dz HB kD :),(dz HB kC :),(dz HB nD :),(dz HB nC :),(dz HB nA :),(dz HB ny :)⟩ (fun hHeld=>?_);refine mX bG.YJ bG.QF (fun fq yF=>?_)
       generalize wr.drew=VN at iM HB jw jy jA jB mq mD mE mF hHeld ⊢
       refine pS 1 13 (bA 26 2) fq ?_;refine pS 2 14 (bA 26 6) fq ?_;refine pS 3 15 (bA 26 14) fq ?_;refine pS 4 16 (bA 26 30) fq ?_;refine qyJ 0 12 (bA 26 31) fq yF hHeld ?_;refine qyJ 5 17 (bA 26 63) fq yF hHeld ?_;refine gZ (i:=6) (N:=some 18) (bA 26 127) rfl rfl (jq fq.out tX) (by decide) (fun K hK=>?_);refine gK Tryz.func42 tX rfl #[.agg #[.slice bC av.length aZ],.int .i64 ((aC l1 aT).f0)] (by rfl) rfl rfl tM ?_
       with_reducible refine (iL.calls _ _ av ((aC l1 aT).f0) true _ ?bK ?bL A6.out).mono ?_
       (case bK=>exact cS dM)
       (case bL=>exact fu.out)
       rintro e w19 ⟨rfl,hb⟩;refine ⟨_,rfl,?_⟩;replace iM:=bW iM hb;replace HB:=dL HB hb
       (try clear hb)
       (try clear hb2)
       (try clear hk)
       (try clear hi)
       refine hK.out _ _ ⟨(aM iM.out 0).trans rfl,(dz HB kF :),(dz HB kE :),(dz HB kD :),(dz HB kC :),(dz HB nD :),(dz HB nC :),(dz HB nA :),(dz HB ny :)⟩ (fun hHeld=>?_);clear hK K;refine dn (a':=?_) ?_ ?_;rotate_left
       ·show Act.put _ (some 18) _=_
        simp only [Act.put,sL,ay,aA]
        rfl
       refine pS 7 19 (bA 26 255) fq ?_;refine pS 8 20 (bA 26 511) fq ?_;refine pS 9 21 (bA 26 1023) fq ?_;refine pS 10 22 (bA 26 2047) fq ?_;refine pS 11 23 (bA 26 4095) fq ?_;refine pS 12 24 (bA 26 8191) fq ?_;refine qyJ 13 25 (bA 26 16383) fq yF hHeld ?_;refine gZ (i:=14) (N:=some 26) (bA 26 32767) rfl rfl (jq fq.out tX) (by decide) (fun K hK=>?_);refine gK Tryz.func43 tX rfl #[.int .i64 ((aC l1 aT).f1)] (by rfl) rfl rfl tM ?_
       with_reducible refine (iw.calls ((aC l1 aT).f1) false _ A8.out).mono ?_
       rintro e w' ⟨rfl,⟨nd,rfl⟩⟩;refine ⟨_,rfl,?_⟩;refine hK.out _ _ ⟨(aM iM.out 0).trans rfl,(dz HB kF :),(dz HB kE :),(dz HB kD :),(dz HB kC :),(dz HB nD :),(dz HB nC :),(dz HB nA :),(dz HB ny :)⟩ (fun hHeld=>?_);clear hK K;refine dn (a':=?_) ?_ ?_;rotate_left
       ·show Act.put _ (some 26) _=_
        simp only [Act.put,sL,ay,aA]
        rfl
       refine pS 15 27 (bA 26 65535) fq ?_;refine pS 16 28 (bA 26 131071) fq ?_;refine pS 17 29 (bA 26 262143) fq ?_;refine qB0 18 30 (bA 26 524287) fq ?_;refine qB0 19 31 (bA 26 1048575) fq ?_;refine qB0 20 32 (bA 26 2097151) fq ?_;refine qB0 21 33 (bA 26 4194303) fq ?_;refine qB0 22 34 (bA 26 8388607) fq ?_;refine qB0 23 35 (bA 26 16777215) fq ?_;refine qB0 24 36 (bA 26 33554431) fq ?_;refine pS 25 37 (bA 26 67108863) fq ?_;refine lK (qU fq.out tX) ?_
       try go_wp2
       go_ret
       exact ⟨tF,tB⟩
     ·replace c7:=Bool.eq_false_iff.mpr c7
      subst c7
      have H1:(some false)=some r:=by rw [if_neg (show ¬ (false=true) by decide)] at H;exact H
      clear H;have H:=H1;clear H1;obtain rfl:=Option.some.inj H
      try go_wp2
      replace iM:=aj.mk (aN iM.out);replace HB:=aj.mk (jD HB.out);have zl:0<=(aT:Int):=of_decide_eq_true tA;have zm:aT<(l1.length:Int):=of_decide_eq_true tA;obtain ⟨dY,N8,jw,jy,jA,jB⟩:=lC HR1.out aT zl zm;have kC:=jB;have kD:=jA;have kE:=jy;have kF:=jw
      cases N8
      replace jw:=dz HB jw;replace jy:=dz HB jy;replace jA:=dz HB jA;replace jB:=dz HB jB;replace zl:=eq_true zl;replace zm:=eq_true zm;refine kK (n:=26) (S:=fun w'=>w'.cell? ⟨Lj,0,none⟩=some (.slice bC av.length aZ)∧w'.cell? (dY.add ((aT).toNat*4))=some (.int .i64 ((aC l1 aT).f0))∧w'.cell? ⟨(dY.add ((aT).toNat*4)).block,(dY.add ((aT).toNat*4)).off+1,none⟩=some (.int .i64 ((aC l1 aT).f1))∧w'.cell? ⟨(dY.add ((aT).toNat*4)).block,(dY.add ((aT).toNat*4)).off+2,none⟩=some (.int .i64 ((aC l1 aT).f2.f0))∧w'.cell? ⟨(dY.add ((aT).toNat*4)).block,(dY.add ((aT).toNat*4)).off+3,none⟩=some (.int .i64 ((aC l1 aT).f2.f1))) (ds:=[]) #[false,false,false,false,false,false,false,false,false,false,false,false,false,false,false,false,false,false,false,false,false,false,false,false,false,false] tX rfl rfl ⟨(aM iM.out 0).trans rfl,(dz HB kF :),(dz HB kE :),(dz HB kD :),(dz HB kC :)⟩ (fun hHeld=>?_);refine mX bG.YJ bG.QF (fun fq yF=>?_)
      generalize wr.drew=w20 at iM HB jw jy jA jB hHeld ⊢
      refine pS 1 13 (bA 26 2) fq ?_;refine pS 2 14 (bA 26 6) fq ?_;refine pS 3 15 (bA 26 14) fq ?_;refine pS 4 16 (bA 26 30) fq ?_;refine qyJ 0 12 (bA 26 31) fq yF hHeld ?_;refine qyJ 5 17 (bA 26 63) fq yF hHeld ?_;refine gZ (i:=6) (N:=some 18) (bA 26 127) rfl rfl (jq fq.out tX) (by decide) (fun K hK=>?_);refine gK Tryz.func42 tX rfl #[.agg #[.slice bC av.length aZ],.int .i64 ((aC l1 aT).f0)] (by rfl) rfl rfl tM ?_
      with_reducible refine (iL.calls _ _ av ((aC l1 aT).f0) false _ ?bK ?bL A6.out).mono ?_
      (case bK=>exact cS dM)
      (case bL=>exact fu.out)
      rintro e w21 ⟨rfl,hb⟩;refine ⟨_,rfl,?_⟩;replace iM:=bW iM hb;replace HB:=dL HB hb
      (try clear hb)
      (try clear hb2)
      (try clear hk)
      (try clear hi)
      refine hK.out _ _ ⟨(aM iM.out 0).trans rfl,(dz HB kF :),(dz HB kE :),(dz HB kD :),(dz HB kC :)⟩ (fun hHeld=>?_);clear hK K;refine dn (a':=?_) ?_ ?_;rotate_left
      ·show Act.put _ (some 18) _=_
       simp only [Act.put,sL,ay,aA]
       rfl
      refine pS 7 19 (bA 26 255) fq ?_;refine pS 8 20 (bA 26 511) fq ?_;refine qB0 9 21 (bA 26 1023) fq ?_;refine qB0 10 22 (bA 26 2047) fq ?_;refine qB0 11 23 (bA 26 4095) fq ?_;refine qB0 12 24 (bA 26 8191) fq ?_;refine qB0 13 25 (bA 26 16383) fq ?_;refine qB0 14 26 (bA 26 32767) fq ?_;refine qB0 15 27 (bA 26 65535) fq ?_;refine pS 16 28 (bA 26 131071) fq ?_;refine pS 17 29 (bA 26 262143) fq ?_;refine qB0 18 30 (bA 26 524287) fq ?_;refine qB0 19 31 (bA 26 1048575) fq ?_;refine qB0 20 32 (bA 26 2097151) fq ?_;refine qB0 21 33 (bA 26 4194303) fq ?_;refine qB0 22 34 (bA 26 8388607) fq ?_;refine qB0 23 35 (bA 26 16777215) fq ?_;refine qB0 24 36 (bA 26 33554431) fq ?_;refine pS 25 37 (bA 26 67108863) fq ?_;refine lK (qU fq.out tX) ?_
      try go_wp2
      go_ret
      exact ⟨tF,tB⟩
    ·rw [if_neg c5] at H
     exact absurd H (by simp)
   ·rw [if_neg c4] at H
    have pR:decide (aT<(l1.length:Int))=false:=decide_eq_false c4;clear c4;obtain rfl:=Option.some.inj H
    go_wp2
    go_ret
    exact ⟨tF,tB⟩
end Go.Proofs.YtnpfbjnjdngkhaaGreatDoor.P
namespace Go.Proofs.YtnpfbjnjdngkhaaGreatDoor.P
open Go.RowKit Go.Proofs.YtnpfbjnjdngkhaaGreatDoorW.aQ Go.Proofs.YtnpfbjnjdngkhaaGreatDoorW.bO Go.Proofs.YtnpfbjnjdngkhaaGreatDoorW.bT
theorem QG (x lo hi:Int):fD.f x lo hi=some (oN x lo hi):=(show fD.f x lo hi=dW.f x lo hi from rfl).trans (Eu x lo hi)
theorem QI (s:bQ) (lo hi wide:Int):gW.f s.f0 s.f1 lo hi wide=some (je s lo hi wide):=(show gW.f s.f0 s.f1 lo hi wide=fJ.f s.f0 s.f1 lo hi wide from rfl).trans (vv s lo hi wide)
theorem VH {l:List bI} {i:Nat} (hi:i<l.length):aX l (i:Int)=l[i]:=by rw [aX,Int.toNat_natCast,List.getD_eq_getElem?_getD,List.getElem?_eq_getElem hi];rfl
theorem qkX {l:List bQ} {i:Nat} (hi:i<l.length):bH l (i:Int)=l[i]:=by rw [bH,Int.toNat_natCast,List.getD_eq_getElem?_getD,List.getElem?_eq_getElem hi];rfl
theorem qfw {l:List bB} {i:Nat} (hi:i<l.length):aC l (i:Int)=l[i]:=by rw [aC,Int.toNat_natCast,List.getD_eq_getElem?_getD,List.getElem?_eq_getElem hi];rfl
theorem QJ {i:Nat} (h:i<=100000):wrap64 ((i:Int)+1)=((i+1:Nat):Int):=by rw [Br (by omega) (by omega)];omega
theorem VI (h:List bI) (i:Nat) (hi:i<h.length) (hl:h[i].f0.length<=900):∀ (m k j:Nat),j+m=h[i].f0.length->bP.l1 (k+m+1) i j h=if ((h[i].f0.drop j).any fun s=>!je s 0 20 2)=true then some false else if h[i].f0.length=3∧oN h[i].f1 0 100=true then bP.l0 k (wrap64 ((i:Int)+1)) h else some false:=by
 intro m
 induction m with
 | zero =>
  intro k j hj;rw [Nat.add_zero];simp only [bP.l1,VH hi];rw [if_pos (by omega),if_pos (by omega),if_neg (by omega),List.drop_eq_nil_of_le (by omega),QG,Option.bind_some]
  by_cases h3:h[i].f0.length=3
  ·rw [if_pos (by omega)]
   simp [h3]
  ·rw [if_neg (by omega)]
   simp [h3]
 | succ m ih =>
  intro k j hj
  have hjl:j<h[i].f0.length:=by omega
  rw [show k+(m+1)+1=(k+m+1)+1 by omega];rw [bP.l1,VH hi];rw [if_pos (by omega),if_pos (by omega),if_pos (by omega),if_pos (by omega),qkX hjl,QI,Option.bind_some,QJ (by omega),List.drop_eq_getElem_cons hjl,List.any_cons]
  cases hs:je h[i].f0[j] 0 20 2 with
  | true =>
   rw [if_pos rfl,ih k (j+1) (by omega)];simp
  | false=>simp
theorem VJ (h:List bI) (hl:h.length<=900) (hs:∀ d∈h,d.f0.length<=5):∀ (m k i:Nat),i+m=h.length->7*m<k->bP.l0 k i h=some (!((h.drop i).any za)&&oN h.length 1 3):=by
 intro m
 induction m with
 | zero =>
  intro k i him hk;obtain ⟨k,rfl⟩:∃ m,k=m+1:=⟨k - 1,by omega⟩;rw [bP.l0,if_neg (by omega),QG,List.drop_eq_nil_of_le (by omega)];simp
 | succ m ih =>
  intro k i him hk
  have hi:i<h.length:=by omega
  have h5:=hs _ (List.getElem_mem hi);obtain ⟨k2,rfl⟩:∃ k2,k=(k2+h[i].f0.length+1)+1:=⟨k - h[i].f0.length - 2,by omega⟩;rw [bP.l0,if_pos (by omega)];have h1:=VI h i hi (by omega) h[i].f0.length k2 0 (by omega);rw [show ((0:Nat):Int)=0 from rfl] at h1;rw [h1,QJ (by omega),ih k2 (i+1) (by omega) (by omega),List.drop_zero,List.drop_eq_getElem_cons hi,List.any_cons];have hd:za h[i]=(!(decide (h[i].f0.length=3))||(!oN h[i].f1 0 100||(h[i].f0.any fun s=>!je s 0 20 2))):=rfl;rw [hd]
  by_cases h3:h[i].f0.length=3<;>cases oN h[i].f1 0 100<;>cases (h[i].f0.any fun s=>!je s 0 20 2)<;>simp [h3]
theorem qiM {k:Nat} (hk:900<=k) (h:List bI) (hl:h.length<=100) (hs:∀ d∈h,d.f0.length<=5):bP.f k h=some (iN h):=by
 unfold bP.f
 have:=VJ h (by omega) hs h.length k 0 (by omega) (by omega);rw [show ((0:Nat):Int)=0 from rfl] at this;rw [this,List.drop_zero,iN,Bool.and_comm]
theorem VK (h:List bI) (l:List bB) (hh:h.length<=900) (hl:l.length<=900):∀ (m k i:Nat),i+m=l.length->m<k->bG.l0 k l i h=some (!((l.drop i).any (rA h.length))&&decide (l.length<=3)):=by
 intro m
 induction m with
 | zero =>
  intro k i him hk;obtain ⟨k,rfl⟩:∃ m,k=m+1:=⟨k - 1,by omega⟩;rw [bG.l0,if_neg (by omega),List.drop_eq_nil_of_le (by omega)];simp
  omega
 | succ m ih =>
  intro k i him hk;obtain ⟨k,rfl⟩:∃ m,k=m+1:=⟨k - 1,by omega⟩
  have hi:i<l.length:=by omega
  have hw:wrap64 ((h.length:Int) - 1)=(h.length:Int) - 1:=Br (by omega) (by omega)
  have hd:∀ d,iL.f h d=some (oN d 0 ((h.length:Int) - 1)):=fun d=>by unfold iL.f;rw [hw,QG];rfl
  have ht:∀ d,iw.f d=some (oN d 0 2):=fun d=>by unfold iw.f;rw [QG];rfl
  rw [bG.l0,if_pos (by omega),if_pos (by omega),qfw hi,hd,Option.bind_some,ht,Option.bind_some,QI,Option.bind_some,QJ (by omega),ih k (i+1) (by omega) (by omega),List.drop_eq_getElem_cons hi,List.any_cons];have hb:rA h.length l[i]=(!(oN l[i].f0 0 ((h.length:Int) - 1))||(!(oN l[i].f1 0 2)||!(je l[i].f2 0 12 2))):=rfl;rw [hb]
  cases oN l[i].f0 0 ((h.length:Int) - 1)<;>cases oN l[i].f1 0 2<;>cases je l[i].f2 0 12 2<;>simp
theorem qiN {k:Nat} (hk:900<=k) (h:List bI) (l:List bB) (hh:h.length<=100) (hl:l.length<=100):bG.f k h l=some (iq h.length l):=by
 unfold bG.f
 have:=VK h l (by omega) (by omega) l.length k 0 (by omega) (by omega);rw [show ((0:Nat):Int)=0 from rfl] at this;rw [this,List.drop_zero,iq,Bool.and_comm]
end Go.Proofs.YtnpfbjnjdngkhaaGreatDoor.P
namespace Go.Proofs.YtnpfbjnjdngkhaaGreatDoor.P
open Go.RowKit Go.Proofs.YtnpfbjnjdngkhaaGreatDoorW.aQ Go.Proofs.YtnpfbjnjdngkhaaGreatDoorW.bO Go.Proofs.YtnpfbjnjdngkhaaGreatDoorW.bT
attribute [local go_sem] eP eT fU fV dS dU eU eX
def eO.T5:Bool × List (List Nat × List Nat):=(true,[([],[]),([0],[0]),([],[]),([1,2],[1,2]),([3],[3]),([4],[4]),([],[]),([6],[6]),([5,7,0,1,2,3,4,5],[5]),([7,8,0,1,2,3,4,5,6,7,8],[7])])
def eO.B5:List Nat:=[0,1,0,7,15,31,0,64,255,511]
theorem eO.qez:pQ .any (opsOf Tryz.f33 5)=eO.T5:=by kernel_rfl
theorem eO.ZL:nT eO.T5.2 eO.B5=true:=by kernel_rfl
def eO.T6:Bool × List (List Nat × List Nat):=(true,[([],[]),([],[]),([],[]),([],[]),([3],[3]),([],[]),([],[]),([6,4],[6]),([1,2,4,5,7,7],[1,2,4,5,7]),([],[]),([],[]),([],[]),([11,8],[11]),([],[]),([],[]),([14,12],[14]),([9,10,12,13,15,15],[9,10,12,13,15]),([8,16],[8,16]),([17],[17]),([0,18,16],[0,18]),([19,19,0,1,2,3,4,5,6,7,8,9,10,11,12,13,14,15,16,17,18,19],[0,19])])
def eO.B6:List Nat:=[0,0,0,0,8,0,0,88,254,0,0,0,2558,0,0,23038,65534,131070,262142,524287,1048575]
theorem eO.qdn:pQ .any (opsOf Tryz.f33 6)=eO.T6:=by kernel_rfl
theorem eO.Zg:nT eO.T6.2 eO.B6=true:=by kernel_rfl
end Go.Proofs.YtnpfbjnjdngkhaaGreatDoor.P
namespace Go.Proofs.YtnpfbjnjdngkhaaGreatDoor.P
open Go.RowKit Go.Proofs.YtnpfbjnjdngkhaaGreatDoorW.aQ Go.Proofs.YtnpfbjnjdngkhaaGreatDoorW.bO Go.Proofs.YtnpfbjnjdngkhaaGreatDoorW.bT
def VL (h:List bI):Prop:=h.length<=5∧∀ d∈h,d.f0.length<=5
theorem YK (h:List bI):∀ (m k i:Nat),i+m=7->i<=h.length->2*m+3<k->(∀ j (hj:j<h.length),j<i->h[j].f0.length<=5)->∃ b,bR.l0 k (i:Int) h=some b∧(b=true->VL h):=by
 intro m
 induction m with
 | zero =>
  intro k i hi hl hk hp;obtain ⟨k,rfl⟩:∃ k',k=k'+2:=⟨k - 2,by omega⟩;rw [bR.l0]
  by_cases h1:(i:Int)<h.length
  ·rw [if_pos h1,decide_eq_false (by omega),bR.j1,if_neg (by decide)]
   exact ⟨_,rfl,fun hb=>by have:=of_decide_eq_true hb;omega⟩
  ·rw [if_neg h1,bR.j1,if_neg (by decide)]
   exact ⟨_,rfl,fun hb=>by have:=of_decide_eq_true hb;omega⟩
 | succ m ih =>
  intro k i hi hl hk hp;obtain ⟨k,rfl⟩:∃ k',k=k'+2:=⟨k - 2,by omega⟩;rw [bR.l0]
  by_cases h1:(i:Int)<h.length
  ·rw [if_pos h1]
   by_cases h6:(i:Int)<6
   ·have hil:i<h.length:=by omega
    rw [decide_eq_true h6,bR.j1,if_pos rfl,if_pos (by omega),if_pos h1,VH hil]
    by_cases h5:(h[i].f0.length:Int)>5
    ·rw [if_pos h5];exact ⟨_,rfl,fun hb=>by cases hb⟩
    ·rw [if_neg h5,QJ (by omega)]
     exact ih k (i+1) (by omega) (by omega) (by omega) fun j hj hji=>by
      by_cases hq:j<i
      ·exact hp j hj hq
      ·obtain rfl:j=i:=by omega
       omega
   ·rw [decide_eq_false h6,bR.j1,if_neg (by decide)]
    exact ⟨_,rfl,fun hb=>by have:=of_decide_eq_true hb;omega⟩
  ·rw [if_neg h1,bR.j1,if_neg (by decide)]
   refine ⟨_,rfl,fun hb=>?_⟩;have:=of_decide_eq_true hb;refine ⟨by omega,fun d hd=>?_⟩;obtain ⟨j,hj,rfl⟩:=List.mem_iff_getElem.1 hd;exact hp j hj (by omega)
theorem qkY {k:Nat} (hk:100<=k) (h:List bI):∃ b,bR.f k h=some b∧(b=true->VL h):=by
 have:=YK h 7 k 0 (by omega) (by omega) (by omega) (fun j hj h0=>by omega)
 simpa [bR.f] using this
end Go.Proofs.YtnpfbjnjdngkhaaGreatDoor.P
