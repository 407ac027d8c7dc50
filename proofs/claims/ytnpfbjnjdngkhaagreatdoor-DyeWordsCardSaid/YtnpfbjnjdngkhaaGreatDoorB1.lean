import Derived.Shelf.Abstract
import Derived.Test.YtnpfbjnjdngkhaaGreatDoorB0
set_option maxHeartbeats 8000000
set_option maxRecDepth 100000
set_option linter.unusedVariables false
set_option linter.unusedSimpArgs false
set_option linter.unusedSectionVars false
namespace Go.Proofs.YtnpfbjnjdngkhaaGreatDoor.P
open Go.RowKit Go.Proofs.YtnpfbjnjdngkhaaGreatDoorW.aQ Go.Proofs.YtnpfbjnjdngkhaaGreatDoorW.bO Go.Proofs.YtnpfbjnjdngkhaaGreatDoorW.bT
attribute [local go_sem] eP eT fU fV dS dU eU eX
def qY.f  : Option ((List bB)):=(bE.f 4 5).bind fun Jt=>((bg.f 3).bind fun Ju=>(some (([(⟨0,0,(⟨Jt.1,Jt.2⟩:bQ)⟩:bB),(⟨1,1,(⟨Ju.1,Ju.2⟩:bQ)⟩:bB)]:List bB))))
theorem qY.calls  (r:List bB) (w:World) (h:qY.f  = some r) :
  Calls Tryz.prog 98 #[] w fun e w'=>∃ lM:Value,e=.returned (lM)∧Kd.R eD 154 w' w.heap.size (fun _=>True) lM r∧Below w.heap.size w w':=by
 have BR:=Tryz.underlying154;have HB:=aj.mk (Below.refl w.heap.size w);have H:((bE.f 4 5).bind fun Jt=>((bg.f 3).bind fun Ju=>(some (([(⟨0,0,(⟨Jt.1,Jt.2⟩:bQ)⟩:bB),(⟨1,1,(⟨Ju.1,Ju.2⟩:bQ)⟩:bB)]:List bB)))))=some r:=h;clear h;obtain ⟨⟨Mg,Mh⟩,Lp,H⟩:=bs H;have A1:=aj.mk Lp;clear Lp;obtain ⟨⟨Mi,Mj⟩,Ox,H⟩:=bs H;have A2:=aj.mk Ox;clear Ox;obtain ⟨qiX,Jv⟩:∃ y_:List bB,y_=(([(⟨0,0,(⟨Mg,Mh⟩:bQ)⟩:bB),(⟨1,1,(⟨Mi,Mj⟩:bQ)⟩:bB)]:List bB)):=⟨_,rfl⟩
 replace H:(some qiX)=some r:=by first|(rw [Jv];with_reducible exact H)|(have jr:=(Option.bind_some _ _).symm.trans H;rw [Jv];with_reducible exact jr)|(have jr:=(Option.bind_some _ _).symm.trans H;with_reducible exact jr)|with_reducible exact H|(rw [Jv];exact H)|exact H
 have YW:=aj.mk Jv;clear Jv;obtain rfl:=Option.some.inj H
 go_enter Tryz.func98,Tryz.ntmps98
 go_wp2_with (first|((with_reducible refine aG (f:=67) rfl ?_);refine bX (some 1) rfl rfl Tryz.func67 tX rfl #[.int .i64 4,.int .i64 5] rfl tM ?_;(with_reducible refine (bE.calls 4 5 Mg Mh _ A1.out).mono ?_);rintro e w3 ⟨rfl,hb⟩;refine ⟨_,rfl,?_⟩;replace HB:=dL HB hb;(try clear hb))|((with_reducible refine aG (f:=66) rfl ?_);refine bX (some 3) rfl rfl Tryz.func66 tX rfl #[.int .i64 3] rfl tM ?_;(with_reducible refine (bg.calls 3 Mi Mj _ A2.out).mono ?_);rintro e w4 ⟨rfl,hb⟩;refine ⟨_,rfl,?_⟩;replace HB:=dL HB hb;(try clear hb))|((with_reducible refine au (N:=5) rfl ?_);refine Kd.qD eD _ 154 ?hg (N:=5) ?hd (xs:=([(⟨0,0,(⟨Mg,Mh⟩:bQ)⟩:bB),(⟨1,1,(⟨Mi,Mj⟩:bQ)⟩:bB)]:List bB)) (inner:=[.int .i64 0,.int .i64 0,.int .i64 Mg,.int .i64 Mh,.int .i64 1,.int .i64 1,.int .i64 Mi,.int .i64 Mj]) (ok:=fun _=>True) (nE:=fun _=>True) ?hr ?hp (fun _ hk=>hk) trivial (Below.refl _ _) (Nat.le_refl _) (by simp) ?_;(case hd=>rfl);(case hg=>rfl);(case hr=>first|(go_simp;done)|(go_simp;rfl));(case hp=>exact (dh.c4 (show Kd.M eD _ _ _ (⟨0,0,(⟨Mg,Mh⟩:bQ)⟩:bB) [.int .i64 0,.int .i64 0,.int .i64 Mg,.int .i64 Mh] from (mK _ _ _ (⟨0,0,(⟨Mg,Mh⟩:bQ)⟩:bB) )) (dh.c4 (show Kd.M eD _ _ _ (⟨1,1,(⟨Mi,Mj⟩:bQ)⟩:bB) [.int .i64 1,.int .i64 1,.int .i64 Mi,.int .i64 Mj] from (mK _ _ _ (⟨1,1,(⟨Mi,Mj⟩:bQ)⟩:bB) )) (dh.none _ _))));intro qoh w5 ho6 hb sS gV;clear sS gV;(first|rw [← YW.out] at ho6|(simp only [Int.reduceToNat] at ho6;rw [← YW.out] at ho6));have qk8:=aj.mk (Kd.dZ ho6 (bD tB));replace HB:=dL HB hb;clear hb ho6))
 go_ret
 exact ⟨_,tF,(qCo qk8),tB⟩
def jG.f  : Option (List Int):=some (([1,(-2)]:List Int))
theorem jG.calls  (r:List Int) (w:World) (h:jG.f  = some r) :
  Calls Tryz.prog 99 #[] w fun e w'=>∃ lM:Value,e=.returned (.agg #[lM])∧Kd.R (Kd.int .i64) 3 w' w.heap.size (fun _=>True) lM r∧Below w.heap.size w w':=by
 have GQ:=Tryz.underlying49;have HB:=aj.mk (Below.refl w.heap.size w);have H:(some (([1,(-2)]:List Int)))=some r:=h;clear h;obtain ⟨qaC,Jw⟩:∃ y_:List Int,y_=(([1,(-2)]:List Int)):=⟨_,rfl⟩
 replace H:(some qaC)=some r:=by first|(rw [Jw];with_reducible exact H)|(have jr:=(Option.bind_some _ _).symm.trans H;rw [Jw];with_reducible exact jr)|(have jr:=(Option.bind_some _ _).symm.trans H;with_reducible exact jr)|with_reducible exact H|(rw [Jw];exact H)|exact H
 have YX:=aj.mk Jw;clear Jw;obtain rfl:=Option.some.inj H
 go_enter Tryz.func99,Tryz.ntmps99
 go_wp2_with (first|((with_reducible refine au (N:=0) rfl ?_);refine fA 0 #[.slice none 0 0] 49 HB ?_;clear HB;intro YZ w1 hg FU qk9 HB hb;clear hb hg)|((with_reducible refine au (N:=1) rfl ?_);refine Kd.qD (Kd.int .i64) _ 3 ?hg (N:=1) ?hd (xs:=([1,(-2)]:List Int)) (inner:=[.int .i64 1,.int .i64 (-2)]) (ok:=fun _=>True) (nE:=fun _=>True) ?hr ?hp (fun _ hk=>hk) trivial (Below.refl _ _) (Nat.le_refl _) (by simp) ?_;(case hd=>rfl);(case hg=>rfl);(case hr=>first|(go_simp;done)|(go_simp;rfl));(case hp=>exact (dh.one (show Kd.M (Kd.int .i64) _ _ _ 1 [.int .i64 1] from rfl) (dh.one (show Kd.M (Kd.int .i64) _ _ _ (-2) [.int .i64 (-2)] from rfl) (dh.none _ _))));intro qoi w2 ho3 hb sS gV;clear sS gV;(first|rw [← YX.out] at ho3|(simp only [Int.reduceToNat] at ho3;rw [← YX.out] at ho3));have Y0:=aj.mk (Kd.dZ ho3 (bD tB));replace FU:=bW FU hb;replace HB:=dL HB hb;clear hb ho3;obtain ⟨Ao4,co4,eo4⟩:=Kd.jc Y0.out;subst eo4;have Bg:=bc1 FU;have Bh:=bf FU 0))
 refine bodyPost_ret (results_cell_row rfl _ _ YZ 49 #[.slice Ao4 qaC.length co4] (0,0) _ rfl (by (with_reducible repeat (first|refine aJ ?_ _|refine aN ?_|refine aI ?_ _));refine dO (cs:=#[.slice none 0 0]) ?_ 0 _ rfl;(with_reducible repeat (first|refine aJ ?_ _|refine aN ?_|refine aI ?_ _));exact FU.out) Tryz.underlying49 rfl tX) rfl ?_;exact ⟨_,tF,by (with_reducible repeat (first|apply Kd.kY|apply Kd.kZ|apply Kd.mJ));exact Kd.gq (Kd.jC (p:=⟨YZ,0,none⟩) (Kd.iZ Y0.out FU.out (by decide)) (fun _ hk=>hk.2) (.slice Ao4 qaC.length co4)) (fun _ hk=>trivial),tB⟩
def iH.f  : Option ((List bB)):=(bg.f 5).bind fun Jy=>(some (([(⟨0,0,(⟨Jy.1,Jy.2⟩:bQ)⟩:bB)]:List bB)))
theorem iH.calls  (r:List bB) (w:World) (h:iH.f  = some r) :
  Calls Tryz.prog 100 #[] w fun e w'=>∃ lM:Value,e=.returned (lM)∧Kd.R eD 154 w' w.heap.size (fun _=>True) lM r∧Below w.heap.size w w':=by
 have BR:=Tryz.underlying154;have HB:=aj.mk (Below.refl w.heap.size w);have H:((bg.f 5).bind fun Jy=>(some (([(⟨0,0,(⟨Jy.1,Jy.2⟩:bQ)⟩:bB)]:List bB))))=some r:=h;clear h;obtain ⟨⟨Mk,Ml⟩,Lp,H⟩:=bs H;have A1:=aj.mk Lp;clear Lp;obtain ⟨qiZ,Jz⟩:∃ y_:List bB,y_=(([(⟨0,0,(⟨Mk,Ml⟩:bQ)⟩:bB)]:List bB)):=⟨_,rfl⟩
 replace H:(some qiZ)=some r:=by first|(rw [Jz];with_reducible exact H)|(have jr:=(Option.bind_some _ _).symm.trans H;rw [Jz];with_reducible exact jr)|(have jr:=(Option.bind_some _ _).symm.trans H;with_reducible exact jr)|with_reducible exact H|(rw [Jz];exact H)|exact H
 have Y1:=aj.mk Jz;clear Jz;obtain rfl:=Option.some.inj H
 go_enter Tryz.func100,Tryz.ntmps100
 go_wp2_with (first|((with_reducible refine aG (f:=66) rfl ?_);refine bX (some 1) rfl rfl Tryz.func66 tX rfl #[.int .i64 5] rfl tM ?_;(with_reducible refine (bg.calls 5 Mk Ml _ A1.out).mono ?_);rintro e w2 ⟨rfl,hb⟩;refine ⟨_,rfl,?_⟩;replace HB:=dL HB hb;(try clear hb))|((with_reducible refine au (N:=3) rfl ?_);refine Kd.qD eD _ 154 ?hg (N:=3) ?hd (xs:=([(⟨0,0,(⟨Mk,Ml⟩:bQ)⟩:bB)]:List bB)) (inner:=[.int .i64 0,.int .i64 0,.int .i64 Mk,.int .i64 Ml]) (ok:=fun _=>True) (nE:=fun _=>True) ?hr ?hp (fun _ hk=>hk) trivial (Below.refl _ _) (Nat.le_refl _) (by simp) ?_;(case hd=>rfl);(case hg=>rfl);(case hr=>first|(go_simp;done)|(go_simp;rfl));(case hp=>exact (dh.c4 (show Kd.M eD _ _ _ (⟨0,0,(⟨Mk,Ml⟩:bQ)⟩:bB) [.int .i64 0,.int .i64 0,.int .i64 Mk,.int .i64 Ml] from (mK _ _ _ (⟨0,0,(⟨Mk,Ml⟩:bQ)⟩:bB) )) (dh.none _ _)));intro qoj w3 ho4 hb sS gV;clear sS gV;(first|rw [← Y1.out] at ho4|(simp only [Int.reduceToNat] at ho4;rw [← Y1.out] at ho4));have qla:=aj.mk (Kd.dZ ho4 (bD tB));replace HB:=dL HB hb;clear hb ho4))
 go_ret
 exact ⟨_,tF,(qCo qla),tB⟩
def jH.f  : Option (List Int):=some (([1,1]:List Int))
theorem jH.calls  (r:List Int) (w:World) (h:jH.f  = some r) :
  Calls Tryz.prog 101 #[] w fun e w'=>∃ lM:Value,e=.returned (.agg #[lM])∧Kd.R (Kd.int .i64) 3 w' w.heap.size (fun _=>True) lM r∧Below w.heap.size w w':=by
 have GQ:=Tryz.underlying49;have HB:=aj.mk (Below.refl w.heap.size w);have H:(some (([1,1]:List Int)))=some r:=h;clear h;obtain ⟨qaD,JA⟩:∃ y_:List Int,y_=(([1,1]:List Int)):=⟨_,rfl⟩
 replace H:(some qaD)=some r:=by first|(rw [JA];with_reducible exact H)|(have jr:=(Option.bind_some _ _).symm.trans H;rw [JA];with_reducible exact jr)|(have jr:=(Option.bind_some _ _).symm.trans H;with_reducible exact jr)|with_reducible exact H|(rw [JA];exact H)|exact H
 have Y2:=aj.mk JA;clear JA;obtain rfl:=Option.some.inj H
 go_enter Tryz.func101,Tryz.ntmps101
 go_wp2_with (first|((with_reducible refine au (N:=0) rfl ?_);refine fA 0 #[.slice none 0 0] 49 HB ?_;clear HB;intro Y3 w1 hg FV qlb HB hb;clear hb hg)|((with_reducible refine au (N:=1) rfl ?_);refine Kd.qD (Kd.int .i64) _ 3 ?hg (N:=1) ?hd (xs:=([1,1]:List Int)) (inner:=[.int .i64 1,.int .i64 1]) (ok:=fun _=>True) (nE:=fun _=>True) ?hr ?hp (fun _ hk=>hk) trivial (Below.refl _ _) (Nat.le_refl _) (by simp) ?_;(case hd=>rfl);(case hg=>rfl);(case hr=>first|(go_simp;done)|(go_simp;rfl));(case hp=>exact (dh.one (show Kd.M (Kd.int .i64) _ _ _ 1 [.int .i64 1] from rfl) (dh.one (show Kd.M (Kd.int .i64) _ _ _ 1 [.int .i64 1] from rfl) (dh.none _ _))));intro qok w2 ho3 hb sS gV;clear sS gV;(first|rw [← Y2.out] at ho3|(simp only [Int.reduceToNat] at ho3;rw [← Y2.out] at ho3));have Y4:=aj.mk (Kd.dZ ho3 (bD tB));replace FV:=bW FV hb;replace HB:=dL HB hb;clear hb ho3;obtain ⟨Ao4,co4,eo4⟩:=Kd.jc Y4.out;subst eo4;have Bg:=bc1 FV;have Bh:=bf FV 0))
 refine bodyPost_ret (results_cell_row rfl _ _ Y3 49 #[.slice Ao4 qaD.length co4] (0,0) _ rfl (by (with_reducible repeat (first|refine aJ ?_ _|refine aN ?_|refine aI ?_ _));refine dO (cs:=#[.slice none 0 0]) ?_ 0 _ rfl;(with_reducible repeat (first|refine aJ ?_ _|refine aN ?_|refine aI ?_ _));exact FV.out) Tryz.underlying49 rfl tX) rfl ?_;exact ⟨_,tF,by (with_reducible repeat (first|apply Kd.kY|apply Kd.kZ|apply Kd.mJ));exact Kd.gq (Kd.jC (p:=⟨Y3,0,none⟩) (Kd.iZ Y4.out FV.out (by decide)) (fun _ hk=>hk.2) (.slice Ao4 qaD.length co4)) (fun _ hk=>trivial),tB⟩
def qZ.f  : Option ((List nJ) × Int × Int × (List bQ) × Int):=(jH.f).bind fun Em=>((jG.f).bind fun En=>((bg.f 6).bind fun BS=>((bE.f 12 14).bind fun BU=>((bE.f 10 12).bind fun BX=>(some ((([(⟨Em⟩:nJ),(⟨En⟩:nJ)]:List nJ)),BS.1,BS.2,(([(⟨BU.1,BU.2⟩:bQ),(⟨BX.1,BX.2⟩:bQ)]:List bQ)),3))))))
theorem qZ.calls  (r1:List nJ) (r2:Int) (r3:Int) (r4:List bQ) (r5:Int) (w:World) (h:qZ.f  = some (r1,r2,r3,r4,r5)) :
  Calls Tryz.prog 102 #[] w fun e w'=>∃ lM v3_:Value,e=.returned (.agg #[lM,.int .i64 r2,.int .i64 r3,v3_,.int .i64 r5])∧Kd.N Bf 49 w' w.heap.size (fun k_=>(w.heap.size<=k_)∧some k_≠(v3_:Value).ownBlock) lM r1∧Kd.R jW 37 w' w.heap.size (fun k_=>(w.heap.size<=k_)) v3_ r4∧Below w.heap.size w w':=by
 have Wn:=Tryz.underlying58;have HB:=aj.mk (Below.refl w.heap.size w);have H:((jH.f).bind fun Em=>((jG.f).bind fun En=>((bg.f 6).bind fun BS=>((bE.f 12 14).bind fun BU=>((bE.f 10 12).bind fun BX=>(some ((([(⟨Em⟩:nJ),(⟨En⟩:nJ)]:List nJ)),BS.1,BS.2,(([(⟨BU.1,BU.2⟩:bQ),(⟨BX.1,BX.2⟩:bQ)]:List bQ)),3)))))))=some (r1,r2,r3,r4,r5):=h;clear h;obtain ⟨Em,A1,H⟩:=nU H;obtain ⟨En,A2,H⟩:=nU H;obtain ⟨GU,JC⟩:∃ y_:List nJ,y_=(([(⟨Em⟩:nJ),(⟨En⟩:nJ)]:List nJ)):=⟨_,rfl⟩
 replace H:((bg.f 6).bind fun BS=>((bE.f 12 14).bind fun BU=>((bE.f 10 12).bind fun BX=>(some (GU,BS.1,BS.2,(([(⟨BU.1,BU.2⟩:bQ),(⟨BX.1,BX.2⟩:bQ)]:List bQ)),3)))))=some (r1,r2,r3,r4,r5):=by first|(rw [JC];with_reducible exact H)|(have jr:=(Option.bind_some _ _).symm.trans H;rw [JC];with_reducible exact jr)|(have jr:=(Option.bind_some _ _).symm.trans H;with_reducible exact jr)|with_reducible exact H|(rw [JC];exact H)|exact H
 have Y5:=aj.mk JC;clear JC;obtain ⟨⟨JD,Mq⟩,SV,H⟩:=bs H;have A3:=aj.mk SV;clear SV;obtain ⟨⟨Mr,Ms⟩,YS,H⟩:=bs H;have A4:=aj.mk YS;clear YS;obtain ⟨⟨Mt,Mv⟩,A50,H⟩:=bs H;have A5:=aj.mk A50;clear A50;obtain ⟨SY,JE⟩:∃ y_:List bQ,y_=(([(⟨Mr,Ms⟩:bQ),(⟨Mt,Mv⟩:bQ)]:List bQ)):=⟨_,rfl⟩
 replace H:(some (GU,JD,Mq,SY,3))=some (r1,r2,r3,r4,r5):=by first|(rw [JE];with_reducible exact H)|(have jr:=(Option.bind_some _ _).symm.trans H;rw [JE];with_reducible exact jr)|(have jr:=(Option.bind_some _ _).symm.trans H;with_reducible exact jr)|with_reducible exact H|(rw [JE];exact H)|exact H
 have Y6:=aj.mk JE;clear JE;simp only [Option.some.injEq,Prod.mk.injEq] at H;obtain ⟨rfl,rfl,rfl,rfl,rfl⟩:=H
 go_enter Tryz.func102,Tryz.ntmps102
 go_wp2_with (first|((with_reducible refine au (N:=0) rfl ?_);refine fA 0 #[.slice none 0 0,.int .i64 0,.int .i64 0,.slice none 0 0,.int .i64 0] 58 HB ?_;clear HB;intro oC w6 hg kT qlc HB hb;clear hb hg)|((with_reducible refine aG (f:=101) rfl ?_);refine bX (some 1) rfl rfl Tryz.func101 tX rfl #[] rfl tM ?_;(with_reducible refine (jH.calls  Em _ A1.out).mono ?_);rintro e w7 ⟨qol,rfl,ho0,hb⟩;refine ⟨_,rfl,?_⟩;have JF:=aj.mk (Kd.dZ (Kd.xg (M:=fun k_=>(w.heap.size<=k_)) ho0 (bD tB) (fun k_ h_=>h_)) (bD tB));replace kT:=bW kT hb;replace HB:=dL HB hb;(try clear hb);(try clear ho0))|((with_reducible refine aG (f:=99) rfl ?_);refine bX (some 2) rfl rfl Tryz.func99 tX rfl #[] rfl tM ?_;(with_reducible refine (jG.calls  En _ A2.out).mono ?_);rintro e w8 ⟨qom,rfl,ho0,hb⟩;refine ⟨_,rfl,?_⟩;have Oz:=aj.mk (Kd.dZ (Kd.wY (Kd.xg (M:=fun k_=>(w.heap.size<=k_)) ho0 (bD tB) (fun k_ h_=>h_)) (Kd.vR (qCo JF))) (bD tB));replace JF:=aj.mk (Kd.qE (qCo JF) (Kd.iF ho0) hb);replace kT:=bW kT hb;replace HB:=dL HB hb;(try clear hb);(try clear ho0);obtain ⟨Ao9,co9,eo9⟩:=Kd.jc JF.out;subst eo9;obtain ⟨qc0,qc7,qi2⟩:=Kd.jc Oz.out;subst qi2)|((with_reducible refine au (N:=3) rfl ?_);refine Kd.SI Bf _ 49 ?hg (N':=3) ?hd (xs:=([(⟨Em⟩:nJ),(⟨En⟩:nJ)]:List nJ)) (inner:=[.slice Ao9 Em.length co9,.slice qc0 En.length qc7]) (ok:=(fun k_=>(w.heap.size<=k_)∧k_≠oC)) (nE:=(fun k_=>(w.heap.size<=k_)∧k_≠oC)) ?hr ?hp (fun _ hk=>hk) ((show ∀ k_,w8.heap.size<=k_->(fun k_=>(w.heap.size<=k_)∧k_≠oC) k_ from fun k_ hk=>⟨(Nat.le_trans (bD tB) hk),Kd.LJ (g:=oC) (o:=.cells #[.slice none 0 0,.int .i64 0,.int .i64 0,.slice none 0 0,.int .i64 0] 58 (0,0)) (qB2 kT) k_ hk⟩) _ (Nat.le_refl _)) (Below.refl _ _) (Nat.le_refl _) (by simp) ?_;(case hd=>rfl);(case hg=>rfl);(case hr=>first|(go_simp;done)|(go_simp;rfl));(case hp=>exact (dh.one (show Kd.FK Bf _ _ (⟨Em⟩:nJ) [.slice Ao9 Em.length co9] from (Ou _ _ (⟨Em⟩:nJ) (Kd.eB (Kd.gq (ok':=(fun k_=>(w.heap.size<=k_)∧k_≠oC)) (Kd.iZ (JF.out) kT.out (by decide)) (fun k_ hk=>⟨hk.1.1.1,hk.2⟩))).2.1 (Kd.R_F (Kd.gq (ok':=(fun k_=>(w.heap.size<=k_)∧k_≠oC)) (Kd.iZ (JF.out) kT.out (by decide)) (fun k_ hk=>⟨hk.1.1.1,hk.2⟩))))) (dh.one (show Kd.FK Bf _ _ (⟨En⟩:nJ) [.slice qc0 En.length qc7] from (Ou _ _ (⟨En⟩:nJ) (Kd.eB (Kd.gq (ok':=(fun k_=>(w.heap.size<=k_)∧k_≠oC)) (Kd.iZ (Oz.out) kT.out (by decide)) (fun k_ hk=>⟨hk.1.1.1,hk.2⟩))).2.1 (Kd.R_F (Kd.gq (ok':=(fun k_=>(w.heap.size<=k_)∧k_≠oC)) (Kd.iZ (Oz.out) kT.out (by decide)) (fun k_ hk=>⟨hk.1.1.1,hk.2⟩))))) (dh.none _ _))));intro qon Jc El hb sS gV;clear sS gV;(first|rw [← Y5.out] at El|(simp only [Int.reduceToNat] at El;rw [← Y5.out] at El));have yN:=aj.mk (Kd.GI El (bD tB));replace kT:=bW kT hb;replace HB:=dL HB hb;clear JF Oz;clear hb El)|((with_reducible refine aG (f:=66) rfl ?_);refine bX (some 4) rfl rfl Tryz.func66 tX rfl #[.int .i64 6] rfl tM ?_;(with_reducible refine (bg.calls 6 JD Mq _ A3.out).mono ?_);rintro e w13 ⟨rfl,hb⟩;refine ⟨_,rfl,?_⟩;replace yN:=aj.mk (Kd.qW (by (with_reducible repeat (first|apply Kd.l8|apply Kd.l9|apply Kd.oQ));exact yN.out) hb);replace kT:=bW kT hb;replace HB:=dL HB hb;(try clear hb))|((with_reducible refine aG (f:=67) rfl ?_);refine bX (some 5) rfl rfl Tryz.func67 tX rfl #[.int .i64 12,.int .i64 14] rfl tM ?_;(with_reducible refine (bE.calls 12 14 Mr Ms _ A4.out).mono ?_);rintro e R8 ⟨rfl,hb⟩;refine ⟨_,rfl,?_⟩;replace yN:=aj.mk (Kd.qW (by (with_reducible repeat (first|apply Kd.l8|apply Kd.l9|apply Kd.oQ));exact yN.out) hb);replace kT:=bW kT hb;replace HB:=dL HB hb;(try clear hb))|((with_reducible refine aG (f:=67) rfl ?_);refine bX (some 6) rfl rfl Tryz.func67 tX rfl #[.int .i64 10,.int .i64 12] rfl tM ?_;(with_reducible refine (bE.calls 10 12 Mt Mv _ A5.out).mono ?_);rintro e Mf ⟨rfl,hb⟩;refine ⟨_,rfl,?_⟩;replace yN:=aj.mk (Kd.qW (by (with_reducible repeat (first|apply Kd.l8|apply Kd.l9|apply Kd.oQ));exact yN.out) hb);replace kT:=bW kT hb;replace HB:=dL HB hb;(try clear hb))|((with_reducible refine au (N:=7) rfl ?_);refine Kd.qD jW _ 37 ?hg (N:=7) ?hd (xs:=([(⟨Mr,Ms⟩:bQ),(⟨Mt,Mv⟩:bQ)]:List bQ)) (inner:=[.int .i64 Mr,.int .i64 Ms,.int .i64 Mt,.int .i64 Mv]) (ok:=fun _=>True) (nE:=fun _=>True) ?hr ?hp (fun _ hk=>hk) trivial (Below.refl _ _) (Nat.le_refl _) (by simp) ?_;(case hd=>rfl);(case hg=>rfl);(case hr=>first|(go_simp;done)|(go_simp;rfl));(case hp=>exact (dh.c2 (show Kd.M jW _ _ _ (⟨Mr,Ms⟩:bQ) [.int .i64 Mr,.int .i64 Ms] from (lu _ _ _ (⟨Mr,Ms⟩:bQ) )) (dh.c2 (show Kd.M jW _ _ _ (⟨Mt,Mv⟩:bQ) [.int .i64 Mt,.int .i64 Mv] from (lu _ _ _ (⟨Mt,Mv⟩:bQ) )) (dh.none _ _))));intro qoo w16 Q5 hb sS gV;clear sS gV;(first|rw [← Y6.out] at Q5|(simp only [Int.reduceToNat] at Q5;rw [← Y6.out] at Q5));replace yN:=aj.mk (Kd.SC (by (with_reducible repeat (first|apply Kd.l8|apply Kd.l9|apply Kd.oQ));exact yN.out) (Kd.iF Q5) hb);have Y7:=aj.mk (Kd.dZ (Kd.xg (M:=fun k_=>(w.heap.size<=k_)) Q5 (bD tB) (fun k_ h_=>h_)) (bD tB));replace kT:=bW kT hb;replace HB:=dL HB hb;clear hb Q5;obtain ⟨Wo,Wp,qi3⟩:=Kd.jc Y7.out;subst qi3;obtain ⟨Fz,FB,qaB⟩:=Kd.GJ yN.out;subst qaB;obtain ⟨OA,Wq,Ws,Wt,Wu⟩:=LZ kT;have OB:=bf kT 0;have Wv:=bf kT 1;have Ww:=bf kT 2;have Wy:=bf kT 3;have Wz:=bf kT 4))
 refine bodyPost_ret (results_cell_row rfl _ _ oC 58 #[.slice Fz GU.length FB,.int .i64 JD,.int .i64 Mq,.slice Wo SY.length Wp,.int .i64 3] (0,0) _ rfl (by (with_reducible repeat (first|refine aJ ?_ _|refine aN ?_|refine aI ?_ _));refine dO (cs:=#[.slice Fz GU.length FB,.int .i64 JD,.int .i64 Mq,.slice Wo SY.length Wp,.int .i64 0]) ?_ 4 _ rfl;(with_reducible repeat (first|refine aJ ?_ _|refine aN ?_|refine aI ?_ _));refine dO (cs:=#[.slice Fz GU.length FB,.int .i64 JD,.int .i64 Mq,.slice none 0 0,.int .i64 0]) ?_ 3 _ rfl;(with_reducible repeat (first|refine aJ ?_ _|refine aN ?_|refine aI ?_ _));refine dO (cs:=#[.slice Fz GU.length FB,.int .i64 JD,.int .i64 0,.slice none 0 0,.int .i64 0]) ?_ 2 _ rfl;(with_reducible repeat (first|refine aJ ?_ _|refine aN ?_|refine aI ?_ _));refine dO (cs:=#[.slice Fz GU.length FB,.int .i64 0,.int .i64 0,.slice none 0 0,.int .i64 0]) ?_ 1 _ rfl;(with_reducible repeat (first|refine aJ ?_ _|refine aN ?_|refine aI ?_ _));refine dO (cs:=#[.slice none 0 0,.int .i64 0,.int .i64 0,.slice none 0 0,.int .i64 0]) ?_ 0 _ rfl;(with_reducible repeat (first|refine aJ ?_ _|refine aN ?_|refine aI ?_ _));exact kT.out) Tryz.underlying58 rfl tX) rfl ?_;exact ⟨_,_,tF,by (with_reducible repeat (first|apply Kd.l8|apply Kd.l9|apply Kd.oQ));exact Kd.sP (Kd.wO (p:=⟨oC,4,none⟩) (Kd.wO (p:=⟨oC,3,none⟩) (Kd.wO (p:=⟨oC,2,none⟩) (Kd.wO (p:=⟨oC,1,none⟩) (Kd.wO (p:=⟨oC,0,none⟩) (Kd.sP yN.out (fun k_ hk=>(⟨hk,hk.1.2⟩:_∧k_≠oC))) (fun _ hk=>hk.2) (.slice Fz GU.length FB)) (fun _ hk=>hk.2) (.int .i64 JD)) (fun _ hk=>hk.2) (.int .i64 Mq)) (fun _ hk=>hk.2) (.slice Wo SY.length Wp)) (fun _ hk=>hk.2) (.int .i64 3)) (fun _ hk=>⟨hk.1.1.1,hk.1.2⟩),by (with_reducible repeat (first|apply Kd.kY|apply Kd.kZ|apply Kd.mJ));exact Kd.gq (Kd.jC (p:=⟨oC,4,none⟩) (Kd.jC (p:=⟨oC,3,none⟩) (Kd.jC (p:=⟨oC,2,none⟩) (Kd.jC (p:=⟨oC,1,none⟩) (Kd.jC (p:=⟨oC,0,none⟩) (Kd.iZ Y7.out kT.out (by decide)) (fun _ hk=>hk.2) (.slice Fz GU.length FB)) (fun _ hk=>hk.2) (.int .i64 JD)) (fun _ hk=>hk.2) (.int .i64 Mq)) (fun _ hk=>hk.2) (.slice Wo SY.length Wp)) (fun _ hk=>hk.2) (.int .i64 3)) (fun _ hk=>hk.1.1),tB⟩
def ru.f  : Option ((List dD)):=(iH.f).bind fun CF=>((bg.f 2).bind fun JG=>((iH.f).bind fun Bj=>(some (([(⟨CF,2,5⟩:dD),(⟨(([(⟨0,1,(⟨JG.1,JG.2⟩:bQ)⟩:bB)]:List bB)),3,9⟩:dD),(⟨Bj,2,4⟩:dD)]:List dD)))))
theorem ru.calls  (r:List dD) (w:World) (h:ru.f  = some r) :
  Calls Tryz.prog 103 #[] w fun e w'=>∃ lM:Value,e=.returned (lM)∧Kd.N kS 107 w' w.heap.size (fun k_=>(w.heap.size<=k_)) lM r∧Below w.heap.size w w':=by
 have Eo:=Tryz.underlying107;have BR:=Tryz.underlying154;have HB:=aj.mk (Below.refl w.heap.size w);have H:((iH.f).bind fun CF=>((bg.f 2).bind fun JG=>((iH.f).bind fun Bj=>(some (([(⟨CF,2,5⟩:dD),(⟨(([(⟨0,1,(⟨JG.1,JG.2⟩:bQ)⟩:bB)]:List bB)),3,9⟩:dD),(⟨Bj,2,4⟩:dD)]:List dD))))))=some r:=h;clear h;obtain ⟨CF,A1,H⟩:=nU H;obtain ⟨⟨Mw,Mx⟩,Ox,H⟩:=bs H;have A2:=aj.mk Ox;clear Ox;obtain ⟨MC,JH⟩:∃ y_:List bB,y_=(([(⟨0,1,(⟨Mw,Mx⟩:bQ)⟩:bB)]:List bB)):=⟨_,rfl⟩
 replace H:((iH.f).bind fun Bj=>(some (([(⟨CF,2,5⟩:dD),(⟨MC,3,9⟩:dD),(⟨Bj,2,4⟩:dD)]:List dD))))=some r:=by first|(rw [JH];with_reducible exact H)|(have jr:=(Option.bind_some _ _).symm.trans H;rw [JH];with_reducible exact jr)|(have jr:=(Option.bind_some _ _).symm.trans H;with_reducible exact jr)|with_reducible exact H|(rw [JH];exact H)|exact H
 have Y8:=aj.mk JH;clear JH;obtain ⟨Bj,A3,H⟩:=nU H;obtain ⟨qi4,JI⟩:∃ y_:List dD,y_=(([(⟨CF,2,5⟩:dD),(⟨MC,3,9⟩:dD),(⟨Bj,2,4⟩:dD)]:List dD)):=⟨_,rfl⟩
 replace H:(some qi4)=some r:=by first|(rw [JI];with_reducible exact H)|(have jr:=(Option.bind_some _ _).symm.trans H;rw [JI];with_reducible exact jr)|(have jr:=(Option.bind_some _ _).symm.trans H;with_reducible exact jr)|with_reducible exact H|(rw [JI];exact H)|exact H
 have Y9:=aj.mk JI;clear JI;obtain rfl:=Option.some.inj H
 go_enter Tryz.func103,Tryz.ntmps103
 go_wp2_with (first|((with_reducible refine aG (f:=100) rfl ?_);refine bX (some 1) rfl rfl Tryz.func100 tX rfl #[] rfl tM ?_;(with_reducible refine (iH.calls  CF _ A1.out).mono ?_);rintro e w4 ⟨qop,rfl,ho0,hb⟩;refine ⟨_,rfl,?_⟩;have BZ:=aj.mk (Kd.dZ (Kd.xg (M:=fun k_=>(w.heap.size<=k_)) ho0 (bD tB) (fun k_ h_=>h_)) (bD tB));replace HB:=dL HB hb;(try clear hb);(try clear ho0);obtain ⟨Ao5,co5,eo5⟩:=Kd.jc BZ.out;subst eo5)|((with_reducible refine aG (f:=66) rfl ?_);refine bX (some 3) rfl rfl Tryz.func66 tX rfl #[.int .i64 2] rfl tM ?_;(with_reducible refine (bg.calls 2 Mw Mx _ A2.out).mono ?_);rintro e w6 ⟨rfl,hb⟩;refine ⟨_,rfl,?_⟩;replace BZ:=tZ BZ hb;replace HB:=dL HB hb;(try clear hb))|((with_reducible refine au (N:=5) rfl ?_);refine Kd.qD eD _ 154 ?hg (N:=5) ?hd (xs:=([(⟨0,1,(⟨Mw,Mx⟩:bQ)⟩:bB)]:List bB)) (inner:=[.int .i64 0,.int .i64 1,.int .i64 Mw,.int .i64 Mx]) (ok:=fun _=>True) (nE:=fun _=>True) ?hr ?hp (fun _ hk=>hk) trivial (Below.refl _ _) (Nat.le_refl _) (by simp) ?_;(case hd=>rfl);(case hg=>rfl);(case hr=>first|(go_simp;done)|(go_simp;rfl));(case hp=>exact (dh.c4 (show Kd.M eD _ _ _ (⟨0,1,(⟨Mw,Mx⟩:bQ)⟩:bB) [.int .i64 0,.int .i64 1,.int .i64 Mw,.int .i64 Mx] from (mK _ _ _ (⟨0,1,(⟨Mw,Mx⟩:bQ)⟩:bB) )) (dh.none _ _)));intro qor w7 ho8 hb sS gV;clear sS gV;(first|rw [← Y8.out] at ho8|(simp only [Int.reduceToNat] at ho8;rw [← Y8.out] at ho8));have JJ:=aj.mk (Kd.dZ (Kd.wY (Kd.xg (M:=fun k_=>(w.heap.size<=k_)) ho8 (bD tB) (fun k_ h_=>h_)) (Kd.vR (qCo BZ))) (bD tB));replace BZ:=aj.mk (Kd.qE (qCo BZ) (Kd.iF ho8) hb);replace HB:=dL HB hb;clear hb ho8;obtain ⟨Ao9,co9,eo9⟩:=Kd.jc JJ.out;subst eo9)|((with_reducible refine aG (f:=100) rfl ?_);refine bX (some 7) rfl rfl Tryz.func100 tX rfl #[] rfl tM ?_;(with_reducible refine (iH.calls  Bj _ A3.out).mono ?_);rintro e Lr ⟨qot,rfl,ho0,hb⟩;refine ⟨_,rfl,?_⟩;have OC:=aj.mk (Kd.dZ (Kd.wY (Kd.wY (Kd.xg (M:=fun k_=>(w.heap.size<=k_)) ho0 (bD tB) (fun k_ h_=>h_)) (Kd.vR (qCo BZ))) (Kd.vR (qCo JJ))) (bD tB));replace BZ:=aj.mk (Kd.qE (qCo BZ) (Kd.iF ho0) hb);replace JJ:=aj.mk (Kd.qE (qCo JJ) (Kd.iF ho0) hb);replace HB:=dL HB hb;(try clear hb);(try clear ho0);obtain ⟨qc8,qc9,qi5⟩:=Kd.jc OC.out;subst qi5)|((with_reducible refine au (N:=9) rfl ?_);refine Kd.SI kS _ 107 ?hg (N':=9) ?hd (xs:=([(⟨CF,2,5⟩:dD),(⟨MC,3,9⟩:dD),(⟨Bj,2,4⟩:dD)]:List dD)) (inner:=[.slice Ao5 CF.length co5,.int .i64 2,.int .i64 5,.slice Ao9 MC.length co9,.int .i64 3,.int .i64 9,.slice qc8 Bj.length qc9,.int .i64 2,.int .i64 4]) (ok:=(fun k_=>(w.heap.size<=k_))) (nE:=(fun k_=>(w.heap.size<=k_))) ?hr ?hp (fun _ hk=>hk) ((show ∀ k_,Lr.heap.size<=k_->(fun k_=>(w.heap.size<=k_)) k_ from fun k_ hk=>(Nat.le_trans (bD tB) hk)) _ (Nat.le_refl _)) (Below.refl _ _) (Nat.le_refl _) (by simp) ?_;(case hd=>rfl);(case hg=>rfl);(case hr=>first|(go_simp;done)|(go_simp;rfl));(case hp=>exact (dh.c3 (show Kd.FK kS _ _ (⟨CF,2,5⟩:dD) [.slice Ao5 CF.length co5,.int .i64 2,.int .i64 5] from (zB _ _ (⟨CF,2,5⟩:dD) (Kd.eB (Kd.gq (ok':=(fun k_=>(w.heap.size<=k_))) (BZ.out) (fun k_ hk=>hk.1.1.1))).2.1 (Kd.R_F (Kd.gq (ok':=(fun k_=>(w.heap.size<=k_))) (BZ.out) (fun k_ hk=>hk.1.1.1))))) (dh.c3 (show Kd.FK kS _ _ (⟨MC,3,9⟩:dD) [.slice Ao9 MC.length co9,.int .i64 3,.int .i64 9] from (zB _ _ (⟨MC,3,9⟩:dD) (Kd.eB (Kd.gq (ok':=(fun k_=>(w.heap.size<=k_))) (JJ.out) (fun k_ hk=>hk.1.1.1))).2.1 (Kd.R_F (Kd.gq (ok':=(fun k_=>(w.heap.size<=k_))) (JJ.out) (fun k_ hk=>hk.1.1.1))))) (dh.c3 (show Kd.FK kS _ _ (⟨Bj,2,4⟩:dD) [.slice qc8 Bj.length qc9,.int .i64 2,.int .i64 4] from (zB _ _ (⟨Bj,2,4⟩:dD) (Kd.eB (Kd.gq (ok':=(fun k_=>(w.heap.size<=k_))) (OC.out) (fun k_ hk=>hk.1.1.1))).2.1 (Kd.R_F (Kd.gq (ok':=(fun k_=>(w.heap.size<=k_))) (OC.out) (fun k_ hk=>hk.1.1.1))))) (dh.none _ _)))));intro qou yO S9 hb sS gV;clear sS gV;(first|rw [← Y9.out] at S9|(simp only [Int.reduceToNat] at S9;rw [← Y9.out] at S9));have qda:=aj.mk (Kd.GI S9 (bD tB));replace HB:=dL HB hb;clear BZ JJ OC;clear hb S9))
 go_ret
 exact ⟨_,tF,by (with_reducible repeat (first|apply Kd.l8|apply Kd.l9|apply Kd.oQ));exact qda.out,tB⟩
def rz.f  : Option (Int × Int × Int × (List bQ)):=(bE.f 2 3).bind fun JK=>((bE.f 10 12).bind fun JL=>((bE.f 13 14).bind fun JM=>((bg.f 17).bind fun JN=>(some (JK.1,JK.2,1,(([(⟨JL.1,JL.2⟩:bQ),(⟨JM.1,JM.2⟩:bQ),(⟨JN.1,JN.2⟩:bQ)]:List bQ)))))))
theorem rz.calls  (r1:Int) (r2:Int) (r3:Int) (r4:List bQ) (w:World) (h:rz.f  = some (r1,r2,r3,r4)) :
  Calls Tryz.prog 104 #[] w fun e w'=>∃ v3_:Value,e=.returned (.agg #[.int .i64 r1,.int .i64 r2,.int .i64 r3,v3_])∧Kd.R jW 37 w' w.heap.size (fun _=>True) v3_ r4∧Below w.heap.size w w':=by
 have ME:=Tryz.underlying67;have HB:=aj.mk (Below.refl w.heap.size w);have H:((bE.f 2 3).bind fun JK=>((bE.f 10 12).bind fun JL=>((bE.f 13 14).bind fun JM=>((bg.f 17).bind fun JN=>(some (JK.1,JK.2,1,(([(⟨JL.1,JL.2⟩:bQ),(⟨JM.1,JM.2⟩:bQ),(⟨JN.1,JN.2⟩:bQ)]:List bQ))))))))=some (r1,r2,r3,r4):=h;clear h;obtain ⟨⟨MF,Q6⟩,Lp,H⟩:=bs H;have A1:=aj.mk Lp;clear Lp;obtain ⟨⟨MG,MH⟩,Ox,H⟩:=bs H;have A2:=aj.mk Ox;clear Ox;obtain ⟨⟨MI,MJ⟩,SV,H⟩:=bs H;have A3:=aj.mk SV;clear SV;obtain ⟨⟨MK,ML⟩,YS,H⟩:=bs H;have A4:=aj.mk YS;clear YS;obtain ⟨qaF,JO⟩:∃ y_:List bQ,y_=(([(⟨MG,MH⟩:bQ),(⟨MI,MJ⟩:bQ),(⟨MK,ML⟩:bQ)]:List bQ)):=⟨_,rfl⟩
 replace H:(some (MF,Q6,1,qaF))=some (r1,r2,r3,r4):=by first|(rw [JO];with_reducible exact H)|(have jr:=(Option.bind_some _ _).symm.trans H;rw [JO];with_reducible exact jr)|(have jr:=(Option.bind_some _ _).symm.trans H;with_reducible exact jr)|with_reducible exact H|(rw [JO];exact H)|exact H
 have Za:=aj.mk JO;clear JO;simp only [Option.some.injEq,Prod.mk.injEq] at H;obtain ⟨rfl,rfl,rfl,rfl⟩:=H
 go_enter Tryz.func104,Tryz.ntmps104
 go_wp2_with (first|((with_reducible refine au (N:=0) rfl ?_);refine fA 0 #[.int .i64 0,.int .i64 0,.int .i64 0,.slice none 0 0] 67 HB ?_;clear HB;intro JQ w5 hg qF qlf HB hb;clear hb hg)|((with_reducible refine aG (f:=67) rfl ?_);refine bX (some 1) rfl rfl Tryz.func67 tX rfl #[.int .i64 2,.int .i64 3] rfl tM ?_;(with_reducible refine (bE.calls 2 3 MF Q6 _ A1.out).mono ?_);rintro e w6 ⟨rfl,hb⟩;refine ⟨_,rfl,?_⟩;replace qF:=bW qF hb;replace HB:=dL HB hb;(try clear hb))|((with_reducible refine aG (f:=67) rfl ?_);refine bX (some 2) rfl rfl Tryz.func67 tX rfl #[.int .i64 10,.int .i64 12] rfl tM ?_;(with_reducible refine (bE.calls 10 12 MG MH _ A2.out).mono ?_);rintro e w7 ⟨rfl,hb⟩;refine ⟨_,rfl,?_⟩;replace qF:=bW qF hb;replace HB:=dL HB hb;(try clear hb))|((with_reducible refine aG (f:=67) rfl ?_);refine bX (some 3) rfl rfl Tryz.func67 tX rfl #[.int .i64 13,.int .i64 14] rfl tM ?_;(with_reducible refine (bE.calls 13 14 MI MJ _ A3.out).mono ?_);rintro e w8 ⟨rfl,hb⟩;refine ⟨_,rfl,?_⟩;replace qF:=bW qF hb;replace HB:=dL HB hb;(try clear hb))|((with_reducible refine aG (f:=66) rfl ?_);refine bX (some 4) rfl rfl Tryz.func66 tX rfl #[.int .i64 17] rfl tM ?_;(with_reducible refine (bg.calls 17 MK ML _ A4.out).mono ?_);rintro e w9 ⟨rfl,hb⟩;refine ⟨_,rfl,?_⟩;replace qF:=bW qF hb;replace HB:=dL HB hb;(try clear hb))|((with_reducible refine au (N:=5) rfl ?_);refine Kd.qD jW _ 37 ?hg (N:=5) ?hd (xs:=([(⟨MG,MH⟩:bQ),(⟨MI,MJ⟩:bQ),(⟨MK,ML⟩:bQ)]:List bQ)) (inner:=[.int .i64 MG,.int .i64 MH,.int .i64 MI,.int .i64 MJ,.int .i64 MK,.int .i64 ML]) (ok:=fun _=>True) (nE:=fun _=>True) ?hr ?hp (fun _ hk=>hk) trivial (Below.refl _ _) (Nat.le_refl _) (by simp) ?_;(case hd=>rfl);(case hg=>rfl);(case hr=>first|(go_simp;done)|(go_simp;rfl));(case hp=>exact (dh.c2 (show Kd.M jW _ _ _ (⟨MG,MH⟩:bQ) [.int .i64 MG,.int .i64 MH] from (lu _ _ _ (⟨MG,MH⟩:bQ) )) (dh.c2 (show Kd.M jW _ _ _ (⟨MI,MJ⟩:bQ) [.int .i64 MI,.int .i64 MJ] from (lu _ _ _ (⟨MI,MJ⟩:bQ) )) (dh.c2 (show Kd.M jW _ _ _ (⟨MK,ML⟩:bQ) [.int .i64 MK,.int .i64 ML] from (lu _ _ _ (⟨MK,ML⟩:bQ) )) (dh.none _ _)))));intro qov Lr Ta hb sS gV;clear sS gV;(first|rw [← Za.out] at Ta|(simp only [Int.reduceToNat] at Ta;rw [← Za.out] at Ta));have Zb:=aj.mk (Kd.dZ Ta (bD tB));replace qF:=bW qF hb;replace HB:=dL HB hb;clear hb Ta;obtain ⟨qdb,qdc,qi6⟩:=Kd.jc Zb.out;subst qi6;obtain ⟨vS,Db,WA,qfy⟩:=Fg qF;have vT:=bf qF 0;have Dc:=bf qF 1;have WB:=bf qF 2;have qfz:=bf qF 3))
 refine bodyPost_ret (results_cell_row rfl _ _ JQ 67 #[.int .i64 MF,.int .i64 Q6,.int .i64 1,.slice qdb qaF.length qdc] (0,0) _ rfl (by (with_reducible repeat (first|refine aJ ?_ _|refine aN ?_|refine aI ?_ _));refine dO (cs:=#[.int .i64 MF,.int .i64 Q6,.int .i64 1,.slice none 0 0]) ?_ 3 _ rfl;(with_reducible repeat (first|refine aJ ?_ _|refine aN ?_|refine aI ?_ _));refine dO (cs:=#[.int .i64 MF,.int .i64 Q6,.int .i64 0,.slice none 0 0]) ?_ 2 _ rfl;(with_reducible repeat (first|refine aJ ?_ _|refine aN ?_|refine aI ?_ _));refine dO (cs:=#[.int .i64 MF,.int .i64 0,.int .i64 0,.slice none 0 0]) ?_ 1 _ rfl;(with_reducible repeat (first|refine aJ ?_ _|refine aN ?_|refine aI ?_ _));refine dO (cs:=#[.int .i64 0,.int .i64 0,.int .i64 0,.slice none 0 0]) ?_ 0 _ rfl;(with_reducible repeat (first|refine aJ ?_ _|refine aN ?_|refine aI ?_ _));exact qF.out) Tryz.underlying67 rfl tX) rfl ?_;exact ⟨_,tF,by (with_reducible repeat (first|apply Kd.kY|apply Kd.kZ|apply Kd.mJ));exact Kd.gq (Kd.jC (p:=⟨JQ,3,none⟩) (Kd.jC (p:=⟨JQ,2,none⟩) (Kd.jC (p:=⟨JQ,1,none⟩) (Kd.jC (p:=⟨JQ,0,none⟩) (Kd.iZ Zb.out qF.out (by decide)) (fun _ hk=>hk.2) (.int .i64 MF)) (fun _ hk=>hk.2) (.int .i64 Q6)) (fun _ hk=>hk.2) (.int .i64 1)) (fun _ hk=>hk.2) (.slice qdb qaF.length qdc)) (fun _ hk=>trivial),tB⟩
def dW.f (a0:Int) (a1:Int) (a2:Int):Option Bool:=if a0>=a1 then (some (decide (a0<=a2))) else (some false)
theorem dW.calls (a0:Int) (a1:Int) (a2:Int) (r:Bool) (w:World) (h:dW.f a0 a1 a2=some r) :
  Calls Tryz.prog 113 #[.int .i64 a0,.int .i64 a1,.int .i64 a2] w fun e w'=>e=.returned (.bool r)∧gU w w':=by
 have H:(if a0>=a1 then (some (decide (a0<=a2))) else (some false))=some r:=h;clear h
 by_cases c4:a0>=a1
 ·rw [if_pos c4] at H
  have pR:decide (a1<=a0)=true:=decide_eq_true c4;clear c4;obtain rfl:=Option.some.inj H
  go_enter Tryz.func113,Tryz.ntmps113
  go_wp2
  go_ret
  exact ⟨tS,tD⟩
 ·rw [if_neg c4] at H
  have pR:decide (a1<=a0)=false:=decide_eq_false c4;clear c4;obtain rfl:=Option.some.inj H
  go_enter Tryz.func113,Tryz.ntmps113
  go_wp2
  go_ret
  exact ⟨tS,tD⟩
def om {α:Type} (p:α->Bool) (l:List α):Int:=match l.findIdx? p with|some i=>(i:Int)|none => -1
structure PredAt {α:Type} (d:Kd α) (F:Nat) (cap:Array Value) (V:List Value->Value) (p:α->Bool) (w:World) (x:α):Prop where
 out:∀ (W:World) (cs:List Value),Below w.heap.size w W->d.K W x cs->Calls Tryz.prog F (#[V cs]++cap) W fun e W'=>e=.returned (.bool (p x))∧Below W.heap.size W W'
theorem vk {α:Type} (p:α->Bool) (l:List α) (k:Nat) (h:k<l.length) (hn:∀ i (hi:i<l.length),i<k->p (l[i]'hi)=false) (hp:p (l[k]'h)=true):om p l=(k:Int):=by
 have:l.findIdx? p=some k:=by
  rw [List.findIdx?_eq_some_iff_getElem];exact ⟨h,hp,fun j hj=>by simpa using hn j (by omega) hj⟩
 simp [om,this]
theorem r9 {α:Type} (p:α->Bool) (l:List α) (hn:∀ i (hi:i<l.length),p (l[i]'hi)=false):om p l = -1:=by
 have:l.findIdx? p=none:=by
  rw [List.findIdx?_eq_none_iff];intro x hx;obtain ⟨i,hi,rfl⟩:=List.mem_iff_getElem.1 hx;exact hn i hi
 simp [om,this]
theorem yh {α:Type} (p:α->Bool) (l:List α):decide (0<=om p l)=l.any p:=by
 unfold om
 cases h:l.findIdx? p with
 | some i =>
  rw [List.findIdx?_eq_some_iff_getElem] at h;obtain ⟨hi,hp,_⟩:=h;rw [List.any_eq_true.2 ⟨_,List.getElem_mem hi,hp⟩];simp
 | none =>
  rw [List.findIdx?_eq_none_iff] at h;rw [List.any_eq_false.2 (fun x hx=>by simpa using h x hx)];simp
theorem yV {α:Type} (p:α->Bool) (l:List α) : -1<=om p l∧om p l<=l.length:=by
 unfold om
 cases h:l.findIdx? p with
 | some i =>
  rw [List.findIdx?_eq_some_iff_getElem] at h;obtain ⟨hi,_⟩:=h;simp only [];omega
 | none=>simp only [];omega
theorem nV {a b:Int} (h:a=b):Ending.returned (.int .i64 a)=.returned (.int .i64 b):=by rw [h]
theorem nO {a b:Bool} (h:a=b):Ending.returned (.bool a)=.returned (.bool b):=by rw [h]
theorem getD_at {α:Type} (l:List α) (z:α) (k:Int) (h0:0<=k) (h:k<l.length):l.getD k.toNat z∈l∧l.getD k.toNat z=l[k.toNat]'(by omega):=by
 rw [List.getD_eq_getElem?_getD,List.getElem?_eq_getElem (by omega)];exact ⟨List.getElem_mem _,rfl⟩
def CG {α:Type} (p:α->Option Bool) (l:List α):Option Bool:=if l.all (fun x=>(p x).isSome) then some (l.any fun x=>p x == some true) else none
theorem qc {α:Type} {p:α->Option Bool} {l:List α} {r:Bool} (h:CG p l=some r):(∀ x∈l,p x=some (p x == some true))∧r=l.any fun x=>p x == some true:=by
 unfold CG at h
 split at h
 ·rename_i hs
  refine ⟨fun x hx=>?_,by simpa using h.symm⟩;have:=List.all_eq_true.1 hs x hx
  cases hp:p x with
  | none=>rw [hp] at this;simp at this
  | some b=>cases b<;>simp
 ·simp at h
theorem yj {α:Type} {p:α->Option Bool} {q:α->Bool} {l:List α} (h:∀ x∈l,p x=some (q x)):CG p l=some (l.any q):=by
 unfold CG
 rw [if_pos (List.all_eq_true.2 fun x hx=>by rw [h x hx];rfl)]
 congr 1
 rw [Bool.eq_iff_iff,List.any_eq_true,List.any_eq_true]
 constructor
 ·rintro ⟨x,hx,hp⟩;rw [h x hx] at hp;exact ⟨x,hx,by simpa using hp⟩
 ·rintro ⟨x,hx,hp⟩;exact ⟨x,hx,by rw [h x hx,hp];rfl⟩
theorem qaG (p:bI->Bool) (F:Nat) (cap:Array Value) (A:Option Addr) (c:Nat) (l:List bI) (w:World) (hr:Kd.C iG w A l.length l)
  (he:∀ args w,(callFunc F args).run Tryz.prog w=.ok (.enter F args) w) (hp:∀ x∈l,PredAt iG F cap (fun cs=>.agg cs.toArray) p w x) :
  Calls Tryz.prog 206 #[.slice A l.length c,.func (.func F) #[] cap] w fun e w'=>e=.returned (.int .i64 (om p l))∧Below w.heap.size w w':=by
 have hm:l.length<=9223372036854775807:=hr.2.1;have HR:=aj.mk hr;have HP:=aj.mk hp;clear hr hp
 go_enter Tryz.func206,Tryz.ntmps206
 go_wp2_with fail
 go_loopw [5,8] (fun _ i W=>∃ k:Int,0<=k∧k<=l.length∧i=.int .i64 k∧aj (∀ i (hi:i<l.length),(i:Int)<k->p (l[i]'hi)=false)∧aj (Below w.heap.size w W)) (fun _ i _=>l.length - (intOf i).toNat)
 case atStart=>exact ⟨0,by omega,by omega,rfl,⟨fun i hi h=>absurd h (by omega)⟩,⟨Below.refl _ _⟩⟩
 case round =>
  obtain ⟨k,hk0,hk,rfl,hn,HB⟩:=hrel
  by_cases hlt:k<l.length
  ·obtain ⟨ad,A0,c0,rfl,hx0,hx1,l0,g0⟩:=jd HR.out k hk0 hlt
   replace hx0:=dz HB hx0;replace hx1:=dz HB hx1;have hu:=Tryz.underlying102;have HM:=aj.mk (show aX l k∈l∧aX l k=l[k.toNat]'(by omega) from getD_at l _ k hk0 hlt);have HK:=aj.mk (Oq wr (aX l k) l0 (Kd.ak g0 HB.out))
   go_wp2_with fail
   have hb0:=HB.out;refine ((HP.out _ HM.out.1).out wr _ hb0 HK.out).mono ?_;rintro e w2 ⟨rfl,hb⟩;have HB2:=aj.mk (hb0.trans (hb.mono hb0.size));clear hb hb0 hx0 hx1 HK
   cases hpx:p (aX l k) with
   | true =>
    have HX:=aj.mk hpx;clear hpx
    go_wp2_with fail
    go_ret
    exact ⟨nV (by rw [vk p l k.toNat (by omega) (fun i hi h=>hn.out i hi (by omega)) (by rw [← HM.out.2];exact HX.out)];omega),HB2.out⟩
   | false =>
    have HX:=aj.mk hpx;clear hpx
    go_wp2_with fail
    go_roundw
    case rel=>exact ⟨k+1,by omega,by omega,by go_num,⟨fun i hi h=>by
     by_cases e:(i:Int)<k
     ·exact hn.out i hi e
     ·obtain rfl:i=k.toNat:=by omega
      rw [← HM.out.2];exact HX.out⟩,HB2⟩
    case measure=>simp [intOf];omega
  ·have hg:¬ k<l.length:=hlt
   go_wp2_with fail
   go_ret
   exact ⟨nV (r9 p l (fun i hi=>hn.out i hi (by omega))).symm,HB.out⟩
theorem qdd (p:bI->Bool) (F:Nat) (cap:Array Value) (A:Option Addr) (c:Nat) (l:List bI) (w:World) (hr:Kd.C iG w A l.length l)
  (he:∀ args w,(callFunc F args).run Tryz.prog w=.ok (.enter F args) w) (hp:∀ x∈l,PredAt iG F cap (fun cs=>.agg cs.toArray) p w x) :
  Calls Tryz.prog 163 #[.slice A l.length c,.func (.func F) #[] cap] w fun e w'=>e=.returned (.bool (l.any p))∧Below w.heap.size w w':=by
 have HC:=aj.mk (qaG p F cap A c l w hr he hp);have HG:=aj.mk (yh p l);clear hr hp he
 go_enter Tryz.func163,Tryz.ntmps163
 go_wp2_with (go_at_call 206;refine HC.out.mono ?_;rintro e w2 ⟨rfl,hb⟩;have HB:=aj.mk hb;clear hb)
 go_ret
 exact ⟨nO (by rw [← HG.out]),HB.out⟩
theorem qde (p:bQ->Bool) (F:Nat) (cap:Array Value) (A:Option Addr) (c:Nat) (l:List bQ) (w:World) (hr:Kd.C jW w A l.length l)
  (he:∀ args w,(callFunc F args).run Tryz.prog w=.ok (.enter F args) w) (hp:∀ x∈l,PredAt jW F cap (fun cs=>.agg cs.toArray) p w x) :
  Calls Tryz.prog 207 #[.slice A l.length c,.func (.func F) #[] cap] w fun e w'=>e=.returned (.int .i64 (om p l))∧Below w.heap.size w w':=by
 have hm:l.length<=9223372036854775807:=hr.2.1;have HR:=aj.mk hr;have HP:=aj.mk hp;clear hr hp
 go_enter Tryz.func207,Tryz.ntmps207
 go_wp2_with fail
 go_loopw [5,8] (fun _ i W=>∃ k:Int,0<=k∧k<=l.length∧i=.int .i64 k∧aj (∀ i (hi:i<l.length),(i:Int)<k->p (l[i]'hi)=false)∧aj (Below w.heap.size w W)) (fun _ i _=>l.length - (intOf i).toNat)
 case atStart=>exact ⟨0,by omega,by omega,rfl,⟨fun i hi h=>absurd h (by omega)⟩,⟨Below.refl _ _⟩⟩
 case round =>
  obtain ⟨k,hk0,hk,rfl,hn,HB⟩:=hrel
  by_cases hlt:k<l.length
  ·obtain ⟨ad,rfl,hx0,hx1⟩:=nI HR.out k hk0 hlt
   replace hx0:=dz HB hx0;replace hx1:=dz HB hx1;have hu:=Tryz.underlying37;have HM:=aj.mk (show bH l k∈l∧bH l k=l[k.toNat]'(by omega) from getD_at l _ k hk0 hlt);have HK:=aj.mk (LW wr (bH l k))
   go_wp2_with fail
   have hb0:=HB.out;refine ((HP.out _ HM.out.1).out wr _ hb0 HK.out).mono ?_;rintro e w2 ⟨rfl,hb⟩;have HB2:=aj.mk (hb0.trans (hb.mono hb0.size));clear hb hb0 hx0 hx1 HK
   cases hpx:p (bH l k) with
   | true =>
    have HX:=aj.mk hpx;clear hpx
    go_wp2_with fail
    go_ret
    exact ⟨nV (by rw [vk p l k.toNat (by omega) (fun i hi h=>hn.out i hi (by omega)) (by rw [← HM.out.2];exact HX.out)];omega),HB2.out⟩
   | false =>
    have HX:=aj.mk hpx;clear hpx
    go_wp2_with fail
    go_roundw
    case rel=>exact ⟨k+1,by omega,by omega,by go_num,⟨fun i hi h=>by
     by_cases e:(i:Int)<k
     ·exact hn.out i hi e
     ·obtain rfl:i=k.toNat:=by omega
      rw [← HM.out.2];exact HX.out⟩,HB2⟩
    case measure=>simp [intOf];omega
  ·have hg:¬ k<l.length:=hlt
   go_wp2_with fail
   go_ret
   exact ⟨nV (r9 p l (fun i hi=>hn.out i hi (by omega))).symm,HB.out⟩
theorem qaH (p:bQ->Bool) (F:Nat) (cap:Array Value) (A:Option Addr) (c:Nat) (l:List bQ) (w:World) (hr:Kd.C jW w A l.length l)
  (he:∀ args w,(callFunc F args).run Tryz.prog w=.ok (.enter F args) w) (hp:∀ x∈l,PredAt jW F cap (fun cs=>.agg cs.toArray) p w x) :
  Calls Tryz.prog 165 #[.slice A l.length c,.func (.func F) #[] cap] w fun e w'=>e=.returned (.bool (l.any p))∧Below w.heap.size w w':=by
 have HC:=aj.mk (qde p F cap A c l w hr he hp);have HG:=aj.mk (yh p l);clear hr hp he
 go_enter Tryz.func165,Tryz.ntmps165
 go_wp2_with (go_at_call 207;refine HC.out.mono ?_;rintro e w2 ⟨rfl,hb⟩;have HB:=aj.mk hb;clear hb)
 go_ret
 exact ⟨nO (by rw [← HG.out]),HB.out⟩
theorem Tc (p:bB->Bool) (F:Nat) (cap:Array Value) (A:Option Addr) (c:Nat) (l:List bB) (w:World) (hr:Kd.C eD w A l.length l)
  (he:∀ args w,(callFunc F args).run Tryz.prog w=.ok (.enter F args) w) (hp:∀ x∈l,PredAt eD F cap (fun cs=>.agg cs.toArray) p w x) :
  Calls Tryz.prog 208 #[.slice A l.length c,.func (.func F) #[] cap] w fun e w'=>e=.returned (.int .i64 (om p l))∧Below w.heap.size w w':=by
 have hm:l.length<=9223372036854775807:=hr.2.1;have HR:=aj.mk hr;have HP:=aj.mk hp;clear hr hp
 go_enter Tryz.func208,Tryz.ntmps208
 go_wp2_with fail
 go_loopw [5,8] (fun _ i W=>∃ k:Int,0<=k∧k<=l.length∧i=.int .i64 k∧aj (∀ i (hi:i<l.length),(i:Int)<k->p (l[i]'hi)=false)∧aj (Below w.heap.size w W)) (fun _ i _=>l.length - (intOf i).toNat)
 case atStart=>exact ⟨0,by omega,by omega,rfl,⟨fun i hi h=>absurd h (by omega)⟩,⟨Below.refl _ _⟩⟩
 case round =>
  obtain ⟨k,hk0,hk,rfl,hn,HB⟩:=hrel
  by_cases hlt:k<l.length
  ·obtain ⟨ad,rfl,hx0,hx1,hx2,hx3⟩:=lC HR.out k hk0 hlt
   replace hx0:=dz HB hx0;replace hx1:=dz HB hx1;replace hx2:=dz HB hx2;replace hx3:=dz HB hx3;have hu:=Tryz.underlying154;have HM:=aj.mk (show aC l k∈l∧aC l k=l[k.toNat]'(by omega) from getD_at l _ k hk0 hlt);have HK:=aj.mk (Ot wr (aC l k))
   go_wp2_with fail
   have hb0:=HB.out;refine ((HP.out _ HM.out.1).out wr _ hb0 HK.out).mono ?_;rintro e w2 ⟨rfl,hb⟩;have HB2:=aj.mk (hb0.trans (hb.mono hb0.size));clear hb hb0 hx0 hx1 hx2 hx3 HK
   cases hpx:p (aC l k) with
   | true =>
    have HX:=aj.mk hpx;clear hpx
    go_wp2_with fail
    go_ret
    exact ⟨nV (by rw [vk p l k.toNat (by omega) (fun i hi h=>hn.out i hi (by omega)) (by rw [← HM.out.2];exact HX.out)];omega),HB2.out⟩
   | false =>
    have HX:=aj.mk hpx;clear hpx
    go_wp2_with fail
    go_roundw
    case rel=>exact ⟨k+1,by omega,by omega,by go_num,⟨fun i hi h=>by
     by_cases e:(i:Int)<k
     ·exact hn.out i hi e
     ·obtain rfl:i=k.toNat:=by omega
      rw [← HM.out.2];exact HX.out⟩,HB2⟩
    case measure=>simp [intOf];omega
  ·have hg:¬ k<l.length:=hlt
   go_wp2_with fail
   go_ret
   exact ⟨nV (r9 p l (fun i hi=>hn.out i hi (by omega))).symm,HB.out⟩
theorem qdf (p:bB->Bool) (F:Nat) (cap:Array Value) (A:Option Addr) (c:Nat) (l:List bB) (w:World) (hr:Kd.C eD w A l.length l)
  (he:∀ args w,(callFunc F args).run Tryz.prog w=.ok (.enter F args) w) (hp:∀ x∈l,PredAt eD F cap (fun cs=>.agg cs.toArray) p w x) :
  Calls Tryz.prog 168 #[.slice A l.length c,.func (.func F) #[] cap] w fun e w'=>e=.returned (.bool (l.any p))∧Below w.heap.size w w':=by
 have HC:=aj.mk (Tc p F cap A c l w hr he hp);have HG:=aj.mk (yh p l);clear hr hp he
 go_enter Tryz.func168,Tryz.ntmps168
 go_wp2_with (go_at_call 208;refine HC.out.mono ?_;rintro e w2 ⟨rfl,hb⟩;have HB:=aj.mk hb;clear hb)
 go_ret
 exact ⟨nO (by rw [← HG.out]),HB.out⟩
theorem qdg (p:nJ->Bool) (F:Nat) (cap:Array Value) (A:Option Addr) (c:Nat) (l:List nJ) (w:World) (hr:Kd.C Bf w A l.length l)
  (he:∀ args w,(callFunc F args).run Tryz.prog w=.ok (.enter F args) w) (hp:∀ x∈l,PredAt Bf F cap (fun cs=>.agg cs.toArray) p w x) :
  Calls Tryz.prog 172 #[.slice A l.length c,.func (.func F) #[] cap] w fun e w'=>e=.returned (.int .i64 (om p l))∧Below w.heap.size w w':=by
 have hm:l.length<=9223372036854775807:=hr.2.1;have HR:=aj.mk hr;have HP:=aj.mk hp;clear hr hp
 go_enter Tryz.func172,Tryz.ntmps172
 go_wp2_with fail
 go_loopw [5,8] (fun _ i W=>∃ k:Int,0<=k∧k<=l.length∧i=.int .i64 k∧aj (∀ i (hi:i<l.length),(i:Int)<k->p (l[i]'hi)=false)∧aj (Below w.heap.size w W)) (fun _ i _=>l.length - (intOf i).toNat)
 case atStart=>exact ⟨0,by omega,by omega,rfl,⟨fun i hi h=>absurd h (by omega)⟩,⟨Below.refl _ _⟩⟩
 case round =>
  obtain ⟨k,hk0,hk,rfl,hn,HB⟩:=hrel
  by_cases hlt:k<l.length
  ·obtain ⟨ad,A0,c0,rfl,hx0,l0,g0⟩:=LY HR.out k hk0 hlt
   replace hx0:=dz HB hx0;have hu:=Tryz.underlying49;have HM:=aj.mk (show nK l k∈l∧nK l k=l[k.toNat]'(by omega) from getD_at l _ k hk0 hlt);have HK:=aj.mk (GL wr (nK l k) l0 (Kd.ak g0 HB.out))
   go_wp2_with fail
   have hb0:=HB.out;refine ((HP.out _ HM.out.1).out wr _ hb0 HK.out).mono ?_;rintro e w2 ⟨rfl,hb⟩;have HB2:=aj.mk (hb0.trans (hb.mono hb0.size));clear hb hb0 hx0 HK
   cases hpx:p (nK l k) with
   | true =>
    have HX:=aj.mk hpx;clear hpx
    go_wp2_with fail
    go_ret
    exact ⟨nV (by rw [vk p l k.toNat (by omega) (fun i hi h=>hn.out i hi (by omega)) (by rw [← HM.out.2];exact HX.out)];omega),HB2.out⟩
   | false =>
    have HX:=aj.mk hpx;clear hpx
    go_wp2_with fail
    go_roundw
    case rel=>exact ⟨k+1,by omega,by omega,by go_num,⟨fun i hi h=>by
     by_cases e:(i:Int)<k
     ·exact hn.out i hi e
     ·obtain rfl:i=k.toNat:=by omega
      rw [← HM.out.2];exact HX.out⟩,HB2⟩
    case measure=>simp [intOf];omega
  ·have hg:¬ k<l.length:=hlt
   go_wp2_with fail
   go_ret
   exact ⟨nV (r9 p l (fun i hi=>hn.out i hi (by omega))).symm,HB.out⟩
theorem qdh (p:nJ->Bool) (F:Nat) (cap:Array Value) (A:Option Addr) (c:Nat) (l:List nJ) (w:World) (hr:Kd.C Bf w A l.length l)
  (he:∀ args w,(callFunc F args).run Tryz.prog w=.ok (.enter F args) w) (hp:∀ x∈l,PredAt Bf F cap (fun cs=>.agg cs.toArray) p w x) :
  Calls Tryz.prog 114 #[.slice A l.length c,.func (.func F) #[] cap] w fun e w'=>e=.returned (.bool (l.any p))∧Below w.heap.size w w':=by
 have HC:=aj.mk (qdg p F cap A c l w hr he hp);have HG:=aj.mk (yh p l);clear hr hp he
 go_enter Tryz.func114,Tryz.ntmps114
 go_wp2_with (go_at_call 172;refine HC.out.mono ?_;rintro e w2 ⟨rfl,hb⟩;have HB:=aj.mk hb;clear hb)
 go_ret
 exact ⟨nO (by rw [← HG.out]),HB.out⟩
theorem qaI (p:dD->Bool) (F:Nat) (cap:Array Value) (A:Option Addr) (c:Nat) (l:List dD) (w:World) (hr:Kd.C kS w A l.length l)
  (he:∀ args w,(callFunc F args).run Tryz.prog w=.ok (.enter F args) w) (hp:∀ x∈l,PredAt kS F cap (fun cs=>.agg cs.toArray) p w x) :
  Calls Tryz.prog 214 #[.slice A l.length c,.func (.func F) #[] cap] w fun e w'=>e=.returned (.int .i64 (om p l))∧Below w.heap.size w w':=by
 have hm:l.length<=9223372036854775807:=hr.2.1;have HR:=aj.mk hr;have HP:=aj.mk hp;clear hr hp
 go_enter Tryz.func214,Tryz.ntmps214
 go_wp2_with fail
 go_loopw [5,8] (fun _ i W=>∃ k:Int,0<=k∧k<=l.length∧i=.int .i64 k∧aj (∀ i (hi:i<l.length),(i:Int)<k->p (l[i]'hi)=false)∧aj (Below w.heap.size w W)) (fun _ i _=>l.length - (intOf i).toNat)
 case atStart=>exact ⟨0,by omega,by omega,rfl,⟨fun i hi h=>absurd h (by omega)⟩,⟨Below.refl _ _⟩⟩
 case round =>
  obtain ⟨k,hk0,hk,rfl,hn,HB⟩:=hrel
  by_cases hlt:k<l.length
  ·obtain ⟨ad,A0,c0,rfl,hx0,hx1,hx2,l0,g0⟩:=yg HR.out k hk0 hlt
   replace hx0:=dz HB hx0;replace hx1:=dz HB hx1;replace hx2:=dz HB hx2;have hu:=Tryz.underlying107;have HM:=aj.mk (show bJ l k∈l∧bJ l k=l[k.toNat]'(by omega) from getD_at l _ k hk0 hlt);have HK:=aj.mk (Ov wr (bJ l k) l0 (Kd.ak g0 HB.out))
   go_wp2_with fail
   have hb0:=HB.out;refine ((HP.out _ HM.out.1).out wr _ hb0 HK.out).mono ?_;rintro e w2 ⟨rfl,hb⟩;have HB2:=aj.mk (hb0.trans (hb.mono hb0.size));clear hb hb0 hx0 hx1 hx2 HK
   cases hpx:p (bJ l k) with
   | true =>
    have HX:=aj.mk hpx;clear hpx
    go_wp2_with fail
    go_ret
    exact ⟨nV (by rw [vk p l k.toNat (by omega) (fun i hi h=>hn.out i hi (by omega)) (by rw [← HM.out.2];exact HX.out)];omega),HB2.out⟩
   | false =>
    have HX:=aj.mk hpx;clear hpx
    go_wp2_with fail
    go_roundw
    case rel=>exact ⟨k+1,by omega,by omega,by go_num,⟨fun i hi h=>by
     by_cases e:(i:Int)<k
     ·exact hn.out i hi e
     ·obtain rfl:i=k.toNat:=by omega
      rw [← HM.out.2];exact HX.out⟩,HB2⟩
    case measure=>simp [intOf];omega
  ·have hg:¬ k<l.length:=hlt
   go_wp2_with fail
   go_ret
   exact ⟨nV (r9 p l (fun i hi=>hn.out i hi (by omega))).symm,HB.out⟩
theorem Zc (p:dD->Bool) (F:Nat) (cap:Array Value) (A:Option Addr) (c:Nat) (l:List dD) (w:World) (hr:Kd.C kS w A l.length l)
  (he:∀ args w,(callFunc F args).run Tryz.prog w=.ok (.enter F args) w) (hp:∀ x∈l,PredAt kS F cap (fun cs=>.agg cs.toArray) p w x) :
  Calls Tryz.prog 180 #[.slice A l.length c,.func (.func F) #[] cap] w fun e w'=>e=.returned (.bool (l.any p))∧Below w.heap.size w w':=by
 have HC:=aj.mk (qaI p F cap A c l w hr he hp);have HG:=aj.mk (yh p l);clear hr hp he
 go_enter Tryz.func180,Tryz.ntmps180
 go_wp2_with (go_at_call 214;refine HC.out.mono ?_;rintro e w2 ⟨rfl,hb⟩;have HB:=aj.mk hb;clear hb)
 go_ret
 exact ⟨nO (by rw [← HG.out]),HB.out⟩
theorem qdi (p:Int->Bool) (F:Nat) (cap:Array Value) (A:Option Addr) (c:Nat) (l:List Int) (w:World) (hr:Kd.C (Kd.int .i64) w A l.length l)
  (he:∀ args w,(callFunc F args).run Tryz.prog w=.ok (.enter F args) w) (hp:∀ x∈l,PredAt (Kd.int .i64) F cap (fun cs=>cs.headD undef) p w x) :
  Calls Tryz.prog 187 #[.slice A l.length c,.func (.func F) #[] cap] w fun e w'=>e=.returned (.int .i64 (om p l))∧Below w.heap.size w w':=by
 have hm:l.length<=9223372036854775807:=hr.2.1;have HR:=aj.mk hr;have HP:=aj.mk hp;clear hr hp
 go_enter Tryz.func187,Tryz.ntmps187
 go_wp2_with fail
 go_loopw [5,8] (fun _ i W=>∃ k:Int,0<=k∧k<=l.length∧i=.int .i64 k∧aj (∀ i (hi:i<l.length),(i:Int)<k->p (l[i]'hi)=false)∧aj (Below w.heap.size w W)) (fun _ i _=>l.length - (intOf i).toNat)
 case atStart=>exact ⟨0,by omega,by omega,rfl,⟨fun i hi h=>absurd h (by omega)⟩,⟨Below.refl _ _⟩⟩
 case round =>
  obtain ⟨k,hk0,hk,rfl,hn,HB⟩:=hrel
  by_cases hlt:k<l.length
  ·obtain ⟨ad,rfl,hx0⟩:=Kd.iE HR.out k hk0 hlt
   replace hx0:=dz HB hx0;have HM:=aj.mk (show rd l k∈l∧rd l k=l[k.toNat]'(by omega) from getD_at l _ k hk0 hlt);have HK:=aj.mk ((show (Kd.int .i64).K wr (rd l k) [.int .i64 (rd l k)] from rfl))
   go_wp2_with fail
   have hb0:=HB.out;refine ((HP.out _ HM.out.1).out wr _ hb0 HK.out).mono ?_;rintro e w2 ⟨rfl,hb⟩;have HB2:=aj.mk (hb0.trans (hb.mono hb0.size));clear hb hb0 hx0 HK
   cases hpx:p (rd l k) with
   | true =>
    have HX:=aj.mk hpx;clear hpx
    go_wp2_with fail
    go_ret
    exact ⟨nV (by rw [vk p l k.toNat (by omega) (fun i hi h=>hn.out i hi (by omega)) (by rw [← HM.out.2];exact HX.out)];omega),HB2.out⟩
   | false =>
    have HX:=aj.mk hpx;clear hpx
    go_wp2_with fail
    go_roundw
    case rel=>exact ⟨k+1,by omega,by omega,by go_num,⟨fun i hi h=>by
     by_cases e:(i:Int)<k
     ·exact hn.out i hi e
     ·obtain rfl:i=k.toNat:=by omega
      rw [← HM.out.2];exact HX.out⟩,HB2⟩
    case measure=>simp [intOf];omega
  ·have hg:¬ k<l.length:=hlt
   go_wp2_with fail
   go_ret
   exact ⟨nV (r9 p l (fun i hi=>hn.out i hi (by omega))).symm,HB.out⟩
theorem cf3 (p:Int->Bool) (F:Nat) (cap:Array Value) (A:Option Addr) (c:Nat) (l:List Int) (w:World) (hr:Kd.C (Kd.int .i64) w A l.length l)
  (he:∀ args w,(callFunc F args).run Tryz.prog w=.ok (.enter F args) w) (hp:∀ x∈l,PredAt (Kd.int .i64) F cap (fun cs=>cs.headD undef) p w x) :
  Calls Tryz.prog 142 #[.slice A l.length c,.func (.func F) #[] cap] w fun e w'=>e=.returned (.bool (l.any p))∧Below w.heap.size w w':=by
 have HC:=aj.mk (qdi p F cap A c l w hr he hp);have HG:=aj.mk (yh p l);clear hr hp he
 go_enter Tryz.func142,Tryz.ntmps142
 go_wp2_with (go_at_call 187;refine HC.out.mono ?_;rintro e w2 ⟨rfl,hb⟩;have HB:=aj.mk hb;clear hb)
 go_ret
 exact ⟨nO (by rw [← HG.out]),HB.out⟩
def fJ.f (bq:Int) (aU:Int) (a1:Int) (a2:Int) (a3:Int):Option Bool:=if bq>=a1 then (if bq<=aU then (if aU<=a2 then (some (decide ((wrap64 (aU - bq))<=a3))) else (some false)) else (some false)) else (some false)
theorem fJ.calls (bq:Int) (aU:Int) (a1:Int) (a2:Int) (a3:Int) (r:Bool) (w:World) (h:fJ.f bq aU a1 a2 a3=some r) :
  Calls Tryz.prog 167 #[.agg #[.int .i64 bq,.int .i64 aU],.int .i64 a1,.int .i64 a2,.int .i64 a3] w fun e w'=>e=.returned (.bool r)∧Below w.heap.size w w':=by
 have jY:=Tryz.underlying37;have HB:=aj.mk (Below.refl w.heap.size w);have H:(if bq>=a1 then (if bq<=aU then (if aU<=a2 then (some (decide ((wrap64 (aU - bq))<=a3))) else (some false)) else (some false)) else (some false))=some r:=h;clear h
 by_cases c5:bq>=a1
 ·rw [if_pos c5] at H
  have zC:decide (a1<=bq)=true:=decide_eq_true c5;clear c5
  by_cases c6:bq<=aU
  ·rw [if_pos c6] at H
   have GV:decide (bq<=aU)=true:=decide_eq_true c6;clear c6
   by_cases c7:aU<=a2
   ·rw [if_pos c7] at H
    have yL:decide (aU<=a2)=true:=decide_eq_true c7;clear c7;obtain rfl:=Option.some.inj H
    go_enter Tryz.func167,Tryz.ntmps167
    go_wp2_with (first|((with_reducible refine au (N:=4) rfl ?_);refine fA 4 #[.int .i64 bq,.int .i64 aU] 37 HB ?_;clear HB;intro Td w8 hg sU Te HB hb;clear hb hg;obtain ⟨GZ,qaJ⟩:=bc2 sU;have G5:=bf sU 0;have qaK:=bf sU 1))
    go_ret
    exact ⟨tF,tB⟩
   ·rw [if_neg c7] at H
    have yL:decide (aU<=a2)=false:=decide_eq_false c7;clear c7;obtain rfl:=Option.some.inj H
    go_enter Tryz.func167,Tryz.ntmps167
    go_wp2_with (first|((with_reducible refine au (N:=4) rfl ?_);refine fA 4 #[.int .i64 bq,.int .i64 aU] 37 HB ?_;clear HB;intro Td Lr hg sU Te HB hb;clear hb hg;obtain ⟨yt,G6⟩:=bc2 sU;have yu:=bf sU 0;have G7:=bf sU 1))
    go_ret
    exact ⟨tF,tB⟩
  ·rw [if_neg c6] at H
   have GV:decide (bq<=aU)=false:=decide_eq_false c6;clear c6;obtain rfl:=Option.some.inj H
   go_enter Tryz.func167,Tryz.ntmps167
   go_wp2_with (first|((with_reducible refine au (N:=4) rfl ?_);refine fA 4 #[.int .i64 bq,.int .i64 aU] 37 HB ?_;clear HB;intro Td yO hg sU Te HB hb;clear hb hg;obtain ⟨vS,Db⟩:=bc2 sU;have vT:=bf sU 0;have Dc:=bf sU 1))
   go_ret
   exact ⟨tF,tB⟩
 ·rw [if_neg c5] at H
  have zC:decide (a1<=bq)=false:=decide_eq_false c5;clear c5;obtain rfl:=Option.some.inj H
  go_enter Tryz.func167,Tryz.ntmps167
  go_wp2_with (first|((with_reducible refine au (N:=4) rfl ?_);refine fA 4 #[.int .i64 bq,.int .i64 aU] 37 HB ?_;clear HB;intro Td R8 hg sU Te HB hb;clear hb hg;obtain ⟨yw,He⟩:=bc2 sU;have yx:=bf sU 0;have Hf:=bf sU 1))
  go_ret
  exact ⟨tF,tB⟩
def jQ.f (bq:Int) (aU:Int):Option Bool:=(fJ.f bq aU 0 20 2).bind fun t105=>(some (!t105))
theorem jQ.calls (bq:Int) (aU:Int) (r:Bool) (w:World) (h:jQ.f bq aU=some r) :
  Calls Tryz.prog 166 #[.agg #[.int .i64 bq,.int .i64 aU]] w fun e w'=>e=.returned (.bool r)∧Below w.heap.size w w':=by
 have jY:=Tryz.underlying37;have HB:=aj.mk (Below.refl w.heap.size w);have H:((fJ.f bq aU 0 20 2).bind fun t105=>(some (!t105)))=some r:=h;clear h;obtain ⟨t105,A2,H⟩:=nU H;obtain rfl:=Option.some.inj H
 go_enter Tryz.func166,Tryz.ntmps166
 go_wp2_with (first|((with_reducible refine au (N:=1) rfl ?_);refine fA 1 #[.int .i64 bq,.int .i64 aU] 37 HB ?_;clear HB;intro qlh w3 hg JR qli HB hb;clear hb hg;obtain ⟨yT,Ei⟩:=bc2 JR;have yU:=bf JR 0;have Ej:=bf JR 1)|((with_reducible refine aG (f:=167) rfl ?_);refine bX (some 4) rfl rfl Tryz.func167 tX rfl #[.agg #[.int .i64 bq,.int .i64 aU],.int .i64 0,.int .i64 20,.int .i64 2] rfl tM ?_;(with_reducible refine (fJ.calls bq aU 0 20 2 t105 _ A2.out).mono ?_);rintro e w5 ⟨rfl,hb⟩;refine ⟨_,rfl,?_⟩;replace JR:=bW JR hb;replace HB:=dL HB hb;(try clear hb)))
 go_ret
 exact ⟨tF,tB⟩
def sj.f (l0:List bQ):Option Bool:=CG (fun x=>jQ.f x.f0 x.f1) l0
theorem sj.calls (A0:Option Addr) (c0:Nat) (l0:List bQ) (r:Bool) (w:World) (hr0:Kd.C jW w A0 l0.length l0) (hc0:l0.length<=c0) (h:sj.f l0=some r) :
  Calls Tryz.prog 165 #[.slice A0 l0.length c0,.func (.func 166) #[] #[]] w fun e w'=>e=.returned (.bool r)∧Below w.heap.size w w':=by
 obtain ⟨hs,rfl⟩:=qc h;refine qaH (fun x=>jQ.f x.f0 x.f1 == some true) 166 #[] A0 c0 l0 w hr0 (enters_of Tryz.func166 tX rfl) (fun x hx=>⟨fun W cs hb hK=>?_⟩);obtain rfl:=oW hK
 exact (jQ.calls _ _ _ W (hs x hx)).mono fun e w' h=>h
def lQ.f (av:List bQ) (aU:Int):Option Bool:=if (av.length:Int)=3 then ((dW.f aU 0 100).bind fun t107=>(if t107=true then ((sj.f av).bind fun t108=>(some t108)) else (some true))) else (some true)
theorem lQ.calls (bC:Option Addr) (aZ:Nat) (av:List bQ) (aU:Int) (r:Bool) (w:World) (dw:Kd.C jW w bC av.length av) (dG:av.length<=aZ) (h:lQ.f av aU=some r) :
  Calls Tryz.prog 164 #[.agg #[.slice bC av.length aZ,.int .i64 aU]] w fun e w'=>e=.returned (.bool r)∧Below w.heap.size w w':=by
 have SS:=Tryz.underlying102;have dM:=aj.mk dw;have fu:=aj.mk dG;clear dw dG;have HB:=aj.mk (Below.refl w.heap.size w);have H:(if (av.length:Int)=3 then ((dW.f aU 0 100).bind fun t107=>(if t107=true then ((sj.f av).bind fun t108=>(some t108)) else (some true))) else (some true))=some r:=h;clear h
 by_cases c2:(av.length:Int)=3
 ·rw [if_pos c2] at H
  have Ep:((av.length:Int) == 3)=true:=beq_iff_eq.mpr c2;have qi8:((av.length:Int) != 3)=false:=bne_eq_false_iff_eq.mpr c2;clear c2;obtain ⟨t107,A3,H⟩:=nU H
  by_cases c4:t107=true
  ·subst c4
   rw [if_pos rfl] at H;obtain ⟨t108,A5,H⟩:=nU H;obtain rfl:=Option.some.inj H
   go_enter Tryz.func164,Tryz.ntmps164
   go_wp2_with (first|((with_reducible refine au (N:=1) rfl ?_);refine fA 1 #[.slice bC av.length aZ,.int .i64 aU] 102 HB ?_;clear HB;intro Zd w6 hg vo Ze HB hb;clear hb hg;obtain ⟨Hg,Hl⟩:=bc2 vo;have Ho:=bf vo 0;have Hq:=bf vo 1)|(go_at_call 113;(with_reducible refine (dW.calls aU 0 100 true _ A3.out).mono ?_);rintro e w' ⟨rfl,⟨nd,rfl⟩⟩)|(go_at_call 165;(with_reducible refine (sj.calls _ _ av t108 _ ?bK ?bL A5.out).mono ?_);(case bK=>exact cS dM);(case bL=>exact fu.out);rintro e w8 ⟨rfl,hb⟩;replace vo:=bW vo hb;replace HB:=dL HB hb;(try clear hb)))
   go_ret
   exact ⟨tF,tB⟩
  ·replace c4:=Bool.eq_false_iff.mpr c4
   subst c4
   have H1:(some true)=some r:=by rw [if_neg (show ¬ (false=true) by decide)] at H;exact H
   clear H;have H:=H1;clear H1;obtain rfl:=Option.some.inj H
   go_enter Tryz.func164,Tryz.ntmps164
   go_wp2_with (first|((with_reducible refine au (N:=1) rfl ?_);refine fA 1 #[.slice bC av.length aZ,.int .i64 aU] 102 HB ?_;clear HB;intro Zd w9 hg vo Ze HB hb;clear hb hg;obtain ⟨yA,Hr⟩:=bc2 vo;have yB:=bf vo 0;have Ht:=bf vo 1)|(go_at_call 113;(with_reducible refine (dW.calls aU 0 100 false _ A3.out).mono ?_);rintro e w' ⟨rfl,⟨nd,rfl⟩⟩))
   go_ret
   exact ⟨tF,tB⟩
 ·rw [if_neg c2] at H
  have Ep:((av.length:Int) == 3)=false:=beq_eq_false_iff_ne.mpr c2;have qi8:((av.length:Int) != 3)=true:=bne_iff_ne.mpr c2;obtain rfl:=Option.some.inj H
  go_enter Tryz.func164,Tryz.ntmps164
  go_wp2_with (first|((with_reducible refine au (N:=1) rfl ?_);refine fA 1 #[.slice bC av.length aZ,.int .i64 aU] 102 HB ?_;clear HB;intro Zd Jc hg vo Ze HB hb;clear hb hg;obtain ⟨yC,OD⟩:=bc2 vo;have yD:=bf vo 0;have OE:=bf vo 1))
  go_ret
  exact ⟨tF,tB⟩
def su.f (l0:List bI):Option Bool:=CG (fun x=>lQ.f x.f0 x.f1) l0
theorem su.calls (A0:Option Addr) (c0:Nat) (l0:List bI) (r:Bool) (w:World) (hr0:Kd.C iG w A0 l0.length l0) (hc0:l0.length<=c0) (h:su.f l0=some r) :
  Calls Tryz.prog 163 #[.slice A0 l0.length c0,.func (.func 164) #[] #[]] w fun e w'=>e=.returned (.bool r)∧Below w.heap.size w w':=by
 obtain ⟨hs,rfl⟩:=qc h;refine qdd (fun x=>lQ.f x.f0 x.f1 == some true) 164 #[] A0 c0 l0 w hr0 (enters_of Tryz.func164 tX rfl) (fun x hx=>⟨fun W cs hb hK=>?_⟩);obtain ⟨A1,c1,rfl,hl,hC⟩:=FR hK
 exact (lQ.calls A1 c1 _ _ _ W hC hl (hs x hx)).mono fun e w' h=>h
def eG.f (av:List bI):Option Bool:=(dW.f (av.length:Int) 1 3).bind fun t110=>(if t110=true then ((su.f av).bind fun t111=>(some (!t111))) else (some false))
theorem eG.calls (bC:Option Addr) (aZ:Nat) (av:List bI) (r:Bool) (w:World) (dw:Kd.C iG w bC av.length av) (dG:av.length<=aZ) (h:eG.f av=some r) :
  Calls Tryz.prog 105 #[.agg #[.slice bC av.length aZ]] w fun e w'=>e=.returned (.bool r)∧Below w.heap.size w w':=by
 have qb:=Tryz.underlying24;have dM:=aj.mk dw;have fu:=aj.mk dG;clear dw dG;have HB:=aj.mk (Below.refl w.heap.size w);have H:((dW.f (av.length:Int) 1 3).bind fun t110=>(if t110=true then ((su.f av).bind fun t111=>(some (!t111))) else (some false)))=some r:=h;clear h;obtain ⟨t110,A2,H⟩:=nU H
 by_cases c3:t110=true
 ·subst c3
  rw [if_pos rfl] at H;obtain ⟨t111,A4,H⟩:=nU H;obtain rfl:=Option.some.inj H
  go_enter Tryz.func105,Tryz.ntmps105
  go_wp2_with (first|((with_reducible refine au (N:=1) rfl ?_);refine fA 1 #[.slice bC av.length aZ] 24 HB ?_;clear HB;intro qdj w5 hg Er qdk HB hb;clear hb hg;have Hu:=bc1 Er;have Hw:=bf Er 0)|((with_reducible refine aG (f:=113) rfl ?_);refine bX (some 6) rfl rfl Tryz.func113 tX rfl #[.int .i64 (av.length:Int),.int .i64 1,.int .i64 3] rfl tM ?_;(with_reducible refine (dW.calls (av.length:Int) 1 3 true _ A2.out).mono ?_);rintro e w' ⟨rfl,⟨nd,rfl⟩⟩;refine ⟨_,rfl,?_⟩)|(go_at_call 163;(with_reducible refine (su.calls _ _ av t111 _ ?bK ?bL A4.out).mono ?_);(case bK=>exact cS dM);(case bL=>exact fu.out);rintro e w7 ⟨rfl,hb⟩;replace Er:=bW Er hb;replace HB:=dL HB hb;(try clear hb)))
  go_ret
  exact ⟨tF,tB⟩
 ·replace c3:=Bool.eq_false_iff.mpr c3
  subst c3
  have H1:(some false)=some r:=by rw [if_neg (show ¬ (false=true) by decide)] at H;exact H
  clear H;have H:=H1;clear H1;obtain rfl:=Option.some.inj H
  go_enter Tryz.func105,Tryz.ntmps105
  go_wp2_with (first|((with_reducible refine au (N:=1) rfl ?_);refine fA 1 #[.slice bC av.length aZ] 24 HB ?_;clear HB;intro qdj w8 hg Er qdk HB hb;clear hb hg;have GZ:=bc1 Er;have G5:=bf Er 0)|((with_reducible refine aG (f:=113) rfl ?_);refine bX (some 6) rfl rfl Tryz.func113 tX rfl #[.int .i64 (av.length:Int),.int .i64 1,.int .i64 3] rfl tM ?_;(with_reducible refine (dW.calls (av.length:Int) 1 3 false _ A2.out).mono ?_);rintro e w' ⟨rfl,⟨nd,rfl⟩⟩;refine ⟨_,rfl,?_⟩))
  go_ret
  exact ⟨tF,tB⟩
theorem eH {w W w2:World} (h:aj (Below w.heap.size w W)) (hb:Below W.heap.size W w2):aj (Below w.heap.size w w2):=⟨aV h.out hb⟩
theorem dQ {W w2:World} {g:Nat} {o:Obj} (h:aj (W.heap[g]?=some o)) (hb:Below W.heap.size W w2):aj (w2.heap[g]?=some o):=⟨aD h.out hb⟩
section
variable {w:World} {g:Nat} {t:TypeId} {a b c d e:Value}
theorem fG (h:w.heap[g]?=some (.cells #[a] t (0,0))):w.cell? ⟨g,0,none⟩=some a:=(aM h 0).trans rfl
theorem qM (h:w.heap[g]?=some (.cells #[a,b] t (0,0))):w.cell? ⟨g,0,none⟩=some a∧w.cell? ⟨g,1,none⟩=some b:=⟨(aM h 0).trans rfl,(aM h 1).trans rfl⟩
theorem Q7 (h:w.heap[g]?=some (.cells #[a,b,c] t (0,0))):w.cell? ⟨g,0,none⟩=some a∧w.cell? ⟨g,1,none⟩=some b∧w.cell? ⟨g,2,none⟩=some c:=⟨(aM h 0).trans rfl,(aM h 1).trans rfl,(aM h 2).trans rfl⟩
theorem Bl (h:w.heap[g]?=some (.cells #[a,b,c,d] t (0,0))):w.cell? ⟨g,0,none⟩=some a∧w.cell? ⟨g,1,none⟩=some b∧w.cell? ⟨g,2,none⟩=some c∧w.cell? ⟨g,3,none⟩=some d:=⟨(aM h 0).trans rfl,(aM h 1).trans rfl,(aM h 2).trans rfl,(aM h 3).trans rfl⟩
theorem Es (h:w.heap[g]?=some (.cells #[a,b,c,d,e] t (0,0))):w.cell? ⟨g,0,none⟩=some a∧w.cell? ⟨g,1,none⟩=some b∧w.cell? ⟨g,2,none⟩=some c∧w.cell? ⟨g,3,none⟩=some d∧w.cell? ⟨g,4,none⟩=some e:=⟨(aM h 0).trans rfl,(aM h 1).trans rfl,(aM h 2).trans rfl,(aM h 3).trans rfl,(aM h 4).trans rfl⟩
end
theorem oZ {P:Program} {n:Nat} {xs:Array Value} {w:World} {v:Ending} (h:Calls P n xs w fun e w'=>e=v∧gU w w'):Calls P n xs w fun e w'=>e=v∧Below w.heap.size w w':=h.mono fun _ _ h=>⟨h.1,h.2.below⟩
theorem stepG {w W w1:World} {g:Nat} (h:aj (Below w.heap.size w W)) (hg:W.grownBy w1 (some g)) (hge:aj (w.heap.size<=g)):aj (Below w.heap.size w w1) :=
 ⟨h.out.os ▸ hg.os,h.out.tape ▸ hg.tape,h.out.output ▸ hg.output,Nat.le_trans h.out.size hg.size,fun k hk=>(hg.block k (Nat.lt_of_lt_of_le hk h.out.size) (by have:=hge.out;intro e;injection e;omega)).trans (h.out.block k hk)⟩
theorem gM {W w1:World} {g k:Nat} {o:Obj} (h:aj (W.heap[k]?=some o)) (hg:W.grownBy w1 (some g)) (hne:k≠g):aj (w1.heap[k]?=some o):=⟨(hg.block k (bZ h.out) (by intro e;injection e;exact hne ‹_›)).trans h.out⟩
section
variable {P:Program} {ops:Array Oper} {rest:List Oper} {o:Oper} {a:Act} {Q:Exit->Act->World->Prop} {w W:World}
theorem jR (hgd:o.guard=none) {N:Tmp} (hd:o.dst=some N) {cs:Array Value} {t:TypeId}
  (hrun:(execOp a.eval o).run P W=.ok (.value (.pointer (some ⟨W.heap.size,0,none⟩))) (W.alloc (.cells cs t (0,0)))) (HB:aj (Below w.heap.size w W))
  (h:∀ g w1,aj (w1.heap[g]?=some (.cells cs t (0,0)))->aj (w.heap.size<=g)->aj (Below w.heap.size w w1)->Below W.heap.size W w1->wpList P ops Q rest (a.put o.dst (.pointer (some ⟨g,0,none⟩))) w1):wpList P ops Q (o::rest) a W :=
 ou hgd hd hrun fun g hg w1 hb hx=>h g w1 ⟨hb⟩ ⟨by rw [hg];exact bD HB.out⟩ (eH HB hx) hx
theorem iP (hgd:o.guard=none) (hN:o.dst=none) {t:TypeId} {p:Tmp} {v:Operand} (ho:o.op=.store t (.tmp p) v)
  {g i:Nat} {cs:Array Value} {t':TypeId} (HK:aj (W.heap[g]?=some (.cells cs t' (0,0)))) (GK:aj (w.heap.size<=g)) (HB:aj (Below w.heap.size w W)) (u:Value) (seg:List Value) (cs':Array Value)
  (hp:a.eval (.tmp p)=.pointer (some ⟨g,i,none⟩)) (hv:a.eval v=u) (hu:u.cells.toList=seg) (ht:(P.info? t).map (·.size)=some seg.length) (hfit:i+seg.length<=cs.size) (h1:∀ q∈seg,q.oneCell'=true)
  (hcs:cs.toList.take i++seg++cs.toList.drop (i+seg.length)=cs'.toList)
  (h:∀ w1,aj (w1.heap[g]?=some (.cells cs' t' (0,0)))->aj (Below w.heap.size w w1)->W.grownBy w1 (some g)->wpList P ops Q rest a w1):wpList P ops Q (o::rest) a W:=by
 obtain ⟨cur',h3,h4,h5⟩:=lg seg i W cs HK.out hfit;obtain ⟨s1,s2,s3,s4⟩:=jV g seg i W;have hg:W.grownBy (W.setCells g i seg) (some g):=⟨s1,s2,s3,by rw [s4];exact Nat.le_refl _,fun k _ hk=>jT _ _ k (fun he=>hk (by rw [he]))⟩
 obtain rfl:cur'=cs':=by rw [← Array.toList_inj,h5,hcs]
 refine BK hgd ho hN (w1:=W.setCells g i seg) ?_ fun w' hw=>?_
 ·have hr:=qx (P:=P) t u seg HK.out hu ht hfit h1
  unfold execOp
  rw [ho];simp only [hp,hv];simp [hr]
 ·subst hw
  exact h _ ⟨h3⟩ (stepG HB hg GK) hg
end
section
variable {α:Type} {d:Kd α} {e base:Nat} {ok:Nat->Prop} {W w1:World} {v v1 u:Value} {xs:List α}
theorem qN (h:aj (d.R e W base ok v xs)) (hb:Below W.heap.size W w1):aj (d.R e w1 base ok v xs):=⟨Kd.jS h.out hb⟩
theorem Et (h:aj (d.R e W base ok v xs)) (hE:d.E=[]) {row:Option Nat} (hg:W.grownBy w1 row) (hne:row≠v.ownBlock):aj (d.R e w1 base ok v xs):=⟨Kd.SK h.out hE hg hne⟩
theorem Tf (h:aj (d.R e W base ok v xs)) (hE:d.E=[]) (hg:W.grownBy w1 u.ownBlock) (hne:aj (uh u v)):aj (d.R e w1 base ok v xs) :=
 ⟨Kd.SL h.out hE hg fun k hk hk2=>hne.out k hk hk2.symm⟩
theorem wQ (h:aj (d.R e W base ok v xs)) {g:Nat} (hg:W.heap.size<=g):aj (some g≠v.ownBlock):=⟨fun he=>absurd (Kd.vR h.out g he.symm) (by omega)⟩
theorem FW {g:Nat} {o:Obj} (h:aj (some g≠v.ownBlock)) (hK:aj (W.heap[g]?=some o)) (hat:v1.ownBlock=v.ownBlock∨∃ b,v1.ownBlock=some b∧W.heap.size<=b):aj (some g≠v1.ownBlock) :=
 ⟨fun he=>by
  rcases hat with hat|⟨b,hb,hle⟩
  ·exact h.out (he.trans hat)
  ·have:=bZ hK.out
   rw [hb] at he
   injection he with he
   omega⟩
theorem MN (h:aj (uh v u)) (hat:v1.ownBlock=v.ownBlock∨∃ b,v1.ownBlock=some b∧W.heap.size<=b) (ho:aj (d.R e W base ok u xs)):aj (uh v1 u):=by
 obtain ⟨_,ho⟩:=Kd.Og ho.out;exact ⟨QL h.out hat ho⟩
theorem Tg (h:aj (uh v u)):aj (uh u v):=⟨VW h.out⟩
theorem qaL (u:Value):aj (uh (.slice none 0 0) u):=⟨fun k hk=>by simp [Value.ownBlock] at hk⟩
theorem OG (g:Nat):aj (some g≠(Value.slice none 0 0).ownBlock):=⟨by simp [Value.ownBlock]⟩
theorem Ee {g:Nat} {o:Obj} (h:aj (W.heap[g]?=some o)) (hg:W.grownBy w1 v.ownBlock) (hne:aj (some g≠v.ownBlock)):aj (w1.heap[g]?=some o):=⟨jF h.out hg hne.out⟩
end
section
variable {P:Program} {ops:Array Oper} {rest:List Oper} {o:Oper} {a:Act} {Q:Exit->Act->World->Prop} {w W:World} {α:Type}
theorem jg (hgd:o.guard=none) {N:Tmp} (hd:o.dst=some N) {cs:Array Value} {t:TypeId}
  (hrun:(execOp a.eval o).run P W=.ok (.value (.pointer (some ⟨W.heap.size,0,none⟩))) (W.alloc (.cells cs t (0,0)))) (HB:aj (Below w.heap.size w W))
  (h:∀ g w1,aj (w1.heap[g]?=some (.cells cs t (0,0)))->aj (w.heap.size<=g)->aj (Below w.heap.size w w1)->Below W.heap.size W w1->W.heap.size<=g->wpList P ops Q rest (a.put o.dst (.pointer (some ⟨g,0,none⟩))) w1):wpList P ops Q (o::rest) a W :=
 ou hgd hd hrun fun g hg w1 hb hx=>h g w1 ⟨hb⟩ ⟨by rw [hg];exact bD HB.out⟩ (eH HB hx) hx (by rw [hg];exact Nat.le_refl _)
theorem oD (d:Kd α) (hgd:o.guard=none) (s x:Operand) (t e:TypeId) (z:Value) (bytes:Nat)
  (ho:o.op=.call { callee:=.builtin .append,args:=#[s,x],argTypes:=#[t,t] })
  (ht:P.underlying t=some (.slice e)) (hinfo:(P.info? e).map (fun i=>(i.zero,i.size,i.bytes))=some (some z,d.sz,bytes)) (hz:z.cells.size=d.sz) (hs0:0<d.sz) (hb0:0<bytes)
  (v:Value) (xs:List α) (p:α) (cs:List Value) (hs:a.eval s=v) (hx:a.eval x=.slice (some ⟨W.heap.size,0,none⟩) 1 1) (hp:d.M W w.heap.size (fun _=>False) p cs)
  (HO:aj (d.R e W w.heap.size (fun _=>True) v xs)) (HB:aj (Below w.heap.size w W)) (hl:xs.length<=100000000) (hby:bytes<=1000)
  (h:∀ v1 w1,aj (d.R e w1 w.heap.size (fun _=>True) v1 (xs++[p]))->aj (Below w.heap.size w w1)->W.grownBy w1 v.ownBlock->(v1.ownBlock=v.ownBlock∨∃ b,v1.ownBlock=some b∧W.heap.size<=b)->wpList P ops Q rest (a.put o.dst v1) w1) :
  wpList P ops Q (o::rest) a (W.alloc (.cells cs.toArray e)) :=
 Kd.sO d w.heap.size hgd s x t e z bytes ho ht hinfo hz hs0 hb0 v xs p cs (fun _=>True) (fun _=>False) hs hx hp (fun _ hk=>hk.elim) (fun _ _=>trivial) HO.out HB.out (bD HB.out)
  (Nat.le_trans (Nat.mul_le_mul (Nat.add_le_add_right hl 1) hby) (by decide)) fun v1 w1 h1 h2 h3 h4=>h v1 w1 ⟨h1⟩ ⟨h2⟩ h3 h4
end
def oN (x lo hi:Int):Bool:=decide (lo<=x)&&decide (x<=hi)
theorem Eu (x lo hi:Int):dW.f x lo hi=some (oN x lo hi):=by
 unfold dW.f oN
 by_cases h:x>=lo
 ·rw [if_pos h];simp [show lo<=x from h]
 ·rw [if_neg h];simp [show ¬ lo<=x from h]
def je (s:bQ) (lo hi wide:Int):Bool:=(fJ.f s.f0 s.f1 lo hi wide) == some true
theorem vv (s:bQ) (lo hi wide:Int):fJ.f s.f0 s.f1 lo hi wide=some (je s lo hi wide):=by
 unfold je fJ.f
 repeat' split
 all_goals simp
def rA (n:Int) (x:bB):Bool:=!(oN x.f0 0 (n - 1))||(!(oN x.f1 0 2)||!(je x.f2 0 12 2))
theorem rC (x lo hi:Int) (w:World):Calls Tryz.prog 113 #[.int .i64 x,.int .i64 lo,.int .i64 hi] w fun e w'=>e=.returned (.bool (oN x lo hi))∧Below w.heap.size w w':=oZ (dW.calls _ _ _ _ _ (Eu x lo hi))
theorem Ti (gb:Nat) (A:Option Addr) (c:Nat) (n:Nat) (x:bB) (w:World) (hb:w.heap[gb]?=some (.cells #[.slice A n c] 24 (0,0))) (hn:n<=9223372036854775807) :
  Calls Tryz.prog 169 #[.agg #[.int .i64 x.f0,.int .i64 x.f1,.int .i64 x.f2.f0,.int .i64 x.f2.f1],.pointer (some ⟨gb,0,none⟩)] w fun e w'=>e=.returned (.bool (rA n x))∧Below w.heap.size w w':=by
 have HB:=aj.mk (Below.refl w.heap.size w);have HK:=aj.mk hb;have HI1:=aj.mk (rC x.f0 0 (n - 1));have HI2:=aj.mk (rC x.f1 0 2);have HI3:=aj.mk (vv x.f2 0 12 2);obtain ⟨b1,hb1⟩:∃ b,b=oN x.f0 0 (n - 1):=⟨_,rfl⟩;obtain ⟨b2,hb2⟩:∃ b,b=oN x.f1 0 2:=⟨_,rfl⟩;obtain ⟨b3,hb3⟩:∃ b,b=je x.f2 0 12 2:=⟨_,rfl⟩;rw [← hb1] at HI1;rw [← hb2] at HI2;rw [← hb3] at HI3;have HX:=aj.mk (show rA n x=(!b1||(!b2||!b3)) by rw [hb1,hb2,hb3];rfl);rw [HX.out];clear hb hb1 hb2 hb3 HX;have qb:=Tryz.underlying24;have BR:=Tryz.underlying154;have jY:=Tryz.underlying37
 cases b1<;>cases b2
 all_goals
  go_enter Tryz.func169,Tryz.ntmps169
  go_wp2_with (first|((with_reducible refine au (N:=2) rfl ?_);refine ou ?hg (N:=2) ?hd (cs:=#[.int .i64 x.f0,.int .i64 x.f1,.int .i64 x.f2.f0,.int .i64 x.f2.f1]) (t:=154) ?hr ?_;(case hd=>rfl);(case hg=>rfl);(case hr=>first|(go_simp;done)|(go_simp;rfl));intro gx hg w3 jX hx;replace HB:=eH HB hx;replace HK:=dQ HK hx;have HX:=aj.mk jX;obtain ⟨c0,c1,c2,c3⟩:=Bl jX;have c4:=fG HK.out;clear hg hx jX)|(go_at_call 113;(with_reducible first|refine (HI1.out _).mono ?_|refine (HI2.out _).mono ?_);rintro e w4 ⟨rfl,hx⟩;replace HB:=eH HB hx;replace HK:=dQ HK hx;replace HX:=dQ HX hx;clear hx c0 c1 c2 c3 c4;obtain ⟨c0,c1,c2,c3⟩:=Bl HX.out;have c4:=fG HK.out)|(go_at_call 167;(with_reducible refine (fJ.calls _ _ _ _ _ _ _ HI3.out).mono ?_);rintro e w4 ⟨rfl,hx⟩;replace HB:=eH HB hx;clear hx))
  go_ret
  exact ⟨rfl,HB.out⟩
def sw.f (l0:List bB) (bF:List bI):Option Bool:=some (l0.any (rA bF.length))
theorem sw.calls {Hy:Nat} (A0:Option Addr) (c0:Nat) (l0:List bB) (fP:Option Addr) (fK:Nat) (bF:List bI) (r:Bool) (w:World) (hr0:Kd.C eD w A0 l0.length l0) (hc0:l0.length<=c0) (jU:Kd.C iG w fP bF.length bF) (mM:bF.length<=fK) (hb0:w.heap[Hy]?=some (.cells #[.slice fP bF.length fK] 24 (0,0))) (h:sw.f l0 bF=some r) :
  Calls Tryz.prog 168 #[.slice A0 l0.length c0,.func (.func 169) #[] #[.pointer (some ⟨Hy,0,none⟩)]] w fun e w'=>e=.returned (.bool r)∧Below w.heap.size w w':=by
 obtain rfl:=Option.some.inj h;refine qdf (rA bF.length) 169 #[.pointer (some ⟨Hy,0,none⟩)] A0 c0 l0 w hr0 (enters_of Tryz.func169 tX rfl) (fun x hx=>⟨fun W cs hb hK=>?_⟩);obtain rfl:=rZ hK;exact Ti Hy _ _ _ x W (aD hb0 hb) jU.2.1
def eZ.f (av:List bI) (l1:List bB):Option Bool:=if (l1.length:Int)<=3 then ((sw.f l1 av).bind fun t113=>(some (!t113))) else (some false)
theorem eZ.calls (bC:Option Addr) (aZ:Nat) (av:List bI) (A1:Option Addr) (c1:Nat) (l1:List bB) (r:Bool) (w:World) (dw:Kd.C iG w bC av.length av) (dG:av.length<=aZ) (hr1:Kd.C eD w A1 l1.length l1) (hc1:l1.length<=c1) (h:eZ.f av l1=some r) :
  Calls Tryz.prog 106 #[.agg #[.slice bC av.length aZ],.slice A1 l1.length c1] w fun e w'=>e=.returned (.bool r)∧Below w.heap.size w w':=by
 have qb:=Tryz.underlying24;have dM:=aj.mk dw;have fu:=aj.mk dG;clear dw dG;have HR1:=aj.mk hr1;have yE:=aj.mk hc1;clear hr1 hc1;have HB:=aj.mk (Below.refl w.heap.size w);have H:(if (l1.length:Int)<=3 then ((sw.f l1 av).bind fun t113=>(some (!t113))) else (some false))=some r:=h;clear h
 by_cases c3:(l1.length:Int)<=3
 ·rw [if_pos c3] at H
  have qd:decide ((l1.length:Int)<=3)=true:=decide_eq_true c3;have yX:decide (l1.length<=3)=true:=decide_eq_true (by omega);clear c3;obtain ⟨t113,A4,H⟩:=nU H;obtain rfl:=Option.some.inj H
  go_enter Tryz.func106,Tryz.ntmps106
  go_wp2_with (first|((with_reducible refine au (N:=2) rfl ?_);refine fA 2 #[.slice bC av.length aZ] 24 HB ?_;clear HB;intro qdl w5 hg Tj qdm HB hb;clear hb hg)|(go_at_call 168;(with_reducible refine (sw.calls (fP:=bC) (fK:=aZ) _ _ l1 av t113 _ ?bK ?bL ?fM ?fO ?jI A4.out).mono ?_);(case bK=>exact cS HR1);(case bL=>exact yE.out);(case fM=>exact cS dM);(case fO=>exact fu.out);(case jI=>exact (qB2 Tj));rintro e w6 ⟨rfl,hb⟩;replace Tj:=bW Tj hb;replace HB:=dL HB hb;(try clear hb)))
  go_ret
  exact ⟨tF,tB⟩
 ·rw [if_neg c3] at H
  have qd:decide ((l1.length:Int)<=3)=false:=decide_eq_false c3;have yX:decide (l1.length<=3)=false:=decide_eq_false (by omega);clear c3;obtain rfl:=Option.some.inj H
  go_enter Tryz.func106,Tryz.ntmps106
  go_wp2_with (first|((with_reducible refine au (N:=2) rfl ?_);refine fA 2 #[.slice bC av.length aZ] 24 HB ?_;clear HB;intro qdl w7 hg Tj qdm HB hb;clear hb hg))
  go_ret
  exact ⟨tF,tB⟩
end Go.Proofs.YtnpfbjnjdngkhaaGreatDoor.P
namespace Go.Proofs.YtnpfbjnjdngkhaaGreatDoor.P
open Go.RowKit Go.Proofs.YtnpfbjnjdngkhaaGreatDoorW.aQ Go.Proofs.YtnpfbjnjdngkhaaGreatDoorW.bO Go.Proofs.YtnpfbjnjdngkhaaGreatDoorW.bT
structure Bx (L:List (Nat × Obj)) (w W:World):Prop where
 below:Below w.heap.size w W
 get:∀ p∈L,W.heap[p.1]?=some p.2
 lo:∀ p∈L,w.heap.size<=p.1
 nd:(L.map Prod.fst).Nodup
theorem Bx.nil (w:World):Bx [] w w:=⟨Below.refl _ _,by simp,by simp,by simp⟩
section
variable {L:List (Nat × Obj)} {w W w1:World} {g:Nat} {o:Obj}
theorem Bx.step (h:Bx L w W) (hb:Below W.heap.size W w1):Bx L w w1:=⟨aV h.below hb,fun p hp=>aD (h.get p hp) hb,h.lo,h.nd⟩
theorem Bx.grow {r:Nat} (h:Bx L w W) (hr:aj (w.heap.size<=r)) (hg:W.grownBy w1 (some r)) (hne:∀ p∈L,p.1≠r):Bx L w w1 :=
 ⟨(stepG ⟨h.below⟩ hg hr).out,fun p hp=>(hg.block _ (bZ (h.get p hp)) (fun e=>hne p hp (by injection e))).trans (h.get p hp),h.lo,h.nd⟩
theorem Bx.lt (h:Bx L w W) (hp:(g,o)∈L):g<W.heap.size:=bZ (h.get _ hp)
theorem Bx.add (h:Bx L w W) (hg:W.heap.size<=g) (hb:Below W.heap.size W w1) (ho:w1.heap[g]?=some o):Bx ((g,o)::L) w w1 :=
 ⟨aV h.below hb,fun p hp=>by rcases List.mem_cons.1 hp with rfl|hp;exact ho;exact aD (h.get p hp) hb,fun p hp=>by rcases List.mem_cons.1 hp with rfl|hp;exact Nat.le_trans h.below.size hg;exact h.lo p hp,
  List.nodup_cons.2 ⟨fun hm=>by obtain ⟨p,hp,e⟩:=List.mem_map.1 hm;have:=bZ (h.get p hp);omega,h.nd⟩⟩
theorem Bx.key (h:Bx L w W) {i j:Nat} {p q:Nat × Obj} (hi:L[i]?=some p) (hj:L[j]?=some q) (hne:i≠j):p.1≠q.1:=by
 intro e;obtain ⟨hi1,hi2⟩:=List.getElem?_eq_some_iff.1 hi;obtain ⟨hj1,hj2⟩:=List.getElem?_eq_some_iff.1 hj;refine hne ((List.getElem_inj (h₀:=by simpa using hi1) (h₁:=by simpa using hj1) h.nd).1 ?_);simp [hi2,hj2,e]
theorem Bx.put (h:Bx L w W) (i:Nat) {t:TypeId} {cs cs':Array Value} (hi:L[i]?=some (g,.cells cs t (0,0))) (hg:W.grownBy w1 (some g)) (ho:w1.heap[g]?=some (.cells cs' t (0,0))):Bx (L.set i (g,.cells cs' t (0,0))) w w1:=by
 have hm:=List.mem_of_getElem? hi;have hgl:=h.lo _ hm;refine ⟨(stepG ⟨h.below⟩ hg ⟨hgl⟩).out,fun p hp=>?_,fun p hp=>?_,?_⟩
 ·obtain ⟨j,hj,e⟩:=List.mem_iff_getElem.1 hp
  rw [List.getElem_set] at e
  split at e
  ·subst e;exact ho
  ·rename_i hne
   have hj2:L[j]?=some p:=by rw [List.length_set] at hj;rw [List.getElem?_eq_getElem hj,e]
   have:=h.key hi hj2 hne;have h2:=h.get p (List.mem_of_getElem? hj2);exact (hg.block _ (bZ h2) (fun e=>by injection e with e;exact this e.symm)).trans h2
 ·rcases List.mem_or_eq_of_mem_set hp with hp|rfl
  ·exact h.lo p hp
  ·exact hgl
 ·rw [List.map_set]
  have:(L.map Prod.fst)[i]?=some g:=by simp [hi]
  obtain ⟨h1,h2⟩:=List.getElem?_eq_some_iff.1 this;rw [← h2,List.set_getElem_self];exact h.nd
section
variable {t:TypeId} {a b c d e:Value}
theorem Bx.c1 (h:Bx L w W) (hm:(g,Obj.cells #[a] t (0,0))∈L):W.cell? ⟨g,0,none⟩=some a:=fG (h.get _ hm)
theorem Bx.c2 (h:Bx L w W) (hm:(g,Obj.cells #[a,b] t (0,0))∈L):W.cell? ⟨g,0,none⟩=some a∧W.cell? ⟨g,1,none⟩=some b:=qM (h.get _ hm)
theorem Bx.c3 (h:Bx L w W) (hm:(g,Obj.cells #[a,b,c] t (0,0))∈L):W.cell? ⟨g,0,none⟩=some a∧W.cell? ⟨g,1,none⟩=some b∧W.cell? ⟨g,2,none⟩=some c:=Q7 (h.get _ hm)
theorem Bx.c4 (h:Bx L w W) (hm:(g,Obj.cells #[a,b,c,d] t (0,0))∈L):W.cell? ⟨g,0,none⟩=some a∧W.cell? ⟨g,1,none⟩=some b∧W.cell? ⟨g,2,none⟩=some c∧W.cell? ⟨g,3,none⟩=some d:=Bl (h.get _ hm)
theorem Bx.c5 (h:Bx L w W) (hm:(g,Obj.cells #[a,b,c,d,e] t (0,0))∈L):W.cell? ⟨g,0,none⟩=some a∧W.cell? ⟨g,1,none⟩=some b∧W.cell? ⟨g,2,none⟩=some c∧W.cell? ⟨g,3,none⟩=some d∧W.cell? ⟨g,4,none⟩=some e:=Es (h.get _ hm)
end
section
variable {t:TypeId} {a b c d e:Value}
theorem Bx.g1 (h:Bx L w W) (i:Nat) (hi:L[i]?=some (g,Obj.cells #[a] t (0,0))):W.cell? ⟨g,0,none⟩=some a:=h.c1 (List.mem_of_getElem? hi)
theorem Bx.g2 (h:Bx L w W) (i:Nat) (hi:L[i]?=some (g,Obj.cells #[a,b] t (0,0))):W.cell? ⟨g,0,none⟩=some a∧W.cell? ⟨g,1,none⟩=some b:=h.c2 (List.mem_of_getElem? hi)
theorem Bx.g3 (h:Bx L w W) (i:Nat) (hi:L[i]?=some (g,Obj.cells #[a,b,c] t (0,0))):W.cell? ⟨g,0,none⟩=some a∧W.cell? ⟨g,1,none⟩=some b∧W.cell? ⟨g,2,none⟩=some c:=h.c3 (List.mem_of_getElem? hi)
theorem Bx.g4 (h:Bx L w W) (i:Nat) (hi:L[i]?=some (g,Obj.cells #[a,b,c,d] t (0,0))):W.cell? ⟨g,0,none⟩=some a∧W.cell? ⟨g,1,none⟩=some b∧W.cell? ⟨g,2,none⟩=some c∧W.cell? ⟨g,3,none⟩=some d:=h.c4 (List.mem_of_getElem? hi)
theorem Bx.g5 (h:Bx L w W) (i:Nat) (hi:L[i]?=some (g,Obj.cells #[a,b,c,d,e] t (0,0))):W.cell? ⟨g,0,none⟩=some a∧W.cell? ⟨g,1,none⟩=some b∧W.cell? ⟨g,2,none⟩=some c∧W.cell? ⟨g,3,none⟩=some d∧W.cell? ⟨g,4,none⟩=some e:=h.c5 (List.mem_of_getElem? hi)
theorem Bx.gb (h:Bx L w W) (i:Nat) {o:Obj} (hi:L[i]?=some (g,o)):W.heap[g]?=some o:=h.get _ (List.mem_of_getElem? hi)
end
section
variable {P:Program} {ops:Array Oper} {rest:List Oper} {o:Oper} {a:Act} {Q:Exit->Act->World->Prop}
theorem newX (hgd:o.guard=none) {N:Tmp} (hd:o.dst=some N) (HX:Bx L w W) {cs:Array Value} {t:TypeId}
  (hrun:(execOp a.eval o).run P W=.ok (.value (.pointer (some ⟨W.heap.size,0,none⟩))) (W.alloc (.cells cs t (0,0))))
  (h:∀ g w1,Bx ((g,.cells cs t (0,0))::L) w w1->Below W.heap.size W w1->W.heap.size<=g->wpList P ops Q rest (a.put o.dst (.pointer (some ⟨g,0,none⟩))) w1):wpList P ops Q (o::rest) a W :=
 ou hgd hd hrun fun g hg w1 hb hx=>h g w1 (HX.add (by omega) hx hb) hx (by omega)
theorem jZ (hgd:o.guard=none) (hN:o.dst=none) {t:TypeId} {p:Tmp} {v:Operand} (ho:o.op=.store t (.tmp p) v) (HX:Bx L w W) (n:Nat)
  {g i:Nat} {cs:Array Value} {t':TypeId} (hn:L[n]?=some (g,.cells cs t' (0,0))) (u:Value) (seg:List Value) (cs':Array Value)
  (hp:a.eval (.tmp p)=.pointer (some ⟨g,i,none⟩)) (hv:a.eval v=u) (hu:u.cells.toList=seg) (ht:(P.info? t).map (·.size)=some seg.length) (hfit:i+seg.length<=cs.size) (h1:∀ q∈seg,q.oneCell'=true)
  (hcs:cs.toList.take i++seg++cs.toList.drop (i+seg.length)=cs'.toList)
  (h:∀ w1,Bx (L.set n (g,.cells cs' t' (0,0))) w w1->W.grownBy w1 (some g)->wpList P ops Q rest a w1):wpList P ops Q (o::rest) a W :=
 have hm:=List.mem_of_getElem? hn
 iP hgd hN ho ⟨HX.get _ hm⟩ ⟨HX.lo _ hm⟩ ⟨HX.below⟩ u seg cs' hp hv hu ht hfit h1 hcs fun w1 hk _ hg=>h w1 (HX.put n hn hg hk.out) hg
end
end
end Go.Proofs.YtnpfbjnjdngkhaaGreatDoor.P
namespace Go.Proofs.YtnpfbjnjdngkhaaGreatDoor.P
open Go.RowKit Go.Proofs.YtnpfbjnjdngkhaaGreatDoorW.aQ Go.Proofs.YtnpfbjnjdngkhaaGreatDoorW.bO Go.Proofs.YtnpfbjnjdngkhaaGreatDoorW.bT
attribute [local go_sem] eP eT fU fV dS dU eU eX
def jN.l0:Nat->Int->List Int->Int->Int->Option Int
 | 0,_,_,_,_=>none
 | k+1,x3,x6,x7,x8=>if x8<x7 then (if 0<=x8 then (if x8<(x6.length:Int) then (jN.l0 k (wrap64 (x3+(rd x6 x8))) x6 x7 (wrap64 (x8+1))) else (none)) else (none)) else (some x3)
def jN.f (k:Nat) (l0:List Int):Option Int:=jN.l0 k 0 l0 (l0.length:Int) 0
theorem jN.calls (k:Nat) (A0:Option Addr) (c0:Nat) (l0:List Int) (r:Int) (w:World) (hr0:Kd.C (Kd.int .i64) w A0 l0.length l0) (hc0:l0.length<=c0) (h:jN.f k l0=some r) :
  Calls Tryz.prog 130 #[.slice A0 l0.length c0] w fun e w'=>e=.returned (.int .i64 r)∧gU w w':=by
 have Fp:=aj.mk hr0;have Zf:=aj.mk hc0;clear hr0 hc0;have H:(jN.l0 k 0 l0 (l0.length:Int) 0)=some r:=h;clear h;have H':=aj.mk H;clear H
 go_enter Tryz.func130,Tryz.ntmps130
 go_wp2
 go_loopg [3,8] k (fun kq v3 v8 w'=>∃ (dH:Int) (dK:Int),v3=.int .i64 dH∧v8=.int .i64 dK∧aj (jN.l0 kq dH l0 (l0.length:Int) dK=some r)∧aj (kq<=k)∧gU w w')
 case atStart=>exact ⟨(0),(0),tS,tS,H',⟨Nat.le_refl _⟩,tD⟩
 case round =>
  clear H'
  try clear c1
  obtain ⟨dH,dK,rfl,rfl,HA,qg,⟨m1,rfl⟩⟩:=hrel
  cases gk with
  | zero=>exact absurd HA.out (by simp [jN.l0])
  | succ k1 =>
   have H:=HA.out;clear HA;simp only [jN.l0] at H
   by_cases c2:dK<(l0.length:Int)
   ·rw [if_pos c2] at H
    have Ep:decide (dK<(l0.length:Int))=true:=decide_eq_true c2;clear c2
    by_cases c3:0<=dK
    ·rw [if_pos c3] at H
     have qd:decide (0<=dK)=true:=decide_eq_true c3;clear c3
     by_cases c4:dK<(l0.length:Int)
     ·rw [if_pos c4] at H
      have pR:decide (dK<(l0.length:Int))=true:=decide_eq_true c4;clear c4;have H':=aj.mk H;clear H;have qaM:0<=(dK:Int):=of_decide_eq_true tA;have qaN:dK<(l0.length:Int):=of_decide_eq_true tA;obtain ⟨qlj,qi9,qfA⟩:=Kd.iE Fp.out dK qaM qaN
      cases qi9
      replace qaM:=eq_true qaM;replace qaN:=eq_true qaN
      go_wp2
      go_roundg k1
      case measure=>have:=qg.out;omega
      case rel=>exact ⟨(wrap64 (dH+(rd l0 dK))),(wrap64 (dK+1)),tS,tS,H',⟨by have:=qg.out;omega⟩,tD⟩
     ·rw [if_neg c4] at H
      exact absurd H (by simp)
    ·rw [if_neg c3] at H
     exact absurd H (by simp)
   ·rw [if_neg c2] at H
    have Ep:decide (dK<(l0.length:Int))=false:=decide_eq_false c2;clear c2;obtain rfl:=Option.some.inj H
    go_wp2
    go_ret
    exact ⟨tS,tD⟩
def cK.l0:Nat->Int->List Int->List Int->List Int->List bB->Int->Int->List bI->Option Int
 | 0,_,_,_,_,_,_,_,_=>none
 | k+1,x2,x3,x4,x11,OH,x15,Q8,Df=>if Q8<x15 then (if 0<=Q8 then (if Q8<(OH.length:Int) then (if ((aC OH Q8).f0)=x2 then (if Q8<(x4.length:Int) then (if 0<=((aC OH Q8).f1) then (if ((aC OH Q8).f1)<(x3.length:Int) then (if x11.length<17592186044416 then (cK.l0 k x2 x3 x4 (x11++[wrap64 ((rd x4 Q8)*(rd x3 ((aC OH Q8).f1)))]) OH x15 (wrap64 (Q8+1)) Df) else (none)) else (none)) else (none)) else (none)) else (cK.l0 k x2 x3 x4 x11 OH x15 (wrap64 (Q8+1)) Df)) else (none)) else (none)) else (if 0<=x2 then (if x2<(Df.length:Int) then ((jN.f k x11).bind fun t124=>(some (mn ((aX Df x2).f1) t124))) else (none)) else (none))
def cK.f (k:Nat) (av:List bI) (l1:List bB) (a2:Int) (l3:List Int) (l4:List Int):Option Int:=cK.l0 k a2 l3 l4 ([]:List Int) l1 (l1.length:Int) 0 av
def cK.T6:Bool × List (List Nat × List Nat):=(true,[([],[]),([],[]),([],[]),([1,2],[1,2]),([3],[3]),([],[]),([],[]),([6],[6]),([5,7],[5,7]),([8],[8]),([4,9],[4,9]),([10],[10]),([0,11],[0,11]),([12,12,0,1,2,3,4,5,6,7,8,9,10,11,12],[0,12])])
def cK.B6:List Nat:=[0,0,0,6,14,0,0,64,224,480,1022,2046,4095,8191]
theorem cK.qdn:pQ .any (opsOf Tryz.f160 6)=cK.T6:=by kernel_rfl
theorem cK.Zg:nT cK.T6.2 cK.B6=true:=by kernel_rfl
def cK.T8:Bool × List (List Nat × List Nat):=(true,[([],[]),([0],[0]),([],[]),([1,2],[1,2]),([3],[3]),([4],[4]),([],[]),([6],[6]),([5,7],[5,7]),([8,7,0,1,2,3,4,5,6,7,8],[8])])
def cK.B8:List Nat:=[0,1,0,7,15,31,0,64,255,511]
theorem cK.qjb:pQ .any (opsOf Tryz.f160 8)=cK.T8:=by kernel_rfl
theorem cK.qdo:nT cK.T8.2 cK.B8=true:=by kernel_rfl
theorem cK.calls (k:Nat) (bC:Option Addr) (aZ:Nat) (av:List bI) (A1:Option Addr) (c1:Nat) (l1:List bB) (a2:Int) (A3:Option Addr) (c3:Nat) (l3:List Int) (A4:Option Addr) (c4:Nat) (l4:List Int) (r:Int) (w:World) (dw:Kd.C iG w bC av.length av) (dG:av.length<=aZ) (hr1:Kd.C eD w A1 l1.length l1) (hc1:l1.length<=c1) (hr3:Kd.C (Kd.int .i64) w A3 l3.length l3) (hc3:l3.length<=c3) (hr4:Kd.C (Kd.int .i64) w A4 l4.length l4) (hc4:l4.length<=c4) (h:cK.f k av l1 a2 l3 l4=some r) :
  Calls Tryz.prog 160 #[.agg #[.slice bC av.length aZ],.slice A1 l1.length c1,.int .i64 a2,.slice A3 l3.length c3,.slice A4 l4.length c4] w fun e w'=>e=.returned (.int .i64 r)∧Below w.heap.size w w':=by
 have qb:=Tryz.underlying24;have BR:=Tryz.underlying154;have dM:=aj.mk dw;have fu:=aj.mk dG;clear dw dG;have HR1:=aj.mk hr1;have yE:=aj.mk hc1;clear hr1 hc1;have HR3:=aj.mk hr3;have R9:=aj.mk hc3;clear hr3 hc3;have HR4:=aj.mk hr4;have HC4:=aj.mk hc4;clear hr4 hc4;have HB:=aj.mk (Below.refl w.heap.size w);have H:(cK.l0 k a2 l3 l4 ([]:List Int) l1 (l1.length:Int) 0 av)=some r:=h;clear h;have H':=aj.mk H;clear H
 go_enter Tryz.func160,Tryz.ntmps160
 go_wp2_with (first|((with_reducible refine au (N:=5) rfl ?_);refine fA 5 #[.slice bC av.length aZ] 24 HB ?_;clear HB;intro OI w6 hg mO qll HB hb;clear hb hg))
 go_loopg [11,16] k (fun kq v11 v16 w'=>∃ (yP:List Int) (dx:Int),v16=.int .i64 dx∧aj (cK.l0 kq a2 l3 l4 yP l1 (l1.length:Int) dx av=some r)∧aj (kq<=k)∧aj (Kd.R (Kd.int .i64) 3 w' w.heap.size (fun _=>True) v11 yP)∧aj (w'.heap[OI]?=some (.cells #[(.slice bC av.length aZ)] 24 (0,0)))∧aj (Below w.heap.size w w'))
 case atStart=>exact ⟨(([]:List Int)),(0),tS,H',⟨Nat.le_refl _⟩,⟨by first|exact Kd.mI _ _ _ _ _|exact Kd.wN _ _ _ _ _|exact Kd.wP _ _ _ _ _|exact Kd.wK _ _ _ _ _|exact Kd.wM _ _ _ _ _⟩,⟨(qB2 mO)⟩,⟨tB⟩⟩
 case round =>
  clear H'
  try clear c1
  try clear p2
  try clear c3
  try clear c4
  obtain ⟨yP,dx,rfl,HA,qg,oF,mO,HB⟩:=hrel
  cases gk with
  | zero=>exact absurd HA.out (by simp [cK.l0])
  | succ k1 =>
   have H:=HA.out;clear HA;simp only [cK.l0] at H
   by_cases c7:dx<(l1.length:Int)
   ·rw [if_pos c7] at H
    have yL:decide (dx<(l1.length:Int))=true:=decide_eq_true c7;clear c7
    by_cases c8:0<=dx
    ·rw [if_pos c8] at H
     have Hz:decide (0<=dx)=true:=decide_eq_true c8;clear c8
     by_cases c9:dx<(l1.length:Int)
     ·rw [if_pos c9] at H
      have Q9:decide (dx<(l1.length:Int))=true:=decide_eq_true c9;clear c9
      by_cases c10:((aC l1 dx).f0)=a2
      ·rw [if_pos c10] at H
       have OJ:(((aC l1 dx).f0) == a2)=true:=beq_iff_eq.mpr c10;have Tk:(((aC l1 dx).f0) != a2)=false:=bne_eq_false_iff_eq.mpr c10;clear c10
       by_cases c11:dx<(l4.length:Int)
       ·rw [if_pos c11] at H
        have qdp:decide (dx<(l4.length:Int))=true:=decide_eq_true c11;clear c11
        by_cases c12:0<=((aC l1 dx).f1)
        ·rw [if_pos c12] at H
         have qlm:decide (0<=((aC l1 dx).f1))=true:=decide_eq_true c12;clear c12
         by_cases c13:((aC l1 dx).f1)<(l3.length:Int)
         ·rw [if_pos c13] at H
          have qln:decide (((aC l1 dx).f1)<(l3.length:Int))=true:=decide_eq_true c13;clear c13
          by_cases c14:yP.length<17592186044416
          ·rw [if_pos c14] at H
           have qdq:=aj.mk c14;clear c14;obtain ⟨qdr,JU⟩:∃ y_:List Int,y_=(yP++[wrap64 ((rd l4 dx)*(rd l3 ((aC l1 dx).f1)))]):=⟨_,rfl⟩
           replace H:(cK.l0 k1 a2 l3 l4 qdr l1 (l1.length:Int) (wrap64 (dx+1)) av)=some r:=by first|(rw [JU];with_reducible exact H)|(have jr:=(Option.bind_some _ _).symm.trans H;rw [JU];with_reducible exact jr)|(have jr:=(Option.bind_some _ _).symm.trans H;with_reducible exact jr)|with_reducible exact H|(rw [JU];exact H)|exact H
           have qds:=aj.mk JU;clear JU;have H':=aj.mk H;clear H;have MP:0<=(dx:Int):=of_decide_eq_true tA;have MQ:dx<(l1.length:Int):=of_decide_eq_true tA;obtain ⟨qdt,e116,zD,zF,zG,zH⟩:=lC HR1.out dx MP MQ
           cases e116
           replace zD:=dz HB zD;replace zF:=dz HB zF;replace zG:=dz HB zG;replace zH:=dz HB zH;replace MP:=eq_true MP;replace MQ:=eq_true MQ
           try go_wp2_with (first|((with_reducible refine au (N:=13) rfl ?_);refine fA 13 #[.int .i64 0,.int .i64 0,.int .i64 0,.int .i64 0] 154 HB ?_;clear HB;intro iV Mf hg jl qdu HB hb;replace oF:=tZ oF hb;have kL:=Fh mO hg;have Bn:=Fj mO hg;replace mO:=bW mO hb;clear hb hg;have qlo:=Bn.out;have qlp:=kL.out;obtain ⟨WC,WE,WG,WH⟩:=Fg jl;have WI:=bf jl 0;have WJ:=bf jl 1;have WK:=bf jl 2;have WL:=bf jl 3))
           have n0_:aj (Kd.R (Kd.int .i64) 3 ((((Mf.setCell ⟨iV,0,none⟩ (.int .i64 ((aC l1 dx).f0))).setCell ⟨iV,1,none⟩ (.int .i64 ((aC l1 dx).f1))).setCell ⟨iV,2,none⟩ (.int .i64 ((aC l1 dx).f2.f0))).setCell ⟨iV,3,none⟩ (.int .i64 ((aC l1 dx).f2.f1))) w.heap.size (fun _=>True) u11 yP):=⟨by (with_reducible repeat (first|apply Kd.kY|apply Kd.kZ|apply Kd.mJ));exact Kd.gq (Kd.jC (p:=⟨iV,3,none⟩) (Kd.jC (p:=⟨iV,2,none⟩) (Kd.jC (p:=⟨iV,1,none⟩) (Kd.jC (p:=⟨iV,0,none⟩) (Kd.iZ oF.out jl.out (by decide)) (fun _ hk=>hk.2) (.int .i64 ((aC l1 dx).f0))) (fun _ hk=>hk.2) (.int .i64 ((aC l1 dx).f1))) (fun _ hk=>hk.2) (.int .i64 ((aC l1 dx).f2.f0))) (fun _ hk=>hk.2) (.int .i64 ((aC l1 dx).f2.f1))) (fun _ hk=>trivial)⟩;have n1_:aj (((((Mf.setCell ⟨iV,0,none⟩ (.int .i64 ((aC l1 dx).f0))).setCell ⟨iV,1,none⟩ (.int .i64 ((aC l1 dx).f1))).setCell ⟨iV,2,none⟩ (.int .i64 ((aC l1 dx).f2.f0))).setCell ⟨iV,3,none⟩ (.int .i64 ((aC l1 dx).f2.f1))).heap[OI]?=some (.cells #[.slice bC av.length aZ] 24 (0,0))):=⟨by (with_reducible repeat (first|refine aJ ?_ _|refine aN ?_|refine aI ?_ _));refine ko ?_ kL.out _;(with_reducible repeat (first|refine aJ ?_ _|refine aN ?_|refine aI ?_ _));refine ko ?_ kL.out _;(with_reducible repeat (first|refine aJ ?_ _|refine aN ?_|refine aI ?_ _));refine ko ?_ kL.out _;(with_reducible repeat (first|refine aJ ?_ _|refine aN ?_|refine aI ?_ _));refine ko ?_ kL.out _;(with_reducible repeat (first|refine aJ ?_ _|refine aN ?_|refine aI ?_ _));exact mO.out⟩;have n2_:aj (((((Mf.setCell ⟨iV,0,none⟩ (.int .i64 ((aC l1 dx).f0))).setCell ⟨iV,1,none⟩ (.int .i64 ((aC l1 dx).f1))).setCell ⟨iV,2,none⟩ (.int .i64 ((aC l1 dx).f2.f0))).setCell ⟨iV,3,none⟩ (.int .i64 ((aC l1 dx).f2.f1))).heap[iV]?=some (.cells #[.int .i64 ((aC l1 dx).f0),.int .i64 ((aC l1 dx).f1),.int .i64 ((aC l1 dx).f2.f0),.int .i64 ((aC l1 dx).f2.f1)] 154 (0,0))):=⟨by (with_reducible repeat (first|refine aJ ?_ _|refine aN ?_|refine aI ?_ _));refine dO (cs:=#[.int .i64 ((aC l1 dx).f0),.int .i64 ((aC l1 dx).f1),.int .i64 ((aC l1 dx).f2.f0),.int .i64 0]) ?_ 3 _ rfl;(with_reducible repeat (first|refine aJ ?_ _|refine aN ?_|refine aI ?_ _));refine dO (cs:=#[.int .i64 ((aC l1 dx).f0),.int .i64 ((aC l1 dx).f1),.int .i64 0,.int .i64 0]) ?_ 2 _ rfl;(with_reducible repeat (first|refine aJ ?_ _|refine aN ?_|refine aI ?_ _));refine dO (cs:=#[.int .i64 ((aC l1 dx).f0),.int .i64 0,.int .i64 0,.int .i64 0]) ?_ 1 _ rfl;(with_reducible repeat (first|refine aJ ?_ _|refine aN ?_|refine aI ?_ _));refine dO (cs:=#[.int .i64 0,.int .i64 0,.int .i64 0,.int .i64 0]) ?_ 0 _ rfl;(with_reducible repeat (first|refine aJ ?_ _|refine aN ?_|refine aI ?_ _));exact jl.out⟩;have n3_:aj (Below w.heap.size w ((((Mf.setCell ⟨iV,0,none⟩ (.int .i64 ((aC l1 dx).f0))).setCell ⟨iV,1,none⟩ (.int .i64 ((aC l1 dx).f1))).setCell ⟨iV,2,none⟩ (.int .i64 ((aC l1 dx).f2.f0))).setCell ⟨iV,3,none⟩ (.int .i64 ((aC l1 dx).f2.f1)))):=⟨tB⟩
           (try clear oF)
           (try clear mO)
           (try clear jl)
           (try clear HB)
           generalize ((((Mf.setCell ⟨iV,0,none⟩ (.int .i64 ((aC l1 dx).f0))).setCell ⟨iV,1,none⟩ (.int .i64 ((aC l1 dx).f1))).setCell ⟨iV,2,none⟩ (.int .i64 ((aC l1 dx).f2.f0))).setCell ⟨iV,3,none⟩ (.int .i64 ((aC l1 dx).f2.f1)))=VN at n0_ n1_ n2_ n3_ ⊢
           have oF:=n0_;have mO:=n1_;have jl:=n2_;have HB:=n3_;clear n0_ n1_ n2_ n3_;replace oF:=aj.mk (Kd.mJ oF.out);replace mO:=aj.mk (aN mO.out);replace jl:=aj.mk (aN jl.out);replace HB:=aj.mk (jD HB.out);have qaP:0<=(dx:Int):=of_decide_eq_true tA;have qaQ:dx<(l4.length:Int):=of_decide_eq_true tA;obtain ⟨qdv,e118,Dg⟩:=Kd.iE HR4.out dx qaP qaQ;have Dh:=Dg
           cases e118
           replace Dg:=dz HB Dg;replace qaP:=eq_true qaP;replace qaQ:=eq_true qaQ;have qaR:0<=(((aC l1 dx).f1):Int):=of_decide_eq_true tA;have qaS:((aC l1 dx).f1)<(l3.length:Int):=of_decide_eq_true tA;obtain ⟨qdw,e119,Di⟩:=Kd.iE HR3.out ((aC l1 dx).f1) qaR qaS;have Dj:=Di
           cases e119
           replace Di:=dz HB Di;replace qaR:=eq_true qaR;replace qaS:=eq_true qaS;refine kK (n:=14) (S:=fun w'=>w'.cell? ⟨iV,0,none⟩=some (.int .i64 ((aC l1 dx).f0))∧w'.cell? ⟨iV,1,none⟩=some (.int .i64 ((aC l1 dx).f1))∧w'.cell? ⟨iV,2,none⟩=some (.int .i64 ((aC l1 dx).f2.f0))∧w'.cell? ⟨iV,3,none⟩=some (.int .i64 ((aC l1 dx).f2.f1))∧w'.cell? (qdv.add (dx).toNat)=some (.int .i64 (rd l4 dx))∧w'.cell? (qdw.add (((aC l1 dx).f1)).toNat)=some (.int .i64 (rd l3 ((aC l1 dx).f1)))) (ds:=[]) #[false,false,false,false,false,false,false,false,false,false,false,false,false,false] tX rfl rfl ⟨(aM jl.out 0).trans rfl,(aM jl.out 1).trans rfl,(aM jl.out 2).trans rfl,(aM jl.out 3).trans rfl,(dz HB Dh :),(dz HB Dj :)⟩ (fun hHeld=>?_);refine mX cK.qdn cK.Zg (fun fq yF=>?_)
           generalize VN.drew=w19 at oF mO jl HB Dg Di hHeld ⊢
           refine pS 0 25 (bA 14 1) fq ?_;refine pS 1 26 (bA 14 3) fq ?_;refine pS 2 27 (bA 14 7) fq ?_;refine pS 3 28 (bA 14 15) fq ?_;refine pS 5 30 (bA 14 47) fq ?_;refine pS 6 31 (bA 14 111) fq ?_;refine qyJ 4 29 (bA 14 127) fq yF hHeld ?_;refine qyJ 7 32 (bA 14 255) fq yF hHeld ?_;refine pS 8 33 (bA 14 511) fq ?_;refine qyJ 9 34 (bA 14 1023) fq yF hHeld ?_;refine pS 10 35 (bA 14 2047) fq ?_;refine gZ (i:=11) (N:=some 36) (bA 14 4095) rfl rfl (jq fq.out tX) (by decide) (fun K hK=>?_);refine qal (w1:=?_) (v:=?_) (by rfl) rfl ?_ ?_;rotate_left 2
           ·go_simp
            constructor
            ·rfl
            ·rfl
           refine hK.out _ _ ⟨(aM (aI jl.out _) 0).trans rfl,(aM (aI jl.out _) 1).trans rfl,(aM (aI jl.out _) 2).trans rfl,(aM (aI jl.out _) 3).trans rfl,(World.cell?_alloc_lt _ _ _ (World.block_lt_of_cell? _ _ ((dz HB Dh :)))).trans ((dz HB Dh :)),(World.cell?_alloc_lt _ _ _ (World.block_lt_of_cell? _ _ ((dz HB Dj :)))).trans ((dz HB Dj :))⟩ (fun hHeld=>?_);clear hK K;refine dn (a':=?_) ?_ ?_;rotate_left
           ·show Act.put _ (some 36) _=_
            simp only [Act.put,sL,ay,aA]
            rfl
           refine gZ (i:=12) (N:=some 37) (bA 14 8191) rfl rfl (jq fq.out tX) (by decide) (fun K hK=>?_);refine Kd.Fw (Kd.int .i64) (w0:=w) w.heap.size (by rfl) (.tmp 25) (.tmp 36) 47 3 (.int .i64 0) 8 rfl Tryz.underlying47 info3 rfl (by decide) (by omega) u11 yP (wrap64 ((rd l4 dx)*(rd l3 ((aC l1 dx).f1)))) [.int .i64 (wrap64 ((rd l4 dx)*(rd l3 ((aC l1 dx).f1))))] (fun _=>True) (fun _=>False) rfl rfl ?aP (fun _ hk=>hk.elim) ?aF ?aO ?aB ?aS ?aL ?_
           (case aP=>exact rfl)
           (case aB=>exact tB)
           (case aF=>exact (fun _ _=>trivial))
           (case aO=>exact (qCo oF))
           (case aS=>exact (bD tB))
           (case aL=>have:=qdq.out;omega)
           intro qox w20 ho hb hg hat;rw [← qds.out] at ho;replace mO:=aj.mk (jF (g:=OI) (o:=.cells #[.slice bC av.length aZ] 24 (0,0)) (qB2 mO) hg (Kd.DZ oF.out mO.out (by decide)));replace jl:=aj.mk (jF (g:=iV) (o:=.cells #[.int .i64 ((aC l1 dx).f0),.int .i64 ((aC l1 dx).f1),.int .i64 ((aC l1 dx).f2.f0),.int .i64 ((aC l1 dx).f2.f1)] 154 (0,0)) (qB2 jl) hg (Kd.DZ oF.out jl.out (by decide)));replace HB:=aj.mk (hb);have qlq:=aj.mk (ho);clear oF;clear ho hb hg hat;refine hK.out _ _ ⟨(aM jl.out 0).trans rfl,(aM jl.out 1).trans rfl,(aM jl.out 2).trans rfl,(aM jl.out 3).trans rfl,(dz HB Dh :),(dz HB Dj :)⟩ (fun hHeld=>?_);clear hK K;refine dn (a':=?_) ?_ ?_;rotate_left
           ·show Act.put _ (some 37) _=_
            simp only [Act.put,sL,ay,aA]
            rfl
           refine pS 13 11 (bA 14 16383) fq ?_;refine lK (qU fq.out tX) ?_
           try go_wp2
           go_roundg k1
           case measure=>have:=qg.out;omega
           case rel=>exact ⟨(qdr),(wrap64 (dx+1)),tS,H',⟨by have:=qg.out;omega⟩,⟨(qCo qlq)⟩,⟨(qB2 mO)⟩,⟨tB⟩⟩
          ·rw [if_neg c14] at H
           exact absurd H (by simp)
         ·rw [if_neg c13] at H
          exact absurd H (by simp)
        ·rw [if_neg c12] at H
         exact absurd H (by simp)
       ·rw [if_neg c11] at H
        exact absurd H (by simp)
      ·rw [if_neg c10] at H
       have OJ:(((aC l1 dx).f0) == a2)=false:=beq_eq_false_iff_ne.mpr c10;have Tk:(((aC l1 dx).f0) != a2)=true:=bne_iff_ne.mpr c10;have H':=aj.mk H;clear H;have MP:0<=(dx:Int):=of_decide_eq_true tA;have MQ:dx<(l1.length:Int):=of_decide_eq_true tA;obtain ⟨qdt,e116,zD,zF,zG,zH⟩:=lC HR1.out dx MP MQ
       cases e116
       replace zD:=dz HB zD;replace zF:=dz HB zF;replace zG:=dz HB zG;replace zH:=dz HB zH;replace MP:=eq_true MP;replace MQ:=eq_true MQ
       go_wp2_with (first|((with_reducible refine au (N:=13) rfl ?_);refine fA 13 #[.int .i64 0,.int .i64 0,.int .i64 0,.int .i64 0] 154 HB ?_;clear HB;intro iV w21 hg jl qdu HB hb;replace oF:=tZ oF hb;have kL:=Fh mO hg;have Bn:=Fj mO hg;replace mO:=bW mO hb;clear hb hg;have qdx:=Bn.out;have qdy:=kL.out;obtain ⟨C9,H6,OL,OM⟩:=Fg jl;have Da:=bf jl 0;have Ia:=bf jl 1;have OO:=bf jl 2;have OP:=bf jl 3))
       go_roundg k1
       case measure=>have:=qg.out;omega
       case rel=>exact ⟨(yP),(wrap64 (dx+1)),tS,H',⟨by have:=qg.out;omega⟩,⟨by (with_reducible repeat (first|apply Kd.kY|apply Kd.kZ|apply Kd.mJ));exact Kd.gq (Kd.jC (p:=⟨iV,3,none⟩) (Kd.jC (p:=⟨iV,2,none⟩) (Kd.jC (p:=⟨iV,1,none⟩) (Kd.jC (p:=⟨iV,0,none⟩) (Kd.iZ oF.out jl.out (by decide)) (fun _ hk=>hk.2) (.int .i64 ((aC l1 dx).f0))) (fun _ hk=>hk.2) (.int .i64 ((aC l1 dx).f1))) (fun _ hk=>hk.2) (.int .i64 ((aC l1 dx).f2.f0))) (fun _ hk=>hk.2) (.int .i64 ((aC l1 dx).f2.f1))) (fun _ hk=>trivial)⟩,⟨by (with_reducible repeat (first|refine aJ ?_ _|refine aN ?_|refine aI ?_ _));refine ko ?_ kL.out _;(with_reducible repeat (first|refine aJ ?_ _|refine aN ?_|refine aI ?_ _));refine ko ?_ kL.out _;(with_reducible repeat (first|refine aJ ?_ _|refine aN ?_|refine aI ?_ _));refine ko ?_ kL.out _;(with_reducible repeat (first|refine aJ ?_ _|refine aN ?_|refine aI ?_ _));refine ko ?_ kL.out _;(with_reducible repeat (first|refine aJ ?_ _|refine aN ?_|refine aI ?_ _));exact mO.out⟩,⟨tB⟩⟩
     ·rw [if_neg c9] at H
      exact absurd H (by simp)
    ·rw [if_neg c8] at H
     exact absurd H (by simp)
   ·rw [if_neg c7] at H
    have yL:decide (dx<(l1.length:Int))=false:=decide_eq_false c7;clear c7
    by_cases c24:0<=a2
    ·rw [if_pos c24] at H
     have qlr:decide (0<=a2)=true:=decide_eq_true c24;clear c24
     by_cases c25:a2<(av.length:Int)
     ·rw [if_pos c25] at H
      have qls:decide (a2<(av.length:Int))=true:=decide_eq_true c25;clear c25;obtain ⟨t124,A26,H⟩:=nU H;obtain ⟨qdz,JV⟩:∃ j_:Int,(mn ((aX av a2).f1) t124)=j_:=⟨_,rfl⟩
      replace H:(some qdz)=some r:=by first|(rw [JV] at H;exact H)|(simp only [JV] at H ⊢;exact H)
      (try rw [JV] at A26)
      have qje:(if t124<((aX av a2).f1) then t124 else ((aX av a2).f1))=qdz:=JV;obtain rfl:=Option.some.inj H
      try go_wp2
      replace oF:=aj.mk (Kd.mJ oF.out);replace mO:=aj.mk (aN mO.out);replace HB:=aj.mk (jD HB.out);have qaT:0<=(a2:Int):=of_decide_eq_true tA;have qaU:a2<(av.length:Int):=of_decide_eq_true tA;obtain ⟨OQ,qaV,qaW,qjf,Dk,Dl,OT,OU⟩:=jd dM.out a2 qaT qaU;have OV:=Dl;have OW:=Dk
      cases qjf
      replace Dk:=dz HB Dk;replace Dl:=dz HB Dl;have WM:=aj.mk OU;have qfD:=aj.mk OT;clear OU OT;replace qaT:=eq_true qaT;replace qaU:=eq_true qaU;obtain ⟨qjg,qjh,qdA⟩:=Kd.jc oF.out
      (first|subst qdA|(injection qdA with FX Ra FY;have Rb:=FX.symm;have Rf:=FY.symm;clear FX Ra FY;subst Rb;subst Rf))
      refine kK (n:=10) (S:=fun w'=>w'.cell? ⟨OI,0,none⟩=some (.slice (some OQ) av.length aZ)∧w'.cell? (OQ.add ((a2).toNat*2))=some (.slice qaV ((aX av a2).f0).length qaW)∧w'.cell? ⟨(OQ.add ((a2).toNat*2)).block,(OQ.add ((a2).toNat*2)).off+1,none⟩=some (.int .i64 ((aX av a2).f1))) (ds:=[]) #[false,false,false,false,false,false,false,false,false,false] tX rfl rfl ⟨(aM mO.out 0).trans rfl,(dz HB OW :),(dz HB OV :)⟩ (fun hHeld=>?_);refine mX cK.qjb cK.qdo (fun fq yF=>?_)
      generalize wr.drew=w28 at oF mO HB WM Dk Dl hHeld ⊢
      refine pS 0 39 (bA 10 1) fq ?_;refine pS 2 41 (bA 10 5) fq ?_;refine pS 6 45 (bA 10 69) fq ?_;refine qyJ 1 40 (bA 10 71) fq yF hHeld ?_;refine pS 3 42 (bA 10 79) fq ?_;refine pS 4 43 (bA 10 95) fq ?_;refine qyJ 5 44 (bA 10 127) fq yF hHeld ?_;refine gZ (i:=7) (N:=some 46) (bA 10 255) rfl rfl (jq fq.out tX) (by decide) (fun K hK=>?_);refine gK Tryz.func130 tX rfl #[.slice qjg yP.length qjh] (by rfl) rfl rfl tM ?_
      with_reducible refine (jN.calls k1 _ _ yP t124 _ ?bK ?bL A26.out).mono ?_
      (case bK=>repeat (first|exact (Kd.eB oF.out).2.2|(with_reducible refine Kd.bM ?_ _)|(with_reducible refine Kd.bN ?_ _)|(with_reducible refine Kd.cO ?_)))
      (case bL=>exact (Kd.eB oF.out).2.1)
      rintro e w' ⟨rfl,⟨nd,rfl⟩⟩;refine ⟨_,rfl,?_⟩;refine hK.out _ _ ⟨(aM mO.out 0).trans rfl,(dz HB OW :),(dz HB OV :)⟩ (fun hHeld=>?_);clear hK K;refine dn (a':=?_) ?_ ?_;rotate_left
      ·show Act.put _ (some 46) _=_
       simp only [Act.put,sL,ay,aA]
       rfl
      refine pS 8 47 (bA 10 511) fq ?_;refine pS 9 10 (bA 10 1023) fq ?_;refine lK (qU fq.out tX) ?_
      try go_wp2
      go_ret
      exact ⟨by first|rfl|(simp [ow,oz]<;>rfl)|(simp only [← JV];first|rfl|(simp [ow,oz]<;>rfl))|(simp [*,ow,oz]<;>rfl),tB⟩
     ·rw [if_neg c25] at H
      exact absurd H (by simp)
    ·rw [if_neg c24] at H
     exact absurd H (by simp)
def iy.l0:Nat->List Int->List bQ->Int->Int->Option (List Int)
 | 0,_,_,_,_=>none
 | k+1,x3,x6,x7,x8=>if x8<x7 then (if 0<=x8 then (if x8<(x6.length:Int) then (if x3.length<17592186044416 then (iy.l0 k (x3++[(bH x6 x8).f0]) x6 x7 (wrap64 (x8+1))) else (none)) else (none)) else (none)) else (some x3)
def iy.f (k:Nat) (l0:List bQ):Option (List Int):=iy.l0 k ([]:List Int) l0 (l0.length:Int) 0
theorem iy.calls (k:Nat) (A0:Option Addr) (c0:Nat) (l0:List bQ) (r:List Int) (w:World) (hr0:Kd.C jW w A0 l0.length l0) (hc0:l0.length<=c0) (h:iy.f k l0=some r) :
  Calls Tryz.prog 209 #[.slice A0 l0.length c0] w fun e w'=>∃ lM:Value,e=.returned (lM)∧Kd.R (Kd.int .i64) 3 w' w.heap.size (fun _=>True) lM r∧Below w.heap.size w w':=by
 have jY:=Tryz.underlying37;have Fp:=aj.mk hr0;have Zf:=aj.mk hc0;clear hr0 hc0;have HB:=aj.mk (Below.refl w.heap.size w);have H:(iy.l0 k ([]:List Int) l0 (l0.length:Int) 0)=some r:=h;clear h;have H':=aj.mk H;clear H
 go_enter Tryz.func209,Tryz.ntmps209
 go_wp2
 go_loopg [3,8] k (fun kq v3 v8 w'=>∃ (dH:List Int) (dK:Int),v8=.int .i64 dK∧aj (iy.l0 kq dH l0 (l0.length:Int) dK=some r)∧aj (kq<=k)∧aj (Kd.R (Kd.int .i64) 3 w' w.heap.size (fun _=>True) v3 dH)∧aj (Below w.heap.size w w'))
 case atStart=>exact ⟨(([]:List Int)),(0),tS,H',⟨Nat.le_refl _⟩,⟨by first|exact Kd.mI _ _ _ _ _|exact Kd.wN _ _ _ _ _|exact Kd.wP _ _ _ _ _|exact Kd.wK _ _ _ _ _|exact Kd.wM _ _ _ _ _⟩,⟨tB⟩⟩
 case round =>
  clear H';obtain ⟨dH,dK,rfl,HA,qg,qj,HB⟩:=hrel
  cases gk with
  | zero=>exact absurd HA.out (by simp [iy.l0])
  | succ k1 =>
   have H:=HA.out;clear HA;simp only [iy.l0] at H
   by_cases c2:dK<(l0.length:Int)
   ·rw [if_pos c2] at H
    have Ep:decide (dK<(l0.length:Int))=true:=decide_eq_true c2;clear c2
    by_cases c3:0<=dK
    ·rw [if_pos c3] at H
     have qd:decide (0<=dK)=true:=decide_eq_true c3;clear c3
     by_cases c4:dK<(l0.length:Int)
     ·rw [if_pos c4] at H
      have pR:decide (dK<(l0.length:Int))=true:=decide_eq_true c4;clear c4
      by_cases c5:dH.length<17592186044416
      ·rw [if_pos c5] at H
       have Tn:=aj.mk c5;clear c5;obtain ⟨qdB,JW⟩:∃ y_:List Int,y_=(dH++[(bH l0 dK).f0]):=⟨_,rfl⟩
       replace H:(iy.l0 k1 qdB l0 (l0.length:Int) (wrap64 (dK+1)))=some r:=by first|(rw [JW];with_reducible exact H)|(have jr:=(Option.bind_some _ _).symm.trans H;rw [JW];with_reducible exact jr)|(have jr:=(Option.bind_some _ _).symm.trans H;with_reducible exact jr)|with_reducible exact H|(rw [JW];exact H)|exact H
       have qdC:=aj.mk JW;clear JW;have H':=aj.mk H;clear H;have qaX:0<=(dK:Int):=of_decide_eq_true tA;have qaY:dK<(l0.length:Int):=of_decide_eq_true tA;obtain ⟨qlt,e125,OX,OY⟩:=nI Fp.out dK qaX qaY
       cases e125
       replace OX:=dz HB OX;replace OY:=dz HB OY;replace qaX:=eq_true qaX;replace qaY:=eq_true qaY
       go_wp2_with (first|((with_reducible refine au (N:=5) rfl ?_);refine fA 5 #[.int .i64 0,.int .i64 0] 37 HB ?_;clear HB;intro Tp w6 hg Ew qlu HB hb;replace qj:=tZ qj hb;clear hb hg;obtain ⟨Hg,Hl⟩:=bc2 Ew;have Ho:=bf Ew 0;have Hq:=bf Ew 1)|((with_reducible refine eY (b:=.append) (xs:=#[.tmp 12,.tmp 15]) rfl ?_);at_builtin;refine Kd.sO (Kd.int .i64) (w0:=w) w.heap.size rfl (.tmp 12) (.tmp 15) 47 3 (.int .i64 0) 8 rfl Tryz.underlying47 info3 rfl (by decide) (by omega) u3 dH ((bH l0 dK).f0) [.int .i64 ((bH l0 dK).f0)] (fun _=>True) (fun _=>False) rfl tG ?aP (fun _ hk=>hk.elim) ?aF ?aO ?aB ?aS ?aL ?_;(case aP=>exact rfl);(case aB=>exact tB);(case aF=>exact (fun _ _=>trivial));(case aO=>exact (by (with_reducible repeat (first|apply Kd.kY|apply Kd.kZ|apply Kd.mJ));exact Kd.gq (Kd.jC (p:=⟨Tp,1,none⟩) (Kd.jC (p:=⟨Tp,0,none⟩) (Kd.iZ qj.out Ew.out (by decide)) (fun _ hk=>hk.2) (.int .i64 ((bH l0 dK).f0))) (fun _ hk=>hk.2) (.int .i64 ((bH l0 dK).f1))) (fun _ hk=>trivial)));(case aS=>exact (bD tB));(case aL=>have:=Tn.out;omega);intro qoz w8 ho hb hg hat;rw [← qdC.out] at ho;replace Ew:=aj.mk (jF (g:=Tp) (o:=.cells #[.int .i64 ((bH l0 dK).f0),.int .i64 ((bH l0 dK).f1)] 37 (0,0)) (by (with_reducible repeat (first|refine aJ ?_ _|refine aN ?_|refine aI ?_ _));refine dO (cs:=#[.int .i64 ((bH l0 dK).f0),.int .i64 0]) ?_ 1 _ rfl;(with_reducible repeat (first|refine aJ ?_ _|refine aN ?_|refine aI ?_ _));refine dO (cs:=#[.int .i64 0,.int .i64 0]) ?_ 0 _ rfl;(with_reducible repeat (first|refine aJ ?_ _|refine aN ?_|refine aI ?_ _));exact Ew.out) hg (Kd.DZ qj.out Ew.out (by decide)));replace HB:=aj.mk (hb);have qlv:=aj.mk (ho);clear qj;clear ho hb hg hat))
       go_roundg k1
       case measure=>have:=qg.out;omega
       case rel=>exact ⟨(qdB),(wrap64 (dK+1)),tS,H',⟨by have:=qg.out;omega⟩,⟨(qCo qlv)⟩,⟨tB⟩⟩
      ·rw [if_neg c5] at H
       exact absurd H (by simp)
     ·rw [if_neg c4] at H
      exact absurd H (by simp)
    ·rw [if_neg c3] at H
     exact absurd H (by simp)
   ·rw [if_neg c2] at H
    have Ep:decide (dK<(l0.length:Int))=false:=decide_eq_false c2;clear c2;obtain rfl:=Option.some.inj H
    go_wp2
    go_ret
    exact ⟨_,tF,(qCo qj),tB⟩
def fT.l0:Nat->List bQ->List bB->Int->Int->Option ((List bQ))
 | 0,_,_,_,_=>none
 | k+1,x3,x6,x7,x8=>if x8<x7 then (if 0<=x8 then (if x8<(x6.length:Int) then (if x3.length<8796093022208 then (fT.l0 k (x3++[(⟨(aC x6 x8).f2.f0,(aC x6 x8).f2.f1⟩:bQ)]) x6 x7 (wrap64 (x8+1))) else (none)) else (none)) else (none)) else (some x3)
def fT.f (k:Nat) (l0:List bB):Option ((List bQ)):=fT.l0 k ([]:List bQ) l0 (l0.length:Int) 0
theorem fT.calls (k:Nat) (A0:Option Addr) (c0:Nat) (l0:List bB) (r:List bQ) (w:World) (hr0:Kd.C eD w A0 l0.length l0) (hc0:l0.length<=c0) (h:fT.f k l0=some r) :
  Calls Tryz.prog 210 #[.slice A0 l0.length c0] w fun e w'=>∃ lM:Value,e=.returned (lM)∧Kd.R jW 37 w' w.heap.size (fun _=>True) lM r∧Below w.heap.size w w':=by
 have BR:=Tryz.underlying154;have jY:=Tryz.underlying37;have Fp:=aj.mk hr0;have Zf:=aj.mk hc0;clear hr0 hc0;have HB:=aj.mk (Below.refl w.heap.size w);have H:(fT.l0 k ([]:List bQ) l0 (l0.length:Int) 0)=some r:=h;clear h;have H':=aj.mk H;clear H
 go_enter Tryz.func210,Tryz.ntmps210
 go_wp2
 go_loopg [3,8] k (fun kq v3 v8 w'=>∃ (dH:List bQ) (dK:Int),v8=.int .i64 dK∧aj (fT.l0 kq dH l0 (l0.length:Int) dK=some r)∧aj (kq<=k)∧aj (Kd.R jW 37 w' w.heap.size (fun _=>True) v3 dH)∧aj (Below w.heap.size w w'))
 case atStart=>exact ⟨(([]:List bQ)),(0),tS,H',⟨Nat.le_refl _⟩,⟨by first|exact Kd.mI _ _ _ _ _|exact Kd.wN _ _ _ _ _|exact Kd.wP _ _ _ _ _|exact Kd.wK _ _ _ _ _|exact Kd.wM _ _ _ _ _⟩,⟨tB⟩⟩
 case round =>
  clear H';obtain ⟨dH,dK,rfl,HA,qg,qj,HB⟩:=hrel
  cases gk with
  | zero=>exact absurd HA.out (by simp [fT.l0])
  | succ k1 =>
   have H:=HA.out;clear HA;simp only [fT.l0] at H
   by_cases c2:dK<(l0.length:Int)
   ·rw [if_pos c2] at H
    have Ep:decide (dK<(l0.length:Int))=true:=decide_eq_true c2;clear c2
    by_cases c3:0<=dK
    ·rw [if_pos c3] at H
     have qd:decide (0<=dK)=true:=decide_eq_true c3;clear c3
     by_cases c4:dK<(l0.length:Int)
     ·rw [if_pos c4] at H
      have pR:decide (dK<(l0.length:Int))=true:=decide_eq_true c4;clear c4
      by_cases c5:dH.length<8796093022208
      ·rw [if_pos c5] at H
       have Tn:=aj.mk c5;clear c5;obtain ⟨qdD,JX⟩:∃ y_:List bQ,y_=(dH++[(⟨(aC l0 dK).f2.f0,(aC l0 dK).f2.f1⟩:bQ)]):=⟨_,rfl⟩
       replace H:(fT.l0 k1 qdD l0 (l0.length:Int) (wrap64 (dK+1)))=some r:=by first|(rw [JX];with_reducible exact H)|(have jr:=(Option.bind_some _ _).symm.trans H;rw [JX];with_reducible exact jr)|(have jr:=(Option.bind_some _ _).symm.trans H;with_reducible exact jr)|with_reducible exact H|(rw [JX];exact H)|exact H
       have qdE:=aj.mk JX;clear JX;have H':=aj.mk H;clear H;have qaZ:0<=(dK:Int):=of_decide_eq_true tA;have qa0:dK<(l0.length:Int):=of_decide_eq_true tA;obtain ⟨qlw,qji,OZ,O0,O1,O3⟩:=lC Fp.out dK qaZ qa0
       cases qji
       replace OZ:=dz HB OZ;replace O0:=dz HB O0;replace O1:=dz HB O1;replace O3:=dz HB O3;replace qaZ:=eq_true qaZ;replace qa0:=eq_true qa0
       go_wp2_with (first|((with_reducible refine au (N:=5) rfl ?_);refine fA 5 #[.int .i64 0,.int .i64 0,.int .i64 0,.int .i64 0] 154 HB ?_;clear HB;intro JY w6 hg zI qlx HB hb;replace qj:=tZ qj hb;clear hb hg;obtain ⟨Hg,Hl,qjj,qjk⟩:=Fg zI;have Ho:=bf zI 0;have Hq:=bf zI 1;have qjl:=bf zI 2;have qjm:=bf zI 3)|((with_reducible refine eY (b:=.append) (xs:=#[.tmp 12,.tmp 15]) rfl ?_);at_builtin;refine Kd.sO jW (w0:=w) w.heap.size rfl (.tmp 12) (.tmp 15) 28 37 (.agg #[(.int .i64 0),(.int .i64 0)]) 16 rfl Tryz.underlying28 SQ rfl (by decide) (by omega) u3 dH (⟨(aC l0 dK).f2.f0,(aC l0 dK).f2.f1⟩:bQ) [.int .i64 ((aC l0 dK).f2.f0),.int .i64 ((aC l0 dK).f2.f1)] (fun _=>True) (fun _=>False) rfl tG ?aP (fun _ hk=>hk.elim) ?aF ?aO ?aB ?aS ?aL ?_;(case aP=>exact lu _ _ _ (⟨(aC l0 dK).f2.f0,(aC l0 dK).f2.f1⟩:bQ));(case aB=>exact tB);(case aF=>exact (fun _ _=>trivial));(case aO=>exact (by (with_reducible repeat (first|apply Kd.kY|apply Kd.kZ|apply Kd.mJ));exact Kd.gq (Kd.jC (p:=⟨JY,3,none⟩) (Kd.jC (p:=⟨JY,2,none⟩) (Kd.jC (p:=⟨JY,1,none⟩) (Kd.jC (p:=⟨JY,0,none⟩) (Kd.iZ qj.out zI.out (by decide)) (fun _ hk=>hk.2) (.int .i64 ((aC l0 dK).f0))) (fun _ hk=>hk.2) (.int .i64 ((aC l0 dK).f1))) (fun _ hk=>hk.2) (.int .i64 ((aC l0 dK).f2.f0))) (fun _ hk=>hk.2) (.int .i64 ((aC l0 dK).f2.f1))) (fun _ hk=>trivial)));(case aS=>exact (bD tB));(case aL=>have:=Tn.out;omega);intro qoA w8 ho hb hg hat;rw [← qdE.out] at ho;replace zI:=aj.mk (jF (g:=JY) (o:=.cells #[.int .i64 ((aC l0 dK).f0),.int .i64 ((aC l0 dK).f1),.int .i64 ((aC l0 dK).f2.f0),.int .i64 ((aC l0 dK).f2.f1)] 154 (0,0)) (by (with_reducible repeat (first|refine aJ ?_ _|refine aN ?_|refine aI ?_ _));refine dO (cs:=#[.int .i64 ((aC l0 dK).f0),.int .i64 ((aC l0 dK).f1),.int .i64 ((aC l0 dK).f2.f0),.int .i64 0]) ?_ 3 _ rfl;(with_reducible repeat (first|refine aJ ?_ _|refine aN ?_|refine aI ?_ _));refine dO (cs:=#[.int .i64 ((aC l0 dK).f0),.int .i64 ((aC l0 dK).f1),.int .i64 0,.int .i64 0]) ?_ 2 _ rfl;(with_reducible repeat (first|refine aJ ?_ _|refine aN ?_|refine aI ?_ _));refine dO (cs:=#[.int .i64 ((aC l0 dK).f0),.int .i64 0,.int .i64 0,.int .i64 0]) ?_ 1 _ rfl;(with_reducible repeat (first|refine aJ ?_ _|refine aN ?_|refine aI ?_ _));refine dO (cs:=#[.int .i64 0,.int .i64 0,.int .i64 0,.int .i64 0]) ?_ 0 _ rfl;(with_reducible repeat (first|refine aJ ?_ _|refine aN ?_|refine aI ?_ _));exact zI.out) hg (Kd.DZ qj.out zI.out (by decide)));replace HB:=aj.mk (hb);have qly:=aj.mk (ho);clear qj;clear ho hb hg hat))
       go_roundg k1
       case measure=>have:=qg.out;omega
       case rel=>exact ⟨(qdD),(wrap64 (dK+1)),tS,H',⟨by have:=qg.out;omega⟩,⟨(qCo qly)⟩,⟨tB⟩⟩
      ·rw [if_neg c5] at H
       exact absurd H (by simp)
     ·rw [if_neg c4] at H
      exact absurd H (by simp)
    ·rw [if_neg c3] at H
     exact absurd H (by simp)
   ·rw [if_neg c2] at H
    have Ep:decide (dK<(l0.length:Int))=false:=decide_eq_false c2;clear c2;obtain rfl:=Option.some.inj H
    go_wp2
    go_ret
    exact ⟨_,tF,(qCo qj),tB⟩
def dR.f (k:Nat) (av:List bI) (gu:List Int) (l1:List bB) (a2:Int):Option Int:=if 0<=a2 then (if a2<(av.length:Int) then ((iy.f k ((aX av a2).f0)).bind fun t137=>((fT.f k l1).bind fun t140=>((iy.f k t140).bind fun t143=>((cK.f k av l1 a2 t137 t143).bind fun t146=>(some t146))))) else (none)) else (none)
def dR.T1:Bool × List (List Nat × List Nat):=(true,[([],[]),([0],[0]),([],[]),([],[]),([],[]),([4],[4]),([5],[5]),([],[]),([6,7],[6,7]),([8],[8]),([9],[9]),([10],[10]),([],[]),([12,11],[12]),([13,13],[13]),([1,2,3,11,14,14],[1,2,3,11,14]),([15,15,0,1,2,3,4,5,6,7,8,9,10,11,12,13,14,15],[15])])
def dR.B1:List Nat:=[0,1,0,0,0,16,48,0,240,496,1008,2032,0,8176,16368,32767,65535]
theorem dR.qa1:pQ .any (opsOf Tryz.f170 1)=dR.T1:=by kernel_rfl
theorem dR.Tq:nT dR.T1.2 dR.B1=true:=by kernel_rfl
theorem dR.calls (k:Nat) (bC:Option Addr) (aZ:Nat) (av:List bI) (nP:Option Addr) (mY:Nat) (gu:List Int) (A1:Option Addr) (c1:Nat) (l1:List bB) (a2:Int) (r:Int) (w:World) (dw:Kd.C iG w bC av.length av) (dG:av.length<=aZ) (sV:Kd.C (Kd.int .i64) w nP gu.length gu) (vw:gu.length<=mY) (hr1:Kd.C eD w A1 l1.length l1) (hc1:l1.length<=c1) (h:dR.f k av gu l1 a2=some r) :
  Calls Tryz.prog 170 #[.agg #[.slice bC av.length aZ,.slice nP gu.length mY],.slice A1 l1.length c1,.int .i64 a2] w fun e w'=>e=.returned (.int .i64 r)∧Below w.heap.size w w':=by
 have wR:=Tryz.underlying149;have qb:=Tryz.underlying24;have dM:=aj.mk dw;have fu:=aj.mk dG;clear dw dG;have O4:=aj.mk sV;have Tt:=aj.mk vw;clear sV vw;have HR1:=aj.mk hr1;have yE:=aj.mk hc1;clear hr1 hc1;have HB:=aj.mk (Below.refl w.heap.size w);have H:(if 0<=a2 then (if a2<(av.length:Int) then ((iy.f k ((aX av a2).f0)).bind fun t137=>((fT.f k l1).bind fun t140=>((iy.f k t140).bind fun t143=>((cK.f k av l1 a2 t137 t143).bind fun t146=>(some t146))))) else (none)) else (none))=some r:=h;clear h
 by_cases c4:0<=a2
 ·rw [if_pos c4] at H
  have pR:decide (0<=a2)=true:=decide_eq_true c4;clear c4
  by_cases c5:a2<(av.length:Int)
  ·rw [if_pos c5] at H
   have zC:decide (a2<(av.length:Int))=true:=decide_eq_true c5;clear c5;obtain ⟨t137,A6,H⟩:=nU H;obtain ⟨t140,A7,H⟩:=nU H;obtain ⟨t143,A8,H⟩:=nU H;obtain ⟨t146,A9,H⟩:=nU H;obtain rfl:=Option.some.inj H
   go_enter Tryz.func170,Tryz.ntmps170
   try go_wp2_with (first|((with_reducible refine au (N:=3) rfl ?_);refine fA 3 #[.slice bC av.length aZ,.slice nP gu.length mY] 149 HB ?_;clear HB;intro Zh Lr hg nQ qlz HB hb;clear hb hg))
   replace nQ:=aj.mk (aN nQ.out);replace HB:=aj.mk (jD HB.out);have qa2:0<=(a2:Int):=of_decide_eq_true tA;have qa3:a2<(av.length:Int):=of_decide_eq_true tA;obtain ⟨JZ,Tv,Tw,qjn,Dp,Dq,O5,O6⟩:=jd dM.out a2 qa2 qa3;have zJ:=Dq;have zK:=Dp
   cases qjn
   replace Dp:=dz HB Dp;replace Dq:=dz HB Dq;have O7:=aj.mk O6;have WQ:=aj.mk O5;clear O6 O5;replace qa2:=eq_true qa2;replace qa3:=eq_true qa3;refine kK (n:=17) (S:=fun w'=>w'.cell? ⟨Zh,0,none⟩=some (.slice (some JZ) av.length aZ)∧w'.cell? ⟨Zh,1,none⟩=some (.slice nP gu.length mY)∧w'.cell? (JZ.add ((a2).toNat*2))=some (.slice Tv ((aX av a2).f0).length Tw)∧w'.cell? ⟨(JZ.add ((a2).toNat*2)).block,(JZ.add ((a2).toNat*2)).off+1,none⟩=some (.int .i64 ((aX av a2).f1))) (ds:=[]) #[false,false,false,false,false,false,false,false,false,false,false,false,false,false,false,false,false] tX rfl rfl ⟨(aM nQ.out 0).trans rfl,(aM nQ.out 1).trans rfl,(dz HB zK :),(dz HB zJ :)⟩ (fun hHeld=>?_);refine mX dR.qa1 dR.Tq (fun fq yF=>?_)
   generalize Lr.drew=Jc at nQ HB O7 Dp Dq hHeld ⊢
   refine pS 0 7 (bA 17 1) fq ?_;refine pS 2 9 (bA 17 5) fq ?_;refine pS 3 10 (bA 17 13) fq ?_;refine pS 4 11 (bA 17 29) fq ?_;refine pS 5 12 (bA 17 61) fq ?_;refine pS 7 14 (bA 17 189) fq ?_;refine pS 12 19 (bA 17 4285) fq ?_;refine qyJ 1 8 (bA 17 4287) fq yF hHeld ?_;refine qyJ 6 13 (bA 17 4351) fq yF hHeld ?_;refine pS 8 15 (bA 17 4607) fq ?_;refine pS 9 16 (bA 17 5119) fq ?_;refine qyJ 10 17 (bA 17 6143) fq yF hHeld ?_;refine gZ (i:=11) (N:=some 18) (bA 17 8191) rfl rfl (jq fq.out tX) (by decide) (fun K hK=>?_);refine gK Tryz.func209 tX rfl #[.slice Tv ((aX av a2).f0).length Tw] (by rfl) rfl rfl tM ?_
   with_reducible refine (iy.calls k _ _ ((aX av a2).f0) t137 _ ?bK ?bL A6.out).mono ?_
   (case bK=>exact cS O7)
   (case bL=>exact WQ.out)
   rintro e yO ⟨v138,rfl,ho0,hb⟩;refine ⟨_,rfl,?_⟩;have Ca:=aj.mk (Kd.dZ ho0 (bD tB));replace nQ:=bW nQ hb;replace HB:=dL HB hb
   (try clear hb)
   (try clear hb2)
   (try clear hk)
   (try clear hi)
   (try clear ho0)
   refine hK.out _ _ ⟨(aM nQ.out 0).trans rfl,(aM nQ.out 1).trans rfl,(dz HB zK :),(dz HB zJ :)⟩ (fun hHeld=>?_);clear hK K;refine dn (a':=?_) ?_ ?_;rotate_left
   ·show Act.put _ (some 18) _=_
    simp only [Act.put,sL,ay,aA]
    rfl
   refine gZ (i:=13) (N:=some 20) (bA 17 16383) rfl rfl (jq fq.out tX) (by decide) (fun K hK=>?_);refine gK Tryz.func210 tX rfl #[.slice A1 l1.length c1] (by rfl) rfl rfl tM ?_
   with_reducible refine (fT.calls k _ _ l1 t140 _ ?bK ?bL A7.out).mono ?_
   (case bK=>exact cS HR1)
   (case bL=>exact yE.out)
   rintro e w13 ⟨v141,rfl,ho0,hb⟩;refine ⟨_,rfl,?_⟩;replace Ca:=tZ Ca hb;have Ey:=aj.mk (Kd.dZ ho0 (bD tB));replace nQ:=bW nQ hb;replace HB:=dL HB hb
   (try clear hb)
   (try clear hb2)
   (try clear hk)
   (try clear hi)
   (try clear ho0)
   obtain ⟨qa4,qa5,Tx⟩:=Kd.jc Ey.out
   (first|subst Tx|(injection Tx with FX Ra FY;have Rb:=FX.symm;have Rf:=FY.symm;clear FX Ra FY;subst Rb;subst Rf))
   refine hK.out _ _ ⟨(aM nQ.out 0).trans rfl,(aM nQ.out 1).trans rfl,(dz HB zK :),(dz HB zJ :)⟩ (fun hHeld=>?_);clear hK K;refine dn (a':=?_) ?_ ?_;rotate_left
   ·show Act.put _ (some 20) _=_
    simp only [Act.put,sL,ay,aA]
    rfl
   refine gZ (i:=14) (N:=some 21) (bA 17 32767) rfl rfl (jq fq.out tX) (by decide) (fun K hK=>?_);refine gK Tryz.func209 tX rfl #[.slice qa4 t140.length qa5] (by rfl) rfl rfl tM ?_
   with_reducible refine (iy.calls k _ _ t140 t143 _ ?bK ?bL A8.out).mono ?_
   (case bK=>repeat (first|exact (Kd.eB Ey.out).2.2|(with_reducible refine Kd.bM ?_ _)|(with_reducible refine Kd.bN ?_ _)|(with_reducible refine Kd.cO ?_)))
   (case bL=>exact (Kd.eB Ey.out).2.1)
   rintro e Mf ⟨qoB,rfl,ho0,hb⟩;refine ⟨_,rfl,?_⟩;replace Ey:=tZ Ey hb;have J2:=aj.mk (Kd.dZ (Kd.wY ho0 (Kd.vR (qCo Ca))) (bD tB));replace Ca:=aj.mk (Kd.qE (qCo Ca) (Kd.iF ho0) hb);replace nQ:=bW nQ hb;replace HB:=dL HB hb
   (try clear hb)
   (try clear hb2)
   (try clear hk)
   (try clear hi)
   (try clear ho0)
   obtain ⟨qa6,qa7,Tz⟩:=Kd.jc Ca.out
   (first|subst Tz|(injection Tz with FX Ra FY;have Rb:=FX.symm;have Rf:=FY.symm;clear FX Ra FY;subst Rb;subst Rf))
   obtain ⟨TA,TB,MU⟩:=Kd.jc J2.out
   (first|subst MU|(injection MU with FX Ra FY;have Rb:=FX.symm;have Rf:=FY.symm;clear FX Ra FY;subst Rb;subst Rf))
   refine hK.out _ _ ⟨(aM nQ.out 0).trans rfl,(aM nQ.out 1).trans rfl,(dz HB zK :),(dz HB zJ :)⟩ (fun hHeld=>?_);clear hK K;refine dn (a':=?_) ?_ ?_;rotate_left
   ·show Act.put _ (some 21) _=_
    simp only [Act.put,sL,ay,aA]
    rfl
   refine gZ (i:=15) (N:=some 22) (bA 17 65535) rfl rfl (jq fq.out tX) (by decide) (fun K hK=>?_);refine gK Tryz.func160 tX rfl #[.agg #[.slice (some JZ) av.length aZ],.slice A1 l1.length c1,.int .i64 a2,.slice qa6 t137.length qa7,.slice TA t143.length TB] (by rfl) rfl rfl tM ?_
   with_reducible refine (cK.calls k _ _ av _ _ l1 a2 _ _ t137 _ _ t143 t146 _ ?bK ?bL ?fM ?fO ?jI ?zL ?J3 ?J4 A9.out).mono ?_
   (case bK=>exact cS dM)
   (case bL=>exact fu.out)
   (case fM=>exact cS HR1)
   (case fO=>exact yE.out)
   (case jI=>repeat (first|exact (Kd.eB Ca.out).2.2|(with_reducible refine Kd.bM ?_ _)|(with_reducible refine Kd.bN ?_ _)|(with_reducible refine Kd.cO ?_)))
   (case zL=>exact (Kd.eB Ca.out).2.1)
   (case J3=>repeat (first|exact (Kd.eB J2.out).2.2|(with_reducible refine Kd.bM ?_ _)|(with_reducible refine Kd.bN ?_ _)|(with_reducible refine Kd.cO ?_)))
   (case J4=>exact (Kd.eB J2.out).2.1)
   rintro e VN ⟨rfl,hb⟩;refine ⟨_,rfl,?_⟩;replace Ca:=tZ Ca hb;replace Ey:=tZ Ey hb;replace J2:=tZ J2 hb;replace nQ:=bW nQ hb;replace HB:=dL HB hb
   (try clear hb)
   (try clear hb2)
   (try clear hk)
   (try clear hi)
   refine hK.out _ _ ⟨(aM nQ.out 0).trans rfl,(aM nQ.out 1).trans rfl,(dz HB zK :),(dz HB zJ :)⟩ (fun hHeld=>?_);clear hK K;refine dn (a':=?_) ?_ ?_;rotate_left
   ·show Act.put _ (some 22) _=_
    simp only [Act.put,sL,ay,aA]
    rfl
   refine pS 16 6 (bA 17 131071) fq ?_;refine lK (qU fq.out tX) ?_
   try go_wp2
   go_ret
   exact ⟨tF,tB⟩
  ·rw [if_neg c5] at H
   exact absurd H (by simp)
 ·rw [if_neg c4] at H
  exact absurd H (by simp)
def gH.l0:Nat->List Int->List bQ->Int->Int->Option (List Int)
 | 0,_,_,_,_=>none
 | k+1,x3,x6,x7,x8=>if x8<x7 then (if 0<=x8 then (if x8<(x6.length:Int) then (if x3.length<17592186044416 then (gH.l0 k (x3++[(bH x6 x8).f1]) x6 x7 (wrap64 (x8+1))) else (none)) else (none)) else (none)) else (some x3)
def gH.f (k:Nat) (l0:List bQ):Option (List Int):=gH.l0 k ([]:List Int) l0 (l0.length:Int) 0
theorem gH.calls (k:Nat) (A0:Option Addr) (c0:Nat) (l0:List bQ) (r:List Int) (w:World) (hr0:Kd.C jW w A0 l0.length l0) (hc0:l0.length<=c0) (h:gH.f k l0=some r) :
  Calls Tryz.prog 211 #[.slice A0 l0.length c0] w fun e w'=>∃ lM:Value,e=.returned (lM)∧Kd.R (Kd.int .i64) 3 w' w.heap.size (fun _=>True) lM r∧Below w.heap.size w w':=by
 have jY:=Tryz.underlying37;have Fp:=aj.mk hr0;have Zf:=aj.mk hc0;clear hr0 hc0;have HB:=aj.mk (Below.refl w.heap.size w);have H:(gH.l0 k ([]:List Int) l0 (l0.length:Int) 0)=some r:=h;clear h;have H':=aj.mk H;clear H
 go_enter Tryz.func211,Tryz.ntmps211
 go_wp2
 go_loopg [3,8] k (fun kq v3 v8 w'=>∃ (dH:List Int) (dK:Int),v8=.int .i64 dK∧aj (gH.l0 kq dH l0 (l0.length:Int) dK=some r)∧aj (kq<=k)∧aj (Kd.R (Kd.int .i64) 3 w' w.heap.size (fun _=>True) v3 dH)∧aj (Below w.heap.size w w'))
 case atStart=>exact ⟨(([]:List Int)),(0),tS,H',⟨Nat.le_refl _⟩,⟨by first|exact Kd.mI _ _ _ _ _|exact Kd.wN _ _ _ _ _|exact Kd.wP _ _ _ _ _|exact Kd.wK _ _ _ _ _|exact Kd.wM _ _ _ _ _⟩,⟨tB⟩⟩
 case round =>
  clear H';obtain ⟨dH,dK,rfl,HA,qg,qj,HB⟩:=hrel
  cases gk with
  | zero=>exact absurd HA.out (by simp [gH.l0])
  | succ k1 =>
   have H:=HA.out;clear HA;simp only [gH.l0] at H
   by_cases c2:dK<(l0.length:Int)
   ·rw [if_pos c2] at H
    have Ep:decide (dK<(l0.length:Int))=true:=decide_eq_true c2;clear c2
    by_cases c3:0<=dK
    ·rw [if_pos c3] at H
     have qd:decide (0<=dK)=true:=decide_eq_true c3;clear c3
     by_cases c4:dK<(l0.length:Int)
     ·rw [if_pos c4] at H
      have pR:decide (dK<(l0.length:Int))=true:=decide_eq_true c4;clear c4
      by_cases c5:dH.length<17592186044416
      ·rw [if_pos c5] at H
       have Tn:=aj.mk c5;clear c5;obtain ⟨qdF,J5⟩:∃ y_:List Int,y_=(dH++[(bH l0 dK).f1]):=⟨_,rfl⟩
       replace H:(gH.l0 k1 qdF l0 (l0.length:Int) (wrap64 (dK+1)))=some r:=by first|(rw [J5];with_reducible exact H)|(have jr:=(Option.bind_some _ _).symm.trans H;rw [J5];with_reducible exact jr)|(have jr:=(Option.bind_some _ _).symm.trans H;with_reducible exact jr)|with_reducible exact H|(rw [J5];exact H)|exact H
       have qdG:=aj.mk J5;clear J5;have H':=aj.mk H;clear H;have qa8:0<=(dK:Int):=of_decide_eq_true tA;have qa9:dK<(l0.length:Int):=of_decide_eq_true tA;obtain ⟨qlA,qjo,O8,O9⟩:=nI Fp.out dK qa8 qa9
       cases qjo
       replace O8:=dz HB O8;replace O9:=dz HB O9;replace qa8:=eq_true qa8;replace qa9:=eq_true qa9
       go_wp2_with (first|((with_reducible refine au (N:=5) rfl ?_);refine fA 5 #[.int .i64 0,.int .i64 0] 37 HB ?_;clear HB;intro TD w6 hg Ez qlB HB hb;replace qj:=tZ qj hb;clear hb hg;obtain ⟨Hg,Hl⟩:=bc2 Ez;have Ho:=bf Ez 0;have Hq:=bf Ez 1)|((with_reducible refine eY (b:=.append) (xs:=#[.tmp 12,.tmp 15]) rfl ?_);at_builtin;refine Kd.sO (Kd.int .i64) (w0:=w) w.heap.size rfl (.tmp 12) (.tmp 15) 47 3 (.int .i64 0) 8 rfl Tryz.underlying47 info3 rfl (by decide) (by omega) u3 dH ((bH l0 dK).f1) [.int .i64 ((bH l0 dK).f1)] (fun _=>True) (fun _=>False) rfl tG ?aP (fun _ hk=>hk.elim) ?aF ?aO ?aB ?aS ?aL ?_;(case aP=>exact rfl);(case aB=>exact tB);(case aF=>exact (fun _ _=>trivial));(case aO=>exact (by (with_reducible repeat (first|apply Kd.kY|apply Kd.kZ|apply Kd.mJ));exact Kd.gq (Kd.jC (p:=⟨TD,1,none⟩) (Kd.jC (p:=⟨TD,0,none⟩) (Kd.iZ qj.out Ez.out (by decide)) (fun _ hk=>hk.2) (.int .i64 ((bH l0 dK).f0))) (fun _ hk=>hk.2) (.int .i64 ((bH l0 dK).f1))) (fun _ hk=>trivial)));(case aS=>exact (bD tB));(case aL=>have:=Tn.out;omega);intro qoC w8 ho hb hg hat;rw [← qdG.out] at ho;replace Ez:=aj.mk (jF (g:=TD) (o:=.cells #[.int .i64 ((bH l0 dK).f0),.int .i64 ((bH l0 dK).f1)] 37 (0,0)) (by (with_reducible repeat (first|refine aJ ?_ _|refine aN ?_|refine aI ?_ _));refine dO (cs:=#[.int .i64 ((bH l0 dK).f0),.int .i64 0]) ?_ 1 _ rfl;(with_reducible repeat (first|refine aJ ?_ _|refine aN ?_|refine aI ?_ _));refine dO (cs:=#[.int .i64 0,.int .i64 0]) ?_ 0 _ rfl;(with_reducible repeat (first|refine aJ ?_ _|refine aN ?_|refine aI ?_ _));exact Ez.out) hg (Kd.DZ qj.out Ez.out (by decide)));replace HB:=aj.mk (hb);have qlC:=aj.mk (ho);clear qj;clear ho hb hg hat))
       go_roundg k1
       case measure=>have:=qg.out;omega
       case rel=>exact ⟨(qdF),(wrap64 (dK+1)),tS,H',⟨by have:=qg.out;omega⟩,⟨(qCo qlC)⟩,⟨tB⟩⟩
      ·rw [if_neg c5] at H
       exact absurd H (by simp)
     ·rw [if_neg c4] at H
      exact absurd H (by simp)
    ·rw [if_neg c3] at H
     exact absurd H (by simp)
   ·rw [if_neg c2] at H
    have Ep:decide (dK<(l0.length:Int))=false:=decide_eq_false c2;clear c2;obtain rfl:=Option.some.inj H
    go_wp2
    go_ret
    exact ⟨_,tF,(qCo qj),tB⟩
def fB.f (k:Nat) (av:List bI) (gu:List Int) (l1:List bB) (a2:Int):Option Int:=if 0<=a2 then (if a2<(av.length:Int) then ((gH.f k ((aX av a2).f0)).bind fun t154=>((fT.f k l1).bind fun t157=>((gH.f k t157).bind fun t160=>((cK.f k av l1 a2 t154 t160).bind fun t163=>(some t163))))) else (none)) else (none)
def fB.T1:Bool × List (List Nat × List Nat):=(true,[([],[]),([0],[0]),([],[]),([],[]),([],[]),([4],[4]),([5],[5]),([],[]),([6,7],[6,7]),([8],[8]),([9],[9]),([10],[10]),([],[]),([12,11],[12]),([13,13],[13]),([1,2,3,11,14,14],[1,2,3,11,14]),([15,15,0,1,2,3,4,5,6,7,8,9,10,11,12,13,14,15],[15])])
def fB.B1:List Nat:=[0,1,0,0,0,16,48,0,240,496,1008,2032,0,8176,16368,32767,65535]
theorem fB.qa1:pQ .any (opsOf Tryz.f171 1)=fB.T1:=by kernel_rfl
theorem fB.Tq:nT fB.T1.2 fB.B1=true:=by kernel_rfl
theorem fB.calls (k:Nat) (bC:Option Addr) (aZ:Nat) (av:List bI) (nP:Option Addr) (mY:Nat) (gu:List Int) (A1:Option Addr) (c1:Nat) (l1:List bB) (a2:Int) (r:Int) (w:World) (dw:Kd.C iG w bC av.length av) (dG:av.length<=aZ) (sV:Kd.C (Kd.int .i64) w nP gu.length gu) (vw:gu.length<=mY) (hr1:Kd.C eD w A1 l1.length l1) (hc1:l1.length<=c1) (h:fB.f k av gu l1 a2=some r) :
  Calls Tryz.prog 171 #[.agg #[.slice bC av.length aZ,.slice nP gu.length mY],.slice A1 l1.length c1,.int .i64 a2] w fun e w'=>e=.returned (.int .i64 r)∧Below w.heap.size w w':=by
 have wR:=Tryz.underlying149;have qb:=Tryz.underlying24;have dM:=aj.mk dw;have fu:=aj.mk dG;clear dw dG;have O4:=aj.mk sV;have Tt:=aj.mk vw;clear sV vw;have HR1:=aj.mk hr1;have yE:=aj.mk hc1;clear hr1 hc1;have HB:=aj.mk (Below.refl w.heap.size w);have H:(if 0<=a2 then (if a2<(av.length:Int) then ((gH.f k ((aX av a2).f0)).bind fun t154=>((fT.f k l1).bind fun t157=>((gH.f k t157).bind fun t160=>((cK.f k av l1 a2 t154 t160).bind fun t163=>(some t163))))) else (none)) else (none))=some r:=h;clear h
 by_cases c4:0<=a2
 ·rw [if_pos c4] at H
  have pR:decide (0<=a2)=true:=decide_eq_true c4;clear c4
  by_cases c5:a2<(av.length:Int)
  ·rw [if_pos c5] at H
   have zC:decide (a2<(av.length:Int))=true:=decide_eq_true c5;clear c5;obtain ⟨t154,A6,H⟩:=nU H;obtain ⟨t157,A7,H⟩:=nU H;obtain ⟨t160,A8,H⟩:=nU H;obtain ⟨t163,A9,H⟩:=nU H;obtain rfl:=Option.some.inj H
   go_enter Tryz.func171,Tryz.ntmps171
   try go_wp2_with (first|((with_reducible refine au (N:=3) rfl ?_);refine fA 3 #[.slice bC av.length aZ,.slice nP gu.length mY] 149 HB ?_;clear HB;intro Zi Lr hg nR qlD HB hb;clear hb hg))
   replace nR:=aj.mk (aN nR.out);replace HB:=aj.mk (jD HB.out);have qba:0<=(a2:Int):=of_decide_eq_true tA;have qbb:a2<(av.length:Int):=of_decide_eq_true tA;obtain ⟨J6,TF,TG,e153,Dr,Dt,Pb,Pd⟩:=jd dM.out a2 qba qbb;have zM:=Dt;have zN:=Dr
   cases e153
   replace Dr:=dz HB Dr;replace Dt:=dz HB Dt;have Pe:=aj.mk Pd;have WR:=aj.mk Pb;clear Pd Pb;replace qba:=eq_true qba;replace qbb:=eq_true qbb;refine kK (n:=17) (S:=fun w'=>w'.cell? ⟨Zi,0,none⟩=some (.slice (some J6) av.length aZ)∧w'.cell? ⟨Zi,1,none⟩=some (.slice nP gu.length mY)∧w'.cell? (J6.add ((a2).toNat*2))=some (.slice TF ((aX av a2).f0).length TG)∧w'.cell? ⟨(J6.add ((a2).toNat*2)).block,(J6.add ((a2).toNat*2)).off+1,none⟩=some (.int .i64 ((aX av a2).f1))) (ds:=[]) #[false,false,false,false,false,false,false,false,false,false,false,false,false,false,false,false,false] tX rfl rfl ⟨(aM nR.out 0).trans rfl,(aM nR.out 1).trans rfl,(dz HB zN :),(dz HB zM :)⟩ (fun hHeld=>?_);refine mX fB.qa1 fB.Tq (fun fq yF=>?_)
   generalize Lr.drew=Jc at nR HB Pe Dr Dt hHeld ⊢
   refine pS 0 7 (bA 17 1) fq ?_;refine pS 2 9 (bA 17 5) fq ?_;refine pS 3 10 (bA 17 13) fq ?_;refine pS 4 11 (bA 17 29) fq ?_;refine pS 5 12 (bA 17 61) fq ?_;refine pS 7 14 (bA 17 189) fq ?_;refine pS 12 19 (bA 17 4285) fq ?_;refine qyJ 1 8 (bA 17 4287) fq yF hHeld ?_;refine qyJ 6 13 (bA 17 4351) fq yF hHeld ?_;refine pS 8 15 (bA 17 4607) fq ?_;refine pS 9 16 (bA 17 5119) fq ?_;refine qyJ 10 17 (bA 17 6143) fq yF hHeld ?_;refine gZ (i:=11) (N:=some 18) (bA 17 8191) rfl rfl (jq fq.out tX) (by decide) (fun K hK=>?_);refine gK Tryz.func211 tX rfl #[.slice TF ((aX av a2).f0).length TG] (by rfl) rfl rfl tM ?_
   with_reducible refine (gH.calls k _ _ ((aX av a2).f0) t154 _ ?bK ?bL A6.out).mono ?_
   (case bK=>exact cS Pe)
   (case bL=>exact WR.out)
   rintro e yO ⟨qoD,rfl,ho0,hb⟩;refine ⟨_,rfl,?_⟩;have Cb:=aj.mk (Kd.dZ ho0 (bD tB));replace nR:=bW nR hb;replace HB:=dL HB hb
   (try clear hb)
   (try clear hb2)
   (try clear hk)
   (try clear hi)
   (try clear ho0)
   refine hK.out _ _ ⟨(aM nR.out 0).trans rfl,(aM nR.out 1).trans rfl,(dz HB zN :),(dz HB zM :)⟩ (fun hHeld=>?_);clear hK K;refine dn (a':=?_) ?_ ?_;rotate_left
   ·show Act.put _ (some 18) _=_
    simp only [Act.put,sL,ay,aA]
    rfl
   refine gZ (i:=13) (N:=some 20) (bA 17 16383) rfl rfl (jq fq.out tX) (by decide) (fun K hK=>?_);refine gK Tryz.func210 tX rfl #[.slice A1 l1.length c1] (by rfl) rfl rfl tM ?_
   with_reducible refine (fT.calls k _ _ l1 t157 _ ?bK ?bL A7.out).mono ?_
   (case bK=>exact cS HR1)
   (case bL=>exact yE.out)
   rintro e w13 ⟨qoE,rfl,ho0,hb⟩;refine ⟨_,rfl,?_⟩;replace Cb:=tZ Cb hb;have EA:=aj.mk (Kd.dZ ho0 (bD tB));replace nR:=bW nR hb;replace HB:=dL HB hb
   (try clear hb)
   (try clear hb2)
   (try clear hk)
   (try clear hi)
   (try clear ho0)
   obtain ⟨qa4,qa5,Tx⟩:=Kd.jc EA.out
   (first|subst Tx|(injection Tx with FX Ra FY;have Rb:=FX.symm;have Rf:=FY.symm;clear FX Ra FY;subst Rb;subst Rf))
   refine hK.out _ _ ⟨(aM nR.out 0).trans rfl,(aM nR.out 1).trans rfl,(dz HB zN :),(dz HB zM :)⟩ (fun hHeld=>?_);clear hK K;refine dn (a':=?_) ?_ ?_;rotate_left
   ·show Act.put _ (some 20) _=_
    simp only [Act.put,sL,ay,aA]
    rfl
   refine gZ (i:=14) (N:=some 21) (bA 17 32767) rfl rfl (jq fq.out tX) (by decide) (fun K hK=>?_);refine gK Tryz.func211 tX rfl #[.slice qa4 t157.length qa5] (by rfl) rfl rfl tM ?_
   with_reducible refine (gH.calls k _ _ t157 t160 _ ?bK ?bL A8.out).mono ?_
   (case bK=>repeat (first|exact (Kd.eB EA.out).2.2|(with_reducible refine Kd.bM ?_ _)|(with_reducible refine Kd.bN ?_ _)|(with_reducible refine Kd.cO ?_)))
   (case bL=>exact (Kd.eB EA.out).2.1)
   rintro e Mf ⟨qoF,rfl,ho0,hb⟩;refine ⟨_,rfl,?_⟩;replace EA:=tZ EA hb;have J7:=aj.mk (Kd.dZ (Kd.wY ho0 (Kd.vR (qCo Cb))) (bD tB));replace Cb:=aj.mk (Kd.qE (qCo Cb) (Kd.iF ho0) hb);replace nR:=bW nR hb;replace HB:=dL HB hb
   (try clear hb)
   (try clear hb2)
   (try clear hk)
   (try clear hi)
   (try clear ho0)
   obtain ⟨qa6,qa7,Tz⟩:=Kd.jc Cb.out
   (first|subst Tz|(injection Tz with FX Ra FY;have Rb:=FX.symm;have Rf:=FY.symm;clear FX Ra FY;subst Rb;subst Rf))
   obtain ⟨TA,TB,MU⟩:=Kd.jc J7.out
   (first|subst MU|(injection MU with FX Ra FY;have Rb:=FX.symm;have Rf:=FY.symm;clear FX Ra FY;subst Rb;subst Rf))
   refine hK.out _ _ ⟨(aM nR.out 0).trans rfl,(aM nR.out 1).trans rfl,(dz HB zN :),(dz HB zM :)⟩ (fun hHeld=>?_);clear hK K;refine dn (a':=?_) ?_ ?_;rotate_left
   ·show Act.put _ (some 21) _=_
    simp only [Act.put,sL,ay,aA]
    rfl
   refine gZ (i:=15) (N:=some 22) (bA 17 65535) rfl rfl (jq fq.out tX) (by decide) (fun K hK=>?_);refine gK Tryz.func160 tX rfl #[.agg #[.slice (some J6) av.length aZ],.slice A1 l1.length c1,.int .i64 a2,.slice qa6 t154.length qa7,.slice TA t160.length TB] (by rfl) rfl rfl tM ?_
   with_reducible refine (cK.calls k _ _ av _ _ l1 a2 _ _ t154 _ _ t160 t163 _ ?bK ?bL ?fM ?fO ?jI ?zL ?J3 ?J4 A9.out).mono ?_
   (case bK=>exact cS dM)
   (case bL=>exact fu.out)
   (case fM=>exact cS HR1)
   (case fO=>exact yE.out)
   (case jI=>repeat (first|exact (Kd.eB Cb.out).2.2|(with_reducible refine Kd.bM ?_ _)|(with_reducible refine Kd.bN ?_ _)|(with_reducible refine Kd.cO ?_)))
   (case zL=>exact (Kd.eB Cb.out).2.1)
   (case J3=>repeat (first|exact (Kd.eB J7.out).2.2|(with_reducible refine Kd.bM ?_ _)|(with_reducible refine Kd.bN ?_ _)|(with_reducible refine Kd.cO ?_)))
   (case J4=>exact (Kd.eB J7.out).2.1)
   rintro e VN ⟨rfl,hb⟩;refine ⟨_,rfl,?_⟩;replace Cb:=tZ Cb hb;replace EA:=tZ EA hb;replace J7:=tZ J7 hb;replace nR:=bW nR hb;replace HB:=dL HB hb
   (try clear hb)
   (try clear hb2)
   (try clear hk)
   (try clear hi)
   refine hK.out _ _ ⟨(aM nR.out 0).trans rfl,(aM nR.out 1).trans rfl,(dz HB zN :),(dz HB zM :)⟩ (fun hHeld=>?_);clear hK K;refine dn (a':=?_) ?_ ?_;rotate_left
   ·show Act.put _ (some 22) _=_
    simp only [Act.put,sL,ay,aA]
    rfl
   refine pS 16 6 (bA 17 131071) fq ?_;refine lK (qU fq.out tX) ?_
   try go_wp2
   go_ret
   exact ⟨tF,tB⟩
  ·rw [if_neg c5] at H
   exact absurd H (by simp)
 ·rw [if_neg c4] at H
  exact absurd H (by simp)
def iI.f (h:List bI) (ws:List Int) (l:List bB) (d:Int):Option (Int × Int):=(dR.f 1000 h ws l d).bind fun a=>(fB.f 1000 h ws l d).map fun b=>(a,b)
theorem iI.calls (bC:Option Addr) (aZ:Nat) (av:List bI) (nP:Option Addr) (mY:Nat) (gu:List Int) (A1:Option Addr) (c1:Nat) (l1:List bB) (a2:Int) (r1:Int) (r2:Int) (w:World) (dw:Kd.C iG w bC av.length av) (dG:av.length<=aZ) (sV:Kd.C (Kd.int .i64) w nP gu.length gu) (vw:gu.length<=mY) (hr1:Kd.C eD w A1 l1.length l1) (hc1:l1.length<=c1) (h:iI.f av gu l1 a2=some (r1,r2)) :
  Calls Tryz.prog 107 #[.agg #[.slice bC av.length aZ,.slice nP gu.length mY],.slice A1 l1.length c1,.int .i64 a2] w fun e w'=>e=.returned (.agg #[.int .i64 r1,.int .i64 r2])∧Below w.heap.size w w':=by
 have HX:=Bx.nil w
 unfold iI.f at h
 obtain ⟨x1,h1,h⟩:=Option.bind_eq_some_iff.1 h;obtain ⟨x2,h2,h⟩:=Option.map_eq_some_iff.1 h
 obtain ⟨rfl,rfl⟩:x1=r1∧x2=r2:=by injection h with e1 e2;exact ⟨e1,e2⟩
 have K1:=fun w1 (hb:Below w.heap.size w w1)=>dR.calls 1000 bC aZ av nP mY gu A1 c1 l1 a2 x1 w1 (Kd.ak dw hb) dG (Kd.ak sV hb) vw (Kd.ak hr1 hb) hc1 h1
 have K2:=fun w1 (hb:Below w.heap.size w w1)=>fB.calls 1000 bC aZ av nP mY gu A1 c1 l1 a2 x2 w1 (Kd.ak dw hb) dG (Kd.ak sV hb) vw (Kd.ak hr1 hb) hc1 h2
 clear h1 h2 h dw sV hr1
 have hmf:∀ (fn:Fn) (first cap:Array Value) (w:World),(Instr.makeFunc fn first cap).run Tryz.prog w=.ok (.func fn first cap) w:=fun _ _ _ _=>rfl
 have i0:∀ w,(Instr.index 212 (.agg #[.func (.func 170) #[.agg #[.slice bC av.length aZ,.slice nP gu.length mY]] #[],.func (.func 171) #[.agg #[.slice bC av.length aZ,.slice nP gu.length mY]] #[]]) (.int .i64 0)).run Tryz.prog w=.ok (.func (.func 170) #[.agg #[.slice bC av.length aZ,.slice nP gu.length mY]] #[]) w:=fun _=>by kernel_rfl
 have i1:∀ w,(Instr.index 212 (.agg #[.func (.func 170) #[.agg #[.slice bC av.length aZ,.slice nP gu.length mY]] #[],.func (.func 171) #[.agg #[.slice bC av.length aZ,.slice nP gu.length mY]] #[]]) (.int .i64 1)).run Tryz.prog w=.ok (.func (.func 171) #[.agg #[.slice bC av.length aZ,.slice nP gu.length mY]] #[]) w:=fun _=>by kernel_rfl
 have jY:=Tryz.underlying37;have wR:=Tryz.underlying149
 go_enter Tryz.func107,Tryz.ntmps107
 go_wp2_with (first|((with_reducible refine au (N:=3) rfl ?_);refine newX rfl rfl HX (cs:=#[.slice bC av.length aZ,.slice nP gu.length mY]) (t:=149) tG ?_;clear HX;intro g3 w3 HX hx hz;clear hx hz)|((with_reducible refine au (N:=6) rfl ?_);refine newX rfl rfl HX (cs:=#[.int .i64 0,.int .i64 0]) (t:=37) tG ?_;clear HX;intro g6 w6 HX hx hz;clear hx hz)|((with_reducible refine au (N:=7) rfl ?_);refine newX rfl rfl HX (cs:=#[.int .i64 0,.int .i64 0]) (t:=210) tG ?_;clear HX;intro g7 w7 HX hx hz;clear hx hz;have ch:=HX.g2 2 rfl;obtain ⟨FC,J8⟩:=ch))
 refine wp_loop_rounds 3 ?_;rw [rounds_succ]
 go_wp2_with (first|(go_at_call 170;(with_reducible refine (K1 _ HX.below).mono ?_);rintro e w1 ⟨rfl,hx⟩;replace HX:=HX.step hx;clear hx FC J8;have ch:=HX.g2 0 rfl;obtain ⟨FC,J8⟩:=ch)|((with_reducible refine aY (t:=3) (p:=24) rfl ?_);refine jZ rfl rfl rfl HX 0 rfl (i:=0) (.int .i64 x1) [.int .i64 x1] #[.int .i64 x1,.int .i64 0] rfl rfl rfl tX (by simp) (by simp [Value.oneCell']) rfl ?_;clear HX FC J8;intro w1 HX hx;clear hx;dsimp only [List.set] at HX;have ch:=HX.g2 0 rfl;obtain ⟨FC,J8⟩:=ch))
 rw [rounds_succ]
 go_wp2_with (first|(go_at_call 171;(with_reducible refine (K2 _ HX.below).mono ?_);rintro e w1 ⟨rfl,hx⟩;replace HX:=HX.step hx;clear hx FC J8;have ch:=HX.g2 0 rfl;obtain ⟨FC,J8⟩:=ch)|((with_reducible refine aY (t:=3) (p:=24) rfl ?_);refine jZ rfl rfl rfl HX 0 rfl (i:=1) (.int .i64 x2) [.int .i64 x2] #[.int .i64 x1,.int .i64 x2] rfl rfl rfl tX (by simp) (by simp [Value.oneCell']) rfl ?_;clear HX FC J8;intro w1 HX hx;clear hx;dsimp only [List.set] at HX;have ch:=HX.g2 0 rfl;obtain ⟨FC,J8⟩:=ch))
 rw [rounds_succ]
 go_wp2_with (first|((with_reducible refine aY (t:=37) (p:=6) rfl ?_);refine jZ rfl rfl rfl HX 1 rfl (i:=0) (.agg #[.int .i64 x1,.int .i64 x2]) [.int .i64 x1,.int .i64 x2] #[.int .i64 x1,.int .i64 x2] rfl rfl rfl tX (by simp) (by simp [Value.oneCell']) rfl ?_;clear HX FC J8;intro w1 HX hx;clear hx;dsimp only [List.set] at HX))
 refine bodyPost_ret (results_cell_row rfl _ _ g6 37 #[.int .i64 x1,.int .i64 x2] (0,0) _ rfl (HX.gb 1 rfl) Tryz.underlying37 rfl tX) rfl ?_;exact ⟨rfl,HX.below⟩
mutual
def gI.j0:Nat->List bB->Bool->List bI->Option ((List bQ) × Int)
 | 0,_,_,_=>none
 | k+1,x1,Q8,zO=>if Q8=true then (some (([]:List bQ),2)) else (gI.l0 k x1 ([]:List bQ) (zO.length:Int) 0 zO)
def gI.l0:Nat->List bB->List bQ->Int->Int->List bI->Option ((List bQ) × Int)
 | 0,_,_,_,_,_=>none
 | k+1,x1,x6,x19,x20,zO=>if x20<x19 then ((iI.f zO ([]:List Int) x1 x20).bind fun Zj=>(if x6.length<8796093022208 then (gI.l0 k x1 (x6++[(⟨Zj.1,Zj.2⟩:bQ)]) x19 (wrap64 (x20+1)) zO) else (none))) else (some (x6,0))
end
def gI.f (k:Nat) (av:List bI) (l1:List bB):Option ((List bQ) × Int):=(eG.f av).bind fun t165=>(if t165=true then ((eZ.f av l1).bind fun t166=>(gI.j0 k l1 (!t166) av)) else (gI.j0 k l1 true av))
theorem gI.calls (k:Nat) (bC:Option Addr) (aZ:Nat) (av:List bI) (A1:Option Addr) (c1:Nat) (l1:List bB) (r1:List bQ) (r2:Int) (w:World) (dw:Kd.C iG w bC av.length av) (dG:av.length<=aZ) (hr1:Kd.C eD w A1 l1.length l1) (hc1:l1.length<=c1) (h:gI.f k av l1=some (r1,r2)) :
  Calls Tryz.prog 29 #[.agg #[.slice bC av.length aZ],.slice A1 l1.length c1] w fun e w'=>∃ lM:Value,e=.returned (.tuple #[lM,.int .i64 r2])∧Kd.R jW 37 w' w.heap.size (fun _=>True) lM r1∧Below w.heap.size w w':=by
 have qb:=Tryz.underlying24;have wR:=Tryz.underlying149;have dM:=aj.mk dw;have fu:=aj.mk dG;clear dw dG;have HR1:=aj.mk hr1;have yE:=aj.mk hc1;clear hr1 hc1;have HB:=aj.mk (Below.refl w.heap.size w);have H:((eG.f av).bind fun t165=>(if t165=true then ((eZ.f av l1).bind fun t166=>(gI.j0 k l1 (!t166) av)) else (gI.j0 k l1 true av)))=some (r1,r2):=h;clear h;have R9:=aj.mk H;clear H
 go_enter Tryz.func29,Tryz.ntmps29
 go_upto_region 1 with (first|((with_reducible refine au (N:=2) rfl ?_);refine fA 2 #[.slice bC av.length aZ] 24 HB ?_;clear HB;intro TH w4 hg nG qlF HB hb;clear hb hg))
 (try simp only [Act.put,sL])
 go_cut [16] (fun v16 wc=>∃ (kq:Nat) (Pf:Bool),v16=.bool Pf∧aj (gI.j0 kq l1 Pf av=some (r1,r2))∧aj (kq<=k)∧aj (wc.heap[TH]?=some (.cells #[(.slice bC av.length aZ)] 24 (0,0)))∧aj (Below w.heap.size w wc))
 case first =>
  have H:=R9.out;clear R9;obtain ⟨t165,A5,H⟩:=nU H
  by_cases c6:t165=true
  ·subst c6
   rw [if_pos rfl] at H;obtain ⟨t166,A7,H⟩:=nU H;have H':=aj.mk H;clear H;have yY:=bc1 nG;have yZ:=bf nG 0
   go_wp2_with (first|((with_reducible refine aG (f:=105) rfl ?_);refine bX (some 9) rfl rfl Tryz.func105 tX rfl #[.agg #[.slice bC av.length aZ]] rfl tM ?_;(with_reducible refine (eG.calls _ _ av true _ ?bK ?bL A5.out).mono ?_);(case bK=>exact cS dM);(case bL=>exact fu.out);rintro e w9 ⟨rfl,hb⟩;refine ⟨_,rfl,?_⟩;replace nG:=bW nG hb;replace HB:=dL HB hb;(try clear hb);have yA:=bc1 nG;have yB:=bf nG 0)|(go_at_call 106;(with_reducible refine (eZ.calls _ _ av _ _ l1 t166 _ ?bK ?bL ?fM ?fO A7.out).mono ?_);(case bK=>exact cS dM);(case bL=>exact fu.out);(case fM=>exact cS HR1);(case fO=>exact yE.out);rintro e Jc ⟨rfl,hb⟩;replace nG:=bW nG hb;replace HB:=dL HB hb;(try clear hb)))
   go_meet
   case rel=>exact ⟨_,(!t166),tS,H',⟨by first|omega|exact Nat.le_refl _⟩,⟨(qB2 nG)⟩,⟨tB⟩⟩
  ·replace c6:=Bool.eq_false_iff.mpr c6
   subst c6
   have H1:(gI.j0 k l1 true av)=some (r1,r2):=by rw [if_neg (show ¬ (false=true) by decide)] at H;exact H
   clear H;have H:=H1;clear H1;have H':=aj.mk H;clear H;have yC:=bc1 nG;have yD:=bf nG 0
   go_wp2_with (first|((with_reducible refine aG (f:=105) rfl ?_);refine bX (some 9) rfl rfl Tryz.func105 tX rfl #[.agg #[.slice bC av.length aZ]] rfl tM ?_;(with_reducible refine (eG.calls _ _ av false _ ?bK ?bL A5.out).mono ?_);(case bK=>exact cS dM);(case bL=>exact fu.out);rintro e w13 ⟨rfl,hb⟩;refine ⟨_,rfl,?_⟩;replace nG:=bW nG hb;replace HB:=dL HB hb;(try clear hb)))
   go_meet
   case rel=>exact ⟨_,(true),tS,H',⟨by first|omega|exact Nat.le_refl _⟩,⟨(qB2 nG)⟩,⟨tB⟩⟩
 case rest =>
  clear R9
  try clear c1
  try clear c2
  try clear p2
  try clear c6
  try clear c10
  try clear yA
  try clear yC
  try clear yY
  try clear yB
  try clear yD
  try clear yZ
  obtain ⟨kq,Pf,rfl,HA,HJ2,nG,HB⟩:=hcut
  cases kq with
  | zero=>exact absurd HA.out (by simp [gI.j0])
  | succ kj2 =>
   have H:=HA.out;clear HA;simp only [gI.j0] at H
   by_cases c14:Pf=true
   ·subst c14
    rw [if_pos rfl] at H;simp only [Option.some.injEq,Prod.mk.injEq] at H;obtain ⟨rfl,rfl⟩:=H
    go_wp2
    go_ret2
    exact ⟨_,tF,by first|exact Kd.mI _ _ _ _ _|exact Kd.wN _ _ _ _ _|exact Kd.wP _ _ _ _ _|exact Kd.wK _ _ _ _ _|exact Kd.wM _ _ _ _ _,tB⟩
   ·replace c14:=Bool.eq_false_iff.mpr c14
    subst c14
    have H1:(gI.l0 kj2 l1 ([]:List bQ) (av.length:Int) 0 av)=some (r1,r2):=by rw [if_neg (show ¬ (false=true) by decide)] at H;exact H
    clear H;have H:=H1;clear H1;have H':=aj.mk H;clear H;have yw:=bc1 nG;have yx:=bf nG 0
    go_wp2
    go_loopg [6,20] kj2 (fun kq v6 v20 w'=>∃ (Rh:List bQ) (yQ:Int),v20=.int .i64 yQ∧aj (gI.l0 kq l1 Rh (av.length:Int) yQ av=some (r1,r2))∧aj (kq<=kj2)∧aj (Kd.R jW 37 w' w.heap.size (fun _=>True) v6 Rh)∧aj (w'.heap[TH]?=some (.cells #[(.slice bC av.length aZ)] 24 (0,0)))∧aj (Below w.heap.size w w'))
    case atStart=>exact ⟨(([]:List bQ)),(0),tS,H',⟨Nat.le_refl _⟩,⟨by first|exact Kd.mI _ _ _ _ _|exact Kd.wN _ _ _ _ _|exact Kd.wP _ _ _ _ _|exact Kd.wK _ _ _ _ _|exact Kd.wM _ _ _ _ _⟩,⟨(qB2 nG)⟩,⟨tB⟩⟩
    case round =>
     clear H'
     try clear c1
     try clear c2
     try clear p2
     try clear c6
     try clear c10
     try clear c14
     try clear yA
     try clear yC
     try clear yw
     try clear yY
     try clear yB
     try clear yD
     try clear yx
     try clear yZ
     try clear p2
     obtain ⟨Rh,yQ,rfl,HA,VO,WS,nG,HB⟩:=hrel
     cases gk with
     | zero=>exact absurd HA.out (by simp [gI.l0])
     | succ k2 =>
      have H:=HA.out;clear HA;simp only [gI.l0] at H
      by_cases c16:yQ<(av.length:Int)
      ·rw [if_pos c16] at H
       have qdI:decide (yQ<(av.length:Int))=true:=decide_eq_true c16;clear c16;obtain ⟨⟨t167,t168⟩,qdJ,H⟩:=bs H;have A17:=aj.mk qdJ;clear qdJ
       by_cases c18:Rh.length<8796093022208
       ·rw [if_pos c18] at H
        have qdK:=aj.mk c18;clear c18;obtain ⟨qdL,J9⟩:∃ y_:List bQ,y_=(Rh++[(⟨t167,t168⟩:bQ)]):=⟨_,rfl⟩
        replace H:(gI.l0 k2 l1 qdL (av.length:Int) (wrap64 (yQ+1)) av)=some (r1,r2):=by first|(rw [J9];with_reducible exact H)|(have jr:=(Option.bind_some _ _).symm.trans H;rw [J9];with_reducible exact jr)|(have jr:=(Option.bind_some _ _).symm.trans H;with_reducible exact jr)|with_reducible exact H|(rw [J9];exact H)|exact H
        have qdM:=aj.mk J9;clear J9;have H':=aj.mk H;clear H;have Pg:=bc1 nG;have Ph:=bf nG 0
        go_wp2_with (first|((with_reducible refine aG (f:=107) rfl ?_);refine bX (some 28) rfl rfl Tryz.func107 tX rfl #[.agg #[.slice bC av.length aZ,.slice none 0 0],.slice A1 l1.length c1,.int .i64 yQ] rfl tM ?_;(refine (iI.calls _ _ av _ _ ([]:List Int) _ _ l1 yQ t167 t168 _ ?bK ?bL ?fM ?fO ?jI ?zL A17.out).mono ?_);(case bK=>exact cS dM);(case bL=>exact fu.out);(case fM=>exact Kd.Oh _ _);(case fO=>exact Nat.le_refl _);(case jI=>exact cS HR1);(case zL=>exact yE.out);rintro e w20 ⟨rfl,hb⟩;refine ⟨_,rfl,?_⟩;replace WS:=tZ WS hb;replace nG:=bW nG hb;replace HB:=dL HB hb;(try clear hb))|((with_reducible refine eY (b:=.append) (xs:=#[.tmp 23,.tmp 29]) rfl ?_);at_builtin;refine Kd.sO jW (w0:=w) w.heap.size rfl (.tmp 23) (.tmp 29) 28 37 (.agg #[(.int .i64 0),(.int .i64 0)]) 16 rfl Tryz.underlying28 SQ rfl (by decide) (by omega) u6 Rh (⟨t167,t168⟩:bQ) [.int .i64 t167,.int .i64 t168] (fun _=>True) (fun _=>False) rfl rfl ?aP (fun _ hk=>hk.elim) ?aF ?aO ?aB ?aS ?aL ?_;(case aP=>exact lu _ _ _ (⟨t167,t168⟩:bQ));(case aB=>exact tB);(case aF=>exact (fun _ _=>trivial));(case aO=>exact (qCo WS));(case aS=>exact (bD tB));(case aL=>have:=qdK.out;omega);intro qoH w21 ho hb hg hat;rw [← qdM.out] at ho;replace nG:=aj.mk (jF (g:=TH) (o:=.cells #[.slice bC av.length aZ] 24 (0,0)) (qB2 nG) hg (Kd.DZ WS.out nG.out (by decide)));replace HB:=aj.mk (hb);have qlG:=aj.mk (ho);clear WS;clear ho hb hg hat))
        go_roundg k2
        case measure=>have:=HJ2.out;have:=VO.out;omega
        case rel=>exact ⟨(qdL),(wrap64 (yQ+1)),tS,H',⟨by have:=HJ2.out;have:=VO.out;omega⟩,⟨(qCo qlG)⟩,⟨(qB2 nG)⟩,⟨tB⟩⟩
       ·rw [if_neg c18] at H
        exact absurd H (by simp)
      ·rw [if_neg c16] at H
       have qdI:decide (yQ<(av.length:Int))=false:=decide_eq_false c16;clear c16;simp only [Option.some.injEq,Prod.mk.injEq] at H;obtain ⟨rfl,rfl⟩:=H
       go_wp2
       go_ret2
       exact ⟨_,tF,(qCo WS),tB⟩
def gJ.f (bq:Int) (aU:Int):Option Bool:=(fJ.f bq aU 0 200 4).bind fun t175=>(some t175)
theorem gJ.calls (bq:Int) (aU:Int) (r:Bool) (w:World) (h:gJ.f bq aU=some r) :
  Calls Tryz.prog 117 #[.agg #[.int .i64 bq,.int .i64 aU]] w fun e w'=>e=.returned (.bool r)∧Below w.heap.size w w':=by
 have jY:=Tryz.underlying37;have HB:=aj.mk (Below.refl w.heap.size w);have H:((fJ.f bq aU 0 200 4).bind fun t175=>(some t175))=some r:=h;clear h;obtain ⟨t175,A2,H⟩:=nU H;obtain rfl:=Option.some.inj H
 go_enter Tryz.func117,Tryz.ntmps117
 go_wp2_with (first|((with_reducible refine au (N:=1) rfl ?_);refine fA 1 #[.int .i64 bq,.int .i64 aU] 37 HB ?_;clear HB;intro qlH w3 hg Ka qlI HB hb;clear hb hg;obtain ⟨yT,Ei⟩:=bc2 Ka;have yU:=bf Ka 0;have Ej:=bf Ka 1)|((with_reducible refine aG (f:=167) rfl ?_);refine bX (some 4) rfl rfl Tryz.func167 tX rfl #[.agg #[.int .i64 bq,.int .i64 aU],.int .i64 0,.int .i64 200,.int .i64 4] rfl tM ?_;(with_reducible refine (fJ.calls bq aU 0 200 4 t175 _ A2.out).mono ?_);rintro e w5 ⟨rfl,hb⟩;refine ⟨_,rfl,?_⟩;replace Ka:=bW Ka hb;replace HB:=dL HB hb;(try clear hb)))
 go_ret
 exact ⟨tF,tB⟩
def mZ.f (a0:Int):Option Bool:=(dW.f a0 (-9) 9).bind fun t192=>(some (!t192))
theorem mZ.calls (a0:Int) (r:Bool) (w:World) (h:mZ.f a0=some r) :
  Calls Tryz.prog 173 #[.int .i64 a0] w fun e w'=>e=.returned (.bool r)∧gU w w':=by
 have H:((dW.f a0 (-9) 9).bind fun t192=>(some (!t192)))=some r:=h;clear h;obtain ⟨t192,A2,H⟩:=nU H;obtain rfl:=Option.some.inj H
 go_enter Tryz.func173,Tryz.ntmps173
 go_wp2_with (first|((with_reducible refine aG (f:=113) rfl ?_);refine bX (some 4) rfl rfl Tryz.func113 tX rfl #[.int .i64 a0,.int .i64 (-9),.int .i64 9] rfl tM ?_;(with_reducible refine (dW.calls a0 (-9) 9 t192 _ A2.out).mono ?_);rintro e w' ⟨rfl,⟨nd,rfl⟩⟩;refine ⟨_,rfl,?_⟩))
 go_ret
 exact ⟨tS,tD⟩
def sD.f (l0:List Int):Option Bool:=CG (fun x=>mZ.f x) l0
theorem sD.calls (A0:Option Addr) (c0:Nat) (l0:List Int) (r:Bool) (w:World) (hr0:Kd.C (Kd.int .i64) w A0 l0.length l0) (hc0:l0.length<=c0) (h:sD.f l0=some r) :
  Calls Tryz.prog 142 #[.slice A0 l0.length c0,.func (.func 173) #[] #[]] w fun e w'=>e=.returned (.bool r)∧Below w.heap.size w w':=by
 obtain ⟨hs,rfl⟩:=qc h;refine cf3 (fun x=>mZ.f x == some true) 173 #[] A0 c0 l0 w hr0 (enters_of Tryz.func173 tX rfl) (fun x hx=>⟨fun W cs hb hK=>?_⟩);obtain rfl:=hK
 exact (mZ.calls _ _ W (hs x hx)).mono fun e w' h=>⟨h.1,h.2.below⟩
def iJ.f (av:List bI) (bF:List Int):Option Bool:=if (bF.length:Int)=(av.length:Int) then ((sD.f bF).bind fun t195=>(some (!t195))) else (some false)
theorem iJ.calls (bC:Option Addr) (aZ:Nat) (av:List bI) (fP:Option Addr) (fK:Nat) (bF:List Int) (r:Bool) (w:World) (dw:Kd.C iG w bC av.length av) (dG:av.length<=aZ) (jU:Kd.C (Kd.int .i64) w fP bF.length bF) (mM:bF.length<=fK) (h:iJ.f av bF=some r) :
  Calls Tryz.prog 116 #[.agg #[.slice bC av.length aZ],.agg #[.slice fP bF.length fK]] w fun e w'=>e=.returned (.bool r)∧Below w.heap.size w w':=by
 have qb:=Tryz.underlying24;have GQ:=Tryz.underlying49;have dM:=aj.mk dw;have fu:=aj.mk dG;clear dw dG;have EB:=aj.mk jU;have EC:=aj.mk mM;clear jU mM;have HB:=aj.mk (Below.refl w.heap.size w);have H:(if (bF.length:Int)=(av.length:Int) then ((sD.f bF).bind fun t195=>(some (!t195))) else (some false))=some r:=h;clear h
 by_cases c3:(bF.length:Int)=(av.length:Int)
 ·rw [if_pos c3] at H
  have qd:((bF.length:Int) == (av.length:Int))=true:=beq_iff_eq.mpr c3;have yX:((bF.length:Int) != (av.length:Int))=false:=bne_eq_false_iff_eq.mpr c3
  have Bo:(bF.length == av.length)=true:=by first|simpa using c3|(simp at c3 ⊢;omega)
  clear c3;obtain ⟨t195,A4,H⟩:=nU H;obtain rfl:=Option.some.inj H
  go_enter Tryz.func116,Tryz.ntmps116
  go_wp2_with (first|((with_reducible refine au (N:=2) rfl ?_);refine fA 2 #[.slice bC av.length aZ] 24 HB ?_;clear HB;intro qdN w5 hg sW qdO HB hb;clear hb hg)|((with_reducible refine au (N:=3) rfl ?_);refine fA 3 #[.slice fP bF.length fK] 49 HB ?_;clear HB;intro qdP w6 hg ED qdQ HB hb;have Bp:=Fh sW hg;have Bq:=Fj sW hg;replace sW:=bW sW hb;clear hb hg;have qdR:=Bq.out;have qdS:=Bp.out;have yY:=bc1 ED;have yZ:=bf ED 0;have GZ:=bc1 sW;have G5:=bf sW 0)|(go_at_call 142;(with_reducible refine (sD.calls _ _ bF t195 _ ?bK ?bL A4.out).mono ?_);(case bK=>exact cS EB);(case bL=>exact EC.out);rintro e Lr ⟨rfl,hb⟩;replace sW:=bW sW hb;replace ED:=bW ED hb;replace HB:=dL HB hb;(try clear hb)))
  go_ret
  exact ⟨tF,tB⟩
 ·rw [if_neg c3] at H
  have qd:((bF.length:Int) == (av.length:Int))=false:=beq_eq_false_iff_ne.mpr c3;have yX:((bF.length:Int) != (av.length:Int))=true:=bne_iff_ne.mpr c3
  have Bo:(bF.length == av.length)=false:=by first|simpa using c3|(simp at c3 ⊢;omega)
  obtain rfl:=Option.some.inj H
  go_enter Tryz.func116,Tryz.ntmps116
  go_wp2_with (first|((with_reducible refine au (N:=2) rfl ?_);refine fA 2 #[.slice bC av.length aZ] 24 HB ?_;clear HB;intro qdN Jc hg sW qdO HB hb;clear hb hg)|((with_reducible refine au (N:=3) rfl ?_);refine fA 3 #[.slice fP bF.length fK] 49 HB ?_;clear HB;intro qdP yO hg ED qdQ HB hb;have Bp:=Fh sW hg;have Bq:=Fj sW hg;replace sW:=bW sW hb;clear hb hg;have qdT:=Bq.out;have qdU:=Bp.out;have Pj:=bc1 ED;have Pk:=bf ED 0;have yw:=bc1 sW;have yx:=bf sW 0))
  go_ret
  exact ⟨tF,tB⟩
theorem qbc (gb:Nat) (A:Option Addr) (c:Nat) (l:List bI) (A1:Option Addr) (c1:Nat) (l1:List Int) (r:Bool) (w:World) (hb:w.heap[gb]?=some (.cells #[.slice A l.length c] 24 (0,0)))
  (hr:Kd.C iG w A l.length l) (hc:l.length<=c) (hr1:Kd.C (Kd.int .i64) w A1 l1.length l1) (hc1:l1.length<=c1) (h:iJ.f l l1=some r) :
  Calls Tryz.prog 115 #[.agg #[.slice A1 l1.length c1],.pointer (some ⟨gb,0,none⟩)] w fun e w'=>e=.returned (.bool !r)∧Below w.heap.size w w':=by
 have HB:=aj.mk (Below.refl w.heap.size w);have HK:=aj.mk hb;have HR:=aj.mk hr;have HR1:=aj.mk hr1;have HI:=aj.mk h;clear hb hr hr1 h;have qb:=Tryz.underlying24;have GQ:=Tryz.underlying49
 go_enter Tryz.func115,Tryz.ntmps115
 go_wp2_with (first|((with_reducible refine au (N:=2) rfl ?_);refine ou ?hg (N:=2) ?hd (cs:=#[.slice A1 l1.length c1]) (t:=49) ?hr ?_;(case hd=>rfl);(case hg=>rfl);(case hr=>first|(go_simp;done)|(go_simp;rfl));intro gx hg w3 jX hx;replace HB:=eH HB hx;replace HK:=dQ HK hx;have c1:=fG jX;have c0:=fG HK.out;clear hg hx)|(go_at_call 116;(with_reducible refine (iJ.calls _ _ _ _ _ _ r _ (Kd.ak HR.out HB.out) hc (Kd.ak HR1.out HB.out) hc1 HI.out).mono ?_);rintro e w4 ⟨rfl,hx⟩;replace HB:=eH HB hx;clear hx))
 go_ret
 exact ⟨rfl,HB.out⟩
theorem qbd (gb:Nat) (A:Option Addr) (c:Nat) (l:List bI) (A1:Option Addr) (c1:Nat) (l1:List Int) (r:Bool) (w:World) (hb:w.heap[gb]?=some (.cells #[.slice A l.length c] 24 (0,0)))
  (hr:Kd.C iG w A l.length l) (hc:l.length<=c) (hr1:Kd.C (Kd.int .i64) w A1 l1.length l1) (hc1:l1.length<=c1) (h:iJ.f l l1=some r) :
  Calls Tryz.prog 178 #[.agg #[.slice A1 l1.length c1],.pointer (some ⟨gb,0,none⟩)] w fun e w'=>e=.returned (.bool !r)∧Below w.heap.size w w':=by
 have HB:=aj.mk (Below.refl w.heap.size w);have HK:=aj.mk hb;have HR:=aj.mk hr;have HR1:=aj.mk hr1;have HI:=aj.mk h;clear hb hr hr1 h;have qb:=Tryz.underlying24;have GQ:=Tryz.underlying49
 go_enter Tryz.func178,Tryz.ntmps178
 go_wp2_with (first|((with_reducible refine au (N:=2) rfl ?_);refine ou ?hg (N:=2) ?hd (cs:=#[.slice A1 l1.length c1]) (t:=49) ?hr ?_;(case hd=>rfl);(case hg=>rfl);(case hr=>first|(go_simp;done)|(go_simp;rfl));intro gx hg w3 jX hx;replace HB:=eH HB hx;replace HK:=dQ HK hx;have c1:=fG jX;have c0:=fG HK.out;clear hg hx)|(go_at_call 116;(with_reducible refine (iJ.calls _ _ _ _ _ _ r _ (Kd.ak HR.out HB.out) hc (Kd.ak HR1.out HB.out) hc1 HI.out).mono ?_);rintro e w4 ⟨rfl,hx⟩;replace HB:=eH HB hx;clear hx))
 go_ret
 exact ⟨rfl,HB.out⟩
def oG.f (l0:List nJ) (bF:List bI):Option Bool:=CG (fun x=>(iJ.f bF x.f0).map not) l0
theorem oG.calls {Hy:Nat} (A0:Option Addr) (c0:Nat) (l0:List nJ) (fP:Option Addr) (fK:Nat) (bF:List bI) (r:Bool) (w:World) (hr0:Kd.C Bf w A0 l0.length l0) (hc0:l0.length<=c0) (jU:Kd.C iG w fP bF.length bF) (mM:bF.length<=fK) (hb0:w.heap[Hy]?=some (.cells #[.slice fP bF.length fK] 24 (0,0))) (h:oG.f l0 bF=some r) :
  Calls Tryz.prog 114 #[.slice A0 l0.length c0,.func (.func 115) #[] #[.pointer (some ⟨Hy,0,none⟩)]] w fun e w'=>e=.returned (.bool r)∧Below w.heap.size w w':=by
 obtain ⟨hs,rfl⟩:=qc h;refine qdh (fun x=>(iJ.f bF x.f0).map not == some true) 115 #[.pointer (some ⟨Hy,0,none⟩)] A0 c0 l0 w hr0 (enters_of Tryz.func115 tX rfl) (fun x hx=>⟨fun W cs hb hK=>?_⟩);obtain ⟨A1,c1,rfl,hl,hC⟩:=Ef hK;obtain ⟨b,hf,hb2⟩:=Option.map_eq_some_iff.1 (hs x hx)
 exact (qbc Hy _ _ _ A1 c1 _ b W (aD hb0 hb) (Kd.ak jU hb) mM hC hl hf).mono fun e w' h=>⟨by rw [h.1,hb2],h.2⟩
def lS.f (l0:List nJ) (bF:List bI):Option Bool:=CG (fun x=>(iJ.f bF x.f0).map not) l0
theorem lS.calls {Hy:Nat} (A0:Option Addr) (c0:Nat) (l0:List nJ) (fP:Option Addr) (fK:Nat) (bF:List bI) (r:Bool) (w:World) (hr0:Kd.C Bf w A0 l0.length l0) (hc0:l0.length<=c0) (jU:Kd.C iG w fP bF.length bF) (mM:bF.length<=fK) (hb0:w.heap[Hy]?=some (.cells #[.slice fP bF.length fK] 24 (0,0))) (h:lS.f l0 bF=some r) :
  Calls Tryz.prog 114 #[.slice A0 l0.length c0,.func (.func 178) #[] #[.pointer (some ⟨Hy,0,none⟩)]] w fun e w'=>e=.returned (.bool r)∧Below w.heap.size w w':=by
 obtain ⟨hs,rfl⟩:=qc h;refine qdh (fun x=>(iJ.f bF x.f0).map not == some true) 178 #[.pointer (some ⟨Hy,0,none⟩)] A0 c0 l0 w hr0 (enters_of Tryz.func178 tX rfl) (fun x hx=>⟨fun W cs hb hK=>?_⟩);obtain ⟨A1,c1,rfl,hl,hC⟩:=Ef hK;obtain ⟨b,hf,hb2⟩:=Option.map_eq_some_iff.1 (hs x hx)
 exact (qbd Hy _ _ _ A1 c1 _ b W (aD hb0 hb) (Kd.ak jU hb) mM hC hl hf).mono fun e w' h=>⟨by rw [h.1,hb2],h.2⟩
end Go.Proofs.YtnpfbjnjdngkhaaGreatDoor.P
