/- For every input the law returns true, its arguments read behind the call as before; condition: the listed package-level tables hold what the program's text lays (the card ties them). -/
import Derived.Test.YtnpfbjnjdngkhaaGreatDoorTie
import Derived.Test.YtnpfbjnjdngkhaaGreatDoorCards
import Derived.SevenTiedAt
import Derived.Test.YtnpfbjnjdngkhaaGreatDoorL4x0
set_option maxHeartbeats 8000000
set_option maxRecDepth 100000
set_option linter.unusedVariables false
set_option linter.unusedSimpArgs false
set_option linter.unusedSectionVars false
namespace Go.Proofs.YtnpfbjnjdngkhaaGreatDoor.P
open Go.RowKit Go.Proofs.YtnpfbjnjdngkhaaGreatDoorW.aQ Go.Proofs.YtnpfbjnjdngkhaaGreatDoorW.bO Go.Proofs.YtnpfbjnjdngkhaaGreatDoorW.bT
attribute [local go_sem] eP eT fU fV dS dU eU eX
mutual
def vg.l0:Nat->List bB->List bB->List Int->Int->List bI->List Int->Option (List Int)
 | 0,_,_,_,_,_,_=>none
 | k+1,x2,x3,x9,x10,qfE,qeL=>if x10<(qfE.length:Int) then ((qam.f k qfE x10 x2 x3).bind fun qec=>(if 12001<=281474976710656 then (vg.l1 k x2 x3 x9 x10 qec (List.replicate 12001 false) ([]:List Int) 0 qfE qeL) else (none))) else (some x9)
def vg.l1:Nat->List bB->List bB->List Int->Int->List Int->List Bool->List Int->Int->List bI->List Int->Option (List Int)
 | 0,_,_,_,_,_,_,_,_,_,_=>none
 | k+1,x2,x3,x9,x10,x11,Gb,VQ,OH,qfE,qeL=>if OH<(x9.length:Int) then (vg.l2 k x2 x3 x9 x10 x11 Gb VQ OH 0 qfE qeL) else (vg.l0 k x2 x3 VQ (wrap64 (x10+1)) qfE qeL)
def vg.l2:Nat->List bB->List bB->List Int->Int->List Int->List Bool->List Int->Int->Int->List bI->List Int->Option (List Int)
 | 0,_,_,_,_,_,_,_,_,_,_,_=>none
 | k+1,x2,x3,x9,x10,x11,Gb,VQ,OH,x15,qfE,qeL=>if x15<(x11.length:Int) then (if 0<=OH then (if OH<(x9.length:Int) then (if 0<=x10 then (if x10<(qeL.length:Int) then (if 0<=x15 then (if 0<=(wrap64 ((wrap64 ((rd x9 OH)+(wrap64 ((rd qeL x10)*(rd x11 x15)))))+6000)) then (if (wrap64 ((wrap64 ((rd x9 OH)+(wrap64 ((rd qeL x10)*(rd x11 x15)))))+6000))<(Gb.length:Int) then (if (Sl false Gb (wrap64 ((wrap64 ((rd x9 OH)+(wrap64 ((rd qeL x10)*(rd x11 x15)))))+6000))=true) then (vg.l2 k x2 x3 x9 x10 x11 Gb VQ OH (wrap64 (x15+1)) qfE qeL) else (if VQ.length<17592186044416 then (vg.l2 k x2 x3 x9 x10 x11 (Gb.set ((wrap64 ((wrap64 ((rd x9 OH)+(wrap64 ((rd qeL x10)*(rd x11 x15)))))+6000)):Int).toNat true) (VQ++[wrap64 ((rd x9 OH)+(wrap64 ((rd qeL x10)*(rd x11 x15))))]) OH (wrap64 (x15+1)) qfE qeL) else (none))) else (none)) else (none)) else (none)) else (none)) else (none)) else (none)) else (none)) else (vg.l1 k x2 x3 x9 x10 x11 Gb VQ (wrap64 (OH+1)) qfE qeL)
end
def vg.f (k:Nat) (av:List bI) (bF:List Int) (l2:List bB) (l3:List bB):Option (List Int):=vg.l0 k l2 l3 (([0]:List Int)) 0 av bF
theorem vg.calls (k:Nat) (bC:Option Addr) (aZ:Nat) (av:List bI) (fP:Option Addr) (fK:Nat) (bF:List Int) (A2:Option Addr) (c2:Nat) (l2:List bB) (A3:Option Addr) (c3:Nat) (l3:List bB) (r:List Int) (w:World) (dw:Kd.C iG w bC av.length av) (dG:av.length<=aZ) (jU:Kd.C (Kd.int .i64) w fP bF.length bF) (mM:bF.length<=fK) (hr2:Kd.C eD w A2 l2.length l2) (hc2:l2.length<=c2) (hr3:Kd.C eD w A3 l3.length l3) (hc3:l3.length<=c3) (h:vg.f k av bF l2 l3=some r) :
  Calls Tryz.prog 120 #[.agg #[.slice bC av.length aZ],.agg #[.slice fP bF.length fK],.slice A2 l2.length c2,.slice A3 l3.length c3] w fun e w'=>∃ lM:Value,e=.returned (lM)∧Kd.R (Kd.int .i64) 3 w' w.heap.size (fun _=>True) lM r∧Below w.heap.size w w':=by
 have qb:=Tryz.underlying24;have GQ:=Tryz.underlying49;have dM:=aj.mk dw;have fu:=aj.mk dG;clear dw dG;have EB:=aj.mk jU;have EC:=aj.mk mM;clear jU mM;have HR2:=aj.mk hr2;have HC2:=aj.mk hc2;clear hr2 hc2;have HR3:=aj.mk hr3;have R9:=aj.mk hc3;clear hr3 hc3;have HB:=aj.mk (Below.refl w.heap.size w);have H:(vg.l0 k l2 l3 (([0]:List Int)) 0 av bF)=some r:=h;clear h;obtain ⟨qwP,qp5⟩:∃ y_:List Int,y_=(([0]:List Int)):=⟨_,rfl⟩
 replace H:(vg.l0 k l2 l3 qwP 0 av bF)=some r:=by first|(rw [qp5];with_reducible exact H)|(have jr:=(Option.bind_some _ _).symm.trans H;rw [qp5];with_reducible exact jr)|(have jr:=(Option.bind_some _ _).symm.trans H;with_reducible exact jr)|with_reducible exact H|(rw [qp5];exact H)|exact H
 have qo0:=aj.mk qp5;clear qp5;have H':=aj.mk H;clear H
 go_enter Tryz.func120,Tryz.ntmps120
 go_wp2_with (first|((with_reducible refine au (N:=4) rfl ?_);refine fA 4 #[.slice bC av.length aZ] 24 HB ?_;clear HB;intro qfF w5 hg qcq qun HB hb;clear hb hg)|((with_reducible refine au (N:=5) rfl ?_);refine fA 5 #[.slice fP bF.length fK] 49 HB ?_;clear HB;intro qhy w6 hg qcv qup HB hb;have qiy:=Fh qcq hg;have qiz:=Fj qcq hg;replace qcq:=bW qcq hb;clear hb hg)|((with_reducible refine au (N:=17) rfl ?_);refine Kd.qD (Kd.int .i64) _ 3 ?hg (N:=17) ?hd (xs:=([0]:List Int)) (inner:=[.int .i64 0]) (ok:=fun _=>True) (nE:=fun _=>True) ?hr ?hp (fun _ hk=>hk) trivial (Below.refl _ _) (Nat.le_refl _) (by simp) ?_;(case hd=>rfl);(case hg=>rfl);(case hr=>first|(go_simp;done)|(go_simp;rfl));(case hp=>exact (dh.one (show Kd.M (Kd.int .i64) _ _ _ 0 [.int .i64 0] from rfl) (dh.none _ _)));intro qwQ w7 ho8 hb sS gV;clear sS gV;(first|rw [← qo0.out] at ho8|(simp only [Int.reduceToNat] at ho8;rw [← qo0.out] at ho8));have quq:=aj.mk (Kd.dZ ho8 (bD tB));replace qcq:=bW qcq hb;replace qcv:=bW qcv hb;replace HB:=dL HB hb;clear hb ho8))
 repeat (go_quiet (first|((with_reducible refine au (N:=4) rfl ?_);refine fA 4 #[.slice bC av.length aZ] 24 HB ?_;clear HB;intro qfF w5 hg qcq qun HB hb;clear hb hg)|((with_reducible refine au (N:=5) rfl ?_);refine fA 5 #[.slice fP bF.length fK] 49 HB ?_;clear HB;intro qhy w6 hg qcv qup HB hb;have qiy:=Fh qcq hg;have qiz:=Fj qcq hg;replace qcq:=bW qcq hb;clear hb hg)|((with_reducible refine au (N:=17) rfl ?_);refine Kd.qD (Kd.int .i64) _ 3 ?hg (N:=17) ?hd (xs:=([0]:List Int)) (inner:=[.int .i64 0]) (ok:=fun _=>True) (nE:=fun _=>True) ?hr ?hp (fun _ hk=>hk) trivial (Below.refl _ _) (Nat.le_refl _) (by simp) ?_;(case hd=>rfl);(case hg=>rfl);(case hr=>first|(go_simp;done)|(go_simp;rfl));(case hp=>exact (dh.one (show Kd.M (Kd.int .i64) _ _ _ 0 [.int .i64 0] from rfl) (dh.none _ _)));intro qwQ w7 ho8 hb sS gV;clear sS gV;(first|rw [← qo0.out] at ho8|(simp only [Int.reduceToNat] at ho8;rw [← qo0.out] at ho8));have quq:=aj.mk (Kd.dZ ho8 (bD tB));replace qcq:=bW qcq hb;replace qcv:=bW qcv hb;replace HB:=dL HB hb;clear hb ho8));try go_wp2_with (first|((with_reducible refine au (N:=4) rfl ?_);refine fA 4 #[.slice bC av.length aZ] 24 HB ?_;clear HB;intro qfF w5 hg qcq qun HB hb;clear hb hg)|((with_reducible refine au (N:=5) rfl ?_);refine fA 5 #[.slice fP bF.length fK] 49 HB ?_;clear HB;intro qhy w6 hg qcv qup HB hb;have qiy:=Fh qcq hg;have qiz:=Fj qcq hg;replace qcq:=bW qcq hb;clear hb hg)|((with_reducible refine au (N:=17) rfl ?_);refine Kd.qD (Kd.int .i64) _ 3 ?hg (N:=17) ?hd (xs:=([0]:List Int)) (inner:=[.int .i64 0]) (ok:=fun _=>True) (nE:=fun _=>True) ?hr ?hp (fun _ hk=>hk) trivial (Below.refl _ _) (Nat.le_refl _) (by simp) ?_;(case hd=>rfl);(case hg=>rfl);(case hr=>first|(go_simp;done)|(go_simp;rfl));(case hp=>exact (dh.one (show Kd.M (Kd.int .i64) _ _ _ 0 [.int .i64 0] from rfl) (dh.none _ _)));intro qwQ w7 ho8 hb sS gV;clear sS gV;(first|rw [← qo0.out] at ho8|(simp only [Int.reduceToNat] at ho8;rw [← qo0.out] at ho8));have quq:=aj.mk (Kd.dZ ho8 (bD tB));replace qcq:=bW qcq hb;replace qcv:=bW qcv hb;replace HB:=dL HB hb;clear hb ho8)))
 go_loopg [9,10] k (fun kq v9 v10 w'=>∃ (qcs:List Int) (dP:Int),v10=.int .i64 dP∧aj (vg.l0 kq l2 l3 qcs dP av bF=some r)∧aj (kq<=k)∧aj (Kd.R (Kd.int .i64) 3 w' w.heap.size (fun _=>True) v9 qcs)∧aj (w'.heap[qfF]?=some (.cells #[(.slice bC av.length aZ)] 24 (0,0)))∧aj (w'.heap[qhy]?=some (.cells #[(.slice fP bF.length fK)] 49 (0,0)))∧aj (Below w.heap.size w w'))
 case atStart=>exact ⟨(qwP),(0),tS,H',⟨Nat.le_refl _⟩,⟨(qCo quq)⟩,⟨(qB2 qcq)⟩,⟨(qB2 qcv)⟩,⟨tB⟩⟩
 case round =>
  clear H'
  try clear c1
  try clear c2
  try clear p2
  try clear c3
  obtain ⟨qcs,dP,rfl,HA,qg,qcr,qcq,qcv,HB⟩:=hrel
  cases gk with
  | zero=>exact absurd HA.out (by simp [vg.l0])
  | succ k1 =>
   have H:=HA.out;clear HA;simp only [vg.l0] at H
   by_cases c9:dP<(av.length:Int)
   ·rw [if_pos c9] at H
    have Q9:decide (dP<(av.length:Int))=true:=decide_eq_true c9;clear c9;obtain ⟨qec,Lp,H⟩:=nU H
    by_cases c11:12001<=281474976710656
    ·rw [if_pos c11] at H
     have qdp:=eq_true c11;have qjP:decide (12001<=281474976710656)=true:=decide_eq_true c11;clear c11;obtain ⟨qwR,qp7⟩:∃ y_:List Bool,y_=(List.replicate 12001 false):=⟨_,rfl⟩
     replace H:(vg.l1 k1 l2 l3 qcs dP qec qwR ([]:List Int) 0 av bF)=some r:=by first|(rw [qp7];with_reducible exact H)|(have jr:=(Option.bind_some _ _).symm.trans H;rw [qp7];with_reducible exact jr)|(have jr:=(Option.bind_some _ _).symm.trans H;with_reducible exact jr)|with_reducible exact H|(rw [qp7];exact H)|exact H
     have qo1:=aj.mk qp7;clear qp7;have H':=aj.mk H;clear H;have qmQ:=qiy.out;have qmR:=qiz.out;have vS:=bc1 qcq;have vT:=bf qcq 0
     go_wp2_with (first|(go_at_call 174;(with_reducible refine (qam.calls k1 _ _ av dP _ _ l2 _ _ l3 qec _ ?bK ?bL ?fM ?fO ?jI ?zL Lp.out).mono ?_);(case bK=>exact cS dM);(case bL=>exact fu.out);(case fM=>exact cS HR2);(case fO=>exact HC2.out);(case jI=>exact cS HR3);(case zL=>exact R9.out);rintro e R8 ⟨qp8,rfl,ho0,hb⟩;have n0_:=aj.mk (Kd.qE (qCo qcr) (Kd.iF ho0) hb);have n1_:=aj.mk (Kd.dZ (Kd.wY ho0 (Kd.vR (qCo qcr))) (bD tB));have n2_:=aj.mk (aD (g:=qfF) (o:=.cells #[.slice bC av.length aZ] 24 (0,0)) (qB2 qcq) hb);have n3_:=aj.mk (aD (g:=qhy) (o:=.cells #[.slice fP bF.length fK] 49 (0,0)) (qB2 qcv) hb);have n4_:=aj.mk (aV tB hb);clear qcr;clear qcq;clear qcv;clear HB;have qcr:=n0_;have qlM:=n1_;have qcq:=n2_;have qcv:=n3_;have HB:=n4_;clear n0_ n1_ n2_ n3_ n4_;(try clear hb);(try clear ho0))|((with_reducible refine au (N:=30) rfl ?_);refine Kd.qo8 Kd.bool _ 4 rfl (N:=30) rfl 215 _ _ rfl 12001 rfl rfl Tryz.underlying215 (.bool false) 1 qq7 rfl (by decide) (by omega) false (ok:=fun _=>True) (nE:=fun _=>True) rfl (fun _ hk=>hk) trivial (by omega) (by omega) (Below.refl _ _) (Nat.le_refl _) ?_;intro qth Mf qjE hb sS gV;clear sS gV;(first|rw [← qo1.out] at qjE|(simp only [Int.reduceToNat] at qjE;rw [← qo1.out] at qjE));have n0_:=aj.mk (Kd.jS (qCo qcr) hb);have n1_:=aj.mk (Kd.jS (qCo qlM) hb);have n2_:=aj.mk (Kd.dZ qjE (bD tB));have n3_:=aj.mk (aD (g:=qfF) (o:=.cells #[.slice bC av.length aZ] 24 (0,0)) (qB2 qcq) hb);have n4_:=aj.mk (aD (g:=qhy) (o:=.cells #[.slice fP bF.length fK] 49 (0,0)) (qB2 qcv) hb);have n5_:=aj.mk (aV tB hb);clear qcr;clear qlM;clear qcq;clear qcv;clear HB;have qcr:=n0_;have qlM:=n1_;have qur:=n2_;have qcq:=n3_;have qcv:=n4_;have HB:=n5_;clear n0_ n1_ n2_ n3_ n4_ n5_;clear hb qjE))
     repeat (go_quiet (first|(go_at_call 174;(with_reducible refine (qam.calls k1 _ _ av dP _ _ l2 _ _ l3 qec _ ?bK ?bL ?fM ?fO ?jI ?zL Lp.out).mono ?_);(case bK=>exact cS dM);(case bL=>exact fu.out);(case fM=>exact cS HR2);(case fO=>exact HC2.out);(case jI=>exact cS HR3);(case zL=>exact R9.out);rintro e R8 ⟨qp8,rfl,ho0,hb⟩;have n0_:=aj.mk (Kd.qE (qCo qcr) (Kd.iF ho0) hb);have n1_:=aj.mk (Kd.dZ (Kd.wY ho0 (Kd.vR (qCo qcr))) (bD tB));have n2_:=aj.mk (aD (g:=qfF) (o:=.cells #[.slice bC av.length aZ] 24 (0,0)) (qB2 qcq) hb);have n3_:=aj.mk (aD (g:=qhy) (o:=.cells #[.slice fP bF.length fK] 49 (0,0)) (qB2 qcv) hb);have n4_:=aj.mk (aV tB hb);clear qcr;clear qcq;clear qcv;clear HB;have qcr:=n0_;have qlM:=n1_;have qcq:=n2_;have qcv:=n3_;have HB:=n4_;clear n0_ n1_ n2_ n3_ n4_;(try clear hb);(try clear ho0))|((with_reducible refine au (N:=30) rfl ?_);refine Kd.qo8 Kd.bool _ 4 rfl (N:=30) rfl 215 _ _ rfl 12001 rfl rfl Tryz.underlying215 (.bool false) 1 qq7 rfl (by decide) (by omega) false (ok:=fun _=>True) (nE:=fun _=>True) rfl (fun _ hk=>hk) trivial (by omega) (by omega) (Below.refl _ _) (Nat.le_refl _) ?_;intro qth Mf qjE hb sS gV;clear sS gV;(first|rw [← qo1.out] at qjE|(simp only [Int.reduceToNat] at qjE;rw [← qo1.out] at qjE));have n0_:=aj.mk (Kd.jS (qCo qcr) hb);have n1_:=aj.mk (Kd.jS (qCo qlM) hb);have n2_:=aj.mk (Kd.dZ qjE (bD tB));have n3_:=aj.mk (aD (g:=qfF) (o:=.cells #[.slice bC av.length aZ] 24 (0,0)) (qB2 qcq) hb);have n4_:=aj.mk (aD (g:=qhy) (o:=.cells #[.slice fP bF.length fK] 49 (0,0)) (qB2 qcv) hb);have n5_:=aj.mk (aV tB hb);clear qcr;clear qlM;clear qcq;clear qcv;clear HB;have qcr:=n0_;have qlM:=n1_;have qur:=n2_;have qcq:=n3_;have qcv:=n4_;have HB:=n5_;clear n0_ n1_ n2_ n3_ n4_ n5_;clear hb qjE));try go_wp2_with (first|(go_at_call 174;(with_reducible refine (qam.calls k1 _ _ av dP _ _ l2 _ _ l3 qec _ ?bK ?bL ?fM ?fO ?jI ?zL Lp.out).mono ?_);(case bK=>exact cS dM);(case bL=>exact fu.out);(case fM=>exact cS HR2);(case fO=>exact HC2.out);(case jI=>exact cS HR3);(case zL=>exact R9.out);rintro e R8 ⟨qp8,rfl,ho0,hb⟩;have n0_:=aj.mk (Kd.qE (qCo qcr) (Kd.iF ho0) hb);have n1_:=aj.mk (Kd.dZ (Kd.wY ho0 (Kd.vR (qCo qcr))) (bD tB));have n2_:=aj.mk (aD (g:=qfF) (o:=.cells #[.slice bC av.length aZ] 24 (0,0)) (qB2 qcq) hb);have n3_:=aj.mk (aD (g:=qhy) (o:=.cells #[.slice fP bF.length fK] 49 (0,0)) (qB2 qcv) hb);have n4_:=aj.mk (aV tB hb);clear qcr;clear qcq;clear qcv;clear HB;have qcr:=n0_;have qlM:=n1_;have qcq:=n2_;have qcv:=n3_;have HB:=n4_;clear n0_ n1_ n2_ n3_ n4_;(try clear hb);(try clear ho0))|((with_reducible refine au (N:=30) rfl ?_);refine Kd.qo8 Kd.bool _ 4 rfl (N:=30) rfl 215 _ _ rfl 12001 rfl rfl Tryz.underlying215 (.bool false) 1 qq7 rfl (by decide) (by omega) false (ok:=fun _=>True) (nE:=fun _=>True) rfl (fun _ hk=>hk) trivial (by omega) (by omega) (Below.refl _ _) (Nat.le_refl _) ?_;intro qth Mf qjE hb sS gV;clear sS gV;(first|rw [← qo1.out] at qjE|(simp only [Int.reduceToNat] at qjE;rw [← qo1.out] at qjE));have n0_:=aj.mk (Kd.jS (qCo qcr) hb);have n1_:=aj.mk (Kd.jS (qCo qlM) hb);have n2_:=aj.mk (Kd.dZ qjE (bD tB));have n3_:=aj.mk (aD (g:=qfF) (o:=.cells #[.slice bC av.length aZ] 24 (0,0)) (qB2 qcq) hb);have n4_:=aj.mk (aD (g:=qhy) (o:=.cells #[.slice fP bF.length fK] 49 (0,0)) (qB2 qcv) hb);have n5_:=aj.mk (aV tB hb);clear qcr;clear qlM;clear qcq;clear qcv;clear HB;have qcr:=n0_;have qlM:=n1_;have qur:=n2_;have qcq:=n3_;have qcv:=n4_;have HB:=n5_;clear n0_ n1_ n2_ n3_ n4_ n5_;clear hb qjE)))
     go_loopg [13,14] k1 (fun kq v13 v14 w'=>∃ (xC:List Bool) (qcA:List Int) (qcx:Int),v14=.int .i64 qcx∧aj (vg.l1 kq l2 l3 qcs dP qec xC qcA qcx av bF=some r)∧aj (kq<=k1)∧aj (Kd.R (Kd.int .i64) 3 w' w.heap.size (fun k_=>some k_≠(qp8:Value).ownBlock∧some k_≠(v13:Value).ownBlock) u9 qcs)∧aj (Kd.R (Kd.int .i64) 3 w' w.heap.size (fun k_=>some k_≠(u9:Value).ownBlock∧some k_≠(v13:Value).ownBlock) qp8 qec)∧aj (Kd.R Kd.bool 4 w' w.heap.size (fun _=>True) qth xC)∧aj (Kd.R (Kd.int .i64) 3 w' w.heap.size (fun k_=>some k_≠(u9:Value).ownBlock∧some k_≠(qp8:Value).ownBlock) v13 qcA)∧aj (w'.heap[qfF]?=some (.cells #[(.slice bC av.length aZ)] 24 (0,0)))∧aj (w'.heap[qhy]?=some (.cells #[(.slice fP bF.length fK)] 49 (0,0)))∧aj (Below w.heap.size w w'))
     case atStart=>exact ⟨(qwR),(([]:List Int)),(0),tS,H',⟨Nat.le_refl _⟩,⟨by (with_reducible repeat (first|apply Kd.kY|apply Kd.kZ|apply Kd.mJ));exact Kd.gq qcr.out (fun _ hk=>⟨hk.2,(by simp [Value.ownBlock])⟩)⟩,⟨by (with_reducible repeat (first|apply Kd.kY|apply Kd.kZ|apply Kd.mJ));exact Kd.gq qlM.out (fun _ hk=>⟨hk.2,(by simp [Value.ownBlock])⟩)⟩,⟨(qCo qur)⟩,⟨by first|exact Kd.mI _ _ _ _ _|exact Kd.wN _ _ _ _ _|exact Kd.wP _ _ _ _ _|exact Kd.wK _ _ _ _ _|exact Kd.wM _ _ _ _ _⟩,⟨(qB2 qcq)⟩,⟨(qB2 qcv)⟩,⟨tB⟩⟩
     case round =>
      clear H'
      try clear c1
      try clear c2
      try clear p2
      try clear c3
      try clear c9
      try clear Q9
      try clear c11
      try clear qdp
      try clear qjP
      try clear c12
      try clear vS
      try clear vT
      try clear p2
      obtain ⟨xC,qcA,qcx,rfl,HA,VO,qcr,oF,Cm,qcu,qcq,qcv,HB⟩:=hrel
      cases gk with
      | zero=>exact absurd HA.out (by simp [vg.l1])
      | succ k2 =>
       have H:=HA.out;clear HA;simp only [vg.l1] at H
       by_cases c17:qcx<(qcs.length:Int)
       ·rw [if_pos c17] at H
        have qoX:decide (qcx<(qcs.length:Int))=true:=decide_eq_true c17;clear c17;have H':=aj.mk H;clear H;obtain ⟨Wo,Wp,qi3⟩:=Kd.jc qcr.out;subst qi3
        go_wp2
        repeat (go_quiet (fail);try go_wp2)
        go_loopg [13,15] k2 (fun kq v13 v15 w'=>∃ (qcp:List Bool) (qcE:List Int) (qcz:Int),v15=.int .i64 qcz∧aj (vg.l2 kq l2 l3 qcs dP qec qcp qcE qcx qcz av bF=some r)∧aj (kq<=k2)∧aj (Kd.R (Kd.int .i64) 3 w' w.heap.size (fun k_=>some k_≠(qp8:Value).ownBlock∧some k_≠(v13:Value).ownBlock) (.slice Wo qcs.length Wp) qcs)∧aj (Kd.R (Kd.int .i64) 3 w' w.heap.size (fun k_=>some k_≠((.slice Wo qcs.length Wp):Value).ownBlock∧some k_≠(v13:Value).ownBlock) qp8 qec)∧aj (Kd.R Kd.bool 4 w' w.heap.size (fun _=>True) qth qcp)∧aj (Kd.R (Kd.int .i64) 3 w' w.heap.size (fun k_=>some k_≠((.slice Wo qcs.length Wp):Value).ownBlock∧some k_≠(qp8:Value).ownBlock) v13 qcE)∧aj (w'.heap[qfF]?=some (.cells #[(.slice bC av.length aZ)] 24 (0,0)))∧aj (w'.heap[qhy]?=some (.cells #[(.slice fP bF.length fK)] 49 (0,0)))∧aj (Below w.heap.size w w'))
        case atStart=>exact ⟨(xC),(qcA),(0),tS,H',⟨Nat.le_refl _⟩,⟨(qCo qcr)⟩,⟨(qCo oF)⟩,⟨(qCo Cm)⟩,⟨(qCo qcu)⟩,⟨(qB2 qcq)⟩,⟨(qB2 qcv)⟩,⟨tB⟩⟩
        case round =>
         clear H'
         try clear c1
         try clear c2
         try clear p2
         try clear c3
         try clear c9
         try clear Q9
         try clear c11
         try clear qdp
         try clear qjP
         try clear c12
         try clear c17
         try clear qoX
         try clear vS
         try clear vT
         try clear p2
         obtain ⟨qcp,qcE,qcz,rfl,HA,HK3,qcr,oF,Cm,qcu,qcq,qcv,HB⟩:=hrel
         cases gk with
         | zero=>exact absurd HA.out (by simp [vg.l2])
         | succ k3 =>
          have H:=HA.out;clear HA;simp only [vg.l2] at H
          by_cases c19:qcz<(qec.length:Int)
          ·rw [if_pos c19] at H
           have qus:decide (qcz<(qec.length:Int))=true:=decide_eq_true c19;clear c19
           by_cases c20:0<=qcx
           ·rw [if_pos c20] at H
            have qwk:decide (0<=qcx)=true:=decide_eq_true c20;clear c20
            by_cases c21:qcx<(qcs.length:Int)
            ·rw [if_pos c21] at H
             have que:decide (qcx<(qcs.length:Int))=true:=decide_eq_true c21;clear c21
             by_cases Zv:0<=dP
             ·rw [if_pos Zv] at H
              have qzS:decide (0<=dP)=true:=decide_eq_true Zv;clear Zv
              by_cases c23:dP<(bF.length:Int)
              ·rw [if_pos c23] at H
               have qzT:decide (dP<(bF.length:Int))=true:=decide_eq_true c23;clear c23
               by_cases c24:0<=qcz
               ·rw [if_pos c24] at H
                have qlr:decide (0<=qcz)=true:=decide_eq_true c24;clear c24;obtain ⟨qe0,qsn⟩:∃ j_:Int,(wrap64 ((wrap64 ((rd qcs qcx)+(wrap64 ((rd bF dP)*(rd qec qcz)))))+6000))=j_:=⟨_,rfl⟩
                replace H:(if 0<=(qe0) then (if (qe0)<(qcp.length:Int) then (if (Sl false qcp (qe0)=true) then (vg.l2 k3 l2 l3 qcs dP qec qcp qcE qcx (wrap64 (qcz+1)) av bF) else (if qcE.length<17592186044416 then (vg.l2 k3 l2 l3 qcs dP qec (qcp.set ((qe0):Int).toNat true) (qcE++[wrap64 ((rd qcs qcx)+(wrap64 ((rd bF dP)*(rd qec qcz))))]) qcx (wrap64 (qcz+1)) av bF) else (none))) else (none)) else (none))=some r:=by first|(rw [qsn] at H;exact H)|(simp only [qsn] at H ⊢;exact H)
                have qyU:(IntKind.i64.wrap ((wrap64 ((rd qcs qcx)+(wrap64 ((rd bF dP)*(rd qec qcz)))))+6000))=qe0:=(ay _).trans qsn
                by_cases c26:0<=(qe0)
                ·rw [if_pos c26] at H
                 have qwn:decide (0<=(qe0))=true:=decide_eq_true c26;clear c26
                 by_cases c27:(qe0)<(qcp.length:Int)
                 ·rw [if_pos c27] at H
                  have qru:decide ((qe0)<(qcp.length:Int))=true:=decide_eq_true c27;clear c27;obtain ⟨qwS,qso⟩:∃ b_:Bool,b_=(Sl false qcp (qe0)):=⟨_,rfl⟩
                  replace H:(if (qwS=true) then (vg.l2 k3 l2 l3 qcs dP qec qcp qcE qcx (wrap64 (qcz+1)) av bF) else (if qcE.length<17592186044416 then (vg.l2 k3 l2 l3 qcs dP qec (qcp.set ((qe0):Int).toNat true) (qcE++[wrap64 ((rd qcs qcx)+(wrap64 ((rd bF dP)*(rd qec qcz))))]) qcx (wrap64 (qcz+1)) av bF) else (none)))=some r:=by rw [← qso] at H;exact H
                  have qut:=aj.mk qso;clear qso
                  by_cases c29:(qwS=true)
                  ·subst c29
                   rw [if_pos rfl] at H;have H':=aj.mk H;clear H;obtain ⟨qyV,qyW,qvs⟩:=Kd.jc oF.out;subst qvs;have qqQ:0<=(qcx:Int):=of_decide_eq_true tA;have qqR:qcx<(qcs.length:Int):=of_decide_eq_true tA;obtain ⟨qn7,qvt,qti⟩:=Kd.iE (Kd.eB qcr.out).2.2 qcx qqQ qqR
                   cases qvt
                   replace qqQ:=eq_true qqQ;replace qqR:=eq_true qqR;have qwT:=qiz.out;have qwU:=qiy.out;have Ih:=bc1 qcv;have Ij:=bf qcv 0;have qqS:0<=(dP:Int):=of_decide_eq_true tA;have qqT:dP<(bF.length:Int):=of_decide_eq_true tA;obtain ⟨qn8,qvu,qlN⟩:=Kd.iE EB.out dP qqS qqT
                   cases qvu
                   replace qlN:=dz HB qlN;replace qqS:=eq_true qqS;replace qqT:=eq_true qqT;have qqU:0<=(qcz:Int):=of_decide_eq_true tA;have qqV:qcz<(qec.length:Int):=of_decide_eq_true tA;obtain ⟨qn9,qvv,qtj⟩:=Kd.iE (Kd.eB oF.out).2.2 qcz qqU qqV
                   cases qvv
                   replace qqU:=eq_true qqU;replace qqV:=eq_true qqV;obtain ⟨qBt,qBu,qyX⟩:=Kd.jc Cm.out;subst qyX;have qqW:0<=((qe0):Int):=of_decide_eq_true tA;have qqX:(qe0)<(qcp.length:Int):=of_decide_eq_true tA;obtain ⟨qwV,qvw,qnu⟩:=Kd.qnl (Kd.eB Cm.out).2.2 (qe0) qqW qqX
                   (try rw [← qut.out] at qnu)
                   cases qvw
                   replace qqW:=eq_true qqW;replace qqX:=eq_true qqX
                   go_wp2
                   repeat (go_quiet (fail);try go_wp2)
                   go_roundg k3
                   case measure=>have:=qg.out;have:=VO.out;have:=HK3.out;omega
                   case rel=>exact ⟨(qcp),(qcE),(wrap64 (qcz+1)),tS,H',⟨by have:=qg.out;have:=VO.out;have:=HK3.out;omega⟩,⟨(qCo qcr)⟩,⟨(qCo oF)⟩,⟨(qCo Cm)⟩,⟨(qCo qcu)⟩,⟨(qB2 qcq)⟩,⟨(qB2 qcv)⟩,⟨tB⟩⟩
                  ·replace c29:=Bool.eq_false_iff.mpr c29
                   subst c29
                   have H1:(if qcE.length<17592186044416 then (vg.l2 k3 l2 l3 qcs dP qec (qcp.set ((qe0):Int).toNat true) (qcE++[wrap64 ((rd qcs qcx)+(wrap64 ((rd bF dP)*(rd qec qcz))))]) qcx (wrap64 (qcz+1)) av bF) else (none))=some r:=by rw [if_neg (show ¬ (false=true) by decide)] at H;exact H
                   clear H;have H:=H1;clear H1;obtain ⟨qrO,qqa⟩:∃ y_:List Bool,y_=(qcp.set ((qe0):Int).toNat true):=⟨_,rfl⟩
                   replace H:(if qcE.length<17592186044416 then (vg.l2 k3 l2 l3 qcs dP qec qrO (qcE++[wrap64 ((rd qcs qcx)+(wrap64 ((rd bF dP)*(rd qec qcz))))]) qcx (wrap64 (qcz+1)) av bF) else (none))=some r:=by first|(rw [qqa];with_reducible exact H)|(have jr:=(Option.bind_some _ _).symm.trans H;rw [qqa];with_reducible exact jr)|(have jr:=(Option.bind_some _ _).symm.trans H;with_reducible exact jr)|with_reducible exact H|(rw [qqa];exact H)|exact H
                   have qsp:=aj.mk qqa;clear qqa
                   by_cases c35:qcE.length<17592186044416
                   ·rw [if_pos c35] at H
                    have qsq:=aj.mk c35;clear c35;obtain ⟨qwW,qqb⟩:∃ y_:List Int,y_=(qcE++[wrap64 ((rd qcs qcx)+(wrap64 ((rd bF dP)*(rd qec qcz))))]):=⟨_,rfl⟩
                    replace H:(vg.l2 k3 l2 l3 qcs dP qec qrO qwW qcx (wrap64 (qcz+1)) av bF)=some r:=by first|(rw [qqb];with_reducible exact H)|(have jr:=(Option.bind_some _ _).symm.trans H;rw [qqb];with_reducible exact jr)|(have jr:=(Option.bind_some _ _).symm.trans H;with_reducible exact jr)|with_reducible exact H|(rw [qqb];exact H)|exact H
                    have qsr:=aj.mk qqb;clear qqb;have H':=aj.mk H;clear H;obtain ⟨qBv,qrP,qyY⟩:=Kd.jc oF.out;subst qyY;have qqQ:0<=(qcx:Int):=of_decide_eq_true tA;have qqR:qcx<(qcs.length:Int):=of_decide_eq_true tA;obtain ⟨qn7,qvt,qti⟩:=Kd.iE (Kd.eB qcr.out).2.2 qcx qqQ qqR
                    cases qvt
                    replace qqQ:=eq_true qqQ;replace qqR:=eq_true qqR;have qzU:=qiz.out;have qzV:=qiy.out;have PW:=bc1 qcv;have PX:=bf qcv 0;have qqS:0<=(dP:Int):=of_decide_eq_true tA;have qqT:dP<(bF.length:Int):=of_decide_eq_true tA;obtain ⟨qn8,qvu,qlN⟩:=Kd.iE EB.out dP qqS qqT
                    cases qvu
                    replace qlN:=dz HB qlN;replace qqS:=eq_true qqS;replace qqT:=eq_true qqT;have qqU:0<=(qcz:Int):=of_decide_eq_true tA;have qqV:qcz<(qec.length:Int):=of_decide_eq_true tA;obtain ⟨qn9,qvv,qtj⟩:=Kd.iE (Kd.eB oF.out).2.2 qcz qqU qqV
                    cases qvv
                    replace qqU:=eq_true qqU;replace qqV:=eq_true qqV;obtain ⟨qBw,qni,qyZ⟩:=Kd.jc Cm.out;subst qyZ;have qqW:0<=((qe0):Int):=of_decide_eq_true tA;have qqX:(qe0)<(qcp.length:Int):=of_decide_eq_true tA;obtain ⟨qwV,qvw,qnu⟩:=Kd.qnl (Kd.eB Cm.out).2.2 (qe0) qqW qqX
                    (try rw [← qut.out] at qnu)
                    cases qvw
                    replace qqW:=eq_true qqW;replace qqX:=eq_true qqX;have p34:0<=((qe0):Int):=of_decide_eq_true tA;have q34:((qe0):Int)<((qcp.length:Int):Int):=of_decide_eq_true tA;obtain ⟨qjt,qBx,qwX,qwY,qy0,qBy,qwZ⟩:=Kd.qaf Cm.out (by omega)
                    (first|cases qwX|(injection qwX with BI R6 R7;(first|subst BI|(injection BI with BI;subst BI));subst R7;clear R6))
                    have qvx:=aj.mk qwY;have qBz:=aj.mk qwZ;clear qwY qy0 qwZ
                    (first|simp only [add_plain] at qnu|skip)
                    obtain ⟨qy1,qy2⟩:=Kd.qjH false Cm.out ((qe0):Int) p34 q34;replace p34:=eq_true p34;replace q34:=eq_true q34;have qnj:=Kd.qnx Cm.out ((qe0):Int) true
                    go_wp2_with (first|((with_reducible refine aY (t:=4) (p:=67) rfl ?_);(try (rw [qjT wr];generalize hq_:World.drewN wr _=wr;have n0_:=aj.mk (Kd.qnf hq_ qcr.out);have n1_:=aj.mk (Kd.qnf hq_ oF.out);have n2_:=aj.mk (Kd.qnf hq_ Cm.out);have n3_:=aj.mk (Kd.qnf hq_ qcu.out);have n4_:=aj.mk (qmd hq_ qcq.out);have n5_:=aj.mk (qmd hq_ qcv.out);have n6_:=aj.mk (qnz hq_ HB.out);clear hq_ qcr oF Cm qcu qcq qcv HB;have qcr:=n0_;have oF:=n1_;have Cm:=n2_;have qcu:=n3_;have qcq:=n4_;have qcv:=n5_;have HB:=n6_;clear n0_ n1_ n2_ n3_ n4_ n5_ n6_;(try (have qnj:=Kd.qnx Cm.out ((qe0):Int) true))));obtain ⟨hy_,hz_⟩:=Kd.qjH false Cm.out ((qe0):Int) (of_eq_true p34) (of_eq_true q34);refine BK (t:=4) (p:=67) (v:=?qss) (w1:=(wr.setCell ⟨qjt,((qe0):Int).toNat,none⟩ (.bool true))) ?hg ?ho ?hn ?hr ?_;(case ho=>rfl);(case hg=>rfl);(case hn=>rfl);(case hr=>first|(go_simp;done)|(go_simp;rfl));intro w41 hw;have hg:wr.grownBy w41 (some qjt):=(by rw [hw];exact qnj.2);have hp_:Kd.R Kd.bool 4 w41 w.heap.size (fun _=>True) (.slice (some ⟨qjt,0,none⟩) qcp.length qni) qrO:=(by rw [hw,qsp.out];exact qnj.1);clear qnj;replace qcr:=aj.mk (Kd.qcP (v:=(.slice (some ⟨qjt,0,none⟩) qcp.length qni)) (qCo qcr) (Kd.qcD Cm.out) (by decide) hg);replace oF:=aj.mk (Kd.qcP (v:=(.slice (some ⟨qjt,0,none⟩) qcp.length qni)) (qCo oF) (Kd.qcD Cm.out) (by decide) hg);replace qcu:=aj.mk (Kd.qcP (v:=(.slice (some ⟨qjt,0,none⟩) qcp.length qni)) (qCo qcu) (Kd.qcD Cm.out) (by decide) hg);replace qcq:=aj.mk (jF (g:=qfF) (o:=.cells #[.slice bC av.length aZ] 24 (0,0)) (qB2 qcq) hg (Kd.DZ Cm.out qcq.out (by decide)));replace qcv:=aj.mk (jF (g:=qhy) (o:=.cells #[.slice (some qn8) bF.length fK] 49 (0,0)) (qB2 qcv) hg (Kd.DZ Cm.out qcv.out (by decide)));replace Cm:=aj.mk (hp_);replace HB:=aj.mk ((by rw [hw];exact QN (HB.out) qvx.out:Below w.heap.size w w41));clear hg hw hp_)|((with_reducible refine eY (b:=.append) (xs:=#[.tmp 68,.tmp 70]) rfl ?_);at_builtin;refine Kd.sO (Kd.int .i64) (w0:=w) w.heap.size rfl (.tmp 68) (.tmp 70) 47 3 (.int .i64 0) 8 rfl Tryz.underlying47 info3 rfl (by decide) (by omega) u13 qcE (wrap64 ((rd qcs qcx)+(wrap64 ((rd bF dP)*(rd qec qcz))))) [.int .i64 (wrap64 ((rd qcs qcx)+(wrap64 ((rd bF dP)*(rd qec qcz)))))] (fun k_=>some k_≠(.slice (some qn7) qcs.length Wp:Value).ownBlock∧some k_≠(.slice (some qn9) qec.length qrP:Value).ownBlock) (fun _=>False) rfl rfl ?aP (fun _ hk=>hk.elim) ?aF ?aO ?aB ?aS ?aL ?_;(case aP=>exact rfl);(case aB=>exact tB);(case aF=>exact (fun k_ hk=>⟨Kd.fresh' (Kd.vR (qCo qcr)) k_ hk,Kd.fresh' (Kd.vR (qCo oF)) k_ hk⟩));(case aO=>exact (qCo qcu));(case aS=>exact (bD tB));(case aL=>have:=qsq.out;omega);intro qw0 w42 ho hb hg hat;rw [← qsr.out] at ho;replace qcr:=aj.mk (Kd.VX (ok:=(fun k_=>some k_≠(.slice (some qn9) qec.length qrP:Value).ownBlock)) (qCo qcr) hg hat);replace oF:=aj.mk (Kd.VX (ok:=(fun k_=>some k_≠(.slice (some qn7) qcs.length Wp:Value).ownBlock)) (qCo oF) hg hat);replace Cm:=aj.mk (Kd.qcP (qCo Cm) (Kd.qcD (qCo qcu)) (by decide) hg);replace qcq:=aj.mk (jF (g:=qfF) (o:=.cells #[.slice bC av.length aZ] 24 (0,0)) (qB2 qcq) hg (Kd.DZ qcu.out qcq.out (by decide)));replace qcv:=aj.mk (jF (g:=qhy) (o:=.cells #[.slice (some qn8) bF.length fK] 49 (0,0)) (qB2 qcv) hg (Kd.DZ qcu.out qcv.out (by decide)));replace HB:=aj.mk (hb);have quv:=aj.mk (ho);clear qcu;clear ho hb hg hat))
                    repeat (go_quiet (first|((with_reducible refine aY (t:=4) (p:=67) rfl ?_);(try (rw [qjT wr];generalize hq_:World.drewN wr _=wr;have n0_:=aj.mk (Kd.qnf hq_ qcr.out);have n1_:=aj.mk (Kd.qnf hq_ oF.out);have n2_:=aj.mk (Kd.qnf hq_ Cm.out);have n3_:=aj.mk (Kd.qnf hq_ qcu.out);have n4_:=aj.mk (qmd hq_ qcq.out);have n5_:=aj.mk (qmd hq_ qcv.out);have n6_:=aj.mk (qnz hq_ HB.out);clear hq_ qcr oF Cm qcu qcq qcv HB;have qcr:=n0_;have oF:=n1_;have Cm:=n2_;have qcu:=n3_;have qcq:=n4_;have qcv:=n5_;have HB:=n6_;clear n0_ n1_ n2_ n3_ n4_ n5_ n6_;(try (have qnj:=Kd.qnx Cm.out ((qe0):Int) true))));obtain ⟨hy_,hz_⟩:=Kd.qjH false Cm.out ((qe0):Int) (of_eq_true p34) (of_eq_true q34);refine BK (t:=4) (p:=67) (v:=?qss) (w1:=(wr.setCell ⟨qjt,((qe0):Int).toNat,none⟩ (.bool true))) ?hg ?ho ?hn ?hr ?_;(case ho=>rfl);(case hg=>rfl);(case hn=>rfl);(case hr=>first|(go_simp;done)|(go_simp;rfl));intro w41 hw;have hg:wr.grownBy w41 (some qjt):=(by rw [hw];exact qnj.2);have hp_:Kd.R Kd.bool 4 w41 w.heap.size (fun _=>True) (.slice (some ⟨qjt,0,none⟩) qcp.length qni) qrO:=(by rw [hw,qsp.out];exact qnj.1);clear qnj;replace qcr:=aj.mk (Kd.qcP (v:=(.slice (some ⟨qjt,0,none⟩) qcp.length qni)) (qCo qcr) (Kd.qcD Cm.out) (by decide) hg);replace oF:=aj.mk (Kd.qcP (v:=(.slice (some ⟨qjt,0,none⟩) qcp.length qni)) (qCo oF) (Kd.qcD Cm.out) (by decide) hg);replace qcu:=aj.mk (Kd.qcP (v:=(.slice (some ⟨qjt,0,none⟩) qcp.length qni)) (qCo qcu) (Kd.qcD Cm.out) (by decide) hg);replace qcq:=aj.mk (jF (g:=qfF) (o:=.cells #[.slice bC av.length aZ] 24 (0,0)) (qB2 qcq) hg (Kd.DZ Cm.out qcq.out (by decide)));replace qcv:=aj.mk (jF (g:=qhy) (o:=.cells #[.slice (some qn8) bF.length fK] 49 (0,0)) (qB2 qcv) hg (Kd.DZ Cm.out qcv.out (by decide)));replace Cm:=aj.mk (hp_);replace HB:=aj.mk ((by rw [hw];exact QN (HB.out) qvx.out:Below w.heap.size w w41));clear hg hw hp_)|((with_reducible refine eY (b:=.append) (xs:=#[.tmp 68,.tmp 70]) rfl ?_);at_builtin;refine Kd.sO (Kd.int .i64) (w0:=w) w.heap.size rfl (.tmp 68) (.tmp 70) 47 3 (.int .i64 0) 8 rfl Tryz.underlying47 info3 rfl (by decide) (by omega) u13 qcE (wrap64 ((rd qcs qcx)+(wrap64 ((rd bF dP)*(rd qec qcz))))) [.int .i64 (wrap64 ((rd qcs qcx)+(wrap64 ((rd bF dP)*(rd qec qcz)))))] (fun k_=>some k_≠(.slice (some qn7) qcs.length Wp:Value).ownBlock∧some k_≠(.slice (some qn9) qec.length qrP:Value).ownBlock) (fun _=>False) rfl rfl ?aP (fun _ hk=>hk.elim) ?aF ?aO ?aB ?aS ?aL ?_;(case aP=>exact rfl);(case aB=>exact tB);(case aF=>exact (fun k_ hk=>⟨Kd.fresh' (Kd.vR (qCo qcr)) k_ hk,Kd.fresh' (Kd.vR (qCo oF)) k_ hk⟩));(case aO=>exact (qCo qcu));(case aS=>exact (bD tB));(case aL=>have:=qsq.out;omega);intro qw0 w42 ho hb hg hat;rw [← qsr.out] at ho;replace qcr:=aj.mk (Kd.VX (ok:=(fun k_=>some k_≠(.slice (some qn9) qec.length qrP:Value).ownBlock)) (qCo qcr) hg hat);replace oF:=aj.mk (Kd.VX (ok:=(fun k_=>some k_≠(.slice (some qn7) qcs.length Wp:Value).ownBlock)) (qCo oF) hg hat);replace Cm:=aj.mk (Kd.qcP (qCo Cm) (Kd.qcD (qCo qcu)) (by decide) hg);replace qcq:=aj.mk (jF (g:=qfF) (o:=.cells #[.slice bC av.length aZ] 24 (0,0)) (qB2 qcq) hg (Kd.DZ qcu.out qcq.out (by decide)));replace qcv:=aj.mk (jF (g:=qhy) (o:=.cells #[.slice (some qn8) bF.length fK] 49 (0,0)) (qB2 qcv) hg (Kd.DZ qcu.out qcv.out (by decide)));replace HB:=aj.mk (hb);have quv:=aj.mk (ho);clear qcu;clear ho hb hg hat));try go_wp2_with (first|((with_reducible refine aY (t:=4) (p:=67) rfl ?_);(try (rw [qjT wr];generalize hq_:World.drewN wr _=wr;have n0_:=aj.mk (Kd.qnf hq_ qcr.out);have n1_:=aj.mk (Kd.qnf hq_ oF.out);have n2_:=aj.mk (Kd.qnf hq_ Cm.out);have n3_:=aj.mk (Kd.qnf hq_ qcu.out);have n4_:=aj.mk (qmd hq_ qcq.out);have n5_:=aj.mk (qmd hq_ qcv.out);have n6_:=aj.mk (qnz hq_ HB.out);clear hq_ qcr oF Cm qcu qcq qcv HB;have qcr:=n0_;have oF:=n1_;have Cm:=n2_;have qcu:=n3_;have qcq:=n4_;have qcv:=n5_;have HB:=n6_;clear n0_ n1_ n2_ n3_ n4_ n5_ n6_;(try (have qnj:=Kd.qnx Cm.out ((qe0):Int) true))));obtain ⟨hy_,hz_⟩:=Kd.qjH false Cm.out ((qe0):Int) (of_eq_true p34) (of_eq_true q34);refine BK (t:=4) (p:=67) (v:=?qss) (w1:=(wr.setCell ⟨qjt,((qe0):Int).toNat,none⟩ (.bool true))) ?hg ?ho ?hn ?hr ?_;(case ho=>rfl);(case hg=>rfl);(case hn=>rfl);(case hr=>first|(go_simp;done)|(go_simp;rfl));intro w41 hw;have hg:wr.grownBy w41 (some qjt):=(by rw [hw];exact qnj.2);have hp_:Kd.R Kd.bool 4 w41 w.heap.size (fun _=>True) (.slice (some ⟨qjt,0,none⟩) qcp.length qni) qrO:=(by rw [hw,qsp.out];exact qnj.1);clear qnj;replace qcr:=aj.mk (Kd.qcP (v:=(.slice (some ⟨qjt,0,none⟩) qcp.length qni)) (qCo qcr) (Kd.qcD Cm.out) (by decide) hg);replace oF:=aj.mk (Kd.qcP (v:=(.slice (some ⟨qjt,0,none⟩) qcp.length qni)) (qCo oF) (Kd.qcD Cm.out) (by decide) hg);replace qcu:=aj.mk (Kd.qcP (v:=(.slice (some ⟨qjt,0,none⟩) qcp.length qni)) (qCo qcu) (Kd.qcD Cm.out) (by decide) hg);replace qcq:=aj.mk (jF (g:=qfF) (o:=.cells #[.slice bC av.length aZ] 24 (0,0)) (qB2 qcq) hg (Kd.DZ Cm.out qcq.out (by decide)));replace qcv:=aj.mk (jF (g:=qhy) (o:=.cells #[.slice (some qn8) bF.length fK] 49 (0,0)) (qB2 qcv) hg (Kd.DZ Cm.out qcv.out (by decide)));replace Cm:=aj.mk (hp_);replace HB:=aj.mk ((by rw [hw];exact QN (HB.out) qvx.out:Below w.heap.size w w41));clear hg hw hp_)|((with_reducible refine eY (b:=.append) (xs:=#[.tmp 68,.tmp 70]) rfl ?_);at_builtin;refine Kd.sO (Kd.int .i64) (w0:=w) w.heap.size rfl (.tmp 68) (.tmp 70) 47 3 (.int .i64 0) 8 rfl Tryz.underlying47 info3 rfl (by decide) (by omega) u13 qcE (wrap64 ((rd qcs qcx)+(wrap64 ((rd bF dP)*(rd qec qcz))))) [.int .i64 (wrap64 ((rd qcs qcx)+(wrap64 ((rd bF dP)*(rd qec qcz)))))] (fun k_=>some k_≠(.slice (some qn7) qcs.length Wp:Value).ownBlock∧some k_≠(.slice (some qn9) qec.length qrP:Value).ownBlock) (fun _=>False) rfl rfl ?aP (fun _ hk=>hk.elim) ?aF ?aO ?aB ?aS ?aL ?_;(case aP=>exact rfl);(case aB=>exact tB);(case aF=>exact (fun k_ hk=>⟨Kd.fresh' (Kd.vR (qCo qcr)) k_ hk,Kd.fresh' (Kd.vR (qCo oF)) k_ hk⟩));(case aO=>exact (qCo qcu));(case aS=>exact (bD tB));(case aL=>have:=qsq.out;omega);intro qw0 w42 ho hb hg hat;rw [← qsr.out] at ho;replace qcr:=aj.mk (Kd.VX (ok:=(fun k_=>some k_≠(.slice (some qn9) qec.length qrP:Value).ownBlock)) (qCo qcr) hg hat);replace oF:=aj.mk (Kd.VX (ok:=(fun k_=>some k_≠(.slice (some qn7) qcs.length Wp:Value).ownBlock)) (qCo oF) hg hat);replace Cm:=aj.mk (Kd.qcP (qCo Cm) (Kd.qcD (qCo qcu)) (by decide) hg);replace qcq:=aj.mk (jF (g:=qfF) (o:=.cells #[.slice bC av.length aZ] 24 (0,0)) (qB2 qcq) hg (Kd.DZ qcu.out qcq.out (by decide)));replace qcv:=aj.mk (jF (g:=qhy) (o:=.cells #[.slice (some qn8) bF.length fK] 49 (0,0)) (qB2 qcv) hg (Kd.DZ qcu.out qcv.out (by decide)));replace HB:=aj.mk (hb);have quv:=aj.mk (ho);clear qcu;clear ho hb hg hat)))
                    go_roundg k3
                    case measure=>have:=qg.out;have:=VO.out;have:=HK3.out;omega
                    case rel=>exact ⟨(qrO),(qwW),(wrap64 (qcz+1)),tS,H',⟨by have:=qg.out;have:=VO.out;have:=HK3.out;omega⟩,⟨(qCo qcr)⟩,⟨(qCo oF)⟩,⟨(qCo Cm)⟩,⟨(qCo quv)⟩,⟨(qB2 qcq)⟩,⟨(qB2 qcv)⟩,⟨tB⟩⟩
                   ·rw [if_neg c35] at H
                    exact absurd H (by simp)
                 ·rw [if_neg c27] at H
                  exact absurd H (by simp)
                ·rw [if_neg c26] at H
                 exact absurd H (by simp)
               ·rw [if_neg c24] at H
                exact absurd H (by simp)
              ·rw [if_neg c23] at H
               exact absurd H (by simp)
             ·rw [if_neg Zv] at H
              exact absurd H (by simp)
            ·rw [if_neg c21] at H
             exact absurd H (by simp)
           ·rw [if_neg c20] at H
            exact absurd H (by simp)
          ·rw [if_neg c19] at H
           have qus:decide (qcz<(qec.length:Int))=false:=decide_eq_false c19;clear c19;have H':=aj.mk H;clear H;obtain ⟨qBA,qBB,qy3⟩:=Kd.jc oF.out;subst qy3
           go_wp2
           repeat (go_quiet (fail);try go_wp2)
           go_roundg k3
           case measure=>have:=qg.out;have:=VO.out;have:=HK3.out;omega
           case rel=>exact ⟨(qcp),(qcE),(wrap64 (qcx+1)),tS,H',⟨by have:=qg.out;have:=VO.out;have:=HK3.out;omega⟩,⟨(qCo qcr)⟩,⟨(qCo oF)⟩,⟨(qCo Cm)⟩,⟨(qCo qcu)⟩,⟨(qB2 qcq)⟩,⟨(qB2 qcv)⟩,⟨tB⟩⟩
       ·rw [if_neg c17] at H
        have qoX:decide (qcx<(qcs.length:Int))=false:=decide_eq_false c17;clear c17;have H':=aj.mk H;clear H;obtain ⟨qBC,qBD,qy4⟩:=Kd.jc qcr.out;subst qy4
        go_wp2
        repeat (go_quiet (fail);try go_wp2)
        go_roundg k2
        case measure=>have:=qg.out;have:=VO.out;omega
        case rel=>exact ⟨(qcA),(wrap64 (dP+1)),tS,H',⟨by have:=qg.out;have:=VO.out;omega⟩,⟨by (with_reducible repeat (first|apply Kd.kY|apply Kd.kZ|apply Kd.mJ));exact Kd.gq qcu.out (fun _ hk=>trivial)⟩,⟨(qB2 qcq)⟩,⟨(qB2 qcv)⟩,⟨tB⟩⟩
    ·rw [if_neg c11] at H
     exact absurd H (by simp)
   ·rw [if_neg c9] at H
    have Q9:decide (dP<(av.length:Int))=false:=decide_eq_false c9;clear c9;obtain rfl:=Option.some.inj H;have qzZ:=qiy.out;have qz0:=qiz.out;have P5:=bc1 qcq;have P6:=bf qcq 0
    go_wp2
    repeat (go_quiet (fail);try go_wp2)
    go_ret
    exact ⟨_,tF,(qCo qcr),tB⟩
end Go.Proofs.YtnpfbjnjdngkhaaGreatDoor.P
namespace Go.Proofs.YtnpfbjnjdngkhaaGreatDoor.P
open Go.RowKit Go.Proofs.YtnpfbjnjdngkhaaGreatDoorW.aQ Go.Proofs.YtnpfbjnjdngkhaaGreatDoorW.bO Go.Proofs.YtnpfbjnjdngkhaaGreatDoorW.bT
def qiD (d:Int) (all:List bB) (t:Nat):Bool:=all.any fun b=>b.f0 == d&&b.f1 == (t:Int)
theorem qtk {d:Int} {w:List bQ} {all:List bB} {t:Nat} {r:List bQ} (ht:t<w.length) (hw:w.length<=1000) (ha:all.length<=1000):∀ (m i:Nat) (b:Bool),i+m=all.length ->
  Ev (fun k=>qaO.l0 k d (if (b||qiD d (all.drop i) t)=true then w else w.set t ⟨w[t].f0,w[t].f0⟩) all (wrap64 ((t:Int)+1))) r->Ev (fun k=>qaO.l1 k d w all t b i) r:=by
 intro m
 induction m with
 | zero =>
  intro i b hi h;rw [List.drop_eq_nil_of_le (by omega)] at h;refine Ev.step (fun k=>?_) h;rw [qaO.l1,if_neg (by omega)]
  cases b with
  | true=>rfl
  | false =>
   rw [if_neg (by simp),if_pos (by omega),if_pos (by omega),qkX ht]
   rfl
 | succ m ih =>
  intro i b him h
  have hi:i<all.length:=by omega
  rw [List.drop_eq_getElem_cons hi] at h;have e:qiD d (all[i]::all.drop (i+1)) t=((all[i].f0 == d&&all[i].f1 == (t:Int))||qiD d (all.drop (i+1)) t):=rfl;rw [e] at h
  cases b with
  | true =>
   refine Ev.step (fun k=>?_) (ih (i+1) true (by omega) (by simpa using h));rw [qaO.l1,if_pos (by omega),if_pos rfl,QJ (by omega)]
  | false =>
   by_cases hd:all[i].f0=d
   ·refine Ev.step (fun k=>?_) (ih (i+1) (all[i].f1 == (t:Int)) (by omega) (by simpa [hd] using h))
    rw [qaO.l1,if_pos (by omega),if_neg (by simp),if_pos (by omega),qfw hi,if_pos hd,QJ (by omega)]
   ·refine Ev.step (fun k=>?_) (ih (i+1) false (by omega) (by simpa [hd] using h))
    rw [qaO.l1,if_pos (by omega),if_neg (by simp),if_pos (by omega),qfw hi,if_neg hd,QJ (by omega)]
theorem qoa (m:Nat->Bool):∀ (ts:List bQ) (i j:Nat) (h:j<ts.length),(qd7 m ts i)[j]'(by rw [qe7];exact h)=if m (i+j) then ts[j] else ⟨ts[j].f0,ts[j].f0⟩
 | [],i,j,h=>by simp at h
 | s::r,i,0,h=>by simp [qd7]
 | s::r,i,j+1,h=>by
  have:=qoa m r (i+1) j (by simpa using h);simp only [qd7,List.getElem_cons_succ];rw [this,show i+1+j=i+(j+1) by omega]
theorem qtl {d:Int} {ts:List bQ} {all:List bB} (ht:ts.length<=1000) (ha:all.length<=1000):∀ (m i:Nat) (w:List bQ),i+m=ts.length->w.length=ts.length->w.take i=(qd7 (qiD d all) ts 0).take i->w.drop i=ts.drop i->Ev (fun k=>qaO.l0 k d w all i) (qd7 (qiD d all) ts 0):=by
 intro m
 induction m with
 | zero =>
  intro i w hi hw h1 h2;refine Ev.step (f:=fun _=>some _) (fun k=>?_) (Ev.now _);rw [qaO.l0,if_neg (by omega)];rw [List.take_of_length_le (by omega),List.take_of_length_le (by rw [qe7];omega)] at h1;rw [h1]
 | succ m ih =>
  intro i w him hw h1 h2
  have hi:i<ts.length:=by omega
  have hwi:i<w.length:=by omega
  have e2:w[i]=ts[i]:=by
   have:=congrArg (fun x=>x[0]?) h2;simp [List.getElem?_drop] at this;rw [List.getElem?_eq_getElem hwi,List.getElem?_eq_getElem hi] at this
   simpa using this
  have e3:w.drop (i+1)=ts.drop (i+1):=by
   have:=congrArg (List.drop 1) h2
   rwa [List.drop_drop,List.drop_drop] at this
  have hg:=qoa (qiD d all) ts 0 i hi;rw [Nat.zero_add] at hg
  have e4:(qd7 (qiD d all) ts 0).take (i+1)=(qd7 (qiD d all) ts 0).take i++[if qiD d all i then ts[i] else ⟨ts[i].f0,ts[i].f0⟩]:=by
   rw [List.take_add_one,List.getElem?_eq_getElem (by rw [qe7];exact hi),hg]
   rfl
  have h3:Ev (fun k=>qaO.l0 k d (if (false||qiD d (all.drop 0) i)=true then w else w.set i ⟨w[i].f0,w[i].f0⟩) all (wrap64 ((i:Int)+1))) (qd7 (qiD d all) ts 0):=by
   rw [QJ (by omega),List.drop_zero,Bool.false_or]
   by_cases hm:qiD d all i=true
   ·rw [if_pos hm]
    exact ih (i+1) w (by omega) hw (by rw [List.take_add_one,List.getElem?_eq_getElem hwi,Option.toList_some,h1,e4,if_pos hm,e2]) e3
   ·rw [if_neg hm]
    exact ih (i+1) _ (by omega) (by simpa using hw) (by rw [qoZ hwi,h1,e4,if_neg hm,e2]) (by rw [List.drop_set_of_lt (by omega),e3])
  refine Ev.step (fun k=>?_) (qtk (by omega) (by omega) ha all.length 0 false (by omega) h3);rw [qaO.l0,if_pos (by omega)]
  rfl
theorem qtm {h:List bI} {d:Int} {a b:List bB} (hd:0<=d∧d<h.length) (ht:(aX h d).f0.length<=100) (ha:a.length<=100) (hb:b.length<=100):Ev (fun k=>qaO.f k h d a b) (qd7 (qiD d (a++b)) (aX h d).f0 0):=by
 have:=qtl (d:=d) (ts:=(aX h d).f0) (all:=a++b) (by omega) (by rw [List.length_append];omega) (aX h d).f0.length 0 (aX h d).f0 (by omega) rfl (by simp) rfl;refine Ev.congr (fun k=>?_) this;rw [qaO.f,if_pos hd.1,if_pos hd.2,if_pos (by simp;omega),if_pos (by simp;omega),List.nil_append,Option.bind_some,if_pos (by omega),List.nil_append]
 rfl
def qrw (off:Int) (met:List Bool) (out:List Int):Prop:=∀ x:Int,x∈out↔(0<=x+off∧x+off<met.length∧met.getD (x+off).toNat false=true)
theorem qsu {off:Int} {met:List Bool} {out:List Int} (h:qrw off met out) {n:Int} (h0:0<=n+off) (h1:n+off<met.length):qrw off (met.set (n+off).toNat true) (out++[n]):=by
 intro x;rw [List.mem_append,List.mem_singleton,h x,List.length_set,List.getD_eq_getElem?_getD,List.getD_eq_getElem?_getD]
 by_cases hx:x=n
 ·subst hx
  rw [List.getElem?_set_self (by omega)];simp [h0,h1]
 ·by_cases hr:0<=x+off
  ·rw [List.getElem?_set_ne (by omega)]
   simp [hx]
  ·constructor
   ·rintro (h|h)
    ·exact absurd h.1 hr
    ·exact absurd h hx
   ·intro h
    exact absurd h.1 hr
theorem qrQ (off:Int) (n:Nat):qrw off (List.replicate n false) []:=by
 intro x;simp only [List.not_mem_nil,false_iff];rintro ⟨_,_,h⟩;rw [List.getD_eq_getElem?_getD,List.getElem?_replicate] at h
 split at h<;>simp at h
structure qiB (off:Int) (met:List Bool) (out:List Int):Prop where
 has:qrw off met out
 nd:out.Nodup
theorem qo2 {off:Int} {met:List Bool} {out:List Int} (h:qiB off met out) {n:Int} (h0:0<=n+off) (h1:n+off<met.length) (hf:¬ met.getD (n+off).toNat false=true):qiB off (met.set (n+off).toNat true) (out++[n]) :=
 ⟨qsu h.has h0 h1,List.nodup_append.2 ⟨h.nd,by simp,fun x hx y hy e=>by
  rw [List.mem_singleton.1 hy] at e;subst e
  exact hf ((h.has _).1 hx).2.2⟩⟩
theorem qob (off:Int) (n:Nat):qiB off (List.replicate n false) []:=⟨qrQ off n,List.nodup_nil⟩
theorem qme {off:Int} {met:List Bool} {out:List Int} (h:qiB off met out):out.length<=met.length:=by
 have hs:(out.map fun x=>(x+off).toNat).Nodup:=by
  refine List.pairwise_map.2 (List.Pairwise.imp_of_mem (fun {x y} hx hy hne e=>?_) h.nd);have:=(h.has x).1 hx;have:=(h.has y).1 hy;exact hne (by omega)
 have hb:∀ z∈out.map fun x=>(x+off).toNat,z∈List.range met.length:=by
  intro z hz;obtain ⟨x,hx,rfl⟩:=List.mem_map.1 hz;have:=(h.has x).1 hx;rw [List.mem_range]
  omega
 have:=hs.length_le_of_subset hb
 simpa using this
theorem Ev.step2 {α:Type} {g f:Nat->Option α} {r:α} (K0:Nat) (h:∀ k,K0<=k->g (k+1)=f k) (k:Ev f r):Ev g r:=by
 obtain ⟨K,hK⟩:=k;refine ⟨max K K0+1,fun k hk=>?_⟩;obtain ⟨k,rfl⟩:∃ m,k=m+1:=⟨k - 1,by omega⟩;rw [h k (by omega)];exact hK k (by omega)
theorem rdB {l:List Bool} {i:Int}:Sl false l i=l.getD i.toNat false:=rfl
section
variable {h:List bI} {a b:List bB} {d:Int} {takes first second:List (List Int)} {P:List Int->Prop}
theorem qtn {t i:Nat} {A:Int} {B:List Int->Int} (ht:t<takes.length) (hi:i<first.length) (hA:0<=A∧A<=100) (hB:∀ s∈second,0<=B s∧B s<=100)
  (dA:∀ k,10<=k->qbf.f k h d takes[t] a first[i]=some A) (dB:∀ k,10<=k->∀ s∈second,qbf.f k h d takes[t] b s=some (B s)) (h1:takes.length<=1000) (h2:first.length<=1000) (h3:second.length<=1000) :
  ∀ (m j:Nat) (met:List Bool) (out:List Int),j+m=second.length->met.length=201->qiB 100 met out->out.length+m<=100000000000 ->
   (∀ met' out',met'.length=201->qiB 100 met' out'->out'.length<=out.length+m->(∀ x,x∈out'↔x∈out∨∃ s∈second.drop j,x=A - B s)->∃ r,Ev (fun k=>qam.l1 k d a b takes first second met' out' t (wrap64 ((i:Int)+1)) h) r∧P r) ->
   ∃ r,Ev (fun k=>qam.l2 k d a b takes first second met out t i j h) r∧P r:=by
 intro m
 induction m with
 | zero =>
  intro j met out hj hm hM hn hk;obtain ⟨r,hr,hp⟩:=hk met out hm hM (by omega) (fun x=>by rw [List.drop_eq_nil_of_le (by omega)];simp);refine ⟨r,Ev.step (fun k=>?_) hr,hp⟩;rw [qam.l2,if_neg (by omega)]
 | succ m ih =>
  intro j met out hjm hm hM hn hk
  have hj:j<second.length:=by omega
  have hs:=List.getElem_mem hj;have hb:=hB _ hs;have e1:wrap64 (A - B second[j])=A - B second[j]:=Br (by omega) (by omega);have e2:wrap64 (A - B second[j]+100)=A - B second[j]+100:=Br (by omega) (by omega);have hd:=List.drop_eq_getElem_cons hj
  have step:∀ (qoc:List Bool) (qoQ:List Int),(∀ k,10<=k->qam.l2 (k+1) d a b takes first second met out t i j h=qam.l2 k d a b takes first second qoc qoQ t i ((j+1:Nat):Int) h)->qoc.length=201->qiB 100 qoc qoQ->qoQ.length<=out.length+1->(∀ x,x∈qoQ↔x∈out∨x=A - B second[j])->∃ r,Ev (fun k=>qam.l2 k d a b takes first second met out t i j h) r∧P r:=by
   intro qoc qoQ he hm2 hM2 hl2 hx2
   obtain ⟨r,hr,hp⟩:=ih (j+1) qoc qoQ (by omega) hm2 hM2 (by omega) fun met' out' i1 i2 i3 i4=>hk met' out' i1 i2 (by omega) fun x=>by
    rw [i4 x,hx2 x,hd];simp only [List.mem_cons,or_assoc]
    constructor
    ·rintro (h|h|⟨s,h,e⟩)
     ·exact .inl h
     ·exact .inr ⟨_,.inl rfl,h⟩
     ·exact .inr ⟨s,.inr h,e⟩
    ·rintro (h|⟨s,h|h,e⟩)
     ·exact .inl h
     ·exact .inr (.inl (h ▸ e))
     ·exact .inr (.inr ⟨s,h,e⟩)
   exact ⟨r,Ev.step2 10 he hr,hp⟩
  have base:∀ k,10<=k->qam.l2 (k+1) d a b takes first second met out t i j h=if met.getD (A - B second[j]+100).toNat false=true then qam.l2 k d a b takes first second met out t i ((j+1:Nat):Int) h else qam.l2 k d a b takes first second (met.set (A - B second[j]+100).toNat true) (out++[A - B second[j]]) t i ((j+1:Nat):Int) h:=by
   intro k hk10;rw [qam.l2,if_pos (by omega),if_pos (by omega),if_pos (by omega),if_pos (by omega),if_pos (by omega),qtb ht,qtb hi,dA k hk10,Option.bind_some,if_pos (by omega),qtb hj,dB k hk10 _ hs,Option.bind_some,e1,e2,if_pos (by omega),if_pos (by omega),rdB,if_pos (show out.length<17592186044416 by omega),QJ (by omega)]
  by_cases hmt:met.getD (A - B second[j]+100).toNat false=true
  ·refine step met out (fun k hk10=>by rw [base k hk10,if_pos hmt]) hm hM (by omega) fun x=>?_
   constructor
   ·exact .inl
   ·rintro (h|rfl)
    ·exact h
    ·exact (hM.has _).2 ⟨by omega,by omega,hmt⟩
  ·exact step _ _ (fun k hk10=>by rw [base k hk10,if_neg hmt]) (by simpa using hm) (qo2 hM (by omega) (by omega) hmt) (by simp) fun x=>by simp
theorem qto {t:Nat} {A B:List Int->Int} (ht:t<takes.length) (hA:∀ s∈first,0<=A s∧A s<=100) (hB:∀ s∈second,0<=B s∧B s<=100)
  (dA:∀ k,10<=k->∀ s∈first,qbf.f k h d takes[t] a s=some (A s)) (dB:∀ k,10<=k->∀ s∈second,qbf.f k h d takes[t] b s=some (B s)) (h1:takes.length<=1000) (h2:first.length<=1000) (h3:second.length<=1000) :
  ∀ (m i:Nat) (met:List Bool) (out:List Int),i+m=first.length->met.length=201->qiB 100 met out->out.length+1000*m<=10000000000 ->
   (∀ met' out',met'.length=201->qiB 100 met' out'->out'.length<=out.length+1000*m->(∀ x,x∈out'↔x∈out∨∃ q∈first.drop i,∃ s∈second,x=A q - B s)->∃ r,Ev (fun k=>qam.l0 k d a b takes first second met' out' (wrap64 ((t:Int)+1)) h) r∧P r) ->
   ∃ r,Ev (fun k=>qam.l1 k d a b takes first second met out t i h) r∧P r:=by
 intro m
 induction m with
 | zero =>
  intro i met out hi hm hM hn hk;obtain ⟨r,hr,hp⟩:=hk met out hm hM (by omega) (fun x=>by rw [List.drop_eq_nil_of_le (by omega)];simp);refine ⟨r,Ev.step (fun k=>?_) hr,hp⟩;rw [qam.l1,if_neg (by omega)]
 | succ m ih =>
  intro i met out him hm hM hn hk
  have hi:i<first.length:=by omega
  have hq:=List.getElem_mem hi
  obtain ⟨r,hr,hp⟩:=qtn (P:=P) (A:=A first[i]) (B:=B) ht hi (hA _ hq) hB (fun k hk=>dA k hk _ hq) dB h1 h2 h3 second.length 0 met out (by omega) hm hM (by omega) fun qsv qvy i1 i2 i3 i4=>by
   rw [QJ (by omega)]
   refine ih (i+1) qsv qvy (by omega) i1 i2 (by omega) fun met' out' j1 j2 j3 j4=>hk met' out' j1 j2 (by omega) fun x=>?_
   rw [j4 x,i4 x,List.drop_zero,List.drop_eq_getElem_cons hi];simp only [List.mem_cons,or_assoc]
   constructor
   ·rintro (h|⟨s,h,e⟩|⟨q,h,s,h2,e⟩)
    ·exact .inl h
    ·exact .inr ⟨_,.inl rfl,s,h,e⟩
    ·exact .inr ⟨q,.inr h,s,h2,e⟩
   ·rintro (h|⟨q,h|h,s,h2,e⟩)
    ·exact .inl h
    ·exact .inr (.inl ⟨s,h2,h ▸ e⟩)
    ·exact .inr (.inr ⟨q,h,s,h2,e⟩)
  refine ⟨r,Ev.step (fun k=>?_) hr,hp⟩;rw [qam.l1,if_pos (by omega)]
  rfl
theorem qtp {A B:List Int->List Int->Int} (hA:∀ u∈takes,∀ s∈first,0<=A u s∧A u s<=100) (hB:∀ u∈takes,∀ s∈second,0<=B u s∧B u s<=100)
  (dA:∀ k,10<=k->∀ u∈takes,∀ s∈first,qbf.f k h d u a s=some (A u s)) (dB:∀ k,10<=k->∀ u∈takes,∀ s∈second,qbf.f k h d u b s=some (B u s)) (h1:takes.length<=1000) (h2:first.length<=1000) (h3:second.length<=1000) :
  ∀ (m t:Nat) (met:List Bool) (out:List Int),t+m=takes.length->met.length=201->qiB 100 met out->out.length+1000000*m<=10000000000 ->
   ∃ r,Ev (fun k=>qam.l0 k d a b takes first second met out t h) r∧(∀ x,x∈r↔x∈out∨∃ u∈takes.drop t,∃ q∈first,∃ s∈second,x=A u q - B u s)∧r.length<=201:=by
 intro m
 induction m with
 | zero =>
  intro t met out ht hm hM hn;refine ⟨out,Ev.step (f:=fun _=>some out) (fun k=>?_) (Ev.now _),fun x=>by rw [List.drop_eq_nil_of_le (by omega)];simp,by have:=qme hM;omega⟩;rw [qam.l0,if_neg (by omega)]
 | succ m ih =>
  intro t met out Zo hm hM hn
  have ht:t<takes.length:=by omega
  have hu:=List.getElem_mem ht
  obtain ⟨r,hr,hp⟩:=qto (P:=fun r=>(∀ x,x∈r↔x∈out∨∃ u∈takes.drop t,∃ q∈first,∃ s∈second,x=A u q - B u s)∧r.length<=201) (A:=A takes[t]) (B:=B takes[t]) ht (hA _ hu) (hB _ hu) (fun k hk=>dA k hk _ hu) (fun k hk=>dB k hk _ hu) h1 h2 h3 first.length 0 met out (by omega) hm hM (by omega) fun qsv qvy i1 i2 i3 i4=>by
   rw [QJ (by omega)];obtain ⟨r,hr,hx,hl⟩:=ih (t+1) qsv qvy (by omega) i1 i2 (by omega);refine ⟨r,hr,fun x=>?_,by omega⟩;rw [hx x,i4 x,List.drop_zero,List.drop_eq_getElem_cons ht];simp only [List.mem_cons,or_assoc]
   constructor
   ·rintro (h|⟨q,h,s,h2,e⟩|⟨u,h0,q,h,s,h2,e⟩)
    ·exact .inl h
    ·exact .inr ⟨_,.inl rfl,q,h,s,h2,e⟩
    ·exact .inr ⟨u,.inr h0,q,h,s,h2,e⟩
   ·rintro (h|⟨u,h0|h0,q,h,s,h2,e⟩)
    ·exact .inl h
    ·exact .inr (.inl ⟨q,h,s,h2,h0 ▸ e⟩)
    ·exact .inr (.inr ⟨u,h0,q,h,s,h2,e⟩)
  refine ⟨r,Ev.step (fun k=>?_) hr,hp⟩;rw [qam.l0,if_pos (by omega)]
  rfl
end
section
variable {h:List bI} {a b:List bB} {d:Int}
theorem qsw {l:List bB} {s:bQ} (hs:s∈qhA l d):s=⟨0,0⟩∨∃ b∈l,s=b.f2:=by
 obtain ⟨b,hb,rfl⟩:=List.mem_map.1 hs
 by_cases h:b.f0=d
 ·rw [if_pos h]
  exact .inr ⟨b,hb,rfl⟩
 ·rw [if_neg h]
  exact .inl rfl
theorem qjI {n:Nat} {l:List bB} (hb:iq n l=true):∀ s∈qhA l d,0<=s.f0∧s.f1<=12∧s.f1 - s.f0<=2∧s.f0<=s.f1:=by
 intro s hs
 rcases qsw hs with rfl|⟨b,hb2,rfl⟩
 ·decide
 ·have:=(qI hb).hours b hb2
  have:=zf hb hb2
  omega
theorem qod (m:Nat->Bool):∀ {ts:List bQ} {i:Nat} {s:bQ},s∈qd7 m ts i->∃ q∈ts,s.f0=q.f0∧(s.f1=q.f1∨s.f1=q.f0)
 | [],_,_,h=>by cases h
 | q::r,i,s,h=>by
  rcases List.mem_cons.1 h with rfl|h
  ·refine ⟨q,List.mem_cons_self ..,?_⟩
   by_cases hm:m i=true
   ·rw [if_pos hm];exact ⟨rfl,.inl rfl⟩
   ·rw [if_neg hm];exact ⟨rfl,.inr rfl⟩
  ·obtain ⟨p,hp,e⟩:=qod m h
   exact ⟨p,List.mem_cons_of_mem _ hp,e⟩
theorem qtq {l:List bB} {b:bB} (hb:b∈l) (h0:b.f0=d) (h1:0<=b.f1):qiD d l b.f1.toNat=true:=by
 refine List.any_eq_true.2 ⟨b,hb,?_⟩;simp [h0]
 omega
theorem qo3 {all:List bB} {n:Nat} {l:List bB} (hs:∀ x∈l,x∈all) (hb:iq n l=true) {xs ys:List Int} (h:∀ j,qiD d all j=true->ys[j]?=xs[j]?) (hours:List Int):yR d ys (ownB l d) hours=yR d xs (ownB l d) hours:=by
 refine qnC fun b hb2 hd=>?_
 have hm:=(List.mem_filter.1 hb2).1;have h1:=(qI hb).Ub b hm;have:=h _ (qtq (hs _ hm) hd h1.1);rw [rd,rd,List.getD_eq_getElem?_getD,List.getD_eq_getElem?_getD,this]
theorem qsx (hh:iN h=true) (ha:iq h.length a=true) (hb:iq h.length b=true) (hd:0<=d∧d<h.length):∃ r,Ev (fun k=>qam.f k h d a b) r∧(∀ x,x∈r↔∃ u∈lD (aX h d).f0,∃ n∈ku h a d u,∃ m∈ku h b d u,x=n - m)∧r.length<=201:=by
 have HO:=qH hh;have hm:=oH hd;have h3:=HO.takes _ hm;have hsp:=HO.span _ hm
 have quw:∀ s∈(aX h d).f0,s.f0<=s.f1:=fun s hs=>ze hh hm hs
 have hf:=HO.full _ hm;have A3:=(qI ha).len;have B3:=(qI hb).len
 have hU:∀ s∈qd7 (qiD d (a++b)) (aX h d).f0 0,0<=s.f0∧s.f1<=20∧s.f1 - s.f0<=2:=fun s hs=>by
  obtain ⟨q,hq,e⟩:=qod _ hs;have:=hsp q hq;have:=quw q hq
  omega
 have e1:=qtm (a:=a) (b:=b) hd (by omega) (by omega) (by omega);have e2:=qnE (ls:=qd7 (qiD d (a++b)) (aX h d).f0 0) (fun s hs=>by have:=hU s hs;omega) (by rw [qe7];omega);have e3:=qsh (l:=a) (d:=d) (by omega);have e4:=qnE (ls:=qhA a d) (fun s hs=>by have:=qjI ha s hs;omega) (by rw [qhA,List.length_map];omega);have e5:=qsh (l:=b) (d:=d) (by omega);have e6:=qnE (ls:=qhA b d) (fun s hs=>by have:=qjI hb s hs;omega) (by rw [qhA,List.length_map];omega);have l1:(lD (qd7 (qiD d (a++b)) (aX h d).f0 0)).length<=27:=Nat.le_trans (zU fun s hs=>(hU s hs).2.2) (Ig (by rw [qe7];omega));have l2:(lD (qhA a d)).length<=27:=Nat.le_trans (zU fun s hs=>(qjI ha s hs).2.2.1) (Ig (by rw [qhA,List.length_map];omega));have l3:(lD (qhA b d)).length<=27:=Nat.le_trans (zU fun s hs=>(qjI hb s hs).2.2.1) (Ig (by rw [qhA,List.length_map];omega))
 have tk:∀ u∈lD (qd7 (qiD d (a++b)) (aX h d).f0 0),u.length=3∧∀ x∈u,0<=x∧x<=1000:=fun u hu =>
  ⟨by rw [qG hu,qe7];omega,fun x hx=>by have:=vW (lo:=0) (hi:=20) hu (fun s hs=>⟨(hU s hs).1,(hU s hs).2.1⟩) x hx;omega⟩
 have dep:∀ (l:List bB),iq h.length l=true->∀ k,10<=k->∀ u∈lD (qd7 (qiD d (a++b)) (aX h d).f0 0),∀ s∈lD (qhA l d),qbf.f k h d u l s=some (tq (aX h d).f1 d u l s)∧0<=tq (aX h d).f1 d u l s∧tq (aX h d).f1 d u l s<=100:=fun l hl k hk u hu s hs=>by
  have BO:=qI hl;have hlen:=BO.len
  have hs2:∀ x∈s,0<=x∧x<=1000:=fun x hx=>by have:=vW (lo:=0) (hi:=12) hs (fun q hq=>⟨(qjI hl q hq).1,(qjI hl q hq).2.1⟩) x hx;omega
  exact ⟨qr4 hd (by omega) (by rw [qG hs,qhA,List.length_map]) hs2 (tk u hu).2 (fun q hq _=>by have:=BO.Ub q hq;rw [(tk u hu).1];omega) (by omega),rD hf (tk u hu).2 hs2⟩
 obtain ⟨r,hr,hx,hlr⟩:=qtp (h:=h) (a:=a) (b:=b) (d:=d) (takes:=lD (qd7 (qiD d (a++b)) (aX h d).f0 0)) (first:=lD (qhA a d)) (second:=lD (qhA b d)) (A:=fun u s=>tq (aX h d).f1 d u a s) (B:=fun u s=>tq (aX h d).f1 d u b s)
  (fun u hu s hs=>(dep a ha 10 (Nat.le_refl _) u hu s hs).2) (fun u hu s hs=>(dep b hb 10 (Nat.le_refl _) u hu s hs).2) (fun k hk u hu s hs=>(dep a ha k hk u hu s hs).1) (fun k hk u hu s hs=>(dep b hb k hk u hu s hs).1) (by omega) (by omega) (by omega)
  _ 0 (List.replicate 201 false) [] (Nat.zero_add _) List.length_replicate (qob _ _) (by simp only [List.length_nil];omega)
 refine ⟨r,?_,fun x=>?_,hlr⟩
 ·refine Ev.bind e1 (Ev.bind e2 (Ev.bind e3 (Ev.bind e4 (Ev.bind e5 (Ev.bind e6 ?_)))))
  exact hr
 ·rw [hx x,List.drop_zero]
  simp only [List.not_mem_nil,false_or]
  constructor
  ·rintro ⟨u,hu,q,hq,s,hs,rfl⟩
   obtain ⟨q2,i1,i2⟩:=qnB (qeb.1 hq);obtain ⟨s2,j1,j2⟩:=qnB (qeb.1 hs);refine ⟨u,qeb.2 (qoT quw (qeb.1 hu)),_,List.mem_map.2 ⟨q2,qeb.2 i1,rfl⟩,_,List.mem_map.2 ⟨s2,qeb.2 j1,rfl⟩,?_⟩;simp only [tq,i2,j2]
  ·rintro ⟨u,hu,n,hn,m,hm2,rfl⟩
   obtain ⟨q2,hq2,rfl⟩:=List.mem_map.1 hn;obtain ⟨s2,hs2,rfl⟩:=List.mem_map.1 hm2;obtain ⟨ys,k1,k2,k3⟩:=qrn (m:=qiD d (a++b)) 0 (qeb.1 hu);simp only [Nat.zero_add] at k3;obtain ⟨q,i1,i2⟩:=qpa (qeb.1 hq2);obtain ⟨s,j1,j2⟩:=qpa (qeb.1 hs2);refine ⟨ys,qeb.2 k1,q,qeb.2 i1,s,qeb.2 j1,?_⟩;simp only [tq,i2,j2];rw [qo3 (fun x hx=>List.mem_append_left _ hx) ha k3,qo3 (fun x hx=>List.mem_append_right _ hx) hb k3]
theorem qoq {wt x:Int}:x∈F6 h a b d wt↔∃ u∈lD (aX h d).f0,∃ n∈ku h a d u,∃ m∈ku h b d u,x=wt*(n - m):=by
 unfold F6 Bt
 simp only [List.mem_flatMap,List.mem_map]
 constructor
 ·rintro ⟨u,hu,n,hn,m,hm,rfl⟩
  exact ⟨u,hu,n,hn,m,hm,rfl⟩
 ·rintro ⟨u,hu,n,hn,m,hm,rfl⟩
  exact ⟨u,hu,n,hn,m,hm,rfl⟩
end
section
variable {h:List bI} {a b:List bB} {ws:List Int}
theorem qtr {out l:List Int} {d i:Nat} {P:List Int->Prop} (hd:d<ws.length) (hi:i<out.length) (hB:∀ x∈l,-6000<=out[i]+ws[d]*x∧out[i]+ws[d]*x<=6000) (hC:∀ x∈l,-10000<=ws[d]*x∧ws[d]*x<=10000) (hlen:l.length<=1000) :
  ∀ (m j:Nat) (met:List Bool) (nxt:List Int),j+m=l.length->met.length=12001->qiB 6000 met nxt ->
   (∀ met' qlO,met'.length=12001->qiB 6000 met' qlO->(∀ x,x∈qlO↔x∈nxt∨∃ s∈l.drop j,x=out[i]+ws[d]*s)->∃ r,Ev (fun k=>vg.l1 k a b out d l met' qlO (wrap64 ((i:Int)+1)) h ws) r∧P r) ->
   ∃ r,Ev (fun k=>vg.l2 k a b out d l met nxt i j h ws) r∧P r:=by
 intro m
 induction m with
 | zero =>
  intro j met nxt hj hm hM hk;obtain ⟨r,hr,hp⟩:=hk met nxt hm hM (fun x=>by rw [List.drop_eq_nil_of_le (by omega)];simp);refine ⟨r,Ev.step (fun k=>?_) hr,hp⟩;rw [vg.l2,if_neg (by omega)]
 | succ m ih =>
  intro j met nxt hjm hm hM hk
  have hj:j<l.length:=by omega
  have hs:=List.getElem_mem hj;have hb:=hB _ hs;have hc:=hC _ hs;have hd2:=List.drop_eq_getElem_cons hj;have hln:=qme hM;have e0:wrap64 (ws[d]*l[j])=ws[d]*l[j]:=Br (by omega) (by omega);have e1:wrap64 (out[i]+ws[d]*l[j])=out[i]+ws[d]*l[j]:=Br (by omega) (by omega);have e2:wrap64 (out[i]+ws[d]*l[j]+6000)=out[i]+ws[d]*l[j]+6000:=Br (by omega) (by omega)
  have step:∀ (qoc:List Bool) (qsy:List Int),(∀ k,vg.l2 (k+1) a b out d l met nxt i j h ws=vg.l2 k a b out d l qoc qsy i ((j+1:Nat):Int) h ws)->qoc.length=12001->qiB 6000 qoc qsy->(∀ x,x∈qsy↔x∈nxt∨x=out[i]+ws[d]*l[j])->∃ r,Ev (fun k=>vg.l2 k a b out d l met nxt i j h ws) r∧P r:=by
   intro qoc qsy he hm2 hM2 hx2
   obtain ⟨r,hr,hp⟩:=ih (j+1) qoc qsy (by omega) hm2 hM2 fun met' qlO i1 i2 i4=>hk met' qlO i1 i2 fun x=>by
    rw [i4 x,hx2 x,hd2];simp only [List.mem_cons,or_assoc]
    constructor
    ·rintro (h|h|⟨s,h,e⟩)
     ·exact .inl h
     ·exact .inr ⟨_,.inl rfl,h⟩
     ·exact .inr ⟨s,.inr h,e⟩
    ·rintro (h|⟨s,h|h,e⟩)
     ·exact .inl h
     ·exact .inr (.inl (h ▸ e))
     ·exact .inr (.inr ⟨s,h,e⟩)
   exact ⟨r,Ev.step he hr,hp⟩
  have base:∀ k,vg.l2 (k+1) a b out d l met nxt i j h ws=if met.getD (out[i]+ws[d]*l[j]+6000).toNat false=true then vg.l2 k a b out d l met nxt i ((j+1:Nat):Int) h ws else vg.l2 k a b out d l (met.set (out[i]+ws[d]*l[j]+6000).toNat true) (nxt++[out[i]+ws[d]*l[j]]) i ((j+1:Nat):Int) h ws:=by
   intro k;rw [vg.l2,if_pos (by omega),if_pos (by omega),if_pos (by omega),if_pos (by omega),if_pos (by omega),if_pos (by omega),sZ hi,sZ hd,sZ hj,e0,e1,e2,if_pos (by omega),if_pos (by omega),rdB,if_pos (show nxt.length<17592186044416 by omega),QJ (by omega)]
  by_cases hmt:met.getD (out[i]+ws[d]*l[j]+6000).toNat false=true
  ·refine step met nxt (fun k=>by rw [base k,if_pos hmt]) hm hM fun x=>?_
   constructor
   ·exact .inl
   ·rintro (h|rfl)
    ·exact h
    ·exact (hM.has _).2 ⟨by omega,by omega,hmt⟩
  ·exact step _ _ (fun k=>by rw [base k,if_neg hmt]) (by simpa using hm) (qo2 hM (by omega) (by omega) hmt) fun x=>by simp
theorem qts {out l:List Int} {d:Nat} {P:List Int->Prop} (hd:d<ws.length) (hB:∀ o∈out,∀ x∈l,-6000<=o+ws[d]*x∧o+ws[d]*x<=6000) (hC:∀ x∈l,-10000<=ws[d]*x∧ws[d]*x<=10000) (hlen:l.length<=1000) (hol:out.length<=20000) :
  ∀ (m i:Nat) (met:List Bool) (nxt:List Int),i+m=out.length->met.length=12001->qiB 6000 met nxt ->
   (∀ met' qlO,met'.length=12001->qiB 6000 met' qlO->(∀ x,x∈qlO↔x∈nxt∨∃ o∈out.drop i,∃ s∈l,x=o+ws[d]*s)->∃ r,Ev (fun k=>vg.l0 k a b qlO (wrap64 ((d:Int)+1)) h ws) r∧P r) ->
   ∃ r,Ev (fun k=>vg.l1 k a b out d l met nxt i h ws) r∧P r:=by
 intro m
 induction m with
 | zero =>
  intro i met nxt hi hm hM hk;obtain ⟨r,hr,hp⟩:=hk met nxt hm hM (fun x=>by rw [List.drop_eq_nil_of_le (by omega)];simp);refine ⟨r,Ev.step (fun k=>?_) hr,hp⟩;rw [vg.l1,if_neg (by omega)]
 | succ m ih =>
  intro i met nxt him hm hM hk
  have hi:i<out.length:=by omega
  have hq:=List.getElem_mem hi
  obtain ⟨r,hr,hp⟩:=qtr (P:=P) (a:=a) (b:=b) (h:=h) hd hi (hB _ hq) hC hlen l.length 0 met nxt (by omega) hm hM fun qsv qy5 i1 i2 i4=>by
   rw [QJ (by omega)]
   refine ih (i+1) qsv qy5 (by omega) i1 i2 fun met' qlO j1 j2 j4=>hk met' qlO j1 j2 fun x=>?_
   rw [j4 x,i4 x,List.drop_zero,List.drop_eq_getElem_cons hi];simp only [List.mem_cons,or_assoc]
   constructor
   ·rintro (h|⟨s,h,e⟩|⟨q,h,s,h2,e⟩)
    ·exact .inl h
    ·exact .inr ⟨_,.inl rfl,s,h,e⟩
    ·exact .inr ⟨q,.inr h,s,h2,e⟩
   ·rintro (h|⟨q,h|h,s,h2,e⟩)
    ·exact .inl h
    ·exact .inr (.inl ⟨s,h2,h ▸ e⟩)
    ·exact .inr (.inr ⟨q,h,s,h2,e⟩)
  refine ⟨r,Ev.step (fun k=>?_) hr,hp⟩;rw [vg.l1,if_pos (by omega)]
  rfl
theorem qjp:∀ (ws:List Int) (d:Int) (out qoQ:List Int),(∀ x,x∈out↔x∈qoQ)->∀ x,x∈ql h a b ws d out↔x∈ql h a b ws d qoQ
 | [],_,_,_,he=>he
 | w::ws,d,out,qoQ,he=>qjp ws (d+1) _ _ fun x=>by
  simp only [List.mem_flatMap];exact ⟨fun ⟨n,hn,hx⟩=>⟨n,(he n).1 hn,hx⟩,fun ⟨n,hn,hx⟩=>⟨n,(he n).2 hn,hx⟩⟩
theorem qtt (hh:iN h=true) (hw:oJ h.length ws=true) (ha:iq h.length a=true) (hb:iq h.length b=true):∀ (m d:Nat) (out:List Int),d+m=h.length->out.length<=12001->(∀ x∈out,-900*(d:Int)<=x∧x<=900*d) ->
  ∃ r,Ev (fun k=>vg.l0 k a b out d h ws) r∧r.length<=12001∧∀ x,x∈r↔x∈ql h a b (ws.drop d) d out:=by
 have WO:=rH hw;have hl3:=(qH hh).len;intro m
 induction m with
 | zero =>
  intro d out hd ho hx;refine ⟨out,Ev.step (f:=fun _=>some out) (fun k=>?_) (Ev.now _),ho,fun x=>?_⟩
  ·rw [vg.l0,if_neg (by omega)]
  ·rw [List.drop_eq_nil_of_le (by have:=WO.len;omega),ql]
 | succ m ih =>
  intro d out hdm ho hx
  have hd:d<ws.length:=by have:=WO.len;omega
  have hdl:(0:Int)<=(d:Int)∧(d:Int)<h.length:=by omega
  obtain ⟨l,hl,hm,hn⟩:=qsx (a:=a) (b:=b) hh ha hb hdl;have hwt:=WO.wt _ (List.getElem_mem hd)
  have hlb:∀ x∈l,-900<=ws[d]*x∧ws[d]*x<=900:=fun x hx=>by
   obtain ⟨u,hu,n,hn,m,hm2,e⟩:=(hm x).1 hx;exact Kk (qH hh) hdl (qI ha) (qI hb) hwt _ (qoq.2 ⟨u,hu,n,hn,m,hm2,by rw [e]⟩)
  obtain ⟨r,hr,hp⟩:=qts (P:=fun r=>r.length<=12001∧∀ x,x∈r↔x∈ql h a b (ws.drop d) d out) (a:=a) (b:=b) (h:=h) (l:=l) (out:=out) hd (fun o ho2 x hx2=>by have:=hx o ho2;have:=hlb x hx2;omega) (fun x hx=>by have:=hlb x hx;omega) (by omega) (by omega) out.length 0 (List.replicate 12001 false) [] (by omega) List.length_replicate (qob _ _) fun met' qlO j1 j2 j4=>by
   rw [QJ (by omega)]
   have j5:∀ x,x∈qlO↔x∈out.flatMap fun n=>(F6 h a b d ws[d]).map fun m=>n+m:=fun x=>by
    rw [j4 x,List.drop_zero];simp only [List.not_mem_nil,false_or,List.mem_flatMap,List.mem_map]
    constructor
    ·rintro ⟨o,ho2,s,hs,rfl⟩
     obtain ⟨u,hu,n,hn,m,hm2,e⟩:=(hm s).1 hs;exact ⟨o,ho2,_,qoq.2 ⟨u,hu,n,hn,m,hm2,by rw [e]⟩,rfl⟩
    ·rintro ⟨o,ho2,y,hy,rfl⟩
     obtain ⟨u,hu,n,hn,m,hm2,e⟩:=qoq.1 hy;exact ⟨o,ho2,n - m,(hm _).2 ⟨u,hu,n,hn,m,hm2,rfl⟩,by rw [e]⟩
   have hlen:=qme j2
   obtain ⟨r,hr,hq,hp⟩:=ih (d+1) qlO (by omega) (by omega) fun x hx2=>by
    obtain ⟨o,ho2,s,hs,e⟩:=(by simpa using (j4 x).1 hx2:∃ o∈out,∃ s∈l,x=o+ws[d]*s);have:=hx o ho2;have:=hlb s hs
    omega
   refine ⟨r,hr,hq,fun x=>?_⟩;rw [hp x,List.drop_eq_getElem_cons hd,ql];exact qjp _ _ _ _ j5 x
  refine ⟨r,?_,hp⟩;have h2:Ev (fun k=>(qam.f k h d a b).bind fun t=>if 12001<=281474976710656 then vg.l1 k a b out d t (List.replicate 12001 false) [] 0 h ws else none) r:=Ev.bind hl hr;refine Ev.step (fun k=>?_) h2;rw [vg.l0,if_pos (by omega)]
theorem qow (hh:iN h=true) (hw:oJ h.length ws=true) (ha:iq h.length a=true) (hb:iq h.length b=true):∃ r,Ev (fun k=>vg.f k h ws a b) r∧r.length<=12001∧(∀ x,x∈r↔x∈mQ h ws a b):=by
 obtain ⟨r,hr,hx⟩:=qtt hh hw ha hb h.length 0 [0] (by omega) (by simp) (by simp);exact ⟨r,hr,hx⟩
end
end Go.Proofs.YtnpfbjnjdngkhaaGreatDoor.P
namespace Go.Proofs.YtnpfbjnjdngkhaaGreatDoor.P
open Go.RowKit Go.Proofs.YtnpfbjnjdngkhaaGreatDoorW.aQ Go.Proofs.YtnpfbjnjdngkhaaGreatDoorW.bO Go.Proofs.YtnpfbjnjdngkhaaGreatDoorW.bT
attribute [local go_sem] eP eT fU fV dS dU eU eX
def qjD.T6:Bool × List (List Nat × List Nat):=(true,[([],[]),([0],[0]),([],[]),([],[]),([2,3],[2,3]),([4],[4]),([1,5],[1,5]),([],[]),([7],[7]),([],[]),([],[]),([9,10],[9,10]),([11],[11]),([8,12],[8,12]),([6,13],[6,13]),([14,0,1,2,3,4,5,6,7,8,9,10,11,12,13,14],[14])])
def qjD.B6:List Nat:=[0,1,0,0,12,28,63,0,128,0,0,1536,3584,8064,16383,32767]
theorem qjD.qdn:pQ .any (opsOf Tryz.f77 6)=qjD.T6:=by kernel_rfl
theorem qjD.Zg:nT qjD.T6.2 qjD.B6=true:=by kernel_rfl
def qcZ.f (a0:Int) (a1:Int):Option Int:=if a0=a1 then (some 3) else (if a0=0 then (some 1) else (some 2))
theorem qcZ.calls (a0:Int) (a1:Int) (r:Int) (w:World) (h:qcZ.f a0 a1=some r) :
  Calls Tryz.prog 121 #[.int .i64 a0,.int .i64 a1] w fun e w'=>e=.returned (.int .i64 r)∧gU w w':=by
 have H:(if a0=a1 then (some 3) else (if a0=0 then (some 1) else (some 2)))=some r:=h;clear h
 by_cases c3:a0=a1
 ·rw [if_pos c3] at H
  have qd:(a0 == a1)=true:=beq_iff_eq.mpr c3;have yX:(a0 != a1)=false:=bne_eq_false_iff_eq.mpr c3;clear c3;obtain rfl:=Option.some.inj H
  go_enter Tryz.func121,Tryz.ntmps121
  go_wp2
  go_ret
  exact ⟨tS,tD⟩
 ·rw [if_neg c3] at H
  have qd:(a0 == a1)=false:=beq_eq_false_iff_ne.mpr c3;have yX:(a0 != a1)=true:=bne_iff_ne.mpr c3
  by_cases c4:a0=0
  ·rw [if_pos c4] at H
   have pR:(a0 == 0)=true:=beq_iff_eq.mpr c4;have qy6:(a0 != 0)=false:=bne_eq_false_iff_eq.mpr c4;clear c4;obtain rfl:=Option.some.inj H
   go_enter Tryz.func121,Tryz.ntmps121
   go_wp2
   go_ret
   exact ⟨tS,tD⟩
  ·rw [if_neg c4] at H
   have pR:(a0 == 0)=false:=beq_eq_false_iff_ne.mpr c4;have qy6:(a0 != 0)=true:=bne_iff_ne.mpr c4;obtain rfl:=Option.some.inj H
   go_enter Tryz.func121,Tryz.ntmps121
   go_wp2
   go_ret
   exact ⟨tS,tD⟩
mutual
def qaA.l0:Nat->List nJ->List bB->List bB->List Int->Int->List bI->Int->Int->Option (List Int)
 | 0,_,_,_,_,_,_,_,_=>none
 | k+1,x1,x2,x3,x11,Gb,qis,qit,qiu=>if Gb<(x1.length:Int) then (if 0<=Gb then ((vg.f k qis ((nK x1 Gb).f0) x2 x3).bind fun qiJ=>(qaA.l1 k x1 x2 x3 x11 Gb qiJ 0 0 0 qis qit qiu)) else (none)) else (some x11)
def qaA.l1:Nat->List nJ->List bB->List bB->List Int->Int->List Int->Int->Int->Int->List bI->Int->Int->Option (List Int)
 | 0,_,_,_,_,_,_,_,_,_,_,_,_=>none
 | k+1,x1,x2,x3,x11,Gb,VQ,OH,x15,Q8,qis,qit,qiu=>if Q8<(VQ.length:Int) then (qaA.l2 k x1 x2 x3 x11 Gb VQ OH x15 Q8 qit qis qit qiu) else ((qcZ.f OH x15).bind fun qrR=>(if x11.length<17592186044416 then (qaA.l0 k x1 x2 x3 (x11++[qrR]) (wrap64 (Gb+1)) qis qit qiu) else (none)))
def qaA.l2:Nat->List nJ->List bB->List bB->List Int->Int->List Int->Int->Int->Int->Int->List bI->Int->Int->Option (List Int)
 | 0,_,_,_,_,_,_,_,_,_,_,_,_,_=>none
 | k+1,x1,x2,x3,x11,Gb,VQ,OH,x15,Q8,x17,qis,qit,qiu=>if x17<=qiu then (if 0<=Q8 then (if Q8<(VQ.length:Int) then ((fD.f (rd VQ Q8) (wrap64 (-x17)) x17).bind fun qvz=>(if qvz=true then (qaA.l2 k x1 x2 x3 x11 Gb VQ (wrap64 (OH+1)) (wrap64 (x15+1)) Q8 (wrap64 (x17+1)) qis qit qiu) else (qaA.l2 k x1 x2 x3 x11 Gb VQ OH (wrap64 (x15+1)) Q8 (wrap64 (x17+1)) qis qit qiu))) else (none)) else (none)) else (qaA.l1 k x1 x2 x3 x11 Gb VQ OH x15 (wrap64 (Q8+1)) qis qit qiu)
end
def qaA.f (k:Nat) (av:List bI) (l1:List nJ) (l2:List bB) (l3:List bB) (lV:Int) (lW:Int):Option (List Int):=qaA.l0 k l1 l2 l3 ([]:List Int) 0 av lV lW
def qaA.T5:Bool × List (List Nat × List Nat):=(true,[([],[]),([],[]),([],[]),([1,2],[1,2]),([3],[3]),([],[]),([],[]),([0,4,5,6],[0,4,5,6]),([7,7,0,1,2,3,4,5,6,7],[7])])
def qaA.B5:List Nat:=[0,0,0,6,14,0,0,127,255]
theorem qaA.qez:pQ .any (opsOf Tryz.f39 5)=qaA.T5:=by kernel_rfl
theorem qaA.ZL:nT qaA.T5.2 qaA.B5=true:=by kernel_rfl
theorem qaA.calls (k:Nat) (bC:Option Addr) (aZ:Nat) (av:List bI) (A1:Option Addr) (c1:Nat) (l1:List nJ) (A2:Option Addr) (c2:Nat) (l2:List bB) (A3:Option Addr) (c3:Nat) (l3:List bB) (lV:Int) (lW:Int) (r:List Int) (w:World) (dw:Kd.C iG w bC av.length av) (dG:av.length<=aZ) (hr1:Kd.C Bf w A1 l1.length l1) (hc1:l1.length<=c1) (hr2:Kd.C eD w A2 l2.length l2) (hc2:l2.length<=c2) (hr3:Kd.C eD w A3 l3.length l3) (hc3:l3.length<=c3) (h:qaA.f k av l1 l2 l3 lV lW=some r) :
  Calls Tryz.prog 39 #[.agg #[.slice bC av.length aZ],.slice A1 l1.length c1,.slice A2 l2.length c2,.slice A3 l3.length c3,.agg #[.int .i64 lV,.int .i64 lW]] w fun e w'=>∃ lM:Value,e=.returned (lM)∧Kd.R (Kd.int .i64) 88 w' w.heap.size (fun _=>True) lM r∧Below w.heap.size w w':=by
 have qb:=Tryz.underlying24;have jY:=Tryz.underlying37;have GQ:=Tryz.underlying49;have dM:=aj.mk dw;have fu:=aj.mk dG;clear dw dG;have HR1:=aj.mk hr1;have yE:=aj.mk hc1;clear hr1 hc1;have HR2:=aj.mk hr2;have HC2:=aj.mk hc2;clear hr2 hc2;have HR3:=aj.mk hr3;have R9:=aj.mk hc3;clear hr3 hc3;have HB:=aj.mk (Below.refl w.heap.size w);have H:(qaA.l0 k l1 l2 l3 ([]:List Int) 0 av lV lW)=some r:=h;clear h;have H':=aj.mk H;clear H
 go_enter Tryz.func39,Tryz.ntmps39
 go_wp2_with (first|((with_reducible refine au (N:=5) rfl ?_);refine fA 5 #[.slice bC av.length aZ] 24 HB ?_;clear HB;intro qqc w6 hg qhC qz2 HB hb;clear hb hg)|((with_reducible refine au (N:=9) rfl ?_);refine fA 9 #[.int .i64 lV,.int .i64 lW] 37 HB ?_;clear HB;intro qrx w7 hg qeO qz3 HB hb;have qjJ:=Fh qhC hg;have qjL:=Fj qhC hg;replace qhC:=bW qhC hb;clear hb hg))
 go_loopg [11,12] k (fun kq v11 v12 w'=>∃ (yP:List Int) (pU:Int),v12=.int .i64 pU∧aj (qaA.l0 kq l1 l2 l3 yP pU av lV lW=some r)∧aj (kq<=k)∧aj (Kd.R (Kd.int .i64) 88 w' w.heap.size (fun _=>True) v11 yP)∧aj (w'.heap[qqc]?=some (.cells #[(.slice bC av.length aZ)] 24 (0,0)))∧aj (w'.heap[qrx]?=some (.cells #[.int .i64 lV,.int .i64 lW] 37 (0,0)))∧aj (Below w.heap.size w w'))
 case atStart=>exact ⟨(([]:List Int)),(0),tS,H',⟨Nat.le_refl _⟩,⟨by first|exact Kd.mI _ _ _ _ _|exact Kd.wN _ _ _ _ _|exact Kd.wP _ _ _ _ _|exact Kd.wK _ _ _ _ _|exact Kd.wM _ _ _ _ _⟩,⟨(qB2 qhC)⟩,⟨(qB2 qeO)⟩,⟨tB⟩⟩
 case round =>
  clear H'
  try clear c1
  try clear c2
  try clear p2
  try clear c3
  obtain ⟨yP,pU,rfl,HA,qg,oF,qhC,qeO,HB⟩:=hrel
  cases gk with
  | zero=>exact absurd HA.out (by simp [qaA.l0])
  | succ k1 =>
   have H:=HA.out;clear HA;simp only [qaA.l0] at H
   by_cases c8:pU<(l1.length:Int)
   ·rw [if_pos c8] at H
    have Hz:decide (pU<(l1.length:Int))=true:=decide_eq_true c8;clear c8
    by_cases c9:0<=pU
    ·rw [if_pos c9] at H
     have Q9:decide (0<=pU)=true:=decide_eq_true c9;clear c9;obtain ⟨qiJ,Lp,H⟩:=nU H;have H':=aj.mk H;clear H
     try go_wp2
     replace oF:=aj.mk (Kd.mJ oF.out);replace qhC:=aj.mk (aN qhC.out);replace qeO:=aj.mk (aN qeO.out);replace HB:=aj.mk (jD HB.out);have qsz:0<=(pU:Int):=of_decide_eq_true tA;have qsA:pU<(l1.length:Int):=of_decide_eq_true tA;obtain ⟨qw2,qsB,qsC,qy7,qjM,qry,qrz⟩:=LY HR1.out pU qsz qsA;have qrA:=qjM
     cases qy7
     replace qjM:=dz HB qjM;have qrB:=aj.mk qrz;have qtu:=aj.mk qry;clear qrz qry;replace qsz:=eq_true qsz;replace qsA:=eq_true qsA;refine kK (n:=9) (S:=fun w'=>w'.cell? ⟨qqc,0,none⟩=some (.slice bC av.length aZ)∧w'.cell? (qw2.add (pU).toNat)=some (.slice qsB ((nK l1 pU).f0).length qsC)) (ds:=[]) #[false,false,false,false,false,false,false,false,false] tX rfl rfl ⟨(aM qhC.out 0).trans rfl,(dz HB qrA :)⟩ (fun hHeld=>?_);refine mX qaA.qez qaA.ZL (fun fq yF=>?_)
     generalize wr.drew=Jc at oF qhC qeO HB qrB qjM hHeld ⊢
     refine pS 1 25 (bA 9 2) fq ?_;refine pS 2 26 (bA 9 6) fq ?_;refine pS 3 27 (bA 9 14) fq ?_;refine pS 5 29 (bA 9 46) fq ?_;refine pS 6 30 (bA 9 110) fq ?_;refine qyJ 0 24 (bA 9 111) fq yF hHeld ?_;refine qyJ 4 28 (bA 9 127) fq yF hHeld ?_;refine gZ (i:=7) (N:=some 31) (bA 9 255) rfl rfl (jq fq.out tX) (by decide) (fun K hK=>?_);refine gK Tryz.func120 tX rfl #[.agg #[.slice bC av.length aZ],.agg #[.slice qsB ((nK l1 pU).f0).length qsC],.slice A2 l2.length c2,.slice A3 l3.length c3] (by rfl) rfl rfl tM ?_
     with_reducible refine (vg.calls k1 _ _ av _ _ ((nK l1 pU).f0) _ _ l2 _ _ l3 qiJ _ ?bK ?bL ?fM ?fO ?jI ?zL ?J3 ?J4 Lp.out).mono ?_
     (case bK=>exact cS dM)
     (case bL=>exact fu.out)
     (case fM=>exact cS qrB)
     (case fO=>exact qtu.out)
     (case jI=>exact cS HR2)
     (case zL=>exact HC2.out)
     (case J3=>exact cS HR3)
     (case J4=>exact R9.out)
     rintro e yO ⟨qy8,rfl,ho0,hb⟩;refine ⟨_,rfl,?_⟩;replace oF:=tZ oF hb;have qz4:=aj.mk (Kd.dZ ho0 (bD tB));replace qhC:=bW qhC hb;replace qeO:=bW qeO hb;replace HB:=dL HB hb
     (try clear hb)
     (try clear hb2)
     (try clear hk)
     (try clear hi)
     (try clear ho0)
     refine hK.out _ _ ⟨(aM qhC.out 0).trans rfl,(dz HB qrA :)⟩ (fun hHeld=>?_);clear hK K;refine dn (a':=?_) ?_ ?_;rotate_left
     ·show Act.put _ (some 31) _=_
      simp only [Act.put,sL,ay,aA]
      rfl
     refine pS 8 13 (bA 9 511) fq ?_;refine lK (qU fq.out tX) ?_
     try go_wp2
     go_loopg [14,15,16] k1 (fun kq v14 v15 v16 w'=>∃ (qcx:Int) (qcy:Int) (Pf:Int),v14=.int .i64 qcx∧v15=.int .i64 qcy∧v16=.int .i64 Pf∧aj (qaA.l1 kq l1 l2 l3 yP pU qiJ qcx qcy Pf av lV lW=some r)∧aj (kq<=k1)∧aj (Kd.R (Kd.int .i64) 88 w' w.heap.size (fun _=>True) u11 yP)∧aj (Kd.R (Kd.int .i64) 3 w' w.heap.size (fun _=>True) qy8 qiJ)∧aj (w'.heap[qqc]?=some (.cells #[(.slice bC av.length aZ)] 24 (0,0)))∧aj (w'.heap[qrx]?=some (.cells #[.int .i64 lV,.int .i64 lW] 37 (0,0)))∧aj (Below w.heap.size w w'))
     case atStart=>exact ⟨(0),(0),(0),tS,tS,tS,H',⟨Nat.le_refl _⟩,⟨(qCo oF)⟩,⟨(qCo qz4)⟩,⟨(qB2 qhC)⟩,⟨(qB2 qeO)⟩,⟨tB⟩⟩
     case round =>
      clear H'
      try clear c1
      try clear c2
      try clear p2
      try clear c3
      try clear c7
      try clear p7
      try clear q7
      try clear hx7
      try clear c8
      try clear Hz
      try clear c9
      try clear Q9
      try clear c12
      try clear qjM
      try clear p2
      try clear qsz
      try clear qsA
      obtain ⟨qcx,qcy,Pf,rfl,rfl,rfl,HA,VO,oF,qcu,qhC,qeO,HB⟩:=hrel
      cases gk with
      | zero=>exact absurd HA.out (by simp [qaA.l1])
      | succ k2 =>
       have H:=HA.out;clear HA;simp only [qaA.l1] at H
       by_cases c13:Pf<(qiJ.length:Int)
       ·rw [if_pos c13] at H
        have qln:decide (Pf<(qiJ.length:Int))=true:=decide_eq_true c13;clear c13;have H':=aj.mk H;clear H;obtain ⟨qa4,qa5,Tx⟩:=Kd.jc qcu.out;subst Tx;have qmh:=qjL.out;have qmi:=qjJ.out;obtain ⟨Ae,XH⟩:=bc2 qeO;have Af:=bf qeO 0;have XJ:=bf qeO 1
        go_wp2
        go_loopg [14,15,17] k2 (fun kq v14 v15 v17 w'=>∃ (qoy:Int) (qcz:Int) (qhz:Int),v14=.int .i64 qoy∧v15=.int .i64 qcz∧v17=.int .i64 qhz∧aj (qaA.l2 kq l1 l2 l3 yP pU qiJ qoy qcz Pf qhz av lV lW=some r)∧aj (kq<=k2)∧aj (Kd.R (Kd.int .i64) 88 w' w.heap.size (fun _=>True) u11 yP)∧aj (Kd.R (Kd.int .i64) 3 w' w.heap.size (fun _=>True) (.slice qa4 qiJ.length qa5) qiJ)∧aj (w'.heap[qqc]?=some (.cells #[(.slice bC av.length aZ)] 24 (0,0)))∧aj (w'.heap[qrx]?=some (.cells #[.int .i64 lV,.int .i64 lW] 37 (0,0)))∧aj (Below w.heap.size w w'))
        case atStart=>exact ⟨(qcx),(qcy),(lV),tS,tS,tS,H',⟨Nat.le_refl _⟩,⟨(qCo oF)⟩,⟨(qCo qcu)⟩,⟨(qB2 qhC)⟩,⟨(qB2 qeO)⟩,⟨tB⟩⟩
        case round =>
         clear H'
         try clear c1
         try clear c2
         try clear p2
         try clear c3
         try clear c7
         try clear p7
         try clear q7
         try clear hx7
         try clear c8
         try clear Hz
         try clear c9
         try clear Q9
         try clear c12
         try clear c13
         try clear qln
         try clear c15
         try clear Ae
         try clear XH
         try clear Af
         try clear XJ
         try clear qjM
         try clear p2
         try clear p7
         try clear qsz
         try clear q7
         try clear qsA
         obtain ⟨qoy,qcz,qhz,rfl,rfl,rfl,HA,HK3,oF,qcu,qhC,qeO,HB⟩:=hrel
         cases gk with
         | zero=>exact absurd HA.out (by simp [qaA.l2])
         | succ k3 =>
          have H:=HA.out;clear HA;simp only [qaA.l2] at H
          by_cases c17:qhz<=lW
          ·rw [if_pos c17] at H
           have qoX:decide (qhz<=lW)=true:=decide_eq_true c17;clear c17
           by_cases c18:0<=Pf
           ·rw [if_pos c18] at H
            have qz6:decide (0<=Pf)=true:=decide_eq_true c18;clear c18
            by_cases c19:Pf<(qiJ.length:Int)
            ·rw [if_pos c19] at H
             have qus:decide (Pf<(qiJ.length:Int))=true:=decide_eq_true c19;clear c19;obtain ⟨qvz,Ox,H⟩:=nU H
             by_cases c21:qvz=true
             ·subst c21
              rw [if_pos rfl] at H;have H':=aj.mk H;clear H;have qdx:=qjL.out;have qdy:=qjJ.out;obtain ⟨C9,H6⟩:=bc2 qeO;have Da:=bf qeO 0;have Ia:=bf qeO 1;have qqY:0<=(Pf:Int):=of_decide_eq_true tA;have qqZ:Pf<(qiJ.length:Int):=of_decide_eq_true tA;obtain ⟨qw3,qvA,qtv⟩:=Kd.iE (Kd.eB qcu.out).2.2 Pf qqY qqZ
              cases qvA
              replace qqY:=eq_true qqY;replace qqZ:=eq_true qqZ
              go_wp2_with (first|((with_reducible refine aG (f:=109) rfl ?_);refine bX (some 55) rfl rfl Tryz.func109 tX rfl #[.int .i64 (rd qiJ Pf),.int .i64 (wrap64 (-qhz)),.int .i64 qhz] rfl tM ?_;(with_reducible refine (fD.calls (rd qiJ Pf) (wrap64 (-qhz)) qhz true _ Ox.out).mono ?_);rintro e w' ⟨rfl,⟨nd,rfl⟩⟩;refine ⟨_,rfl,?_⟩))
              go_roundg k3
              case measure=>have:=qg.out;have:=VO.out;have:=HK3.out;omega
              case rel=>exact ⟨(wrap64 (qoy+1)),(wrap64 (qcz+1)),(wrap64 (qhz+1)),tS,tS,tS,H',⟨by have:=qg.out;have:=VO.out;have:=HK3.out;omega⟩,⟨(qCo oF)⟩,⟨(qCo qcu)⟩,⟨(qB2 qhC)⟩,⟨(qB2 qeO)⟩,⟨tB⟩⟩
             ·replace c21:=Bool.eq_false_iff.mpr c21
              subst c21
              have H1:(qaA.l2 k3 l1 l2 l3 yP pU qiJ qoy (wrap64 (qcz+1)) Pf (wrap64 (qhz+1)) av lV lW)=some r:=by rw [if_neg (show ¬ (false=true) by decide)] at H;exact H
              clear H;have H:=H1;clear H1;have H':=aj.mk H;clear H;have qeg:=qjL.out;have qeh:=qjJ.out;obtain ⟨DC,XL⟩:=bc2 qeO;have DF:=bf qeO 0;have XM:=bf qeO 1;have qqY:0<=(Pf:Int):=of_decide_eq_true tA;have qqZ:Pf<(qiJ.length:Int):=of_decide_eq_true tA;obtain ⟨qw3,qvA,qtv⟩:=Kd.iE (Kd.eB qcu.out).2.2 Pf qqY qqZ
              cases qvA
              replace qqY:=eq_true qqY;replace qqZ:=eq_true qqZ
              go_wp2_with (first|((with_reducible refine aG (f:=109) rfl ?_);refine bX (some 55) rfl rfl Tryz.func109 tX rfl #[.int .i64 (rd qiJ Pf),.int .i64 (wrap64 (-qhz)),.int .i64 qhz] rfl tM ?_;(with_reducible refine (fD.calls (rd qiJ Pf) (wrap64 (-qhz)) qhz false _ Ox.out).mono ?_);rintro e w' ⟨rfl,⟨nd,rfl⟩⟩;refine ⟨_,rfl,?_⟩))
              go_roundg k3
              case measure=>have:=qg.out;have:=VO.out;have:=HK3.out;omega
              case rel=>exact ⟨(qoy),(wrap64 (qcz+1)),(wrap64 (qhz+1)),tS,tS,tS,H',⟨by have:=qg.out;have:=VO.out;have:=HK3.out;omega⟩,⟨(qCo oF)⟩,⟨(qCo qcu)⟩,⟨(qB2 qhC)⟩,⟨(qB2 qeO)⟩,⟨tB⟩⟩
            ·rw [if_neg c19] at H
             exact absurd H (by simp)
           ·rw [if_neg c18] at H
            exact absurd H (by simp)
          ·rw [if_neg c17] at H
           have qoX:decide (qhz<=lW)=false:=decide_eq_false c17;clear c17;have H':=aj.mk H;clear H;have qz7:=qjL.out;have qz8:=qjJ.out;obtain ⟨qxH,qxI⟩:=bc2 qeO;have qxJ:=bf qeO 0;have qxK:=bf qeO 1
           go_wp2
           go_roundg k3
           case measure=>have:=qg.out;have:=VO.out;have:=HK3.out;omega
           case rel=>exact ⟨(qoy),(qcz),(wrap64 (Pf+1)),tS,tS,tS,H',⟨by have:=qg.out;have:=VO.out;have:=HK3.out;omega⟩,⟨(qCo oF)⟩,⟨(qCo qcu)⟩,⟨(qB2 qhC)⟩,⟨(qB2 qeO)⟩,⟨tB⟩⟩
       ·rw [if_neg c13] at H
        have qln:decide (Pf<(qiJ.length:Int))=false:=decide_eq_false c13;clear c13;obtain ⟨qrR,A28,H⟩:=nU H
        by_cases c29:yP.length<17592186044416
        ·rw [if_pos c29] at H
         have qw4:=aj.mk c29;clear c29;obtain ⟨qw5,qqd⟩:∃ y_:List Int,y_=(yP++[qrR]):=⟨_,rfl⟩
         replace H:(qaA.l0 k2 l1 l2 l3 qw5 (wrap64 (pU+1)) av lV lW)=some r:=by first|(rw [qqd];with_reducible exact H)|(have jr:=(Option.bind_some _ _).symm.trans H;rw [qqd];with_reducible exact jr)|(have jr:=(Option.bind_some _ _).symm.trans H;with_reducible exact jr)|with_reducible exact H|(rw [qqd];exact H)|exact H
         have qw6:=aj.mk qqd;clear qqd;have H':=aj.mk H;clear H;obtain ⟨qyV,qyW,qvs⟩:=Kd.jc qcu.out;subst qvs
         go_wp2_with (first|((with_reducible refine aG (f:=121) rfl ?_);refine bX (some 61) rfl rfl Tryz.func121 tX rfl #[.int .i64 qcx,.int .i64 qcy] rfl tM ?_;(with_reducible refine (qcZ.calls qcx qcy qrR _ A28.out).mono ?_);rintro e w' ⟨rfl,⟨nd,rfl⟩⟩;refine ⟨_,rfl,?_⟩)|((with_reducible refine eY (b:=.append) (xs:=#[.tmp 58,.tmp 62]) rfl ?_);at_builtin;refine Kd.sO (Kd.int .i64) (w0:=w) w.heap.size rfl (.tmp 58) (.tmp 62) 39 88 (.int .i64 0) 8 rfl Tryz.underlying39 qav rfl (by decide) (by omega) u11 yP qrR [.int .i64 qrR] (fun _=>True) (fun _=>False) rfl rfl ?aP (fun _ hk=>hk.elim) ?aF ?aO ?aB ?aS ?aL ?_;(case aP=>exact rfl);(case aB=>exact tB);(case aF=>exact (fun _ _=>trivial));(case aO=>exact (qCo oF));(case aS=>exact (bD tB));(case aL=>have:=qw4.out;omega);intro qBF w31 ho hb hg hat;rw [← qw6.out] at ho;replace qcu:=aj.mk (Kd.qcP (qCo qcu) (Kd.qcD (qCo oF)) (by decide) hg);replace qhC:=aj.mk (jF (g:=qqc) (o:=.cells #[.slice bC av.length aZ] 24 (0,0)) (qB2 qhC) hg (Kd.DZ oF.out qhC.out (by decide)));replace qeO:=aj.mk (jF (g:=qrx) (o:=.cells #[.int .i64 lV,.int .i64 lW] 37 (0,0)) (qB2 qeO) hg (Kd.DZ oF.out qeO.out (by decide)));replace HB:=aj.mk (hb);have qz9:=aj.mk (ho);clear oF;clear ho hb hg hat))
         go_roundg k2
         case measure=>have:=qg.out;have:=VO.out;omega
         case rel=>exact ⟨(qw5),(wrap64 (pU+1)),tS,H',⟨by have:=qg.out;have:=VO.out;omega⟩,⟨(qCo qz9)⟩,⟨(qB2 qhC)⟩,⟨(qB2 qeO)⟩,⟨tB⟩⟩
        ·rw [if_neg c29] at H
         exact absurd H (by simp)
    ·rw [if_neg c9] at H
     exact absurd H (by simp)
   ·rw [if_neg c8] at H
    have Hz:decide (pU<(l1.length:Int))=false:=decide_eq_false c8;clear c8;obtain rfl:=Option.some.inj H
    go_wp2
    go_ret
    exact ⟨_,tF,(qCo oF),tB⟩
end Go.Proofs.YtnpfbjnjdngkhaaGreatDoor.P
namespace Go.Proofs.YtnpfbjnjdngkhaaGreatDoor.P
open Go.RowKit Go.Proofs.YtnpfbjnjdngkhaaGreatDoorW.aQ Go.Proofs.YtnpfbjnjdngkhaaGreatDoorW.bO Go.Proofs.YtnpfbjnjdngkhaaGreatDoorW.bT
section
variable {h:List bI} {a b:List bB} {ws:List Int}
def qjv (bs:List Bool):Int:=(bs.countP id:Int)
theorem qtw (bs:List Bool):0<=qjv bs∧qjv bs<=bs.length:=⟨Int.natCast_nonneg _,by unfold qjv;have:=List.countP_le_length (p:=id) (l:=bs);omega⟩
theorem qrS (bs:List Bool) (t:Bool):qjv (bs++[t])=qjv bs+if t=true then 1 else 0:=by
 unfold qjv
 cases t<;>simp [List.countP_append]
theorem qsD (bs:List Bool):qjv bs=bs.length↔∀ t∈bs,t=true:=by
 unfold qjv
 rw [Int.ofNat_inj,List.countP_eq_length];simp
theorem qrT (bs:List Bool):qjv bs=0↔∀ t∈bs,t=false:=by
 unfold qjv
 rw [show (0:Int)=((0:Nat):Int) from rfl,Int.ofNat_inj,List.countP_eq_zero];simp
def qiF (x e:Int):Bool:=oN x (-e) e
variable {gD:List nJ} {acc:List Int} {e0 e1:Int}
theorem qsE {l:List Int} {i j:Nat} {r:List Int} (hj:j<l.length) (he:0<=e0∧e1<=1000):∀ (m:Nat) (e:Int) (bs:List Bool),(e1+1 - e).toNat=m->e0<=e->bs.length+m<=100000000 ->
  Ev (fun k=>qaA.l1 k gD a b acc i l (qjv (bs++(EG e e1).map (qiF l[j]))) ((bs++(EG e e1).map (qiF l[j])).length:Int) (wrap64 ((j:Int)+1)) h e0 e1) r->Ev (fun k=>qaA.l2 k gD a b acc i l (qjv bs) (bs.length:Int) j e h e0 e1) r:=by
 intro m
 induction m with
 | zero =>
  intro e bs hm hx hn h;rw [Pn (by omega),List.map_nil,List.append_nil] at h;refine Ev.step (fun k=>?_) h;rw [qaA.l2,if_neg (by omega)]
 | succ m ih =>
  intro e bs hm hx hn h;rw [zQ (by omega),List.map_cons,show bs++qiF l[j] e::(EG (e+1) e1).map (qiF l[j])=(bs++[qiF l[j] e])++(EG (e+1) e1).map (qiF l[j]) by simp] at h;have hc:=qtw bs;have h2:=ih (e+1) (bs++[qiF l[j] e]) (by omega) (by omega) (by simp;omega) h;rw [qrS,List.length_append,List.length_singleton] at h2;refine Ev.step (fun k=>?_) h2;rw [qaA.l2,if_pos (by omega),if_pos (by omega),if_pos (by omega),sZ hj,QG,Option.bind_some,Br (x := -e) (by omega) (by omega),Br (x:=qjv bs+1) (by omega) (by omega),Br (x:=(bs.length:Int)+1) (by omega) (by omega),Br (x:=e+1) (by omega) (by omega)];rw [show oN l[j] (-e) e=qiF l[j] e from rfl]
  cases qiF l[j] e with
  | true=>rw [if_pos rfl,if_pos rfl];rfl
  | false=>rw [if_neg (by simp),if_neg (by simp),Int.add_zero];rfl
theorem qsF {l:List Int} {i:Nat} {r:List Int} (he:0<=e0∧e1<=1000) (hw:e1 - e0<=10) (hl:l.length<=20000):∀ (m j:Nat) (bs:List Bool),j+m=l.length->bs.length<=11*j ->
  Ev (fun k=>(qcZ.f (qjv (bs++(l.drop j).flatMap fun x=>(EG e0 e1).map (qiF x))) ((bs++(l.drop j).flatMap fun x=>(EG e0 e1).map (qiF x)).length:Int)).bind fun t=>if acc.length<17592186044416 then qaA.l0 k gD a b (acc++[t]) (wrap64 ((i:Int)+1)) h e0 e1 else none) r->Ev (fun k=>qaA.l1 k gD a b acc i l (qjv bs) (bs.length:Int) j h e0 e1) r:=by
 intro m
 induction m with
 | zero =>
  intro j bs hj hb h;rw [List.drop_eq_nil_of_le (by omega),List.flatMap_nil,List.append_nil] at h;refine Ev.step (fun k=>?_) h;rw [qaA.l1,if_neg (by omega)]
 | succ m ih =>
  intro j bs hjm hb h
  have hj:j<l.length:=by omega
  have hlen:(EG e0 e1).length<=11:=by rw [M5];omega
  rw [List.drop_eq_getElem_cons hj,List.flatMap_cons,← List.append_assoc] at h;have h2:=ih (j+1) (bs++(EG e0 e1).map (qiF l[j])) (by omega) (by rw [List.length_append,List.length_map];omega) h;have h3:=qsE (a:=a) (b:=b) (h:=_) (gD:=gD) (acc:=acc) (e0:=e0) (e1:=e1) (i:=i) (r:=r) hj he (e1+1 - e0).toNat e0 bs rfl (Int.le_refl _) (by omega) (by rw [QJ (by omega)];exact h2);refine Ev.step (fun k=>?_) h3;rw [qaA.l1,if_pos (by omega)]
theorem qq0 (ws:List Int) {l:List Int} (hx:∀ x,x∈l↔x∈mQ h ws a b) (he:e0<=e1) (h0:0<=e0) (hne:mQ h ws a b≠[]) :
  qcZ.f (qjv (l.flatMap fun x=>(EG e0 e1).map (qiF x))) ((l.flatMap fun x=>(EG e0 e1).map (qiF x)).length:Int)=some (uQ h ws a b e0 e1):=by
 have hab:∀ x:Int,0<=Rs x∧x<=Rs x ∧ -x<=Rs x∧(Rs x=x∨Rs x = -x):=fun x=>by unfold Rs;omega
 have t1:(qjv (l.flatMap fun x=>(EG e0 e1).map (qiF x))=((l.flatMap fun x=>(EG e0 e1).map (qiF x)).length:Int))↔((mQ h ws a b).any fun n=>decide (e0<Rs n))=false:=by
  rw [qsD,List.any_eq_false]
  constructor
  ·intro hp x hx2
   have:=hp (qiF x e0) (List.mem_flatMap.2 ⟨x,(hx x).2 hx2,List.mem_map.2 ⟨e0,Po (Int.le_refl _) he,rfl⟩⟩);have h3:=pq.1 this;have:=hab x;simp
   omega
  ·intro hp t ht
   obtain ⟨x,hx2,ht⟩:=List.mem_flatMap.1 ht;obtain ⟨e,he2,rfl⟩:=List.mem_map.1 ht;have h4:=WT he2
   have h5:Rs x<=e0:=by simpa using hp x ((hx x).1 hx2)
   have:=hab x;exact pq.2 ⟨by omega,by omega⟩
 have t2:(qjv (l.flatMap fun x=>(EG e0 e1).map (qiF x))=0)↔((mQ h ws a b).any fun n=>decide (Rs n<=e1))=false:=by
  rw [qrT,List.any_eq_false]
  constructor
  ·intro hp x hx2
   have h3:=hp (qiF x e1) (List.mem_flatMap.2 ⟨x,(hx x).2 hx2,List.mem_map.2 ⟨e1,Po he (Int.le_refl _),rfl⟩⟩);have:=hab x;simp
   by_cases h6:Rs x<=e1
   ·have:qiF x e1=true:=pq.2 ⟨by omega,by omega⟩
    rw [this] at h3
    cases h3
   ·omega
  ·intro hp t ht
   obtain ⟨x,hx2,ht⟩:=List.mem_flatMap.1 ht;obtain ⟨e,he2,rfl⟩:=List.mem_map.1 ht;have h4:=WT he2
   have h5:¬ Rs x<=e1:=by simpa using hp x ((hx x).1 hx2)
   have:=hab x
   cases h7:qiF x e with
   | false=>rfl
   | true =>
    have:=pq.1 h7
    omega
 unfold qcZ.f uQ KF
 cases hn:(mQ h ws a b).any fun n=>decide (e0<Rs n) with
 | false=>rw [if_pos (t1.2 hn)];simp
 | true =>
  rw [if_neg (fun e=>by rw [t1.1 e] at hn;cases hn),if_pos rfl]
  cases hs:(mQ h ws a b).any fun n=>decide (Rs n<=e1) with
  | false=>rw [if_pos (t2.2 hs)];simp
  | true=>rw [if_neg (fun e=>by rw [t2.1 e] at hs;cases hs)];simp
theorem qtx {l:List nJ} {i:Nat} (hi:i<l.length):nK l (i:Int)=l[i]:=by rw [nK,Int.toNat_natCast,List.getD_eq_getElem?_getD,List.getElem?_eq_getElem hi];rfl
theorem qsG (hh:iN h=true) (ha:iq h.length a=true) (hb:iq h.length b=true) (hl:∀ x∈gD,oJ h.length x.f0=true) (hn:gD.length<=1000) (he:Ku ⟨e0,e1⟩=true):∀ (m i:Nat),i+m=gD.length->∀ acc:List Int,acc.length=i ->
  Ev (fun k=>qaA.l0 k gD a b acc i h e0 e1) (acc++(gD.drop i).map fun x=>uQ h x.f0 a b e0 e1):=by
 have hE:=(oK (s:=⟨e0,e1⟩) (by decide) (by decide)).1 he;simp only at hE;intro m
 induction m with
 | zero =>
  intro i hi acc hc;rw [List.drop_eq_nil_of_le (by omega),List.map_nil,List.append_nil];refine Ev.step (f:=fun _=>some acc) (fun k=>?_) (Ev.now _);rw [qaA.l0,if_neg (by omega)]
 | succ m ih =>
  intro i him acc hc
  have hi:i<gD.length:=by omega
  have hw:=hl _ (List.getElem_mem hi);obtain ⟨l,hl2,hn2,hx⟩:=qow hh hw ha hb;have h1:=ih (i+1) (by omega) (acc++[uQ h gD[i].f0 a b e0 e1]) (by simp;omega);rw [List.drop_eq_getElem_cons hi,List.map_cons];rw [List.append_assoc,List.singleton_append] at h1
  have h2:=qsF (a:=a) (b:=b) (h:=h) (gD:=gD) (acc:=acc) (e0:=e0) (e1:=e1) (i:=i) (l:=l) (r:=acc++(uQ h gD[i].f0 a b e0 e1::(gD.drop (i+1)).map fun x=>uQ h x.f0 a b e0 e1)) ⟨by omega,by omega⟩ (by omega) (by omega) l.length 0 [] (by omega) (by simp) (by
   rw [List.drop_zero,List.nil_append,qq0 gD[i].f0 hx (by omega) (by omega) (EJ hh hw ha hb).1];simp only [Option.bind_some];refine Ev.congr (fun k=>?_) h1
   rw [if_pos (by omega),QJ (by omega)])
  have h3:Ev (fun k=>(vg.f k h gD[i].f0 a b).bind fun t=>qaA.l1 k gD a b acc i t 0 0 0 h e0 e1) (acc++(uQ h gD[i].f0 a b e0 e1::(gD.drop (i+1)).map fun x=>uQ h x.f0 a b e0 e1)):=Ev.bind hl2 h2;refine Ev.step (fun k=>?_) h3;rw [qaA.l0,if_pos (by omega),if_pos (by omega),qtx hi]
theorem qrU (hh:iN h=true) (ha:iq h.length a=true) (hb:iq h.length b=true) (hl:∀ x∈gD,oJ h.length x.f0=true) (hn:gD.length<=1000) (he:Ku ⟨e0,e1⟩=true) :
  Ev (fun k=>qaA.f k h gD a b e0 e1) (gD.map fun x=>uQ h x.f0 a b e0 e1):=by
 have:=qsG hh ha hb hl hn he gD.length 0 (by omega) [] rfl;exact this
end
end Go.Proofs.YtnpfbjnjdngkhaaGreatDoor.P
namespace Go.Proofs.YtnpfbjnjdngkhaaGreatDoor.P
open Go.RowKit Go.Proofs.YtnpfbjnjdngkhaaGreatDoorW.aQ Go.Proofs.YtnpfbjnjdngkhaaGreatDoorW.bO Go.Proofs.YtnpfbjnjdngkhaaGreatDoorW.bT
attribute [local go_sem] eP eT fU fV dS dU eU eX
mutual
def qaE.l0:Nat->List nJ->Int->Option Bool
 | 0,_,_=>none
 | k+1,x0,x3=>if x3<(x0.length:Int) then (qaE.j1 k x0 x3 (decide (x3<6))) else (qaE.j1 k x0 x3 false)
def qaE.j1:Nat->List nJ->Int->Bool->Option Bool
 | 0,_,_,_=>none
 | k+1,x0,x3,x11=>if x11=true then (if 0<=x3 then (if x3<(x0.length:Int) then (if (((nK x0 x3).f0).length:Int)>5 then (some false) else (qaE.l0 k x0 (wrap64 (x3+1)))) else (none)) else (none)) else (some (decide ((x0.length:Int)<=5)))
end
def qaE.f (k:Nat) (l0:List nJ):Option Bool:=qaE.l0 k l0 0
theorem qaE.qnA:∀ k,(∀ y0 y1,Lm (qaE.l0 k y0 y1) (qaE.l0 (k+1) y0 y1))∧(∀ y0 y1 y2,Lm (qaE.j1 k y0 y1 y2) (qaE.j1 (k+1) y0 y1 y2))
 | 0=>⟨fun _ _ r h=>by simp [qaE.l0] at h,fun _ _ _ r h=>by simp [qaE.j1] at h⟩
 | k+1=>by
  obtain ⟨ih0,ih1⟩:=qaE.qnA k;refine ⟨?_,?_⟩
  ·intro y0 y1
   unfold qaE.l0
   repeat' first
   | (with_reducible exact ih0 _ _)
   | (with_reducible exact ih1 _ _ _)
   | (with_reducible exact Lm.refl _)
   | (with_reducible exact Lm.none _)
   | (with_reducible refine Lm.ite ?_ ?_)
   | (with_reducible refine Lm.bind ?_ (fun _=>?_))
   | exact ih0 _ _
   | exact ih1 _ _ _
   | exact Lm.none _
   | refine Lm.ite ?_ ?_
   | refine Lm.bind ?_ (fun _=>?_)
  ·intro y0 y1 y2
   unfold qaE.j1
   repeat' first
   | (with_reducible exact ih0 _ _)
   | (with_reducible exact ih1 _ _ _)
   | (with_reducible exact Lm.refl _)
   | (with_reducible exact Lm.none _)
   | (with_reducible refine Lm.ite ?_ ?_)
   | (with_reducible refine Lm.bind ?_ (fun _=>?_))
   | exact ih0 _ _
   | exact ih1 _ _ _
   | exact Lm.none _
   | refine Lm.ite ?_ ?_
   | refine Lm.bind ?_ (fun _=>?_)
theorem qaE.mono:∀ a0 k,Lm (qaE.f k a0) (qaE.f (k+1) a0):=by
 intro a0 k;obtain ⟨ih0,ih1⟩:=qaE.qnA k
 unfold qaE.f
 repeat' first
   | (with_reducible exact ih0 _ _)
   | (with_reducible exact ih1 _ _ _)
   | (with_reducible exact Lm.refl _)
   | (with_reducible exact Lm.none _)
   | (with_reducible refine Lm.ite ?_ ?_)
   | (with_reducible refine Lm.bind ?_ (fun _=>?_))
   | exact ih0 _ _
   | exact ih1 _ _ _
   | exact Lm.none _
   | refine Lm.ite ?_ ?_
   | refine Lm.bind ?_ (fun _=>?_)
theorem qaE.calls (k:Nat) (A0:Option Addr) (c0:Nat) (l0:List nJ) (r:Bool) (w:World) (hr0:Kd.C Bf w A0 l0.length l0) (hc0:l0.length<=c0) (h:qaE.f k l0=some r) :
  Calls Tryz.prog 34 #[.slice A0 l0.length c0] w fun e w'=>e=.returned (.bool r)∧gU w w':=by
 have Fp:=aj.mk hr0;have Zf:=aj.mk hc0;clear hr0 hc0;have H:(qaE.l0 k l0 0)=some r:=h;clear h;have H':=aj.mk H;clear H
 go_enter Tryz.func34,Tryz.ntmps34
 go_wp2
 go_loopg [3] k (fun kq v3 w'=>∃ (dH:Int),v3=.int .i64 dH∧aj (qaE.l0 kq l0 dH=some r)∧aj (kq<=k)∧gU w w')
 case atStart=>exact ⟨(0),tS,H',⟨Nat.le_refl _⟩,tD⟩
 case round =>
  clear H';obtain ⟨dH,rfl,HA,qg,⟨m1,rfl⟩⟩:=hrel
  cases gk with
  | zero=>exact absurd HA.out (by simp [qaE.l0])
  | succ k1 =>
   have H:=HA.out;clear HA;simp only [qaE.l0] at H;have HC2:=aj.mk H;clear H
   go_upto_region 2 with (fail)
   go_cut [11] (fun v11 wc=>∃ (kq:Nat) (yP:Bool),v11=.bool yP∧aj (qaE.j1 kq l0 dH yP=some r)∧aj (kq<=k1)∧gU w wc)
   case first =>
    have H:=HC2.out;clear HC2
    by_cases c3:dH<(l0.length:Int)
    ·rw [if_pos c3] at H
     have qd:decide (dH<(l0.length:Int))=true:=decide_eq_true c3;clear c3
     (first|rw [qd]|(simp only [ay,aA];rw [qd])|skip)
     have H':=aj.mk H;clear H
     go_wp2
     go_meet
     case rel=>exact ⟨_,(decide (dH<6)),tS,H',⟨by have:=qg.out;first|omega|exact Nat.le_refl _⟩,tD⟩
    ·rw [if_neg c3] at H
     have qd:decide (dH<(l0.length:Int))=false:=decide_eq_false c3;clear c3
     (first|rw [qd]|(simp only [ay,aA];rw [qd])|skip)
     have H':=aj.mk H;clear H
     go_wp2
     go_meet
     case rel=>exact ⟨_,(false),tS,H',⟨by have:=qg.out;first|omega|exact Nat.le_refl _⟩,tD⟩
   case rest =>
    clear HC2
    try clear p2
    try clear c3
    try clear qd
    obtain ⟨kq,yP,rfl,HA,HJ1,⟨mc1,rfl⟩⟩:=hcut
    cases kq with
    | zero=>exact absurd HA.out (by simp [qaE.j1])
    | succ kj1 =>
     have H:=HA.out;clear HA;simp only [qaE.j1] at H
     by_cases c4:yP=true
     ·subst c4
      rw [if_pos rfl] at H
      by_cases c5:0<=dH
      ·rw [if_pos c5] at H
       have zC:decide (0<=dH)=true:=decide_eq_true c5;clear c5
       by_cases c6:dH<(l0.length:Int)
       ·rw [if_pos c6] at H
        have GV:decide (dH<(l0.length:Int))=true:=decide_eq_true c6;clear c6
        by_cases c7:(((nK l0 dH).f0).length:Int)>5
        ·rw [if_pos c7] at H
         have yL:decide (5<(((nK l0 dH).f0).length:Int))=true:=decide_eq_true c7;have qbO:decide (5<((nK l0 dH).f0).length)=true:=decide_eq_true (by omega);clear c7;obtain rfl:=Option.some.inj H;have qq1:0<=(dH:Int):=of_decide_eq_true tA;have qq2:dH<(l0.length:Int):=of_decide_eq_true tA;obtain ⟨qw7,qvB,qvC,qvD,qty,qlT,qlW⟩:=LY Fp.out dH qq1 qq2
         cases qvD
         have qtz:=aj.mk qlW;have qtA:=aj.mk qlT;clear qlW qlT;replace qq1:=eq_true qq1;replace qq2:=eq_true qq2
         go_wp2
         go_ret
         exact ⟨tS,tD⟩
        ·rw [if_neg c7] at H
         have yL:decide (5<(((nK l0 dH).f0).length:Int))=false:=decide_eq_false c7;have qbO:decide (5<((nK l0 dH).f0).length)=false:=decide_eq_false (by omega);clear c7;have H':=aj.mk H;clear H;have qq1:0<=(dH:Int):=of_decide_eq_true tA;have qq2:dH<(l0.length:Int):=of_decide_eq_true tA;obtain ⟨qw7,qvB,qvC,qvD,qty,qlT,qlW⟩:=LY Fp.out dH qq1 qq2
         cases qvD
         have qtz:=aj.mk qlW;have qtA:=aj.mk qlT;clear qlW qlT;replace qq1:=eq_true qq1;replace qq2:=eq_true qq2
         go_wp2
         go_roundg kj1
         case measure=>have:=qg.out;have:=HJ1.out;omega
         case rel=>exact ⟨(wrap64 (dH+1)),tS,H',⟨by have:=qg.out;have:=HJ1.out;omega⟩,tD⟩
       ·rw [if_neg c6] at H
        exact absurd H (by simp)
      ·rw [if_neg c5] at H
       exact absurd H (by simp)
     ·replace c4:=Bool.eq_false_iff.mpr c4
      subst c4
      have H1:(some (decide ((l0.length:Int)<=5)))=some r:=by rw [if_neg (show ¬ (false=true) by decide)] at H;exact H
      clear H;have H:=H1;clear H1;obtain rfl:=Option.some.inj H
      go_wp2
      go_ret
      exact ⟨tS,tD⟩
def qcn.l0:Nat->Int->List bI->List Int->Option Bool
 | 0,_,_,_=>none
 | k+1,x5,qrC,qnv=>if x5<(qnv.length:Int) then (if 0<=x5 then ((fD.f (rd qnv x5) (-9) 9).bind fun qvE=>(if qvE=true then (qcn.l0 k (wrap64 (x5+1)) qrC qnv) else (some false))) else (none)) else (some ((qnv.length:Int) == (qrC.length:Int)))
def qcn.f (k:Nat) (av:List bI) (bF:List Int):Option Bool:=qcn.l0 k 0 av bF
theorem qcn.calls (k:Nat) (bC:Option Addr) (aZ:Nat) (av:List bI) (fP:Option Addr) (fK:Nat) (bF:List Int) (r:Bool) (w:World) (dw:Kd.C iG w bC av.length av) (dG:av.length<=aZ) (jU:Kd.C (Kd.int .i64) w fP bF.length bF) (mM:bF.length<=fK) (h:qcn.f k av bF=some r) :
  Calls Tryz.prog 119 #[.agg #[.slice bC av.length aZ],.agg #[.slice fP bF.length fK]] w fun e w'=>e=.returned (.bool r)∧Below w.heap.size w w':=by
 have qb:=Tryz.underlying24;have GQ:=Tryz.underlying49;have dM:=aj.mk dw;have fu:=aj.mk dG;clear dw dG;have EB:=aj.mk jU;have EC:=aj.mk mM;clear jU mM;have HB:=aj.mk (Below.refl w.heap.size w);have H:(qcn.l0 k 0 av bF)=some r:=h;clear h;have H':=aj.mk H;clear H
 go_enter Tryz.func119,Tryz.ntmps119
 go_wp2_with (first|((with_reducible refine au (N:=2) rfl ?_);refine fA 2 #[.slice bC av.length aZ] 24 HB ?_;clear HB;intro qw8 w3 hg qoG qAb HB hb;clear hb hg)|((with_reducible refine au (N:=3) rfl ?_);refine fA 3 #[.slice fP bF.length fK] 49 HB ?_;clear HB;intro qw9 w4 hg qoI qAc HB hb;have qmr:=Fh qoG hg;have qmF:=Fj qoG hg;replace qoG:=bW qoG hb;clear hb hg))
 go_loopg [5] k (fun kq v5 w'=>∃ (aT:Int),v5=.int .i64 aT∧aj (qcn.l0 kq aT av bF=some r)∧aj (kq<=k)∧aj (w'.heap[qw8]?=some (.cells #[(.slice bC av.length aZ)] 24 (0,0)))∧aj (w'.heap[qw9]?=some (.cells #[(.slice fP bF.length fK)] 49 (0,0)))∧aj (Below w.heap.size w w'))
 case atStart=>exact ⟨(0),tS,H',⟨Nat.le_refl _⟩,⟨(qB2 qoG)⟩,⟨(qB2 qoI)⟩,⟨tB⟩⟩
 case round =>
  clear H'
  try clear c1
  try clear p2
  obtain ⟨aT,rfl,HA,qg,qoG,qoI,HB⟩:=hrel
  cases gk with
  | zero=>exact absurd HA.out (by simp [qcn.l0])
  | succ k1 =>
   have H:=HA.out;clear HA;simp only [qcn.l0] at H
   by_cases c5:aT<(bF.length:Int)
   ·rw [if_pos c5] at H
    have zC:decide (aT<(bF.length:Int))=true:=decide_eq_true c5;clear c5
    by_cases c6:0<=aT
    ·rw [if_pos c6] at H
     have GV:decide (0<=aT)=true:=decide_eq_true c6;clear c6;obtain ⟨qvE,A7,H⟩:=nU H
     by_cases c8:qvE=true
     ·subst c8
      rw [if_pos rfl] at H;have H':=aj.mk H;clear H;have qjw:=qmF.out;have qjx:=qmr.out;have yA:=bc1 qoI;have yB:=bf qoI 0;have qq3:0<=(aT:Int):=of_decide_eq_true tA;have qq4:aT<(bF.length:Int):=of_decide_eq_true tA;obtain ⟨qxa,qvF,qlZ⟩:=Kd.iE EB.out aT qq3 qq4
      cases qvF
      replace qlZ:=dz HB qlZ;replace qq3:=eq_true qq3;replace qq4:=eq_true qq4
      go_wp2_with (first|((with_reducible refine aG (f:=109) rfl ?_);refine bX (some 18) rfl rfl Tryz.func109 tX rfl #[.int .i64 (rd bF aT),.int .i64 (-9),.int .i64 9] rfl tM ?_;(with_reducible refine (fD.calls (rd bF aT) (-9) 9 true _ A7.out).mono ?_);rintro e w' ⟨rfl,⟨nd,rfl⟩⟩;refine ⟨_,rfl,?_⟩))
      go_roundg k1
      case measure=>have:=qg.out;omega
      case rel=>exact ⟨(wrap64 (aT+1)),tS,H',⟨by have:=qg.out;omega⟩,⟨(qB2 qoG)⟩,⟨(qB2 qoI)⟩,⟨tB⟩⟩
     ·replace c8:=Bool.eq_false_iff.mpr c8
      subst c8
      have H1:(some false)=some r:=by rw [if_neg (show ¬ (false=true) by decide)] at H;exact H
      clear H;have H:=H1;clear H1;obtain rfl:=Option.some.inj H;have qAd:=qmF.out;have qAe:=qmr.out;have yC:=bc1 qoI;have yD:=bf qoI 0;have qq3:0<=(aT:Int):=of_decide_eq_true tA;have qq4:aT<(bF.length:Int):=of_decide_eq_true tA;obtain ⟨qxa,qvF,qlZ⟩:=Kd.iE EB.out aT qq3 qq4
      cases qvF
      replace qlZ:=dz HB qlZ;replace qq3:=eq_true qq3;replace qq4:=eq_true qq4
      go_wp2_with (first|((with_reducible refine aG (f:=109) rfl ?_);refine bX (some 18) rfl rfl Tryz.func109 tX rfl #[.int .i64 (rd bF aT),.int .i64 (-9),.int .i64 9] rfl tM ?_;(with_reducible refine (fD.calls (rd bF aT) (-9) 9 false _ A7.out).mono ?_);rintro e w' ⟨rfl,⟨nd,rfl⟩⟩;refine ⟨_,rfl,?_⟩))
      go_ret
      exact ⟨tF,tB⟩
    ·rw [if_neg c6] at H
     exact absurd H (by simp)
   ·rw [if_neg c5] at H
    have zC:decide (aT<(bF.length:Int))=false:=decide_eq_false c5;clear c5;obtain rfl:=Option.some.inj H;have qdT:=qmF.out;have qdU:=qmr.out;have Pj:=bc1 qoI;have Pk:=bf qoI 0;have yw:=bc1 qoG;have yx:=bf qoG 0
    go_wp2
    go_ret
    exact ⟨tF,tB⟩
def qcl.l0:Nat->List nJ->Int->List bI->Option Bool
 | 0,_,_,_=>none
 | k+1,x1,x5,qrD=>if x5<(x1.length:Int) then (if 0<=x5 then ((qcn.f k qrD ((nK x1 x5).f0)).bind fun qvG=>(if qvG=true then (qcl.l0 k x1 (wrap64 (x5+1)) qrD) else (some false))) else (none)) else ((fD.f (x1.length:Int) 1 3).bind fun qvH=>(some qvH))
def qcl.f (k:Nat) (av:List bI) (l1:List nJ):Option Bool:=qcl.l0 k l1 0 av
theorem qcl.calls (k:Nat) (bC:Option Addr) (aZ:Nat) (av:List bI) (A1:Option Addr) (c1:Nat) (l1:List nJ) (r:Bool) (w:World) (dw:Kd.C iG w bC av.length av) (dG:av.length<=aZ) (hr1:Kd.C Bf w A1 l1.length l1) (hc1:l1.length<=c1) (h:qcl.f k av l1=some r) :
  Calls Tryz.prog 36 #[.agg #[.slice bC av.length aZ],.slice A1 l1.length c1] w fun e w'=>e=.returned (.bool r)∧Below w.heap.size w w':=by
 have qb:=Tryz.underlying24;have GQ:=Tryz.underlying49;have dM:=aj.mk dw;have fu:=aj.mk dG;clear dw dG;have HR1:=aj.mk hr1;have yE:=aj.mk hc1;clear hr1 hc1;have HB:=aj.mk (Below.refl w.heap.size w);have H:(qcl.l0 k l1 0 av)=some r:=h;clear h;have H':=aj.mk H;clear H
 go_enter Tryz.func36,Tryz.ntmps36
 go_wp2_with (first|((with_reducible refine au (N:=2) rfl ?_);refine fA 2 #[.slice bC av.length aZ] 24 HB ?_;clear HB;intro qsH w3 hg qiC qAf HB hb;clear hb hg))
 go_loopg [5] k (fun kq v5 w'=>∃ (aT:Int),v5=.int .i64 aT∧aj (qcl.l0 kq l1 aT av=some r)∧aj (kq<=k)∧aj (w'.heap[qsH]?=some (.cells #[(.slice bC av.length aZ)] 24 (0,0)))∧aj (Below w.heap.size w w'))
 case atStart=>exact ⟨(0),tS,H',⟨Nat.le_refl _⟩,⟨(qB2 qiC)⟩,⟨tB⟩⟩
 case round =>
  clear H'
  try clear c1
  try clear p2
  try clear c3
  obtain ⟨aT,rfl,HA,qg,qiC,HB⟩:=hrel
  cases gk with
  | zero=>exact absurd HA.out (by simp [qcl.l0])
  | succ k1 =>
   have H:=HA.out;clear HA;simp only [qcl.l0] at H
   by_cases c4:aT<(l1.length:Int)
   ·rw [if_pos c4] at H
    have pR:decide (aT<(l1.length:Int))=true:=decide_eq_true c4;clear c4
    by_cases c5:0<=aT
    ·rw [if_pos c5] at H
     have zC:decide (0<=aT)=true:=decide_eq_true c5;clear c5;obtain ⟨qvG,A6,H⟩:=nU H
     by_cases c7:qvG=true
     ·subst c7
      rw [if_pos rfl] at H;have H':=aj.mk H;clear H
      try go_wp2
      replace qiC:=aj.mk (aN qiC.out);replace HB:=aj.mk (jD HB.out);have qq5:0<=(aT:Int):=of_decide_eq_true tA;have qq6:aT<(l1.length:Int):=of_decide_eq_true tA;obtain ⟨qsI,qoJ,qoK,qvI,qiv,ql8,ql9⟩:=LY HR1.out aT qq5 qq6;have qma:=qiv
      cases qvI
      replace qiv:=dz HB qiv;have qmb:=aj.mk ql9;have qpD:=aj.mk ql8;clear ql9 ql8;replace qq5:=eq_true qq5;replace qq6:=eq_true qq6;refine kK (n:=7) (S:=fun w'=>w'.cell? ⟨qsH,0,none⟩=some (.slice bC av.length aZ)∧w'.cell? (qsI.add (aT).toNat)=some (.slice qoJ ((nK l1 aT).f0).length qoK)) (ds:=[]) #[false,false,false,false,false,false,false] tX rfl rfl ⟨(aM qiC.out 0).trans rfl,(dz HB qma :)⟩ (fun hHeld=>?_)
      generalize wr.drew=w8 at qiC HB qmb qiv hHeld ⊢
      refine qB1 1 13 (bA 7 2) ?_;refine qB1 2 14 (bA 7 6) ?_;refine qB1 3 15 (bA 7 14) ?_;refine qzF 0 12 (bA 7 15) hHeld ?_;refine qzF 4 16 (bA 7 31) hHeld ?_;refine gZ (i:=5) (N:=some 17) (bA 7 63) rfl rfl tX (by decide) (fun K hK=>?_);refine gK Tryz.func119 tX rfl #[.agg #[.slice bC av.length aZ],.agg #[.slice qoJ ((nK l1 aT).f0).length qoK]] (by rfl) rfl rfl tM ?_
      with_reducible refine (qcn.calls k1 _ _ av _ _ ((nK l1 aT).f0) true _ ?bK ?bL ?fM ?fO A6.out).mono ?_
      (case bK=>exact cS dM)
      (case bL=>exact fu.out)
      (case fM=>exact cS qmb)
      (case fO=>exact qpD.out)
      rintro e w9 ⟨rfl,hb⟩;refine ⟨_,rfl,?_⟩;replace qiC:=bW qiC hb;replace HB:=dL HB hb
      (try clear hb)
      (try clear hb2)
      (try clear hk)
      (try clear hi)
      refine hK.out _ _ ⟨(aM qiC.out 0).trans rfl,(dz HB qma :)⟩ (fun hHeld=>?_);clear hK K;refine dn (a':=?_) ?_ ?_;rotate_left
      ·show Act.put _ (some 17) _=_
       simp only [Act.put,sL,ay,aA]
       rfl
      refine qB1 6 18 (bA 7 127) ?_;refine lK tX ?_
      try go_wp2
      go_roundg k1
      case measure=>have:=qg.out;omega
      case rel=>exact ⟨(wrap64 (aT+1)),tS,H',⟨by have:=qg.out;omega⟩,⟨(qB2 qiC)⟩,⟨tB⟩⟩
     ·replace c7:=Bool.eq_false_iff.mpr c7
      subst c7
      have H1:(some false)=some r:=by rw [if_neg (show ¬ (false=true) by decide)] at H;exact H
      clear H;have H:=H1;clear H1;obtain rfl:=Option.some.inj H
      try go_wp2
      replace qiC:=aj.mk (aN qiC.out);replace HB:=aj.mk (jD HB.out);have qq5:0<=(aT:Int):=of_decide_eq_true tA;have qq6:aT<(l1.length:Int):=of_decide_eq_true tA;obtain ⟨qsI,qoJ,qoK,qvI,qiv,ql8,ql9⟩:=LY HR1.out aT qq5 qq6;have qma:=qiv
      cases qvI
      replace qiv:=dz HB qiv;have qmb:=aj.mk ql9;have qpD:=aj.mk ql8;clear ql9 ql8;replace qq5:=eq_true qq5;replace qq6:=eq_true qq6;refine kK (n:=7) (S:=fun w'=>w'.cell? ⟨qsH,0,none⟩=some (.slice bC av.length aZ)∧w'.cell? (qsI.add (aT).toNat)=some (.slice qoJ ((nK l1 aT).f0).length qoK)) (ds:=[]) #[false,false,false,false,false,false,false] tX rfl rfl ⟨(aM qiC.out 0).trans rfl,(dz HB qma :)⟩ (fun hHeld=>?_)
      generalize wr.drew=Lr at qiC HB qmb qiv hHeld ⊢
      refine qB1 1 13 (bA 7 2) ?_;refine qB1 2 14 (bA 7 6) ?_;refine qB1 3 15 (bA 7 14) ?_;refine qzF 0 12 (bA 7 15) hHeld ?_;refine qzF 4 16 (bA 7 31) hHeld ?_;refine gZ (i:=5) (N:=some 17) (bA 7 63) rfl rfl tX (by decide) (fun K hK=>?_);refine gK Tryz.func119 tX rfl #[.agg #[.slice bC av.length aZ],.agg #[.slice qoJ ((nK l1 aT).f0).length qoK]] (by rfl) rfl rfl tM ?_
      with_reducible refine (qcn.calls k1 _ _ av _ _ ((nK l1 aT).f0) false _ ?bK ?bL ?fM ?fO A6.out).mono ?_
      (case bK=>exact cS dM)
      (case bL=>exact fu.out)
      (case fM=>exact cS qmb)
      (case fO=>exact qpD.out)
      rintro e Jc ⟨rfl,hb⟩;refine ⟨_,rfl,?_⟩;replace qiC:=bW qiC hb;replace HB:=dL HB hb
      (try clear hb)
      (try clear hb2)
      (try clear hk)
      (try clear hi)
      refine hK.out _ _ ⟨(aM qiC.out 0).trans rfl,(dz HB qma :)⟩ (fun hHeld=>?_);clear hK K;refine dn (a':=?_) ?_ ?_;rotate_left
      ·show Act.put _ (some 17) _=_
       simp only [Act.put,sL,ay,aA]
       rfl
      refine qB1 6 18 (bA 7 127) ?_;refine lK tX ?_
      try go_wp2
      go_ret
      exact ⟨tF,tB⟩
    ·rw [if_neg c5] at H
     exact absurd H (by simp)
   ·rw [if_neg c4] at H
    have pR:decide (aT<(l1.length:Int))=false:=decide_eq_false c4;clear c4;obtain ⟨qvH,A12,H⟩:=nU H;obtain rfl:=Option.some.inj H
    go_wp2_with (first|((with_reducible refine aG (f:=109) rfl ?_);refine bX (some 21) rfl rfl Tryz.func109 tX rfl #[.int .i64 (l1.length:Int),.int .i64 1,.int .i64 3] rfl tM ?_;(with_reducible refine (fD.calls (l1.length:Int) 1 3 qvH _ A12.out).mono ?_);rintro e w' ⟨rfl,⟨nd,rfl⟩⟩;refine ⟨_,rfl,?_⟩))
    go_ret
    exact ⟨tF,tB⟩
def qcF.f (bq:Int) (aU:Int):Option Bool:=(gW.f bq aU 0 200 4).bind fun qsJ=>(some qsJ)
theorem qcF.calls (bq:Int) (aU:Int) (r:Bool) (w:World) (h:qcF.f bq aU=some r) :
  Calls Tryz.prog 37 #[.agg #[.int .i64 bq,.int .i64 aU]] w fun e w'=>e=.returned (.bool r)∧Below w.heap.size w w':=by
 have jY:=Tryz.underlying37;have HB:=aj.mk (Below.refl w.heap.size w);have H:((gW.f bq aU 0 200 4).bind fun qsJ=>(some qsJ))=some r:=h;clear h;obtain ⟨qsJ,A2,H⟩:=nU H;obtain rfl:=Option.some.inj H
 go_enter Tryz.func37,Tryz.ntmps37
 go_wp2_with (first|((with_reducible refine au (N:=1) rfl ?_);refine fA 1 #[.int .i64 bq,.int .i64 aU] 37 HB ?_;clear HB;intro qAg w3 hg qqf qAh HB hb;clear hb hg;obtain ⟨yT,Ei⟩:=bc2 qqf;have yU:=bf qqf 0;have Ej:=bf qqf 1)|((with_reducible refine aG (f:=108) rfl ?_);refine bX (some 4) rfl rfl Tryz.func108 tX rfl #[.agg #[.int .i64 bq,.int .i64 aU],.int .i64 0,.int .i64 200,.int .i64 4] rfl tM ?_;(with_reducible refine (gW.calls bq aU 0 200 4 qsJ _ A2.out).mono ?_);rintro e w5 ⟨rfl,hb⟩;refine ⟨_,rfl,?_⟩;replace qqf:=bW qqf hb;replace HB:=dL HB hb;(try clear hb)))
 go_ret
 exact ⟨tF,tB⟩
end Go.Proofs.YtnpfbjnjdngkhaaGreatDoor.P
namespace Go.Proofs.YtnpfbjnjdngkhaaGreatDoor.P
open Go.RowKit Go.Proofs.YtnpfbjnjdngkhaaGreatDoorW.aQ Go.Proofs.YtnpfbjnjdngkhaaGreatDoorW.bO Go.Proofs.YtnpfbjnjdngkhaaGreatDoorW.bT
theorem qtB (h:List bI):∃ b,Ev (fun k=>bR.f k h) b∧(b=true->VL h):=by
 obtain ⟨b,hb,hs⟩:=qkY (k:=100) (by omega) h;exact ⟨b,Ev.of (fun k=>bR.mono h k) hb,hs⟩
theorem qsK {h:List bI} (hs:VL h):Ev (fun k=>bP.f k h) (iN h):=⟨900,fun k hk=>qiM hk h (by have:=hs.1;omega) hs.2⟩
theorem qqg {h:List bI} {l:List bB} (hs:h.length<=5) (hl:l.length<=5):Ev (fun k=>bG.f k h l) (iq h.length l):=⟨900,fun k hk=>qiN hk h l (by omega) (by omega)⟩
theorem qtC {h:List bI} {ws:List Int} (hl:ws.length<=1000):∀ (m i:Nat),i+m=ws.length->Ev (fun k=>qcn.l0 k i h ws) (!((ws.drop i).any fun x=>!oN x (-9) 9)&&decide (ws.length=h.length)):=by
 intro m
 induction m with
 | zero =>
  intro i hi;refine Ev.step (f:=fun _=>some _) (fun k=>?_) (Ev.now _);rw [qcn.l0,if_neg (by omega),List.drop_eq_nil_of_le (by omega)]
  by_cases e:ws.length=h.length
  ·simp [e]
  ·have e2:¬ (ws.length:Int)=h.length:=by omega
   simp [e,e2]
 | succ m ih =>
  intro i him
  have hi:i<ws.length:=by omega
  rw [List.drop_eq_getElem_cons hi,List.any_cons];have h1:=ih (i+1) (by omega)
  cases hb:oN ws[i] (-9) 9 with
  | true =>
   refine Ev.step (fun k=>?_) h1;rw [qcn.l0,if_pos (by omega),if_pos (by omega),sZ hi,QG,Option.bind_some,hb,if_pos rfl,QJ (by omega)]
  | false =>
   refine Ev.step (f:=fun _=>some _) (fun k=>?_) (Ev.now _);rw [qcn.l0,if_pos (by omega),if_pos (by omega),sZ hi,QG,Option.bind_some,hb,if_neg (by simp)]
   rfl
theorem qtD {h:List bI} {ws:List Int} (hl:ws.length<=1000):Ev (fun k=>qcn.f k h ws) (oJ h.length ws):=by
 have:=qtC (h:=h) hl ws.length 0 (by omega);rw [List.drop_zero,Bool.and_comm] at this;exact this
theorem qsL {h:List bI} {l:List nJ} (hl:l.length<=1000) (hw:∀ x∈l,x.f0.length<=1000):∀ (m i:Nat),i+m=l.length->Ev (fun k=>qcl.l0 k l i h) (!((l.drop i).any fun x=>!oJ h.length x.f0)&&oN l.length 1 3):=by
 intro m
 induction m with
 | zero =>
  intro i hi;refine Ev.step (f:=fun _=>some _) (fun k=>?_) (Ev.now _);rw [qcl.l0,if_neg (by omega),List.drop_eq_nil_of_le (by omega),QG];simp
 | succ m ih =>
  intro i him
  have hi:i<l.length:=by omega
  rw [List.drop_eq_getElem_cons hi,List.any_cons];have h1:=ih (i+1) (by omega);have h0:=qtD (h:=h) (hw _ (List.getElem_mem hi))
  have h2:Ev (fun k=>(qcn.f k h l[i].f0).bind fun t=>if t=true then qcl.l0 k l ((i+1:Nat):Int) h else some false) (!((!oJ h.length l[i].f0)||(l.drop (i+1)).any fun x=>!oJ h.length x.f0)&&oN l.length 1 3):=by
   refine Ev.bind h0 ?_
   cases oJ h.length l[i].f0 with
   | true=>exact h1
   | false=>exact Ev.now _
  refine Ev.step (fun k=>?_) h2;rw [qcl.l0,if_pos (by omega),if_pos (by omega),qtx hi,QJ (by omega)]
theorem qsM {h:List bI} {l:List nJ} (hl:l.length<=1000) (hw:∀ x∈l,x.f0.length<=1000):Ev (fun k=>qcl.f k h l) (M7 h.length l):=by
 have:=qsL (h:=h) hl hw l.length 0 (by omega);rw [List.drop_zero,Bool.and_comm] at this;exact this
theorem qxb (a b:Int):qcF.f a b=some (Ku ⟨a,b⟩):=by
 unfold qcF.f
 rw [show gW.f a b 0 200 4=some (je ⟨a,b⟩ 0 200 4) from QI ⟨a,b⟩ 0 200 4]
 rfl
def quy (l:List nJ):Prop:=l.length<=5∧∀ x∈l,x.f0.length<=5
theorem qvJ (l:List nJ):∀ (m k i:Nat),i+m=7->i<=l.length->2*m+3<k->(∀ j (hj:j<l.length),j<i->l[j].f0.length<=5)->∃ b,qaE.l0 k l (i:Int)=some b∧(b=true->quy l):=by
 intro m
 induction m with
 | zero =>
  intro k i hi hl hk hp;obtain ⟨k,rfl⟩:∃ k',k=k'+2:=⟨k - 2,by omega⟩;rw [qaE.l0]
  by_cases h1:(i:Int)<l.length
  ·rw [if_pos h1,decide_eq_false (by omega),qaE.j1,if_neg (by decide)]
   exact ⟨_,rfl,fun hb=>by have:=of_decide_eq_true hb;omega⟩
  ·rw [if_neg h1,qaE.j1,if_neg (by decide)]
   exact ⟨_,rfl,fun hb=>by have:=of_decide_eq_true hb;omega⟩
 | succ m ih =>
  intro k i hi hl hk hp;obtain ⟨k,rfl⟩:∃ k',k=k'+2:=⟨k - 2,by omega⟩;rw [qaE.l0]
  by_cases h1:(i:Int)<l.length
  ·rw [if_pos h1]
   by_cases h6:(i:Int)<6
   ·have hil:i<l.length:=by omega
    rw [decide_eq_true h6,qaE.j1,if_pos rfl,if_pos (by omega),if_pos h1,qtx hil]
    by_cases h5:(l[i].f0.length:Int)>5
    ·rw [if_pos h5];exact ⟨_,rfl,fun hb=>by cases hb⟩
    ·rw [if_neg h5,QJ (by omega)]
     exact ih k (i+1) (by omega) (by omega) (by omega) fun j hj hji=>by
      by_cases hq:j<i
      ·exact hp j hj hq
      ·obtain rfl:j=i:=by omega
       omega
   ·rw [decide_eq_false h6,qaE.j1,if_neg (by decide)]
    exact ⟨_,rfl,fun hb=>by have:=of_decide_eq_true hb;omega⟩
  ·rw [if_neg h1,qaE.j1,if_neg (by decide)]
   refine ⟨_,rfl,fun hb=>?_⟩;have:=of_decide_eq_true hb;refine ⟨by omega,fun d hd=>?_⟩;obtain ⟨j,hj,rfl⟩:=List.mem_iff_getElem.1 hd;exact hp j hj (by omega)
theorem qvK (l:List nJ):∃ b,Ev (fun k=>qaE.f k l) b∧(b=true->quy l):=by
 obtain ⟨b,hb,hs⟩:=qvJ l 7 100 0 (by omega) (by omega) (by omega) (fun j hj h0=>by omega);exact ⟨b,Ev.of (fun k=>qaE.mono l k) (by simpa [qaE.f] using hb),hs⟩
theorem qsN {a:List Int} (ha:a.length<=1000):Ev (fun k=>dX.f k a a) true:=by
 have:∀ (m i:Nat),i+m=a.length->Ev (fun k=>dX.l0 k a a i) true:=by
  intro m
  induction m with
  | zero =>
   intro i hi;refine Ev.step (f:=fun _=>some _) (fun k=>?_) (Ev.now _);rw [dX.l0,if_neg (by omega)]
  | succ m ih =>
   intro i hi;refine Ev.step (fun k=>?_) (ih (i+1) (by omega));rw [dX.l0,if_pos (by omega),if_pos (by omega),if_pos (by omega),if_pos rfl,QJ (by omega)]
 refine Ev.congr (fun k=>?_) (this a.length 0 (by omega));rw [dX.f,if_pos rfl]
 rfl
theorem qoL:Ev (fun k=>(kR.f k).bind fun t=>some t) true:=Ev.now true
end Go.Proofs.YtnpfbjnjdngkhaaGreatDoor.P
namespace Go.Proofs.YtnpfbjnjdngkhaaGreatDoor.P
open Go.RowKit Go.Proofs.YtnpfbjnjdngkhaaGreatDoorW.aQ Go.Proofs.YtnpfbjnjdngkhaaGreatDoorW.bO Go.Proofs.YtnpfbjnjdngkhaaGreatDoorW.bT
attribute [local go_sem] eP eT fU fV dS dU eU eX
mutual
def qae.j0:Nat->List nJ->List bB->List bB->Bool->List bI->Int->Int->Option Bool
 | 0,_,_,_,_,_,_,_=>none
 | k+1,x1,x2,x3,x30,qe1,qiw,qix=>if x30=true then ((kR.f k).bind fun qvL=>(some qvL)) else ((dI.f k qe1 x1 x2 x3 qiw qix).bind fun qcC=>((bP.f k qe1).bind fun qpE=>(if qpE=true then ((bG.f k qe1 x2).bind fun qpF=>(if qpF=true then ((bG.f k qe1 x3).bind fun qpG=>(if qpG=true then ((qcl.f k qe1 x1).bind fun qpH=>(if qpH=true then ((qcF.f qiw qix).bind fun qoR=>(qae.j1 k x1 x2 x3 qcC.1 qcC.2 (!qoR) qe1 qiw qix)) else (qae.j1 k x1 x2 x3 qcC.1 qcC.2 true qe1 qiw qix))) else (qae.j1 k x1 x2 x3 qcC.1 qcC.2 true qe1 qiw qix))) else (qae.j1 k x1 x2 x3 qcC.1 qcC.2 true qe1 qiw qix))) else (qae.j1 k x1 x2 x3 qcC.1 qcC.2 true qe1 qiw qix))))
def qae.j1:Nat->List nJ->List bB->List bB->List Int->Int->Bool->List bI->Int->Int->Option Bool
 | 0,_,_,_,_,_,_,_,_,_=>none
 | k+1,x1,x2,x3,x11,Gb,x66,qe1,qiw,qix=>if x66=true then (if Gb=2 then (if (x11.length:Int)=0 then ((kR.f k).bind fun qvM=>(some qvM)) else (some false)) else (some false)) else (if Gb=0 then ((qaA.f k qe1 x1 x2 x3 qiw qix).bind fun qnk=>((dX.f k x11 qnk).bind fun qoM=>(if qoM=true then ((kR.f k).bind fun qoN=>(some qoN)) else (some false)))) else (some false))
end
def qae.f (k:Nat) (av:List bI) (l1:List nJ) (l2:List bB) (l3:List bB) (lV:Int) (lW:Int):Option Bool:=(bR.f k av).bind fun qsO=>(if qsO=true then (if (l2.length:Int)>5 then (qae.j0 k l1 l2 l3 true av lV lW) else (if (l3.length:Int)>5 then (qae.j0 k l1 l2 l3 true av lV lW) else ((qaE.f k l1).bind fun qrV=>(qae.j0 k l1 l2 l3 (!qrV) av lV lW)))) else (qae.j0 k l1 l2 l3 true av lV lW))
theorem qae.calls (k:Nat) (bC:Option Addr) (aZ:Nat) (av:List bI) (A1:Option Addr) (c1:Nat) (l1:List nJ) (A2:Option Addr) (c2:Nat) (l2:List bB) (A3:Option Addr) (c3:Nat) (l3:List bB) (lV:Int) (lW:Int) (r:Bool) (w:World) (dw:Kd.C iG w bC av.length av) (dG:av.length<=aZ) (hr1:Kd.C Bf w A1 l1.length l1) (hc1:l1.length<=c1) (hr2:Kd.C eD w A2 l2.length l2) (hc2:l2.length<=c2) (hr3:Kd.C eD w A3 l3.length l3) (hc3:l3.length<=c3) (h:qae.f k av l1 l2 l3 lV lW=some r) :
  Calls Tryz.prog 4 #[.agg #[.slice bC av.length aZ],.slice A1 l1.length c1,.slice A2 l2.length c2,.slice A3 l3.length c3,.agg #[.int .i64 lV,.int .i64 lW]] w fun e w'=>e=.returned (.bool r)∧Below w.heap.size w w':=by
 have qb:=Tryz.underlying24;have jY:=Tryz.underlying37;have dM:=aj.mk dw;have fu:=aj.mk dG;clear dw dG;have HR1:=aj.mk hr1;have yE:=aj.mk hc1;clear hr1 hc1;have HR2:=aj.mk hr2;have HC2:=aj.mk hc2;clear hr2 hc2;have HR3:=aj.mk hr3;have R9:=aj.mk hc3;clear hr3 hc3;have HB:=aj.mk (Below.refl w.heap.size w);have H:((bR.f k av).bind fun qsO=>(if qsO=true then (if (l2.length:Int)>5 then (qae.j0 k l1 l2 l3 true av lV lW) else (if (l3.length:Int)>5 then (qae.j0 k l1 l2 l3 true av lV lW) else ((qaE.f k l1).bind fun qrV=>(qae.j0 k l1 l2 l3 (!qrV) av lV lW)))) else (qae.j0 k l1 l2 l3 true av lV lW)))=some r:=h;clear h;have HC6:=aj.mk H;clear H
 go_enter Tryz.func4,Tryz.ntmps4
 go_upto_region 1 with (first|((with_reducible refine au (N:=5) rfl ?_);(try (refine fI (by rfl) ?_;dsimp only));refine fA 5 #[.slice bC av.length aZ] 24 HB ?_;clear HB;intro qo4 w7 hg qbV qAi HB hb;clear hb hg)|((with_reducible refine au (N:=9) rfl ?_);(try (refine fI (by rfl) ?_;dsimp only));refine fA 9 #[.int .i64 lV,.int .i64 lW] 37 HB ?_;clear HB;intro qo6 w8 hg qco qAj HB hb;have qd8:=Fh qbV hg;have qd9:=Fj qbV hg;replace qbV:=bW qbV hb;clear hb hg))
 (try simp only [Act.put,sL])
 go_cut [30] (fun v30 wc=>∃ (kq:Nat) (qrE:Bool),v30=.bool qrE∧aj (qae.j0 kq l1 l2 l3 qrE av lV lW=some r)∧aj (kq<=k)∧aj (wc.heap[qo4]?=some (.cells #[(.slice bC av.length aZ)] 24 (0,0)))∧aj (wc.heap[qo6]?=some (.cells #[.int .i64 lV,.int .i64 lW] 37 (0,0)))∧aj (Below w.heap.size w wc))
 case first =>
  have H:=HC6.out;clear HC6;obtain ⟨qsO,A9,H⟩:=nU H
  by_cases c10:qsO=true
  ·subst c10
   rw [if_pos rfl] at H
   by_cases c11:(l2.length:Int)>5
   ·rw [if_pos c11] at H
    have qdp:decide (5<(l2.length:Int))=true:=decide_eq_true c11;have qjP:decide (5<l2.length)=true:=decide_eq_true (by omega);clear c11
    (first|rw [qdp]|(simp only [ay,aA];rw [qdp])|skip)
    have H':=aj.mk H;clear H;have qmQ:=qd8.out;have qmR:=qd9.out;have vS:=bc1 qbV;have vT:=bf qbV 0
    go_wp2_with (first|((with_reducible refine aG (f:=27) rfl ?_);refine bX (some 14) rfl rfl Tryz.func27 tX rfl #[.agg #[.slice bC av.length aZ]] rfl tM ?_;(with_reducible refine (bR.calls k _ _ av true _ ?bK ?bL A9.out).mono ?_);(case bK=>exact cS dM);(case bL=>exact fu.out);rintro e R8 ⟨rfl,hb⟩;refine ⟨_,rfl,?_⟩;replace qbV:=bW qbV hb;replace qco:=bW qco hb;replace HB:=dL HB hb;(try clear hb)))
    go_meet
    case rel=>exact ⟨_,(true),tS,H',⟨by first|omega|exact Nat.le_refl _⟩,⟨(qB2 qbV)⟩,⟨(qB2 qco)⟩,⟨tB⟩⟩
   ·rw [if_neg c11] at H
    have qdp:decide (5<(l2.length:Int))=false:=decide_eq_false c11;have qjP:decide (5<l2.length)=false:=decide_eq_false (by omega);clear c11
    (first|rw [qdp]|(simp only [ay,aA];rw [qdp])|skip)
    by_cases c15:(l3.length:Int)>5
    ·rw [if_pos c15] at H
     have qfu:decide (5<(l3.length:Int))=true:=decide_eq_true c15;have qfv:decide (5<l3.length)=true:=decide_eq_true (by omega);clear c15;have H':=aj.mk H;clear H;have qlo:=qd8.out;have qlp:=qd9.out;have WC:=bc1 qbV;have WI:=bf qbV 0
     go_wp2_with (first|((with_reducible refine aG (f:=27) rfl ?_);refine bX (some 14) rfl rfl Tryz.func27 tX rfl #[.agg #[.slice bC av.length aZ]] rfl tM ?_;(with_reducible refine (bR.calls k _ _ av true _ ?bK ?bL A9.out).mono ?_);(case bK=>exact cS dM);(case bL=>exact fu.out);rintro e VN ⟨rfl,hb⟩;refine ⟨_,rfl,?_⟩;replace qbV:=bW qbV hb;replace qco:=bW qco hb;replace HB:=dL HB hb;(try clear hb)))
     go_meet
     case rel=>exact ⟨_,(true),tS,H',⟨by first|omega|exact Nat.le_refl _⟩,⟨(qB2 qbV)⟩,⟨(qB2 qco)⟩,⟨tB⟩⟩
    ·rw [if_neg c15] at H
     have qfu:decide (5<(l3.length:Int))=false:=decide_eq_false c15;have qfv:decide (5<l3.length)=false:=decide_eq_false (by omega);clear c15;obtain ⟨qrV,A19,H⟩:=nU H;have H':=aj.mk H;clear H;have qAk:=qd8.out;have qAl:=qd9.out;have Px:=bc1 qbV;have Py:=bf qbV 0
     go_wp2_with (first|((with_reducible refine aG (f:=27) rfl ?_);refine bX (some 14) rfl rfl Tryz.func27 tX rfl #[.agg #[.slice bC av.length aZ]] rfl tM ?_;(with_reducible refine (bR.calls k _ _ av true _ ?bK ?bL A9.out).mono ?_);(case bK=>exact cS dM);(case bL=>exact fu.out);rintro e w22 ⟨rfl,hb⟩;refine ⟨_,rfl,?_⟩;replace qbV:=bW qbV hb;replace qco:=bW qco hb;replace HB:=dL HB hb;(try clear hb))|(go_at_call 34;(with_reducible refine (qaE.calls k _ _ l1 qrV _ ?bK ?bL A19.out).mono ?_);(case bK=>exact cS HR1);(case bL=>exact yE.out);rintro e w' ⟨rfl,⟨nd,rfl⟩⟩))
     go_meet
     case rel=>exact ⟨_,(!qrV),tS,H',⟨by first|omega|exact Nat.le_refl _⟩,⟨(qB2 qbV)⟩,⟨(qB2 qco)⟩,⟨tB⟩⟩
  ·replace c10:=Bool.eq_false_iff.mpr c10
   subst c10
   have H1:(qae.j0 k l1 l2 l3 true av lV lW)=some r:=by rw [if_neg (show ¬ (false=true) by decide)] at H;exact H
   clear H;have H:=H1;clear H1;have H':=aj.mk H;clear H;have qAm:=qd8.out;have qAn:=qd9.out;have qfQ:=bc1 qbV;have qfV:=bf qbV 0
   go_wp2_with (first|((with_reducible refine aG (f:=27) rfl ?_);refine bX (some 14) rfl rfl Tryz.func27 tX rfl #[.agg #[.slice bC av.length aZ]] rfl tM ?_;(with_reducible refine (bR.calls k _ _ av false _ ?bK ?bL A9.out).mono ?_);(case bK=>exact cS dM);(case bL=>exact fu.out);rintro e w25 ⟨rfl,hb⟩;refine ⟨_,rfl,?_⟩;replace qbV:=bW qbV hb;replace qco:=bW qco hb;replace HB:=dL HB hb;(try clear hb)))
   go_meet
   case rel=>exact ⟨_,(true),tS,H',⟨by first|omega|exact Nat.le_refl _⟩,⟨(qB2 qbV)⟩,⟨(qB2 qco)⟩,⟨tB⟩⟩
 case rest =>
  clear HC6
  try clear c1
  try clear c2
  try clear p2
  try clear c3
  try clear c4
  try clear c10
  try clear c11
  try clear qdp
  try clear qjP
  try clear c12
  try clear c15
  try clear qfu
  try clear qfv
  try clear c16
  try clear c20
  try clear c23
  try clear vS
  try clear WC
  try clear Px
  try clear qfQ
  try clear vT
  try clear WI
  try clear Py
  try clear qfV
  obtain ⟨kq,qrE,rfl,HA,HJ5,qbV,qco,HB⟩:=hcut
  cases kq with
  | zero=>exact absurd HA.out (by simp [qae.j0])
  | succ kj5 =>
   have H:=HA.out;clear HA;simp only [qae.j0] at H
   by_cases c26:qrE=true
   ·subst c26
    rw [if_pos rfl] at H;obtain ⟨qvL,A27,H⟩:=nU H;obtain rfl:=Option.some.inj H
    go_wp2_with (first|((with_reducible refine aG (f:=28) rfl ?_);refine bX (some 31) rfl rfl Tryz.func28 tX rfl #[] rfl tM ?_;(with_reducible refine (kR.calls kj5  qvL _ A27.out).mono ?_);rintro e w28 ⟨rfl,hb⟩;refine ⟨_,rfl,?_⟩;replace qbV:=bW qbV hb;replace qco:=bW qco hb;replace HB:=dL HB hb;(try clear hb)))
    go_ret
    exact ⟨tF,tB⟩
   ·replace c26:=Bool.eq_false_iff.mpr c26
    subst c26
    have H1:((dI.f kj5 av l1 l2 l3 lV lW).bind fun qcC=>((bP.f kj5 av).bind fun qpE=>(if qpE=true then ((bG.f kj5 av l2).bind fun qpF=>(if qpF=true then ((bG.f kj5 av l3).bind fun qpG=>(if qpG=true then ((qcl.f kj5 av l1).bind fun qpH=>(if qpH=true then ((qcF.f lV lW).bind fun qoR=>(qae.j1 kj5 l1 l2 l3 qcC.1 qcC.2 (!qoR) av lV lW)) else (qae.j1 kj5 l1 l2 l3 qcC.1 qcC.2 true av lV lW))) else (qae.j1 kj5 l1 l2 l3 qcC.1 qcC.2 true av lV lW))) else (qae.j1 kj5 l1 l2 l3 qcC.1 qcC.2 true av lV lW))) else (qae.j1 kj5 l1 l2 l3 qcC.1 qcC.2 true av lV lW))))=some r:=by rw [if_neg (show ¬ (false=true) by decide)] at H;exact H
    clear H;have H:=H1;clear H1;obtain ⟨⟨qjN,qjF⟩,qxd,H⟩:=bs H;have A29:=aj.mk qxd;clear qxd;have qvN:=aj.mk H;clear H;have qwT:=qd8.out;have qwU:=qd9.out;have Ih:=bc1 qbV;have Ij:=bf qbV 0;obtain ⟨qh8,qh9⟩:=bc2 qco;have qic:=bf qco 0;have qid:=bf qco 1
    go_upto_region 4 with (first|((with_reducible refine aG (f:=35) rfl ?_);refine bX (some 38) rfl rfl Tryz.func35 tX rfl #[.agg #[.slice bC av.length aZ],.slice A1 l1.length c1,.slice A2 l2.length c2,.slice A3 l3.length c3,.agg #[.int .i64 lV,.int .i64 lW]] rfl tM ?_;(with_reducible refine (dI.calls kj5 _ _ av _ _ l1 _ _ l2 _ _ l3 lV lW qjN qjF _ ?bK ?bL ?fM ?fO ?jI ?zL ?J3 ?J4 A29.out).mono ?_);(case bK=>exact cS dM);(case bL=>exact fu.out);(case fM=>exact cS HR1);(case fO=>exact yE.out);(case jI=>exact cS HR2);(case zL=>exact HC2.out);(case J3=>exact cS HR3);(case J4=>exact R9.out);rintro e w34 ⟨qza,rfl,ho0,hb⟩;refine ⟨_,rfl,?_⟩;have qd6:=aj.mk (Kd.dZ ho0 (bD tB));replace qbV:=bW qbV hb;replace qco:=bW qco hb;replace HB:=dL HB hb;(try clear hb);(try clear ho0)))
    (try simp only [Act.put,sL])
    go_cut [66] (fun v66 wc=>∃ (kq:Nat) (qpI:Bool),v66=.bool qpI∧aj (qae.j1 kq l1 l2 l3 qjN qjF qpI av lV lW=some r)∧aj (kq<=kj5)∧aj (Kd.R (Kd.int .i64) 88 wc w.heap.size (fun _=>True) qza qjN)∧aj (wc.heap[qo4]?=some (.cells #[(.slice bC av.length aZ)] 24 (0,0)))∧aj (wc.heap[qo6]?=some (.cells #[.int .i64 lV,.int .i64 lW] 37 (0,0)))∧aj (Below w.heap.size w wc))
    case first =>
     have H:=qvN.out;clear qvN;obtain ⟨qpE,A35,H⟩:=nU H
     by_cases c36:qpE=true
     ·subst c36
      rw [if_pos rfl] at H;obtain ⟨qpF,A37,H⟩:=nU H
      by_cases c38:qpF=true
      ·subst c38
       rw [if_pos rfl] at H;obtain ⟨qpG,A39,H⟩:=nU H
       by_cases c40:qpG=true
       ·subst c40
        rw [if_pos rfl] at H;obtain ⟨qpH,A41,H⟩:=nU H
        by_cases c42:qpH=true
        ·subst c42
         rw [if_pos rfl] at H;obtain ⟨qoR,A43,H⟩:=nU H;have H':=aj.mk H;clear H;have qAp:=qd8.out;have qAq:=qd9.out;have qtE:=bc1 qbV;have qtF:=bf qbV 0
         go_wp2_with (first|((with_reducible refine aG (f:=30) rfl ?_);refine bX (some 42) rfl rfl Tryz.func30 tX rfl #[.agg #[.slice bC av.length aZ]] rfl tM ?_;(with_reducible refine (bP.calls kj5 _ _ av true _ ?bK ?bL A35.out).mono ?_);(case bK=>exact cS dM);(case bL=>exact fu.out);rintro e w46 ⟨rfl,hb⟩;refine ⟨_,rfl,?_⟩;replace qd6:=tZ qd6 hb;replace qbV:=bW qbV hb;replace qco:=bW qco hb;replace HB:=dL HB hb;(try clear hb);have qtG:=bc1 qbV;have qtH:=bf qbV 0)|(go_at_call 31;(with_reducible refine (bG.calls kj5 _ _ av _ _ l2 true _ ?bK ?bL ?fM ?fO A37.out).mono ?_);(case bK=>exact cS dM);(case bL=>exact fu.out);(case fM=>exact cS HR2);(case fO=>exact HC2.out);rintro e w48 ⟨rfl,hb⟩;replace qd6:=tZ qd6 hb;replace qbV:=bW qbV hb;replace qco:=bW qco hb;replace HB:=dL HB hb;(try clear hb);have P7:=bc1 qbV;have P8:=bf qbV 0)|(go_at_call 31;(with_reducible refine (bG.calls kj5 _ _ av _ _ l3 true _ ?bK ?bL ?fM ?fO A39.out).mono ?_);(case bK=>exact cS dM);(case bL=>exact fu.out);(case fM=>exact cS HR3);(case fO=>exact R9.out);rintro e w50 ⟨rfl,hb⟩;replace qd6:=tZ qd6 hb;replace qbV:=bW qbV hb;replace qco:=bW qco hb;replace HB:=dL HB hb;(try clear hb);have qtI:=bc1 qbV;have qtJ:=bf qbV 0)|(go_at_call 36;(with_reducible refine (qcl.calls kj5 _ _ av _ _ l1 true _ ?bK ?bL ?fM ?fO A41.out).mono ?_);(case bK=>exact cS dM);(case bL=>exact fu.out);(case fM=>exact cS HR1);(case fO=>exact yE.out);rintro e w52 ⟨rfl,hb⟩;replace qd6:=tZ qd6 hb;replace qbV:=bW qbV hb;replace qco:=bW qco hb;replace HB:=dL HB hb;(try clear hb);obtain ⟨qtK,qtL⟩:=bc2 qco;have qtM:=bf qco 0;have qtN:=bf qco 1)|(go_at_call 37;(with_reducible refine (qcF.calls lV lW qoR _ A43.out).mono ?_);rintro e w54 ⟨rfl,hb⟩;replace qd6:=tZ qd6 hb;replace qbV:=bW qbV hb;replace qco:=bW qco hb;replace HB:=dL HB hb;(try clear hb)))
         go_meet
         case rel=>exact ⟨_,(!qoR),tS,H',⟨by have:=HJ5.out;first|omega|exact Nat.le_refl _⟩,⟨(qCo qd6)⟩,⟨(qB2 qbV)⟩,⟨(qB2 qco)⟩,⟨tB⟩⟩
        ·replace c42:=Bool.eq_false_iff.mpr c42
         subst c42
         have H1:(qae.j1 kj5 l1 l2 l3 qjN qjF true av lV lW)=some r:=by rw [if_neg (show ¬ (false=true) by decide)] at H;exact H
         clear H;have H:=H1;clear H1;have H':=aj.mk H;clear H;have qAr:=qd8.out;have qAs:=qd9.out;have qtO:=bc1 qbV;have qtP:=bf qbV 0
         go_wp2_with (first|((with_reducible refine aG (f:=30) rfl ?_);refine bX (some 42) rfl rfl Tryz.func30 tX rfl #[.agg #[.slice bC av.length aZ]] rfl tM ?_;(with_reducible refine (bP.calls kj5 _ _ av true _ ?bK ?bL A35.out).mono ?_);(case bK=>exact cS dM);(case bL=>exact fu.out);rintro e w57 ⟨rfl,hb⟩;refine ⟨_,rfl,?_⟩;replace qd6:=tZ qd6 hb;replace qbV:=bW qbV hb;replace qco:=bW qco hb;replace HB:=dL HB hb;(try clear hb);have qtQ:=bc1 qbV;have qtR:=bf qbV 0)|(go_at_call 31;(with_reducible refine (bG.calls kj5 _ _ av _ _ l2 true _ ?bK ?bL ?fM ?fO A37.out).mono ?_);(case bK=>exact cS dM);(case bL=>exact fu.out);(case fM=>exact cS HR2);(case fO=>exact HC2.out);rintro e w59 ⟨rfl,hb⟩;replace qd6:=tZ qd6 hb;replace qbV:=bW qbV hb;replace qco:=bW qco hb;replace HB:=dL HB hb;(try clear hb);have qtS:=bc1 qbV;have qtT:=bf qbV 0)|(go_at_call 31;(with_reducible refine (bG.calls kj5 _ _ av _ _ l3 true _ ?bK ?bL ?fM ?fO A39.out).mono ?_);(case bK=>exact cS dM);(case bL=>exact fu.out);(case fM=>exact cS HR3);(case fO=>exact R9.out);rintro e w61 ⟨rfl,hb⟩;replace qd6:=tZ qd6 hb;replace qbV:=bW qbV hb;replace qco:=bW qco hb;replace HB:=dL HB hb;(try clear hb);have qtU:=bc1 qbV;have qtV:=bf qbV 0)|(go_at_call 36;(with_reducible refine (qcl.calls kj5 _ _ av _ _ l1 false _ ?bK ?bL ?fM ?fO A41.out).mono ?_);(case bK=>exact cS dM);(case bL=>exact fu.out);(case fM=>exact cS HR1);(case fO=>exact yE.out);rintro e w63 ⟨rfl,hb⟩;replace qd6:=tZ qd6 hb;replace qbV:=bW qbV hb;replace qco:=bW qco hb;replace HB:=dL HB hb;(try clear hb)))
         go_meet
         case rel=>exact ⟨_,(true),tS,H',⟨by have:=HJ5.out;first|omega|exact Nat.le_refl _⟩,⟨(qCo qd6)⟩,⟨(qB2 qbV)⟩,⟨(qB2 qco)⟩,⟨tB⟩⟩
       ·replace c40:=Bool.eq_false_iff.mpr c40
        subst c40
        have H1:(qae.j1 kj5 l1 l2 l3 qjN qjF true av lV lW)=some r:=by rw [if_neg (show ¬ (false=true) by decide)] at H;exact H
        clear H;have H:=H1;clear H1;have H':=aj.mk H;clear H;have qmA:=qd8.out;have qmB:=qd9.out;have qhG:=bc1 qbV;have qhH:=bf qbV 0
        go_wp2_with (first|((with_reducible refine aG (f:=30) rfl ?_);refine bX (some 42) rfl rfl Tryz.func30 tX rfl #[.agg #[.slice bC av.length aZ]] rfl tM ?_;(with_reducible refine (bP.calls kj5 _ _ av true _ ?bK ?bL A35.out).mono ?_);(case bK=>exact cS dM);(case bL=>exact fu.out);rintro e w66 ⟨rfl,hb⟩;refine ⟨_,rfl,?_⟩;replace qd6:=tZ qd6 hb;replace qbV:=bW qbV hb;replace qco:=bW qco hb;replace HB:=dL HB hb;(try clear hb);have qtW:=bc1 qbV;have qtX:=bf qbV 0)|(go_at_call 31;(with_reducible refine (bG.calls kj5 _ _ av _ _ l2 true _ ?bK ?bL ?fM ?fO A37.out).mono ?_);(case bK=>exact cS dM);(case bL=>exact fu.out);(case fM=>exact cS HR2);(case fO=>exact HC2.out);rintro e w68 ⟨rfl,hb⟩;replace qd6:=tZ qd6 hb;replace qbV:=bW qbV hb;replace qco:=bW qco hb;replace HB:=dL HB hb;(try clear hb);have qtY:=bc1 qbV;have qtZ:=bf qbV 0)|(go_at_call 31;(with_reducible refine (bG.calls kj5 _ _ av _ _ l3 false _ ?bK ?bL ?fM ?fO A39.out).mono ?_);(case bK=>exact cS dM);(case bL=>exact fu.out);(case fM=>exact cS HR3);(case fO=>exact R9.out);rintro e w70 ⟨rfl,hb⟩;replace qd6:=tZ qd6 hb;replace qbV:=bW qbV hb;replace qco:=bW qco hb;replace HB:=dL HB hb;(try clear hb)))
        go_meet
        case rel=>exact ⟨_,(true),tS,H',⟨by have:=HJ5.out;first|omega|exact Nat.le_refl _⟩,⟨(qCo qd6)⟩,⟨(qB2 qbV)⟩,⟨(qB2 qco)⟩,⟨tB⟩⟩
      ·replace c38:=Bool.eq_false_iff.mpr c38
       subst c38
       have H1:(qae.j1 kj5 l1 l2 l3 qjN qjF true av lV lW)=some r:=by rw [if_neg (show ¬ (false=true) by decide)] at H;exact H
       clear H;have H:=H1;clear H1;have H':=aj.mk H;clear H;have qAt:=qd8.out;have qAu:=qd9.out;have qt0:=bc1 qbV;have qt1:=bf qbV 0
       go_wp2_with (first|((with_reducible refine aG (f:=30) rfl ?_);refine bX (some 42) rfl rfl Tryz.func30 tX rfl #[.agg #[.slice bC av.length aZ]] rfl tM ?_;(with_reducible refine (bP.calls kj5 _ _ av true _ ?bK ?bL A35.out).mono ?_);(case bK=>exact cS dM);(case bL=>exact fu.out);rintro e w73 ⟨rfl,hb⟩;refine ⟨_,rfl,?_⟩;replace qd6:=tZ qd6 hb;replace qbV:=bW qbV hb;replace qco:=bW qco hb;replace HB:=dL HB hb;(try clear hb);have qt2:=bc1 qbV;have qt3:=bf qbV 0)|(go_at_call 31;(with_reducible refine (bG.calls kj5 _ _ av _ _ l2 false _ ?bK ?bL ?fM ?fO A37.out).mono ?_);(case bK=>exact cS dM);(case bL=>exact fu.out);(case fM=>exact cS HR2);(case fO=>exact HC2.out);rintro e w75 ⟨rfl,hb⟩;replace qd6:=tZ qd6 hb;replace qbV:=bW qbV hb;replace qco:=bW qco hb;replace HB:=dL HB hb;(try clear hb)))
       go_meet
       case rel=>exact ⟨_,(true),tS,H',⟨by have:=HJ5.out;first|omega|exact Nat.le_refl _⟩,⟨(qCo qd6)⟩,⟨(qB2 qbV)⟩,⟨(qB2 qco)⟩,⟨tB⟩⟩
     ·replace c36:=Bool.eq_false_iff.mpr c36
      subst c36
      have H1:(qae.j1 kj5 l1 l2 l3 qjN qjF true av lV lW)=some r:=by rw [if_neg (show ¬ (false=true) by decide)] at H;exact H
      clear H;have H:=H1;clear H1;have H':=aj.mk H;clear H;have qAv:=qd8.out;have qAw:=qd9.out;have qt4:=bc1 qbV;have qt5:=bf qbV 0
      go_wp2_with (first|((with_reducible refine aG (f:=30) rfl ?_);refine bX (some 42) rfl rfl Tryz.func30 tX rfl #[.agg #[.slice bC av.length aZ]] rfl tM ?_;(with_reducible refine (bP.calls kj5 _ _ av false _ ?bK ?bL A35.out).mono ?_);(case bK=>exact cS dM);(case bL=>exact fu.out);rintro e w78 ⟨rfl,hb⟩;refine ⟨_,rfl,?_⟩;replace qd6:=tZ qd6 hb;replace qbV:=bW qbV hb;replace qco:=bW qco hb;replace HB:=dL HB hb;(try clear hb)))
      go_meet
      case rel=>exact ⟨_,(true),tS,H',⟨by have:=HJ5.out;first|omega|exact Nat.le_refl _⟩,⟨(qCo qd6)⟩,⟨(qB2 qbV)⟩,⟨(qB2 qco)⟩,⟨tB⟩⟩
    case rest =>
     clear qvN
     try clear c1
     try clear c2
     try clear p2
     try clear c3
     try clear c4
     try clear c5
     try clear c6
     try clear c7
     try clear c10
     try clear c11
     try clear qdp
     try clear qjP
     try clear c12
     try clear c15
     try clear qfu
     try clear qfv
     try clear c16
     try clear c20
     try clear c23
     try clear c26
     try clear c27
     try clear c28
     try clear c30
     try clear c31
     try clear c35
     try clear c36
     try clear c38
     try clear c40
     try clear c42
     try clear c44
     try clear c55
     try clear c64
     try clear c71
     try clear c76
     try clear vS
     try clear WC
     try clear Px
     try clear qfQ
     try clear Ih
     try clear qh8
     try clear qh9
     try clear qtE
     try clear qtG
     try clear P7
     try clear qtI
     try clear qtK
     try clear qtL
     try clear qtO
     try clear qtQ
     try clear qtS
     try clear qtU
     try clear qhG
     try clear qtW
     try clear qtY
     try clear qt0
     try clear qt2
     try clear qt4
     try clear vT
     try clear WI
     try clear Py
     try clear qfV
     try clear Ij
     try clear qic
     try clear qid
     try clear qtF
     try clear qtH
     try clear P8
     try clear qtJ
     try clear qtM
     try clear qtN
     try clear qtP
     try clear qtR
     try clear qtT
     try clear qtV
     try clear qhH
     try clear qtX
     try clear qtZ
     try clear qt1
     try clear qt3
     try clear qt5
     try clear p2
     obtain ⟨kq,qpI,rfl,HA,qBM,oF,qbV,qco,HB⟩:=hcut
     cases kq with
     | zero=>exact absurd HA.out (by simp [qae.j1])
     | succ qpJ =>
      have H:=HA.out;clear HA;simp only [qae.j1] at H
      by_cases c79:qpI=true
      ·subst c79
       rw [if_pos rfl] at H
       by_cases c80:qjF=2
       ·rw [if_pos c80] at H
        have qxh:(qjF == 2)=true:=beq_iff_eq.mpr c80;have qxi:(qjF != 2)=false:=bne_eq_false_iff_eq.mpr c80;clear c80
        by_cases c81:(qjN.length:Int)=0
        ·rw [if_pos c81] at H
         have qxj:((qjN.length:Int) == 0)=true:=beq_iff_eq.mpr c81;have qxk:((qjN.length:Int) != 0)=false:=bne_eq_false_iff_eq.mpr c81;clear c81;obtain ⟨qvM,A82,H⟩:=nU H;obtain rfl:=Option.some.inj H;obtain ⟨qBO,qBP,qzc⟩:=Kd.jc oF.out;subst qzc
         go_wp2_with (first|(go_at_call 28;(with_reducible refine (kR.calls qpJ  qvM _ A82.out).mono ?_);rintro e w84 ⟨rfl,hb⟩;have n0_:=aj.mk (Kd.jS (qCo oF) hb);have n1_:=aj.mk (aD (g:=qo4) (o:=.cells #[.slice bC av.length aZ] 24 (0,0)) (qB2 qbV) hb);have n2_:=aj.mk (aD (g:=qo6) (o:=.cells #[.int .i64 lV,.int .i64 lW] 37 (0,0)) (qB2 qco) hb);have n3_:=aj.mk (aV tB hb);clear oF;clear qbV;clear qco;clear HB;have oF:=n0_;have qbV:=n1_;have qco:=n2_;have HB:=n3_;clear n0_ n1_ n2_ n3_;(try clear hb)))
         go_ret
         exact ⟨tF,tB⟩
        ·rw [if_neg c81] at H
         have qxj:((qjN.length:Int) == 0)=false:=beq_eq_false_iff_ne.mpr c81;have qxk:((qjN.length:Int) != 0)=true:=bne_iff_ne.mpr c81
         have qAx:¬ (qjN=[]):=fun h_=>c81 (by rw [h_];rfl)
         obtain rfl:=Option.some.inj H;obtain ⟨qBQ,qBR,qzd⟩:=Kd.jc oF.out;subst qzd
         go_wp2
         go_ret
         exact ⟨tF,tB⟩
       ·rw [if_neg c80] at H
        have qxh:(qjF == 2)=false:=beq_eq_false_iff_ne.mpr c80;have qxi:(qjF != 2)=true:=bne_iff_ne.mpr c80;obtain rfl:=Option.some.inj H
        go_wp2
        go_ret
        exact ⟨tF,tB⟩
      ·replace c79:=Bool.eq_false_iff.mpr c79
       subst c79
       have H1:(if qjF=0 then ((qaA.f qpJ av l1 l2 l3 lV lW).bind fun qnk=>((dX.f qpJ qjN qnk).bind fun qoM=>(if qoM=true then ((kR.f qpJ).bind fun qoN=>(some qoN)) else (some false)))) else (some false))=some r:=by rw [if_neg (show ¬ (false=true) by decide)] at H;exact H
       clear H;have H:=H1;clear H1
       by_cases c86:qjF=0
       ·rw [if_pos c86] at H
        have qxl:(qjF == 0)=true:=beq_iff_eq.mpr c86;have qxm:(qjF != 0)=false:=bne_eq_false_iff_eq.mpr c86;clear c86;obtain ⟨qnk,A87,H⟩:=nU H;obtain ⟨qoM,A88,H⟩:=nU H
        by_cases c89:qoM=true
        ·subst c89
         rw [if_pos rfl] at H;obtain ⟨qoN,A90,H⟩:=nU H;obtain rfl:=Option.some.inj H;have qAA:=qd8.out;have qAB:=qd9.out;have qxO:=bc1 qbV;have qxP:=bf qbV 0;obtain ⟨qxQ,qxR⟩:=bc2 qco;have qxS:=bf qco 0;have qxT:=bf qco 1
         go_wp2_with (first|(go_at_call 39;(with_reducible refine (qaA.calls qpJ _ _ av _ _ l1 _ _ l2 _ _ l3 lV lW qnk _ ?bK ?bL ?fM ?fO ?jI ?zL ?J3 ?J4 A87.out).mono ?_);(case bK=>exact cS dM);(case bL=>exact fu.out);(case fM=>exact cS HR1);(case fO=>exact yE.out);(case jI=>exact cS HR2);(case zL=>exact HC2.out);(case J3=>exact cS HR3);(case J4=>exact R9.out);rintro e w94 ⟨qze,rfl,ho0,hb⟩;have n0_:=aj.mk (Kd.qE (qCo oF) (Kd.iF ho0) hb);have n1_:=aj.mk (Kd.dZ (Kd.wY ho0 (Kd.vR (qCo oF))) (bD tB));have n2_:=aj.mk (aD (g:=qo4) (o:=.cells #[.slice bC av.length aZ] 24 (0,0)) (qB2 qbV) hb);have n3_:=aj.mk (aD (g:=qo6) (o:=.cells #[.int .i64 lV,.int .i64 lW] 37 (0,0)) (qB2 qco) hb);have n4_:=aj.mk (aV tB hb);clear oF;clear qbV;clear qco;clear HB;have oF:=n0_;have qmc:=n1_;have qbV:=n2_;have qco:=n3_;have HB:=n4_;clear n0_ n1_ n2_ n3_ n4_;(try clear hb);(try clear ho0);obtain ⟨qBT,qBU,qzf⟩:=Kd.jc oF.out;subst qzf;obtain ⟨qBV,qBW,qzg⟩:=Kd.jc qmc.out;subst qzg)|(go_at_call 38;(with_reducible refine (dX.calls qpJ _ _ qjN _ _ qnk true _ ?bK ?bL ?fM ?fO A88.out).mono ?_);(case bK=>repeat (first|exact (Kd.eB oF.out).2.2|(with_reducible refine Kd.bM ?_ _)|(with_reducible refine Kd.bN ?_ _)|(with_reducible refine Kd.cO ?_)));(case bL=>exact (Kd.eB oF.out).2.1);(case fM=>repeat (first|exact (Kd.eB qmc.out).2.2|(with_reducible refine Kd.bM ?_ _)|(with_reducible refine Kd.bN ?_ _)|(with_reducible refine Kd.cO ?_)));(case fO=>exact (Kd.eB qmc.out).2.1);rintro e w' ⟨rfl,⟨nd,rfl⟩⟩)|(go_at_call 28;(with_reducible refine (kR.calls qpJ  qoN _ A90.out).mono ?_);rintro e w97 ⟨rfl,hb⟩;have n0_:=aj.mk (Kd.jS (qCo oF) hb);have n1_:=aj.mk (Kd.jS (qCo qmc) hb);have n2_:=aj.mk (aD (g:=qo4) (o:=.cells #[.slice bC av.length aZ] 24 (0,0)) (qB2 qbV) hb);have n3_:=aj.mk (aD (g:=qo6) (o:=.cells #[.int .i64 lV,.int .i64 lW] 37 (0,0)) (qB2 qco) hb);have n4_:=aj.mk (aV tB hb);clear oF;clear qmc;clear qbV;clear qco;clear HB;have oF:=n0_;have qmc:=n1_;have qbV:=n2_;have qco:=n3_;have HB:=n4_;clear n0_ n1_ n2_ n3_ n4_;(try clear hb)))
         go_ret
         exact ⟨tF,tB⟩
        ·replace c89:=Bool.eq_false_iff.mpr c89
         subst c89
         have H1:(some false)=some r:=by rw [if_neg (show ¬ (false=true) by decide)] at H;exact H
         clear H;have H:=H1;clear H1;obtain rfl:=Option.some.inj H;have qAC:=qd8.out;have qAD:=qd9.out;have qxU:=bc1 qbV;have qxV:=bf qbV 0;obtain ⟨qxn,qxo⟩:=bc2 qco;have qxp:=bf qco 0;have qxq:=bf qco 1
         go_wp2_with (first|(go_at_call 39;(with_reducible refine (qaA.calls qpJ _ _ av _ _ l1 _ _ l2 _ _ l3 lV lW qnk _ ?bK ?bL ?fM ?fO ?jI ?zL ?J3 ?J4 A87.out).mono ?_);(case bK=>exact cS dM);(case bL=>exact fu.out);(case fM=>exact cS HR1);(case fO=>exact yE.out);(case jI=>exact cS HR2);(case zL=>exact HC2.out);(case J3=>exact cS HR3);(case J4=>exact R9.out);rintro e qBX ⟨qze,rfl,ho0,hb⟩;have n0_:=aj.mk (Kd.qE (qCo oF) (Kd.iF ho0) hb);have n1_:=aj.mk (Kd.dZ (Kd.wY ho0 (Kd.vR (qCo oF))) (bD tB));have n2_:=aj.mk (aD (g:=qo4) (o:=.cells #[.slice bC av.length aZ] 24 (0,0)) (qB2 qbV) hb);have n3_:=aj.mk (aD (g:=qo6) (o:=.cells #[.int .i64 lV,.int .i64 lW] 37 (0,0)) (qB2 qco) hb);have n4_:=aj.mk (aV tB hb);clear oF;clear qbV;clear qco;clear HB;have oF:=n0_;have qmc:=n1_;have qbV:=n2_;have qco:=n3_;have HB:=n4_;clear n0_ n1_ n2_ n3_ n4_;(try clear hb);(try clear ho0);obtain ⟨qAE,qAF,qxr⟩:=Kd.jc oF.out;subst qxr;obtain ⟨qAG,qAH,qxs⟩:=Kd.jc qmc.out;subst qxs)|(go_at_call 38;(with_reducible refine (dX.calls qpJ _ _ qjN _ _ qnk false _ ?bK ?bL ?fM ?fO A88.out).mono ?_);(case bK=>repeat (first|exact (Kd.eB oF.out).2.2|(with_reducible refine Kd.bM ?_ _)|(with_reducible refine Kd.bN ?_ _)|(with_reducible refine Kd.cO ?_)));(case bL=>exact (Kd.eB oF.out).2.1);(case fM=>repeat (first|exact (Kd.eB qmc.out).2.2|(with_reducible refine Kd.bM ?_ _)|(with_reducible refine Kd.bN ?_ _)|(with_reducible refine Kd.cO ?_)));(case fO=>exact (Kd.eB qmc.out).2.1);rintro e w' ⟨rfl,⟨nd,rfl⟩⟩))
         go_ret
         exact ⟨tF,tB⟩
       ·rw [if_neg c86] at H
        have qxl:(qjF == 0)=false:=beq_eq_false_iff_ne.mpr c86;have qxm:(qjF != 0)=true:=bne_iff_ne.mpr c86;obtain rfl:=Option.some.inj H
        go_wp2
        go_ret
        exact ⟨tF,tB⟩
end Go.Proofs.YtnpfbjnjdngkhaaGreatDoor.P
namespace Go.Proofs.YtnpfbjnjdngkhaaGreatDoor.P
open Go.RowKit Go.Proofs.YtnpfbjnjdngkhaaGreatDoorW.aQ Go.Proofs.YtnpfbjnjdngkhaaGreatDoorW.bO Go.Proofs.YtnpfbjnjdngkhaaGreatDoorW.bT
def qjG (h:List bI) (gD:List nJ) (a b:List bB) (e:bQ):Bool:=iN h&&(M7 h.length gD&&(iq h.length a&&(iq h.length b&&Ku e)))
theorem qoO {n:Nat} {l:List nJ} (h:M7 n l=true):(l.length<=3∧1<=l.length)∧∀ x∈l,oJ n x.f0=true:=by
 unfold M7 at h
 rw [Bool.and_eq_true] at h;have h1:=pq.1 h.1;refine ⟨by omega,fun x hx=>?_⟩
 cases hl:oJ n x.f0 with
 | true=>rfl
 | false =>
  have:(l.any fun x=>!oJ n x.f0)=true:=List.any_eq_true.2 ⟨x,hx,by simp [hl]⟩;rw [this] at h;simp at h
theorem qrW {h:List bI} {gD:List nJ} {a b:List bB} {e0 e1:Int} (hh:iN h=true) (ha:iq h.length a=true) (hb:iq h.length b=true) (hl:∀ x∈gD,oJ h.length x.f0=true) (hn:gD.length<=1000):∀ (m i:Nat),i+m=gD.length->∀ acc:List Int,acc.length=i ->
  Ev (fun k=>dI.l0 k a b acc gD (gD.length:Int) i h e0 e1) (acc++(gD.drop i).map fun x=>uQ h x.f0 a b e0 e1,(0:Int)):=by
 intro m
 induction m with
 | zero =>
  intro i hi acc hc;rw [List.drop_eq_nil_of_le (by omega),List.map_nil,List.append_nil];refine Ev.step (f:=fun _=>some (acc,0)) (fun k=>?_) (Ev.now _);rw [dI.l0,if_neg (by omega)]
 | succ m ih =>
  intro i him acc hc
  have hi:i<gD.length:=by omega
  have hw:=hl _ (List.getElem_mem hi);have h1:=ih (i+1) (by omega) (acc++[uQ h gD[i].f0 a b e0 e1]) (by simp;omega);rw [List.drop_eq_getElem_cons hi,List.map_cons];rw [List.append_assoc,List.singleton_append] at h1;refine Ev.step (fun k=>?_) h1
  have hg:KG h gD[i].f0 a b=true:=by simp [KG,hh,hw,ha,hb]
  rw [dI.l0,if_pos (by omega),if_pos (by omega),if_pos (by omega),qtx hi,ji.f,if_pos hg,Option.bind_some,if_pos (by omega),QJ (by omega)]
theorem qrX (h:List bI) (gD:List nJ) (a b:List bB) (e0 e1:Int):Ev (fun k=>dI.f k h gD a b e0 e1) (if qjG h gD a b ⟨e0,e1⟩=true then (gD.map fun x=>uQ h x.f0 a b e0 e1,0) else ([],2)):=by
 have bad:Ev (fun k=>dI.j0 k gD a b true h e0 e1) (([]:List Int),(2:Int)):=Ev.step (f:=fun _=>some (([]:List Int),(2:Int))) (fun k=>by rw [dI.j0,if_pos rfl]) (Ev.now _);have hf:oG.f gD h=some (gD.any fun x=>!oJ h.length x.f0):=Xv h gD
 unfold dI.f qjG M7
 simp only [Rm,Eu,hf,F7,Pz,Option.bind_some]
 cases hh:iN h with
 | false=>simpa using bad
 | true =>
  cases hi:oN gD.length 1 3 with
  | false=>simpa using bad
  | true =>
   cases hl:gD.any fun x=>!oJ h.length x.f0 with
   | true=>simpa using bad
   | false =>
    cases ha:iq h.length a with
    | false=>simpa using bad
    | true =>
     cases hb:iq h.length b with
     | false=>simpa using bad
     | true =>
      cases he:Ku ⟨e0,e1⟩ with
      | false=>simpa using bad
      | true =>
       have hlen:=pq.1 hi;have h1:=qrW (e0:=e0) (e1:=e1) hh ha hb (qoO (n:=h.length) (l:=gD) (by simp [M7,hi,hl])).2 (by omega) gD.length 0 (by omega) [] rfl;have h2:Ev (fun k=>dI.j0 k gD a b false h e0 e1) (gD.map fun x=>uQ h x.f0 a b e0 e1,(0:Int)):=Ev.step (fun k=>by rw [dI.j0,if_neg (by simp)];rfl) h1
       simpa using h2
theorem qzh (h:List bI) (gD:List nJ) (a b:List bB) (e0 e1:Int):∃ k,qae.f k h gD a b e0 e1=some true:=by
 refine Ev.rounds (g:=fun k=>qae.f k h gD a b e0 e1) ?_;have skip:Ev (fun k=>qae.j0 k gD a b true h e0 e1) true:=Ev.step (fun k=>by rw [qae.j0,if_pos rfl]) qoL;obtain ⟨b1,hb1,hs⟩:=qtB h;refine Ev.bind hb1 (f:=fun k t=>if t=true then (if (a.length:Int)>5 then qae.j0 k gD a b true h e0 e1 else if (b.length:Int)>5 then qae.j0 k gD a b true h e0 e1 else (qaE.f k gD).bind fun t=>qae.j0 k gD a b (!t) h e0 e1) else qae.j0 k gD a b true h e0 e1) ?_
 cases b1 with
 | false=>simpa using skip
 | true =>
  have hs:=hs rfl
  by_cases ha5:(a.length:Int)>5
  ·simpa [ha5] using skip
  by_cases hb5:(b.length:Int)>5
  ·simpa [ha5,hb5] using skip
  simp only [if_true,if_neg ha5,if_neg hb5];obtain ⟨b2,hb2,hf⟩:=qvK gD;refine Ev.bind hb2 (f:=fun k t=>qae.j0 k gD a b (!t) h e0 e1) ?_
  cases b2 with
  | false=>exact skip
  | true =>
   have hf:=hf rfl
   have hL:∀ x∈gD,x.f0.length<=1000:=fun x hx=>by have:=hf.2 x hx;omega
   have bad:Ev (fun k=>qae.j1 k gD a b [] 2 true h e0 e1) true:=Ev.step (fun k=>by rw [qae.j1,if_pos rfl,if_pos rfl];rfl) qoL;refine Ev.step (f:=fun k=>(dI.f k h gD a b e0 e1).bind fun qcC=>((bP.f k h).bind fun qpE=>(if qpE=true then ((bG.f k h a).bind fun qpF=>(if qpF=true then ((bG.f k h b).bind fun qpG=>(if qpG=true then ((qcl.f k h gD).bind fun qpH=>(if qpH=true then ((qcF.f e0 e1).bind fun qoR=>(qae.j1 k gD a b qcC.1 qcC.2 (!qoR) h e0 e1)) else (qae.j1 k gD a b qcC.1 qcC.2 true h e0 e1))) else (qae.j1 k gD a b qcC.1 qcC.2 true h e0 e1))) else (qae.j1 k gD a b qcC.1 qcC.2 true h e0 e1))) else (qae.j1 k gD a b qcC.1 qcC.2 true h e0 e1)))) (fun k=>by rw [qae.j0,if_neg (by simp)]) ?_;refine Ev.bind (qrX h gD a b e0 e1) (f:=fun k qcC=>((bP.f k h).bind fun qpE=>(if qpE=true then ((bG.f k h a).bind fun qpF=>(if qpF=true then ((bG.f k h b).bind fun qpG=>(if qpG=true then ((qcl.f k h gD).bind fun qpH=>(if qpH=true then ((qcF.f e0 e1).bind fun qoR=>(qae.j1 k gD a b qcC.1 qcC.2 (!qoR) h e0 e1)) else (qae.j1 k gD a b qcC.1 qcC.2 true h e0 e1))) else (qae.j1 k gD a b qcC.1 qcC.2 true h e0 e1))) else (qae.j1 k gD a b qcC.1 qcC.2 true h e0 e1))) else (qae.j1 k gD a b qcC.1 qcC.2 true h e0 e1)))) ?_;refine Ev.bind (qsK hs) ?_
   cases hh:iN h with
   | false=>simpa [qjG,hh] using bad
   | true =>
    simp only [if_true];refine Ev.bind (qqg hs.1 (by omega)) ?_
    cases ha:iq h.length a with
    | false=>simpa [qjG,hh,ha] using bad
    | true =>
     simp only [if_true];refine Ev.bind (qqg hs.1 (by omega)) ?_
     cases hb:iq h.length b with
     | false=>simpa [qjG,hh,ha,hb] using bad
     | true =>
      simp only [if_true];refine Ev.bind (qsM (by have:=hf.1;omega) hL) ?_
      cases hl:M7 h.length gD with
      | false=>simpa [qjG,hh,ha,hb,hl] using bad
      | true =>
       simp only [if_true,qxb,Option.bind_some]
       cases he:Ku ⟨e0,e1⟩ with
       | false=>simpa [qjG,hh,ha,hb,hl,he] using bad
       | true =>
        have LA:=qoO hl;have hw:=qrU hh ha hb LA.2 (by omega) he;simp only [qjG,hh,ha,hb,hl,he,Bool.and_self,if_true,Bool.not_true];refine Ev.step (f:=fun k=>(qaA.f k h gD a b e0 e1).bind fun qnk=>((dX.f k (gD.map fun x=>uQ h x.f0 a b e0 e1) qnk).bind fun qoM=>(if qoM=true then ((kR.f k).bind fun qoN=>(some qoN)) else (some false)))) (fun k=>by rw [qae.j1,if_neg (by simp),if_pos rfl]) ?_;refine Ev.bind hw (f:=fun k qnk=>((dX.f k (gD.map fun x=>uQ h x.f0 a b e0 e1) qnk).bind fun qoM=>(if qoM=true then ((kR.f k).bind fun qoN=>(some qoN)) else (some false)))) ?_;exact Ev.bind (qsN (by rw [List.length_map];omega)) (f:=fun k qoM=>(if qoM=true then ((kR.f k).bind fun qoN=>(some qoN)) else (some false))) qoL
end Go.Proofs.YtnpfbjnjdngkhaaGreatDoor.P
namespace Go.Proofs.YtnpfbjnjdngkhaaGreatDoor.qqh
open Go.ChangeShapes Go.WideShapes Go.ChangeAt Go.RowKit Go.Proofs.YtnpfbjnjdngkhaaGreatDoor.P
theorem lifted (os:Os) (started:os.Started) (H:Type) (enc:TypeId × Value->H) :
  ReturnsInHanded {} Tryz.checked os 4 .any (fun w args=>(Rows.dyeWordsSpec.pre enc Tryz.prog Tryz.f4 [] false w args∧laidMetH Tryz.prog qfr w)∧sizedMet enc Tryz.prog Tryz.f4 (OpenSpec.ofChange Rows.dyeWordsSpec) false w args)
   (Rows.dyeWordsSpec.post enc Tryz.prog Tryz.f4 false true false false):=by
 refine returnsInHanded_of_change_and (C:=Tryz.checked) (X:=fun w _=>laidMetH Tryz.prog qfr w) (fun _ _ _ hh h=>h.of_heap hh) qqe started (by kernel_rfl) Tryz.func4
  (ChangeSpec.witness_shaped (enc:=enc) (C:=Tryz.checked) (os:=os) (X:=fun w _=>laidMetH Tryz.prog qfr w) false (World.doorLaid Tryz.prog 34 os) #[.agg #[.slice none 0 0],.slice none 0 0,.slice none 0 0,.slice none 0 0,.agg #[.int .i64 0,.int .i64 0]] 8 rfl (World.shaped_of_RefB (by kernel_rfl) (by kernel_rfl)) (by kernel_rfl) (by kernel_rfl) (by kernel_rfl) (qfs os _)) ?_
 intro W base args ds gs before hval0 hW _ _ hL _;have hval:∀ (j:Nat) t v,Tryz.f4.params[j]?=some t->args[j]?=some v->Value.okWide Tryz.prog W .any base t v:=hval0;have hW':=hW;obtain ⟨p,q,hA0,hV,rfl,hfz,hnd⟩:=hW;have hA:DataW.TrodAll enc Tryz.prog W 0 (fun _=>true) true Tryz.f4.params.toList args.toList ds p:=hA0;rw [Tryz.params4] at hA hval;obtain ⟨v0,vs0,d0,ds0,p0,q0,hargs,rfl,rfl,h0,r0⟩:=trodAll_cons hA;obtain ⟨v1,vs1,d1,ds1,p1,q1,rfl,rfl,rfl,h1,r1⟩:=trodAll_cons r0;obtain ⟨v2,vs2,d2,ds2,p2,q2,rfl,rfl,rfl,h2,r2⟩:=trodAll_cons r1;obtain ⟨v3,vs3,d3,ds3,p3,q3,rfl,rfl,rfl,h3,r3⟩:=trodAll_cons r2;obtain ⟨v4,vs4,d4,ds4,p4,q4,rfl,rfl,rfl,h4,r4⟩:=trodAll_cons r3;obtain ⟨rfl,rfl,rfl⟩:=trodAll_nil r4
 obtain rfl:args=#[v0,v1,v2,v3,v4]:=by cases args;simp_all
 obtain ⟨rfl,rfl⟩:=trodVars_none hV;have k0:=h0
 have lt0:∀ x∈p0,x.block<W.heap.size:=by obtain ⟨m,hm⟩:=k0;exact DataW.trod_lt m _ _ _ hm
 obtain ⟨A0,c0,l0,rfl,i0,j0⟩:=qnR (hval 0 24 v0 rfl rfl) h0;have k1:=h1
 have lt1:∀ x∈p1,x.block<W.heap.size:=by obtain ⟨m,hm⟩:=k1;exact DataW.trod_lt m _ _ _ hm
 obtain ⟨A1,c1,l1,rfl,i1,j1⟩:=qnX (hval 1 35 v1 rfl rfl) h1;have k2:=h2
 have lt2:∀ x∈p2,x.block<W.heap.size:=by obtain ⟨m,hm⟩:=k2;exact DataW.trod_lt m _ _ _ hm
 obtain ⟨A2,c2,l2,rfl,i2,j2⟩:=qnW (hval 2 25 v2 rfl rfl) h2;have k3:=h3
 have lt3:∀ x∈p3,x.block<W.heap.size:=by obtain ⟨m,hm⟩:=k3;exact DataW.trod_lt m _ _ _ hm
 obtain ⟨A3,c3,l3,rfl,i3,j3⟩:=qnW (hval 3 25 v3 rfl rfl) h3;have k4:=h4
 have lt4:∀ x∈p4,x.block<W.heap.size:=by obtain ⟨m,hm⟩:=k4;exact DataW.trod_lt m _ _ _ hm
 obtain ⟨a4,b4,rfl⟩:=qnT (hval 4 37 v4 rfl rfl) h4;clear hA0 hval0;obtain ⟨kk,qzj⟩:=qzh l0 l1 l2 l3 a4 b4
 refine (qae.calls kk A0 c0 l0 A1 c1 l1 A2 c2 l2 A3 c3 l3 a4 b4 true W j0 i0 j1 i1 j2 i2 j3 i3 qzj).mono fun e W' ⟨he,bel⟩=>?_
 subst he;exact ⟨_,rfl,_,_,_,[],_,[],hW',trodAll_mk1 (shut_bool Tryz.underlying4 _),(trodAll_cons_mk (Below.trod laidOut (by kernel_rfl) (of_decide_eq_true (by kernel_rfl)) k0 bel lt0) (trodAll_cons_mk (Below.trod laidOut (by kernel_rfl) (of_decide_eq_true (by kernel_rfl)) k1 bel lt1) (trodAll_cons_mk (Below.trod laidOut (by kernel_rfl) (of_decide_eq_true (by kernel_rfl)) k2 bel lt2) (trodAll_cons_mk (Below.trod laidOut (by kernel_rfl) (of_decide_eq_true (by kernel_rfl)) k3 bel lt3) (trodAll_cons_mk (Below.trod laidOut (by kernel_rfl) (of_decide_eq_true (by kernel_rfl)) k4 bel lt4) trodAll_mk0))))),rfl,bel.frame _,fun h=>by cases h⟩
theorem q9:(Rows.dyeWordsRow.inPlace == Tryz.prog.inPlace 4)=true:=by kernel_rfl
theorem q10:(Rows.dyeWordsRow.unfollowed == Tryz.prog.unfollowed 4)=true:=by kernel_rfl
theorem q11:(Rows.dyeWordsRow.recurses == Tryz.prog.recurses 4)=true:=by kernel_rfl
theorem q12:(Rows.dyeWordsRow.named == Tryz.prog.varsNamed 4)=true:=by kernel_rfl
theorem closed:joinedFacts Tryz.prog 4 Tryz.f4 Rows.dyeWordsSpec Rows.dyeWordsRow=true:=(ga (ga (ga (ga (ga (ga (ga (ga (ga (ga (ga (ga (ga (ga (ga (ga (ga (ga (ga (ga (ga (ga (ga (ga (ga (ga (ga (ga (ga (ga (ga (show (Rows.dyeWordsRow.wf (OpenSpec.ofChange Rows.dyeWordsSpec))=true by kernel_rfl) g1) g2) (show (Tryz.f4.params.all (Tryz.prog.readableRec ·))=true by kernel_rfl)) (show (namedTie Tryz.prog Rows.dyeWordsRow.named Rows.dyeWordsSpec.vars)=true by kernel_rfl)) (show ((Rows.dyeWordsRow.stops == []))=true by kernel_rfl)) g6) (show ((Rows.dyeWordsRow.knobs == []))=true by kernel_rfl)) g8) q9) q10) q11) q12) (show ((Rows.dyeWordsRow.maps == (Tryz.f4.params.toList++Rows.dyeWordsSpec.plain.varTypes Tryz.prog).any (Tryz.prog.mapsRec ·)))=true by kernel_rfl)) (show ((Rows.dyeWordsRow.ifaces == (Tryz.f4.params.toList++Rows.dyeWordsSpec.plain.varTypes Tryz.prog).any (Tryz.prog.ifacesRec ·)))=true by kernel_rfl)) (show ((Rows.dyeWordsRow.mapsOut == Tryz.prog.mapsAmong Tryz.f4.resultTypes.toList))=true by kernel_rfl)) (show ((Rows.dyeWordsRow.loops == (Tryz.f4.params.toList++Rows.dyeWordsSpec.plain.varTypes Tryz.prog).any (Tryz.prog.loopsFrom ·)))=true by kernel_rfl)) (show ((Rows.dyeWordsRow.wideKeys == (Tryz.f4.params.toList++Rows.dyeWordsSpec.plain.varTypes Tryz.prog++Tryz.f4.resultTypes.toList).any (Tryz.prog.wideKeysFrom ·)))=true by kernel_rfl)) (show (Rows.dyeWordsSpec.vars.all (Tryz.prog.varReadable ·))=true by kernel_rfl)) (show (Tryz.f4.resultTypes.all (fun t=>Tryz.prog.readableRec t&&decide (t<Tryz.prog.types.size)))=true by kernel_rfl)) (show ((Rows.dyeWordsRow.ifacesOut == Tryz.f4.resultTypes.toList.any (Tryz.prog.ifacesRec ·)))=true by kernel_rfl)) (show ((Rows.dyeWordsRow.loopsOut == Tryz.f4.resultTypes.toList.any (Tryz.prog.loopsFrom ·)))=true by kernel_rfl)) g23) (show (Rows.dyeWordsRow.shortTexts.isNone)=true by kernel_rfl)) g25) g26) g27) g28) (show ((Rows.dyeWordsRow.kinds == (if Rows.dyeWordsRow.domain.isEmpty then [] else Tryz.f4.params.toList.map fun t=>match Tryz.prog.underlying t with|some (.int k)=>some k|_=>none)))=true by kernel_rfl)) (show ((Rows.dyeWordsRow.pinned == Rows.dyeWordsRow.pinnedBy))=true by kernel_rfl)) (show ((Rows.dyeWordsRow.veiled == (Tryz.f4.params.toList++Rows.dyeWordsSpec.plain.varTypes Tryz.prog++Tryz.f4.resultTypes.toList).any (Tryz.prog.veiledRec ·)))=true by kernel_rfl)) (show (Rows.dyeWordsRow.veiledFits Tryz.prog Tryz.f4.params.toList (Tryz.f4.params.toList++Rows.dyeWordsSpec.plain.varTypes Tryz.prog++Tryz.f4.resultTypes.toList))=true by kernel_rfl))
theorem named:Tryz.prog.funcNamed "nacre/nacrelaw04.DyeWords" = some 4:=by kernel_rfl
theorem wrap:Tryz.f4.isWrapper Tryz.prog Rows.dyeWordsRow.wrapper Rows.dyeWordsRow.mainSum:=by unfold Func.isWrapper;first|(rw [if_pos (by decide +kernel)];kernel_rfl)|(rw [if_neg (by decide +kernel)];exact ⟨rfl,rfl⟩)
theorem over:Rows.dyeWordsRow.holds Tryz.pinned (OpenSpec.ofChange Rows.dyeWordsSpec) :=
 OpenClaim.holds_of_wide 4 Tryz.f4 rfl rfl rfl rfl rfl rfl rfl ⟨rfl,rfl,rfl,rfl,rfl⟩ rfl rfl rfl rfl rfl named Tryz.func4 closed
  (of_decide_eq_true (by kernel_rfl)) wrap (fun os started H enc _=>lifted os started H enc)
theorem qvP:Rows.dyeWordsRow.wfByText (OpenSpec.ofChange Rows.dyeWordsSpec)=true:=by kernel_rfl
theorem goes:false=Rows.dyeWordsRow.goesBy Tryz.prog:=by kernel_rfl
theorem stand:([24,35,25,25,37].all fun u=>!Tryz.prog.wantsStandIn u)=true:=by kernel_rfl
theorem card:Rows.DyeWordsCardSaid :=
 Claim7.holds_tied_plain_at .later [] [.data,.data,.data] true (true, "02506c6772bdc43bd513de4e4af4406d9241d99a8fb894d2eb1f57dc419b7a24") true
  over (fun _ h=>by cases h) qvP (fun _ h=>by cases h) dyeWords_row_tie rfl ⟨rfl,rfl⟩ g30 rfl
  (fun f fn hf hfn=>by
   obtain rfl:f=4:=Option.some.inj (named.symm.trans hf) |>.symm;obtain rfl:fn=Tryz.f4:=(Option.some.inj (Tryz.func4.symm.trans hfn)).symm
   exact ⟨g31,fun j t ht=>by
    rw [Tryz.params4] at ht
    have hm:t∈[24,35,25,25,37]:=by simpa using Array.mem_of_getElem? ht
    exact (show Tryz.prog.wantsStandIn t=false by simpa using List.all_eq_true.1 stand t hm)⟩)
  goes
end Go.Proofs.YtnpfbjnjdngkhaaGreatDoor.qqh
namespace Go.Proofs.YtnpfbjnjdngkhaaGreatDoor
theorem dyeWords_card:Rows.DyeWordsCardSaid:=qqh.card
end Go.Proofs.YtnpfbjnjdngkhaaGreatDoor
