import Derived.Laws.IdiomCopy
import Derived.Deep.RegionHeld3
import Derived.Test.YtnpfbjnjdngkhaaGreatDoorB3
set_option maxHeartbeats 8000000
set_option maxRecDepth 100000
set_option linter.unusedVariables false
set_option linter.unusedSimpArgs false
set_option linter.unusedSectionVars false
namespace Go.Proofs.YtnpfbjnjdngkhaaGreatDoor.P
open Go.RowKit Go.Proofs.YtnpfbjnjdngkhaaGreatDoorW.aQ Go.Proofs.YtnpfbjnjdngkhaaGreatDoorW.bO Go.Proofs.YtnpfbjnjdngkhaaGreatDoorW.bT
attribute [local go_sem] eP eT fU fV dS dU eU eX
def nL (l:List dD) (set:Int):Int:=((jf set l 0).map dD.f2).sum
theorem Bx.UO {L:List (Nat × Obj)} {w W w1:World} {row:Option Nat} (h:Bx L w W) (hg:W.grownBy w1 row) (hlo:∀ k,row=some k->w.heap.size<=k) (hne:∀ p∈L,some p.1≠row):Bx L w w1 :=
 ⟨kH h.below row h.below.size hg hlo,fun p hp=>(hg.block _ (bZ (h.get p hp)) (hne p hp)).trans (h.get p hp),h.lo,h.nd⟩
theorem Cr (g5:Nat) (A2:Option Addr) (c2:Nat) (l2:List dD) (set:Int) (w:World) (h5:w.heap[g5]?=some (.cells #[.slice A2 l2.length c2] 59 (0,0))) (hr2:Kd.C kS w A2 l2.length l2) (hc2:l2.length<=c2) (hl:l2.length<=5) (hs:∀ s∈l2,0<=s.f2∧s.f2<=999) :
  Calls Tryz.prog 128 #[.int .i64 set,.pointer (some ⟨g5,0,none⟩)] w fun e w'=>e=.returned (.int .i64 (nL l2 set))∧Below w.heap.size w w':=by
 obtain ⟨own,hown⟩:∃ own,own=jf set l2 0:=⟨_,rfl⟩;have HOWN:=aj.mk hown;obtain ⟨ps,hps⟩:∃ ps,ps=own.map dD.f2:=⟨_,rfl⟩;have HPS:=aj.mk hps;have HP:aj (nL l2 set=ps.sum):=⟨by rw [hps,hown];rfl⟩;clear hps;rw [HP.out];have HOL:=aj.mk (show own.length<=5 by rw [hown];have:=xK set l2 0;omega);have HOS:=aj.mk (show ∀ s∈own,0<=s.f2∧s.f2<=999 by rw [hown];exact fun s hs2=>hs s (uD set l2 0 s hs2));have HR:=aj.mk hr2;have HL2:=aj.mk (show l2.length<=900 by omega);have ch:=fG h5
 have hmo:own.length<=9223372036854775807:=by have:=HOL.out;omega
 have Eo:=Tryz.underlying107;clear h5 hr2 hl hs hown
 go_enter Tryz.func128,Tryz.ntmps128
 go_wp2_with (go_at_call 129;refine (qeJ A2 c2 l2 set _ HR.out hc2 HL2.out).mono ?_;rw [← HOWN.out];rintro e w0 ⟨Ao,co,rfl,hlo,hC,hx⟩;have HO:=aj.mk hC;have rE:=aj.mk hx;clear hx hC ch)
 have HX:=Bx.nil w0
 go_loopw [4,11] (fun v4 v11 W=>∃ i:Nat,i<=own.length∧v11=.int .i64 i∧aj (Kd.R (Kd.int .i64) 3 W w0.heap.size (fun _=>True) v4 ((own.take i).map dD.f2))∧Bx [] w0 W) (fun _ v11 _=>own.length - (intOf v11).toNat)
 case atStart=>exact ⟨0,by omega,rfl,⟨Kd.mI _ _ _ _ _⟩,HX⟩
 case round =>
  clear HX;obtain ⟨i,hi,rfl,HV,HX⟩:=hrel
  by_cases hlt:i<own.length
  ·obtain ⟨s,hs⟩:∃ s,s=uE own i:=⟨_,rfl⟩
   obtain ⟨ad,As,cs,rfl,q0,q1,q2,hls,hCs⟩:=yg HO.out i (by omega) (by omega)
   have hrd:bJ own (i:Int)=s:=by rw [hs,bJ,Int.toNat_natCast];rfl
   rw [hrd] at q0 q1 q2;rw [Int.toNat_natCast] at q0 q1 q2;replace q0:=(HX.below.cell (World.block_lt_of_cell? w0 _ q0)).trans q0;replace q1:=(HX.below.cell (World.block_lt_of_cell? w0 _ q1)).trans q1;replace q2:=(HX.below.cell (World.block_lt_of_cell? w0 _ q2)).trans q2
   have hilt:(i:Int)<own.length:=by omega
   have HT:=aj.mk (show (own.take (i+1)).map dD.f2=(own.take i).map dD.f2++[s.f2] by
    rw [List.take_succ_eq_append_getElem hlt,List.map_append,hs]
    unfold uE
    rw [List.getD_eq_getElem?_getD,List.getElem?_eq_getElem hlt]
    rfl)
   have ZQ:=aj.mk (show ((own.take i).map dD.f2).length<=100000000 by rw [List.length_map,List.length_take];have:=HOL.out;omega);rw [hrd] at hls;clear hCs hs hrd
   go_wp2_with (first|((with_reducible refine au (N:=6) rfl ?_);refine newX rfl rfl HX (cs:=#[.slice none 0 0,.int .i64 0,.int .i64 0]) (t:=107) tG ?_;clear HX;intro g6 w6 HX hx hz;have N6:=wQ HV hz;replace HV:=qN HV hx;clear hx hz)|((with_reducible refine aY (t:=107) (p:=6) rfl ?_);refine jZ rfl rfl rfl HX 0 rfl (i:=0) (.agg #[.slice As s.f0.length cs,.int .i64 s.f1,.int .i64 s.f2]) [.slice As s.f0.length cs,.int .i64 s.f1,.int .i64 s.f2] #[.slice As s.f0.length cs,.int .i64 s.f1,.int .i64 s.f2] rfl rfl rfl tX (by simp) (by simp [Value.oneCell']) rfl ?_;clear HX;intro w9 HX hx;dsimp only [List.set] at HX;replace HV:=Et HV rfl hx N6.out;clear hx q0 q1 q2;obtain ⟨xL,xM,IU⟩:=HX.g3 0 rfl)|((with_reducible refine eY (b:=.append) (xs:=#[.tmp 15,.tmp 18]) rfl ?_);at_builtin;refine oD (w:=w0) (Kd.int .i64) rfl (.tmp 15) (.tmp 18) 47 3 (.int .i64 0) 8 rfl Tryz.underlying47 info3 rfl (by decide) (by omega) _ ((own.take i).map dD.f2) s.f2 [.int .i64 s.f2] rfl rfl rfl HV ⟨HX.below⟩ ZQ.out (by decide) ?_;intro u4 yO HU HB2 hx hat;have uy:=HX.UO hx (fun k e=>Kd.iF HV.out k e) (by intro p hp;rw [List.mem_singleton.1 hp];exact N6.out);clear HX HV HB2 hx hat N6 xL xM IU;have HX:=uy;have HV:=HU;clear uy HU))
   exact ⟨⟨i+1,by omega,by go_num,⟨by rw [HT.out];exact HV.out⟩,HX.KX⟩,by simp [intOf];omega⟩
  ·obtain rfl:i=own.length:=by omega
   have hps:=HPS.out;have HV2:aj (Kd.R (Kd.int .i64) 3 wr w0.heap.size (fun _=>True) u4 ps):=⟨by have:=HV.out;rwa [List.take_length,← hps] at this⟩;obtain ⟨A4,c4,rfl,hl4,hC4⟩:=Kd.fE HV2.out;have HC4:=aj.mk hC4
   have hpl:ps.length=own.length:=by rw [hps,List.length_map]
   have HSF:=aj.mk (show jN.f 1000 ps=some ps.sum from Zn (by have:=HOL.out;omega) (fun x hx=>by rw [hps] at hx;obtain ⟨s,hs,rfl⟩:=List.mem_map.1 hx;have:=HOS.out s hs;omega) (by have:=HOL.out;omega));clear hC4 hpl hps HV HV2
   go_wp2_with (go_at_call 130;refine (oZ (jN.calls 1000 A4 c4 ps _ _ HC4.out hl4 HSF.out)).mono ?_;rintro e w1 ⟨rfl,hx⟩;replace HX:=HX.step hx;clear hx)
   go_ret
   exact ⟨rfl,aV rE.out HX.below⟩
end Go.Proofs.YtnpfbjnjdngkhaaGreatDoor.P
namespace Go.Proofs.YtnpfbjnjdngkhaaGreatDoor.P
open Go.RowKit Go.Proofs.YtnpfbjnjdngkhaaGreatDoorW.aQ Go.Proofs.YtnpfbjnjdngkhaaGreatDoorW.bO Go.Proofs.YtnpfbjnjdngkhaaGreatDoorW.bT
theorem KY {P:Program} (w:World) (dT sT ty elem:TypeId) (b o dLen dCap:Nat) (a:Addr) (sLen sCap n sz:Nat) (cs:List Value)
  (hu:P.underlying dT=some (.slice elem)) (hs:(P.info? elem).map (·.size)=some sz) (hmin:Nat.min sLen dLen=n) (hn:cs.length=n*sz)
  (hsrc:∀ j v,cs[j]?=some v->w.cell? (a.add j)=some v) (hc:∀ j,j<cs.length->(w.cell? ⟨b,o+j,none⟩).isSome=true) (hf:∀ j,j<cs.length->w.frozen? ⟨b,o+j,none⟩=false) (h1:∀ v∈cs,v.oneCell'=true) :
  (Builtin.copy_ #[dT,sT] ty #[.slice (some ⟨b,o,none⟩) dLen dCap,.slice (some a) sLen sCap]).run P w=.ok (goInt n) (w.setCells b o cs):=by
 have hl:=run_loadCells_list (P:=P) w a cs hsrc;have hst:=run_storeCells_cells (P:=P) b o cs 0 w (by simpa using hc) (by simpa using hf) h1
 cases hq:P.info? elem with
 | none=>simp [hq] at hs
 | some i =>
  have hi:i.size=sz:=by simpa [hq] using hs
  simp [Builtin.copy_,run_underlying hu,Builtin.lenOf,Builtin.firstCells,sizeOf,typeInfo,hq,hi,hmin,← hn,hl,hst]
section
variable {L:List (Nat × Obj)} {w W:World} {P:Program} {ops:Array Oper} {rest:List Oper} {o:Oper} {a:Act} {Q:Exit->Act->World->Prop} {Kc:Act->World->Prop}
theorem KZ (d s:Operand) {dT sT elem:TypeId} {sz:Nat} (ho:o.op=.call { callee:=.builtin .copy,args:=#[d,s],argTypes:=#[dT,sT] }) (hu:P.underlying dT=some (.slice elem)) (hs:(P.info? elem).map (·.size)=some sz) (HX:Bx L w W) (k:Nat)
  {g off dLen dCap sLen sCap n:Nat} {ad:Addr} {cur:Array Value} {t:TypeId} (hk:L[k]?=some (g,.cells cur t (0,0))) (hd:a.eval d=.slice (some ⟨g,off,none⟩) dLen dCap) (hsv:a.eval s=.slice (some ad) sLen sCap) (hmin:Nat.min sLen dLen=n)
  (cs:List Value) (hn:cs.length=n*sz) (hsrc:∀ j v,cs[j]?=some v->W.cell? (ad.add j)=some v) (hfit:off+cs.length<=cur.size) (h1:∀ v∈cs,v.oneCell'=true) (cur':Array Value) (hcs:cur.toList.take off++cs++cur.toList.drop (off+cs.length)=cur'.toList) :
  (execOp a.eval o).run P W=.ok (.value (.int .i64 n)) (W.setCells g off cs)∧Bx (L.set k (g,.cells cur' t (0,0))) w (W.setCells g off cs)∧W.grownBy (W.setCells g off cs) (some g):=by
 have HK:=HX.get _ (List.mem_of_getElem? hk);obtain ⟨c2,h3,h4,h5⟩:=lg cs off W cur HK hfit;obtain ⟨s1,s2,s3,s4⟩:=jV g cs off W;have hg:W.grownBy (W.setCells g off cs) (some g):=⟨s1,s2,s3,by rw [s4];exact Nat.le_refl _,fun k _ hk=>jT _ _ k (fun he=>hk (by rw [he]))⟩
 obtain rfl:c2=cur':=by rw [← Array.toList_inj,h5,hcs]
 refine ⟨?_,HX.put k hk hg h3,hg⟩;have hr:=KY (P:=P) W dT sT o.type elem g off dLen dCap ad sLen sCap n sz cs hu hs hmin hn hsrc (fun j hj=>by rw [cell_of_row W g _ cur t (0,0) HK];simp;omega) (fun j _=>pW HK _) h1
 unfold execOp
 simp [ho,hd,hsv,resolve,invoke,builtin,hr,goInt]
theorem Qq (hgd:o.guard=none) (d s:Operand) {dT sT elem:TypeId} {sz:Nat} (ho:o.op=.call { callee:=.builtin .copy,args:=#[d,s],argTypes:=#[dT,sT] }) (hu:P.underlying dT=some (.slice elem)) (hs:(P.info? elem).map (·.size)=some sz) (HX:Bx L w W) (k:Nat)
  {g off dLen dCap sLen sCap n:Nat} {ad:Addr} {cur:Array Value} {t:TypeId} (hk:L[k]?=some (g,.cells cur t (0,0))) (hd:a.eval d=.slice (some ⟨g,off,none⟩) dLen dCap) (hsv:a.eval s=.slice (some ad) sLen sCap) (hmin:Nat.min sLen dLen=n)
  (cs:List Value) (hn:cs.length=n*sz) (hsrc:∀ j v,cs[j]?=some v->W.cell? (ad.add j)=some v) (hfit:off+cs.length<=cur.size) (h1:∀ v∈cs,v.oneCell'=true) (cur':Array Value) (hcs:cur.toList.take off++cs++cur.toList.drop (off+cs.length)=cur'.toList)
  (h:∀ w1,Bx (L.set k (g,.cells cur' t (0,0))) w w1->W.grownBy w1 (some g)->wpList P ops Q rest (a.put o.dst (.int .i64 n)) w1):wpList P ops Q (o::rest) a W:=by
 obtain ⟨e1,e2,e3⟩:=KZ d s ho hu hs HX k hk hd hsv hmin cs hn hsrc hfit h1 cur' hcs;exact Kd.rY hgd e1 (h _ e2 e3)
theorem K8 (hw:Region.wanted o (yielded ops a.tmps)=true) (d s:Operand) {dT sT elem:TypeId} {sz:Nat} (ho:o.op=.call { callee:=.builtin .copy,args:=#[d,s],argTypes:=#[dT,sT] }) (hu:P.underlying dT=some (.slice elem)) (hs:(P.info? elem).map (·.size)=some sz) (HX:Bx L w W) (k:Nat)
  {g off dLen dCap sLen sCap n:Nat} {ad:Addr} {cur:Array Value} {t:TypeId} (hk:L[k]?=some (g,.cells cur t (0,0))) (hd:a.eval d=.slice (some ⟨g,off,none⟩) dLen dCap) (hsv:a.eval s=.slice (some ad) sLen sCap) (hmin:Nat.min sLen dLen=n)
  (cs:List Value) (hn:cs.length=n*sz) (hsrc:∀ j v,cs[j]?=some v->W.cell? (ad.add j)=some v) (hfit:off+cs.length<=cur.size) (h1:∀ v∈cs,v.oneCell'=true) (cur':Array Value) (hcs:cur.toList.take off++cs++cur.toList.drop (off+cs.length)=cur'.toList)
  (h:∀ w1,Bx (L.set k (g,.cells cur' t (0,0))) w w1->W.grownBy w1 (some g)->Kc (a.put o.dst (.int .i64 n)) w1):if Region.wanted o (yielded ops a.tmps)=true then Oper.wp P o a W Kc Q else Kc (a.put o.dst undef) W:=by
 obtain ⟨e1,e2,e3⟩:=KZ d s ho hu hs HX k hk hd hsv hmin cs hn hsrc hfit h1 cur' hcs;exact pX hw e1 (h _ e2 e3)
end
end Go.Proofs.YtnpfbjnjdngkhaaGreatDoor.P
namespace Go.Proofs.YtnpfbjnjdngkhaaGreatDoor.P
open Go.RowKit Go.Proofs.YtnpfbjnjdngkhaaGreatDoorW.aQ Go.Proofs.YtnpfbjnjdngkhaaGreatDoorW.bO Go.Proofs.YtnpfbjnjdngkhaaGreatDoorW.bT
attribute [local go_sem] eP eT fU fV dS dU eU eX
def bits_Mul64.f (a0:Int) (a1:Int):Option (Int × Int):=some (IntKind.u64.wrap ((IntKind.u64.wrap ((IntKind.u64.wrap ((a0 / 4294967296)*(a1 / 4294967296)))+((IntKind.u64.wrap ((IntKind.u64.wrap ((a0 / 4294967296)*(Go.bits .and .u64 a1 4294967295)))+((IntKind.u64.wrap ((Go.bits .and .u64 a0 4294967295)*(Go.bits .and .u64 a1 4294967295))) / 4294967296))) / 4294967296)))+((IntKind.u64.wrap ((Go.bits .and .u64 (IntKind.u64.wrap ((IntKind.u64.wrap ((a0 / 4294967296)*(Go.bits .and .u64 a1 4294967295)))+((IntKind.u64.wrap ((Go.bits .and .u64 a0 4294967295)*(Go.bits .and .u64 a1 4294967295))) / 4294967296))) 4294967295)+(IntKind.u64.wrap ((Go.bits .and .u64 a0 4294967295)*(a1 / 4294967296))))) / 4294967296)),IntKind.u64.wrap (a0*a1))
theorem bits_Mul64.calls (a0:Int) (a1:Int) (r1:Int) (r2:Int) (w:World) (h:bits_Mul64.f a0 a1=some (r1,r2)) :
  Calls Tryz.prog 229 #[.int .u64 a0,.int .u64 a1] w fun e w'=>e=.returned (.tuple #[.int .u64 r1,.int .u64 r2])∧gU w w':=by
 have H:(some (IntKind.u64.wrap ((IntKind.u64.wrap ((IntKind.u64.wrap ((a0 / 4294967296)*(a1 / 4294967296)))+((IntKind.u64.wrap ((IntKind.u64.wrap ((a0 / 4294967296)*(Go.bits .and .u64 a1 4294967295)))+((IntKind.u64.wrap ((Go.bits .and .u64 a0 4294967295)*(Go.bits .and .u64 a1 4294967295))) / 4294967296))) / 4294967296)))+((IntKind.u64.wrap ((Go.bits .and .u64 (IntKind.u64.wrap ((IntKind.u64.wrap ((a0 / 4294967296)*(Go.bits .and .u64 a1 4294967295)))+((IntKind.u64.wrap ((Go.bits .and .u64 a0 4294967295)*(Go.bits .and .u64 a1 4294967295))) / 4294967296))) 4294967295)+(IntKind.u64.wrap ((Go.bits .and .u64 a0 4294967295)*(a1 / 4294967296))))) / 4294967296)),IntKind.u64.wrap (a0*a1)))=some (r1,r2):=h;clear h;simp only [Option.some.injEq,Prod.mk.injEq] at H;obtain ⟨rfl,rfl⟩:=H
 go_enter Tryz.func229,Tryz.ntmps229
 go_wp2
 go_ret2
 exact ⟨tS,tD⟩
def bits_Mul.f (a0:Int) (a1:Int):Option (Int × Int):=(bits_Mul64.f a0 a1).bind fun K9=>(some (K9.1,K9.2))
theorem bits_Mul.calls (a0:Int) (a1:Int) (r1:Int) (r2:Int) (w:World) (h:bits_Mul.f a0 a1=some (r1,r2)) :
  Calls Tryz.prog 215 #[.int .u64 a0,.int .u64 a1] w fun e w'=>e=.returned (.tuple #[.int .u64 r1,.int .u64 r2])∧gU w w':=by
 have H:((bits_Mul64.f a0 a1).bind fun K9=>(some (K9.1,K9.2)))=some (r1,r2):=h;clear h;obtain ⟨⟨t250,t251⟩,SV,H⟩:=bs H;have A3:=aj.mk SV;clear SV;simp only [Option.some.injEq,Prod.mk.injEq] at H;obtain ⟨rfl,rfl⟩:=H
 go_enter Tryz.func215,Tryz.ntmps215
 go_wp2_with (first|((with_reducible refine aG (f:=229) rfl ?_);refine bX (some 25) rfl rfl Tryz.func229 tX rfl #[.int .u64 a0,.int .u64 a1] rfl tM ?_;(with_reducible refine (bits_Mul64.calls a0 a1 t250 t251 _ A3.out).mono ?_);rintro e w' ⟨rfl,⟨nd,rfl⟩⟩;refine ⟨_,rfl,?_⟩))
 go_ret2
 exact ⟨tS,tD⟩
theorem DK {W:World} {ad:Addr} {x y:Int} (h0:W.cell? ad=some (.int .i64 x)) (h1:W.cell? (ad.add 1)=some (.int .i64 y)):∀ j v,([.int .i64 x,.int .i64 y]:List Value)[j]?=some v->W.cell? (ad.add j)=some v
 | 0,v,h=>by cases h;simpa [Addr.add] using h0
 | 1,v,h=>by cases h;exact h1
 | j+2,v,h=>by simp at h
theorem wE {L:List (Nat × Obj)} {w W:World} {P:Program} {ops:Array Oper} {rest:List Oper} {o:Oper} {a:Act} {Q:Exit->Act->World->Prop} (hgd:o.guard=none) {N:Tmp} (hd:o.dst=some N) (HX:Bx L w W) {ob:Obj} (v:Nat->Value)
  (hrun:(execOp a.eval o).run P W=.ok (.value (v W.heap.size)) (W.alloc ob))
  (h:∀ g w1,Bx ((g,ob)::L) w w1->Below W.heap.size W w1->W.heap.size<=g->wpList P ops Q rest (a.put o.dst (v g)) w1):wpList P ops Q (o::rest) a W :=
 Kd.rY hgd hrun (h _ _ (HX.add (Nat.le_refl _) (fH (Below.refl _ _) _) (uj W _)) (fH (Below.refl _ _) _) (Nat.le_refl _))
theorem rowAt {W:World} {g:Nat} {cur:Array Value} {t:TypeId} (h:W.heap[g]?=some (.cells cur t (0,0))) (off:Nat) (cs:List Value) (hc:∀ j,j<cs.length->cur[off+j]?=cs[j]?):∀ j v,cs[j]?=some v->W.cell? ((⟨g,off,none⟩:Addr).add j)=some v:=by
 intro j v hv;have hj:=(List.getElem?_eq_some_iff.1 hv).1;rw [show (⟨g,off,none⟩:Addr).add j=⟨g,off+j,none⟩ by simp [Addr.add]];rw [cell_of_row W g _ cur t (0,0) h,hc j hj,hv]
theorem X7 (ad:Addr) (c:Nat) (x y:Int) (w:World) (h0:w.cell? ad=some (.int .i64 x)) (h1:w.cell? (ad.add 1)=some (.int .i64 y)) :
  Calls Tryz.prog 189 #[.slice (some ad) 1 c,.int .i64 1] w fun e w'=>∃ g,e=.returned (.slice (some ⟨g,0,none⟩) 1 1)∧w.heap.size<=g∧w'.heap[g]?=some (.cells #[.int .i64 x,.int .i64 y] 37 (0,0))∧Below w.heap.size w w':=by
 have HX:=Bx.nil w;have HC:=aj.mk (fun W (hb:Below w.heap.size w W)=>DK ((hb.cell (World.block_lt_of_cell? w _ h0)).trans h0) ((hb.cell (World.block_lt_of_cell? w _ h1)).trans h1));clear h0 h1
 have hmul:bits_Mul.f 1 1=some (0,1):=by kernel_rfl
 have hmk:∀ W,(Instr.makeSlice 28 (.int .i64 1) (.int .i64 1)).run Tryz.prog W=.ok (.slice (some ⟨W.heap.size,0,none⟩) 1 1) (W.alloc (.cells #[.int .i64 0,.int .i64 0] 37 (0,0))):=fun _=>by kernel_rfl
 have hw2:wrap64 2=2:=by unfold wrap64;omega
 have hw3:wrap64 3=3:=by unfold wrap64;omega
 have hw4:wrap64 4=4:=by unfold wrap64;omega
 have CQ:(Tryz.prog.info? 37).map (·.size)=some 2:=by kernel_rfl
 go_enter Tryz.func189,Tryz.ntmps189
 go_wp2_with (first|(go_at_call 215;refine (oZ (bits_Mul.calls _ _ _ _ _ hmul)).mono ?_;rintro e w1 ⟨rfl,hx⟩;replace HX:=HX.step hx;clear hx hmul)|((with_reducible refine au (N:=30) rfl ?_);refine wE rfl rfl HX (ob:=.cells #[.int .i64 0,.int .i64 0] 37 (0,0)) (fun g=>.slice (some ⟨g,0,none⟩) 1 1) tG ?_;clear HX hmk;intro g w2 HX hx hz;clear hx hz)|((with_reducible refine au (N:=33) rfl ?_);refine Qq rfl (.tmp 31) (.tmp 32) rfl Tryz.underlying28 CQ HX 0 rfl (off:=0) (n:=1) rfl rfl rfl [.int .i64 x,.int .i64 y] rfl (HC.out _ HX.below) (by simp) (by simp [Value.oneCell']) #[.int .i64 x,.int .i64 y] rfl ?_;clear HX;intro w3 HX hx;clear hx;dsimp only [List.set] at HX))
 refine wp_loop_rounds 1 ?_;rw [rounds_succ]
 go_wp2_with (fail)
 go_ret
 exact ⟨g,rfl,HX.lo _ (List.mem_cons_self ..),HX.gb 0 rfl,HX.below⟩
theorem X8 (ad:Addr) (c:Nat) (x y:Int) (w:World) (h0:w.cell? ad=some (.int .i64 x)) (h1:w.cell? (ad.add 1)=some (.int .i64 y)) :
  Calls Tryz.prog 189 #[.slice (some ad) 1 c,.int .i64 2] w fun e w'=>∃ g,e=.returned (.slice (some ⟨g,0,none⟩) 2 2)∧w.heap.size<=g∧w'.heap[g]?=some (.cells #[.int .i64 x,.int .i64 y,.int .i64 x,.int .i64 y] 37 (0,0))∧Below w.heap.size w w':=by
 have HX:=Bx.nil w;have HC:=aj.mk (fun W (hb:Below w.heap.size w W)=>DK ((hb.cell (World.block_lt_of_cell? w _ h0)).trans h0) ((hb.cell (World.block_lt_of_cell? w _ h1)).trans h1));clear h0 h1
 have hmul:bits_Mul.f 1 2=some (0,2):=by kernel_rfl
 have hmk:∀ W,(Instr.makeSlice 28 (.int .i64 2) (.int .i64 2)).run Tryz.prog W=.ok (.slice (some ⟨W.heap.size,0,none⟩) 2 2) (W.alloc (.cells #[.int .i64 0,.int .i64 0,.int .i64 0,.int .i64 0] 37 (0,0))):=fun _=>by kernel_rfl
 have hw2:wrap64 2=2:=by unfold wrap64;omega
 have hw3:wrap64 3=3:=by unfold wrap64;omega
 have hw4:wrap64 4=4:=by unfold wrap64;omega
 have CQ:(Tryz.prog.info? 37).map (·.size)=some 2:=by kernel_rfl
 go_enter Tryz.func189,Tryz.ntmps189
 go_wp2_with (first|(go_at_call 215;refine (oZ (bits_Mul.calls _ _ _ _ _ hmul)).mono ?_;rintro e w1 ⟨rfl,hx⟩;replace HX:=HX.step hx;clear hx hmul)|((with_reducible refine au (N:=30) rfl ?_);refine wE rfl rfl HX (ob:=.cells #[.int .i64 0,.int .i64 0,.int .i64 0,.int .i64 0] 37 (0,0)) (fun g=>.slice (some ⟨g,0,none⟩) 2 2) tG ?_;clear HX hmk;intro g w2 HX hx hz;clear hx hz)|((with_reducible refine au (N:=33) rfl ?_);refine Qq rfl (.tmp 31) (.tmp 32) rfl Tryz.underlying28 CQ HX 0 rfl (off:=0) (n:=1) rfl rfl rfl [.int .i64 x,.int .i64 y] rfl (HC.out _ HX.below) (by simp) (by simp [Value.oneCell']) #[.int .i64 x,.int .i64 y,.int .i64 0,.int .i64 0] rfl ?_;clear HX;intro w3 HX hx;clear hx;dsimp only [List.set] at HX))
 refine wp_loop_rounds 2 ?_;rw [rounds_succ]
 go_wp2_with (fail)
 refine kK (n:=10) (S:=fun _=>True) (ds:=[]) #[false,false,false,false,false,false,false,false,false,false] tX rfl rfl trivial (fun hHeld=>?_);have uy:=HX.step (fC (Below.refl _ _));clear HX;have HX:=uy;clear uy
 generalize World.drew _=w6 at HX ⊢
 refine qB1 0 38 (bA 10 1) ?_;refine qB1 1 39 (bA 10 3) ?_;refine qB1 2 40 (bA 10 7) ?_;refine qB1 4 42 (bA 10 23) ?_;refine qB1 5 43 (bA 10 55) ?_;refine qB1 3 41 (bA 10 63) ?_;refine qB1 6 44 (bA 10 127) ?_;refine gZ (i:=7) (N:=some 45) (bA 10 255) rfl rfl tX (by decide) (fun K hK=>?_);refine K8 (by rfl) (.tmp 41) (.tmp 44) rfl Tryz.underlying28 CQ HX 0 rfl (off:=2) (n:=1) rfl rfl (by decide) [.int .i64 x,.int .i64 y] rfl (rowAt (HX.gb 0 rfl) 0 _ (by intro j hj;rcases j with _|_|_|_|j<;>first|rfl|(simp only [List.length_cons,List.length_nil] at hj;omega))) (by simp) (by simp [Value.oneCell']) #[.int .i64 x,.int .i64 y,.int .i64 x,.int .i64 y] rfl ?_;clear HX;intro w7 HX hx;clear hx
 dsimp only [List.set] at HX
 refine hK.out _ _ trivial (fun hHeld=>?_);clear hK K;refine dn (a':=?_) ?_ ?_;rotate_left
 ·show Act.put _ (some 45) _=_
  simp only [bS,Act.put,sL,ay,aA]
  rfl
 refine qB1 8 46 (bA 10 511) ?_;refine qB1 9 8 (bA 10 1023) ?_;refine lK tX ?_
 go_wp2_with (fail)
 rw [rounds_succ]
 go_wp2_with (fail)
 go_ret
 exact ⟨g,rfl,HX.lo _ (List.mem_cons_self ..),HX.gb 0 rfl,HX.below⟩
theorem X9 (ad:Addr) (c:Nat) (x y:Int) (w:World) (h0:w.cell? ad=some (.int .i64 x)) (h1:w.cell? (ad.add 1)=some (.int .i64 y)) :
  Calls Tryz.prog 189 #[.slice (some ad) 1 c,.int .i64 3] w fun e w'=>∃ g,e=.returned (.slice (some ⟨g,0,none⟩) 3 3)∧w.heap.size<=g∧w'.heap[g]?=some (.cells #[.int .i64 x,.int .i64 y,.int .i64 x,.int .i64 y,.int .i64 x,.int .i64 y] 37 (0,0))∧Below w.heap.size w w':=by
 have HX:=Bx.nil w;have HC:=aj.mk (fun W (hb:Below w.heap.size w W)=>DK ((hb.cell (World.block_lt_of_cell? w _ h0)).trans h0) ((hb.cell (World.block_lt_of_cell? w _ h1)).trans h1));clear h0 h1
 have hmul:bits_Mul.f 1 3=some (0,3):=by kernel_rfl
 have hmk:∀ W,(Instr.makeSlice 28 (.int .i64 3) (.int .i64 3)).run Tryz.prog W=.ok (.slice (some ⟨W.heap.size,0,none⟩) 3 3) (W.alloc (.cells #[.int .i64 0,.int .i64 0,.int .i64 0,.int .i64 0,.int .i64 0,.int .i64 0] 37 (0,0))):=fun _=>by kernel_rfl
 have hw2:wrap64 2=2:=by unfold wrap64;omega
 have hw3:wrap64 3=3:=by unfold wrap64;omega
 have hw4:wrap64 4=4:=by unfold wrap64;omega
 have CQ:(Tryz.prog.info? 37).map (·.size)=some 2:=by kernel_rfl
 go_enter Tryz.func189,Tryz.ntmps189
 go_wp2_with (first|(go_at_call 215;refine (oZ (bits_Mul.calls _ _ _ _ _ hmul)).mono ?_;rintro e w1 ⟨rfl,hx⟩;replace HX:=HX.step hx;clear hx hmul)|((with_reducible refine au (N:=30) rfl ?_);refine wE rfl rfl HX (ob:=.cells #[.int .i64 0,.int .i64 0,.int .i64 0,.int .i64 0,.int .i64 0,.int .i64 0] 37 (0,0)) (fun g=>.slice (some ⟨g,0,none⟩) 3 3) tG ?_;clear HX hmk;intro g w2 HX hx hz;clear hx hz)|((with_reducible refine au (N:=33) rfl ?_);refine Qq rfl (.tmp 31) (.tmp 32) rfl Tryz.underlying28 CQ HX 0 rfl (off:=0) (n:=1) rfl rfl rfl [.int .i64 x,.int .i64 y] rfl (HC.out _ HX.below) (by simp) (by simp [Value.oneCell']) #[.int .i64 x,.int .i64 y,.int .i64 0,.int .i64 0,.int .i64 0,.int .i64 0] rfl ?_;clear HX;intro w3 HX hx;clear hx;dsimp only [List.set] at HX))
 refine wp_loop_rounds 3 ?_;rw [rounds_succ]
 go_wp2_with (fail)
 refine kK (n:=10) (S:=fun _=>True) (ds:=[]) #[false,false,false,false,false,false,false,false,false,false] tX rfl rfl trivial (fun hHeld=>?_);have uy:=HX.step (fC (Below.refl _ _));clear HX;have HX:=uy;clear uy
 generalize World.drew _=w6 at HX ⊢
 refine qB1 0 38 (bA 10 1) ?_;refine qB1 1 39 (bA 10 3) ?_;refine qB1 2 40 (bA 10 7) ?_;refine qB1 4 42 (bA 10 23) ?_;refine qB1 5 43 (bA 10 55) ?_;refine qB1 3 41 (bA 10 63) ?_;refine qB1 6 44 (bA 10 127) ?_;refine gZ (i:=7) (N:=some 45) (bA 10 255) rfl rfl tX (by decide) (fun K hK=>?_);refine K8 (by rfl) (.tmp 41) (.tmp 44) rfl Tryz.underlying28 CQ HX 0 rfl (off:=2) (n:=1) rfl rfl (by decide) [.int .i64 x,.int .i64 y] rfl (rowAt (HX.gb 0 rfl) 0 _ (by intro j hj;rcases j with _|_|_|_|j<;>first|rfl|(simp only [List.length_cons,List.length_nil] at hj;omega))) (by simp) (by simp [Value.oneCell']) #[.int .i64 x,.int .i64 y,.int .i64 x,.int .i64 y,.int .i64 0,.int .i64 0] rfl ?_;clear HX;intro w7 HX hx;clear hx
 dsimp only [List.set] at HX
 refine hK.out _ _ trivial (fun hHeld=>?_);clear hK K;refine dn (a':=?_) ?_ ?_;rotate_left
 ·show Act.put _ (some 45) _=_
  simp only [bS,Act.put,sL,ay,aA]
  rfl
 refine qB1 8 46 (bA 10 511) ?_;refine qB1 9 8 (bA 10 1023) ?_;refine lK tX ?_
 go_wp2_with (fail)
 rw [rounds_succ]
 go_wp2_with (fail)
 refine kK (n:=10) (S:=fun _=>True) (ds:=[]) #[false,false,false,false,false,false,false,false,false,false] tX rfl rfl trivial (fun hHeld=>?_);have uy:=HX.step (fC (Below.refl _ _));clear HX;have HX:=uy;clear uy
 generalize World.drew _=w6 at HX ⊢
 refine qB1 0 38 (bA 10 1) ?_;refine qB1 1 39 (bA 10 3) ?_;refine qB1 2 40 (bA 10 7) ?_;refine qB1 4 42 (bA 10 23) ?_;refine qB1 5 43 (bA 10 55) ?_;refine qB1 3 41 (bA 10 63) ?_;refine qB1 6 44 (bA 10 127) ?_;refine gZ (i:=7) (N:=some 45) (bA 10 255) rfl rfl tX (by decide) (fun K hK=>?_);refine K8 (by rfl) (.tmp 41) (.tmp 44) rfl Tryz.underlying28 CQ HX 0 rfl (off:=4) (n:=1) rfl rfl (by decide) [.int .i64 x,.int .i64 y] rfl (rowAt (HX.gb 0 rfl) 0 _ (by intro j hj;rcases j with _|_|_|_|j<;>first|rfl|(simp only [List.length_cons,List.length_nil] at hj;omega))) (by simp) (by simp [Value.oneCell']) #[.int .i64 x,.int .i64 y,.int .i64 x,.int .i64 y,.int .i64 x,.int .i64 y] rfl ?_;clear HX;intro w7 HX hx;clear hx
 dsimp only [List.set] at HX
 refine hK.out _ _ trivial (fun hHeld=>?_);clear hK K;refine dn (a':=?_) ?_ ?_;rotate_left
 ·show Act.put _ (some 45) _=_
  simp only [bS,Act.put,sL,ay,aA]
  rfl
 refine qB1 8 46 (bA 10 511) ?_;refine qB1 9 8 (bA 10 1023) ?_;refine lK tX ?_
 go_wp2_with (fail)
 rw [rounds_succ]
 go_wp2_with (fail)
 go_ret
 exact ⟨g,rfl,HX.lo _ (List.mem_cons_self ..),HX.gb 0 rfl,HX.below⟩
theorem Ya (ad:Addr) (c:Nat) (x y:Int) (w:World) (h0:w.cell? ad=some (.int .i64 x)) (h1:w.cell? (ad.add 1)=some (.int .i64 y)) :
  Calls Tryz.prog 189 #[.slice (some ad) 1 c,.int .i64 4] w fun e w'=>∃ g,e=.returned (.slice (some ⟨g,0,none⟩) 4 4)∧w.heap.size<=g∧w'.heap[g]?=some (.cells #[.int .i64 x,.int .i64 y,.int .i64 x,.int .i64 y,.int .i64 x,.int .i64 y,.int .i64 x,.int .i64 y] 37 (0,0))∧Below w.heap.size w w':=by
 have HX:=Bx.nil w;have HC:=aj.mk (fun W (hb:Below w.heap.size w W)=>DK ((hb.cell (World.block_lt_of_cell? w _ h0)).trans h0) ((hb.cell (World.block_lt_of_cell? w _ h1)).trans h1));clear h0 h1
 have hmul:bits_Mul.f 1 4=some (0,4):=by kernel_rfl
 have hmk:∀ W,(Instr.makeSlice 28 (.int .i64 4) (.int .i64 4)).run Tryz.prog W=.ok (.slice (some ⟨W.heap.size,0,none⟩) 4 4) (W.alloc (.cells #[.int .i64 0,.int .i64 0,.int .i64 0,.int .i64 0,.int .i64 0,.int .i64 0,.int .i64 0,.int .i64 0] 37 (0,0))):=fun _=>by kernel_rfl
 have hw2:wrap64 2=2:=by unfold wrap64;omega
 have hw3:wrap64 3=3:=by unfold wrap64;omega
 have hw4:wrap64 4=4:=by unfold wrap64;omega
 have CQ:(Tryz.prog.info? 37).map (·.size)=some 2:=by kernel_rfl
 go_enter Tryz.func189,Tryz.ntmps189
 go_wp2_with (first|(go_at_call 215;refine (oZ (bits_Mul.calls _ _ _ _ _ hmul)).mono ?_;rintro e w1 ⟨rfl,hx⟩;replace HX:=HX.step hx;clear hx hmul)|((with_reducible refine au (N:=30) rfl ?_);refine wE rfl rfl HX (ob:=.cells #[.int .i64 0,.int .i64 0,.int .i64 0,.int .i64 0,.int .i64 0,.int .i64 0,.int .i64 0,.int .i64 0] 37 (0,0)) (fun g=>.slice (some ⟨g,0,none⟩) 4 4) tG ?_;clear HX hmk;intro g w2 HX hx hz;clear hx hz)|((with_reducible refine au (N:=33) rfl ?_);refine Qq rfl (.tmp 31) (.tmp 32) rfl Tryz.underlying28 CQ HX 0 rfl (off:=0) (n:=1) rfl rfl rfl [.int .i64 x,.int .i64 y] rfl (HC.out _ HX.below) (by simp) (by simp [Value.oneCell']) #[.int .i64 x,.int .i64 y,.int .i64 0,.int .i64 0,.int .i64 0,.int .i64 0,.int .i64 0,.int .i64 0] rfl ?_;clear HX;intro w3 HX hx;clear hx;dsimp only [List.set] at HX))
 refine wp_loop_rounds 3 ?_;rw [rounds_succ]
 go_wp2_with (fail)
 refine kK (n:=10) (S:=fun _=>True) (ds:=[]) #[false,false,false,false,false,false,false,false,false,false] tX rfl rfl trivial (fun hHeld=>?_);have uy:=HX.step (fC (Below.refl _ _));clear HX;have HX:=uy;clear uy
 generalize World.drew _=w6 at HX ⊢
 refine qB1 0 38 (bA 10 1) ?_;refine qB1 1 39 (bA 10 3) ?_;refine qB1 2 40 (bA 10 7) ?_;refine qB1 4 42 (bA 10 23) ?_;refine qB1 5 43 (bA 10 55) ?_;refine qB1 3 41 (bA 10 63) ?_;refine qB1 6 44 (bA 10 127) ?_;refine gZ (i:=7) (N:=some 45) (bA 10 255) rfl rfl tX (by decide) (fun K hK=>?_);refine K8 (by rfl) (.tmp 41) (.tmp 44) rfl Tryz.underlying28 CQ HX 0 rfl (off:=2) (n:=1) rfl rfl (by decide) [.int .i64 x,.int .i64 y] rfl (rowAt (HX.gb 0 rfl) 0 _ (by intro j hj;rcases j with _|_|_|_|j<;>first|rfl|(simp only [List.length_cons,List.length_nil] at hj;omega))) (by simp) (by simp [Value.oneCell']) #[.int .i64 x,.int .i64 y,.int .i64 x,.int .i64 y,.int .i64 0,.int .i64 0,.int .i64 0,.int .i64 0] rfl ?_;clear HX;intro w7 HX hx;clear hx
 dsimp only [List.set] at HX
 refine hK.out _ _ trivial (fun hHeld=>?_);clear hK K;refine dn (a':=?_) ?_ ?_;rotate_left
 ·show Act.put _ (some 45) _=_
  simp only [bS,Act.put,sL,ay,aA]
  rfl
 refine qB1 8 46 (bA 10 511) ?_;refine qB1 9 8 (bA 10 1023) ?_;refine lK tX ?_
 go_wp2_with (fail)
 rw [rounds_succ]
 go_wp2_with (fail)
 refine kK (n:=10) (S:=fun _=>True) (ds:=[]) #[false,false,false,false,false,false,false,false,false,false] tX rfl rfl trivial (fun hHeld=>?_);have uy:=HX.step (fC (Below.refl _ _));clear HX;have HX:=uy;clear uy
 generalize World.drew _=w6 at HX ⊢
 refine qB1 0 38 (bA 10 1) ?_;refine qB1 1 39 (bA 10 3) ?_;refine qB1 2 40 (bA 10 7) ?_;refine qB1 4 42 (bA 10 23) ?_;refine qB1 5 43 (bA 10 55) ?_;refine qB1 3 41 (bA 10 63) ?_;refine qB1 6 44 (bA 10 127) ?_;refine gZ (i:=7) (N:=some 45) (bA 10 255) rfl rfl tX (by decide) (fun K hK=>?_);refine K8 (by rfl) (.tmp 41) (.tmp 44) rfl Tryz.underlying28 CQ HX 0 rfl (off:=4) (n:=2) rfl rfl (by decide) [.int .i64 x,.int .i64 y,.int .i64 x,.int .i64 y] rfl (rowAt (HX.gb 0 rfl) 0 _ (by intro j hj;rcases j with _|_|_|_|j<;>first|rfl|(simp only [List.length_cons,List.length_nil] at hj;omega))) (by simp) (by simp [Value.oneCell']) #[.int .i64 x,.int .i64 y,.int .i64 x,.int .i64 y,.int .i64 x,.int .i64 y,.int .i64 x,.int .i64 y] rfl ?_;clear HX;intro w7 HX hx;clear hx
 dsimp only [List.set] at HX
 refine hK.out _ _ trivial (fun hHeld=>?_);clear hK K;refine dn (a':=?_) ?_ ?_;rotate_left
 ·show Act.put _ (some 45) _=_
  simp only [bS,Act.put,sL,ay,aA]
  rfl
 refine qB1 8 46 (bA 10 511) ?_;refine qB1 9 8 (bA 10 1023) ?_;refine lK tX ?_
 go_wp2_with (fail)
 rw [rounds_succ]
 go_wp2_with (fail)
 go_ret
 exact ⟨g,rfl,HX.lo _ (List.mem_cons_self ..),HX.gb 0 rfl,HX.below⟩
end Go.Proofs.YtnpfbjnjdngkhaaGreatDoor.P
namespace Go.Proofs.YtnpfbjnjdngkhaaGreatDoor.P
open Go.RowKit Go.Proofs.YtnpfbjnjdngkhaaGreatDoorW.aQ Go.Proofs.YtnpfbjnjdngkhaaGreatDoorW.bO Go.Proofs.YtnpfbjnjdngkhaaGreatDoorW.bT
attribute [local go_sem] eP eT fU fV dS dU eU eX
attribute [local go_sem] Oper.semAt_some
theorem Writes.sub {w W:World} {ns ms:List Int} (h:Writes w ns) (hb:Below w.heap.size w W) (hs:∀ n∈ms,n∈ns):Writes W ms:=fun n hn W2 hb2=>h n (hs n hn) W2 (aV hb hb2)
theorem Bx.tl {p:Nat × Obj} {L:List (Nat × Obj)} {w W:World} (h:Bx (p::L) w W):Bx L w W:=⟨h.below,fun q hq=>h.get q (List.mem_cons_of_mem _ hq),fun q hq=>h.lo q (List.mem_cons_of_mem _ hq),(List.nodup_cons.1 h.nd).2⟩
theorem qeN {W:World} {g base:Nat} {x:ByteArray} (hg:base<=g) (h:W.heap[g]?=some (.cells #[.string x] 9 (0,0))):Kd.R Kd.string 9 W base (fun _=>True) (.slice (some ⟨g,0,none⟩) 1 1) [x] :=
 ⟨fun _ _=>trivial,[.string x],⟨rfl,.inr ⟨g,1,_,rfl,hg,h,Nat.le_refl _,by unfold maxLen;omega,rfl,rfl⟩⟩,⟨rfl,fun j p hp=>by
  cases j with
  | zero=>simp at hp;subst hp;rfl
  | succ j=>simp at hp⟩⟩
theorem tJ:∀ (l:List dD),(∀ s∈l,s.f0.length<=100)->(l.flatMap lH).length<=101*l.length
 | [],_=>by simp
 | s::l,h=>by
  have h1:=tJ l fun x hx=>h x (by simp [hx])
  have h2:=h s (by simp);rw [List.flatMap_cons,List.length_append,List.length_cons]
  have:(lH s).length=s.f0.length+1:=by simp [lH]
  omega
theorem La {h:List bI} {st:List dD} (ok:Nc h st):(qB h st).length<=20000:=by
 unfold qB
 have h1:=tJ st ok.EO.2;have h2:=ok.EO.1;have h3:=ok.RA.1;rw [List.length_cons,List.length_append,List.length_map]
 omega
theorem IV {h:List bI} {st:List dD} (ok:Nc h st):∀ x∈qB h st,x.size<=7000:=by
 have key:∀ (name:ByteArray) (ns:List Int),name.size<=10->ns.length<=300->(∀ n∈ns,n∈numsOf h st)->(iD name ns).size<=7000:=fun name ns h1 h2 h3=>by
  have:=ER name h1 ns fun n hn=>ok.size n (h3 n hn)
  omega
 intro x hx
 unfold qB at hx
 rcases List.mem_cons.1 hx with rfl|hx
 ·exact key _ _ (by decide) (by simp [vH]) fun n hn=>by unfold numsOf;exact List.mem_append_left _ (List.mem_append_left _ hn)
 rcases List.mem_append.1 hx with hx|hx
 ·obtain ⟨d,hd,rfl⟩:=List.mem_map.1 hx
  exact key _ _ (by decide) (by rw [Gh];have:=ok.RA.2 d hd;omega) fun n hn=>by unfold numsOf;exact List.mem_append_left _ (List.mem_append_right _ (List.mem_flatMap.2 ⟨d,hd,hn⟩))
 ·obtain ⟨s,hs,hx⟩:=List.mem_flatMap.1 hx
  unfold lH at hx
  rcases List.mem_cons.1 hx with rfl|hx
  ·exact key _ _ (by decide) (by simp [pz]) fun n hn=>by unfold numsOf;exact List.mem_append_right _ (List.mem_flatMap.2 ⟨s,hs,List.mem_append_left _ hn⟩)
  ·obtain ⟨b,hb,rfl⟩:=List.mem_map.1 hx
   exact key _ _ (by decide) (by simp [xG]) fun n hn=>by unfold numsOf;exact List.mem_append_right _ (List.mem_flatMap.2 ⟨s,hs,List.mem_append_right _ (List.mem_flatMap.2 ⟨b,hb,hn⟩)⟩)
theorem Ct (l:ByteArray):∀ n,0<=sumTo l n∧sumTo l n<=255*((n:Int)*n)
 | 0=>⟨Int.le_refl _,Int.le_refl _⟩
 | n+1=>by
  have h:=Ct l n
  have hb:((l.data.toList.getD n 0).toNat:Int)<=255:=by have:=(l.data.toList.getD n 0).toNat_lt;omega
  have h0:(0:Int)<=((l.data.toList.getD n 0).toNat:Int):=by omega
  have h1:((l.data.toList.getD n 0).toNat:Int)*((n:Int)+1)<=255*((n:Int)+1):=Int.mul_le_mul_of_nonneg_right hb (by omega);have h2:0<=((l.data.toList.getD n 0).toNat:Int)*((n:Int)+1):=Int.mul_nonneg h0 (by omega)
  have e:(((n+1:Nat):Int))*((n+1:Nat):Int)=(n:Int)*n+2*n+1:=by rw [Int.natCast_add,Int.add_mul,Int.mul_add];omega
  rw [sumTo,e]
  omega
theorem sumTo_le (l:ByteArray) (hl:l.size<=7000) (n:Nat) (hn:n<=l.size):0<=sumTo l n∧sumTo l n<=12495000000:=by
 have h:=Ct l n;have h1:(n:Int)*n<=7000*7000:=Int.mul_le_mul (by omega) (by omega) (by omega) (by omega)
 omega
theorem Qr (ls:List ByteArray) (h:∀ x∈ls,x.size<=7000):0<=(ls.map qC).sum∧(ls.map qC).sum<=12495000000*ls.length:=by
 induction ls with
 | nil=>simp
 | cons x ls ih =>
  have h1:=ih fun y hy=>h y (by simp [hy])
  have h2:=sumTo_le x (h x (by simp)) x.size (Nat.le_refl _);rw [List.map_cons,List.sum_cons,List.length_cons]
  unfold qC at *
  omega
theorem UQ (x:ByteArray) (hx:x.size<=7000) (j:Nat) (hj:j<x.size) (S:Int) (hS:0<=S∧S<=249900000000000):wrap64 (S+sumTo x j+wrap64 (wrap64 (x[j].toNat:Int)*((j:Int)+1)))=S+sumTo x (j+1):=by
 have e:x.data.toList.getD j 0=x[j]:=by
  rw [List.getD_eq_getElem?_getD,List.getElem?_eq_getElem (by simpa using hj)]
  rfl
 have hb:(x[j].toNat:Int)<=255:=by have:=(x[j]).toNat_lt;omega
 have h0:(0:Int)<=(x[j].toNat:Int):=by omega
 have h1:(x[j].toNat:Int)*((j:Int)+1)<=255*((j:Int)+1):=Int.mul_le_mul_of_nonneg_right hb (by omega);have h2:0<=(x[j].toNat:Int)*((j:Int)+1):=Int.mul_nonneg h0 (by omega);have h3:=sumTo_le x hx j (by omega);rw [sumTo,e,Br (x:=(x[j].toNat:Int)) (by omega) (by omega)]
 generalize (x[j].toNat:Int)*((j:Int)+1)=m at *
 rw [Br (x:=m) (by omega) (by omega),Br (by omega) (by omega)]
 omega
theorem EU (d:Int) (h:0<=d∧d<=9):(iB d).size<=20:=by
 have:∀ n:Fin 10,(iB (n.val:Int)).size<=20:=by decide +kernel
 have h2:(iB ((d.toNat:Nat):Int)).size<=20:=this ⟨d.toNat,by omega⟩;rw [show ((d.toNat:Nat):Int)=d by omega] at h2;exact h2
theorem Yb (ls:List ByteArray) (h:∀ x∈ls,x.size<=7000):Lib.lens (ls.map (·.data.toList))<=7000*ls.length:=by
 induction ls with
 | nil=>simp [Lib.lens]
 | cons x ls ih =>
  have h1:=ih fun y hy=>h y (by simp [hy])
  have h2:=h x (by simp);have h3:x.data.toList.length=x.size:=Array.length_toList
  unfold Lib.lens at *
  simp only [List.map_cons,List.sum_cons,List.length_cons] at *
  omega
theorem RO (ls:List ByteArray) (h:∀ x∈ls,x.size<=7000) (hl:ls.length<=20000):(Lib.join (ls.map (·.data.toList)) [10]).length<=200000000:=by
 cases ls with
 | nil=>simp [Lib.join_nil]
 | cons x r =>
  have h1:=Yb (x::r) h;rw [List.map_cons,Lib.join_length,← List.map_cons (f:=fun y:ByteArray=>y.data.toList),List.length_map];simp only [List.length_cons,List.length_nil] at *
  omega
theorem Nn (bC:Option Addr) (aZ:Nat) (av:List bI) (A1:Option Addr) (c1:Nat) (l1:List dD) (w:World) (dw:Kd.C iG w bC av.length av) (dG:av.length<=aZ) (hr1:Kd.C kS w A1 l1.length l1) (hc1:l1.length<=c1) (hok:Nc av l1) (hw:Writes w (numsOf av l1)) (hd:∀ W,Below w.heap.size w W->Writes W [0,1,2,3,4,5,6,7,8,9]) :
  Calls Tryz.prog 152 #[.agg #[.slice bC av.length aZ],.slice A1 l1.length c1] w fun e w'=>e=.returned (.string (textOf (qB av l1)))∧Below w.heap.size w w':=by
 have HX:=Bx.nil w;have HR:=aj.mk dw;have HR1:=aj.mk hr1;have OK:=aj.mk hok;have HW:=aj.mk hw;have HD:=aj.mk hd;have hm0:av.length<=9223372036854775807:=dw.2.1;have hm1:l1.length<=9223372036854775807:=hr1.2.1;have qb:=Tryz.underlying24;have SS:=Tryz.underlying102;have Eo:=Tryz.underlying107;have BR:=Tryz.underlying154;have jY:=Tryz.underlying37;have Zw:=Tryz.underlying234;have Zy:=Tryz.underlying236;have ZC:=Tryz.underlying238;have ZF:=Tryz.underlying240;clear dw hr1 hok hw hd
 go_enter Tryz.func152,Tryz.ntmps152
 go_wp2_with (first|((with_reducible refine au (N:=2) rfl ?_);refine newX rfl rfl HX (cs:=#[.slice bC av.length aZ]) (t:=24) tG ?_;clear HX;intro g2 w2 HX hx hz;clear hx hz;have c2:=HX.g1 0 rfl)|(go_at_call 196;refine (XP _ (vH av l1) _ (by simp [vH]) (HW.out.sub HX.below (fun n hn=>by unfold numsOf;exact List.mem_append_left _ (List.mem_append_left _ hn))) (vY _ (by decide) _ (fun n hn=>OK.out.size n (by unfold numsOf;exact List.mem_append_left _ (List.mem_append_left _ hn))) (by simp [vH])) (fun W hb=>qO.calls _ _ _ W rfl)).mono ?_;rintro e w1 ⟨rfl,hx⟩;replace HX:=HX.step hx;clear hx c2;have c2:=HX.g1 0 rfl)|((with_reducible refine au (N:=24) rfl ?_);refine wE rfl rfl HX (ob:=.cells #[.string (iD gF (vH av l1))] 9 (0,0)) (fun g=>.slice (some ⟨g,0,none⟩) 1 1) tG ?_;clear HX c2;intro gb yO HX hx hz;clear hx hz;have c2:=HX.g1 1 rfl))
 have HV:=aj.mk (qeN (HX.lo _ (List.mem_of_getElem? (i:=0) rfl)) (HX.gb 0 rfl));have jJ:=HX.tl;clear HX;have HX:=jJ;clear jJ c2
 go_loopw [5,28] (fun v5 v28 W=>∃ i:Nat,i<=av.length∧v28=.int .i64 i∧aj (Kd.R Kd.string 9 W w.heap.size (fun _=>True) v5 (iD gF (vH av l1)::(av.take i).map qA))∧Bx [(g2,.cells #[.slice bC av.length aZ] 24 (0,0))] w W) (fun _ v28 _=>av.length - (intOf v28).toNat)
 case atStart=>exact ⟨0,by omega,rfl,HV,HX⟩
 case round =>
  clear HV HX;obtain ⟨i,hi,rfl,HV,HX⟩:=hrel
  by_cases hlt:i<av.length
  ·obtain ⟨d,hd⟩:∃ d,d=av[i]:=⟨_,rfl⟩
   obtain ⟨ad,As,cs,rfl,q0,q1,hls,hCs⟩:=jd HR.out i (by omega) (by omega)
   have hrd:aX av (i:Int)=d:=by rw [hd,aX,Int.toNat_natCast,List.getD_eq_getElem?_getD,List.getElem?_eq_getElem hlt];rfl
   rw [hrd] at q0 q1 hls hCs;rw [Int.toNat_natCast] at q0 q1;replace q0:=(HX.below.cell (World.block_lt_of_cell? w _ q0)).trans q0;replace q1:=(HX.below.cell (World.block_lt_of_cell? w _ q1)).trans q1
   have hdm:d∈av:=by rw [hd];exact List.getElem_mem hlt
   have HDS:=aj.mk (show ∀ n∈Ai d,n∈numsOf av l1 from fun n hn=>by unfold numsOf;exact List.mem_append_left _ (List.mem_append_right _ (List.mem_flatMap.2 ⟨d,hdm,hn⟩)));have HDL:=aj.mk (show (Ai d).length<=300 by rw [Gh];have:=OK.out.RA.2 d hdm;omega);have HDK:=aj.mk (qbA d (by have:=OK.out.RA.2 d hdm;omega));have HT:=aj.mk (show iD gF (vH av l1)::(av.take (i+1)).map qA=(iD gF (vH av l1)::(av.take i).map qA)++[qA d] by rw [List.take_succ_eq_append_getElem hlt,List.map_append,hd];rfl);have ZQ:=aj.mk (show (iD gF (vH av l1)::(av.take i).map qA).length<=100000000 by rw [List.length_cons,List.length_map,List.length_take];have:=OK.out.RA.1;omega);have HC:=aj.mk hCs;have Qs:=aj.mk hls;have hm2:d.f0.length<=9223372036854775807:=hCs.2.1;clear hd hrd hdm hls hCs
   go_wp2_with (first|((with_reducible refine au (N:=7) rfl ?_);refine newX rfl rfl HX (cs:=#[.slice none 0 0,.int .i64 0]) (t:=102) tG ?_;clear HX;intro g7 w7 HX hx hz;have N7:=wQ HV hz;replace HV:=qN HV hx;clear hx hz)|((with_reducible refine aY (t:=102) (p:=7) rfl ?_);refine jZ rfl rfl rfl HX 0 rfl (i:=0) (.agg #[.slice As d.f0.length cs,.int .i64 d.f1]) [.slice As d.f0.length cs,.int .i64 d.f1] #[.slice As d.f0.length cs,.int .i64 d.f1] rfl rfl rfl tX (by simp) (by simp [Value.oneCell']) rfl ?_;clear HX;intro w9 HX hx;dsimp only [List.set] at HX;replace HV:=Et HV rfl hx N7.out;clear hx q0 q1;obtain ⟨xL,xM⟩:=HX.g2 0 rfl)|(go_at_call 196;refine (XQ _ (Ai d) _ (by have:=HDL.out;omega) (HW.out.sub HX.below HDS.out) (vY _ (by decide) _ (fun n hn=>OK.out.size n (HDS.out n hn)) (by have:=HDL.out;omega)) (fun W hb=>dF.calls 1000 As cs d.f0 d.f1 (Ai d) W (Kd.ak HC.out (aV HX.below hb)) Qs.out HDK.out)).mono ?_;rintro e w8 ⟨rfl,hx⟩;replace HX:=HX.step hx;replace HV:=qN HV hx;clear hx xL xM)|((with_reducible refine eY (b:=.append) (xs:=#[.tmp 32,.tmp 37]) rfl ?_);at_builtin;refine oD (w:=w) Kd.string rfl (.tmp 32) (.tmp 37) 190 9 (.string ⟨#[]⟩) 16 rfl Tryz.underlying190 SN rfl (by decide) (by omega) _ (iD gF (vH av l1)::(av.take i).map qA) (qA d) [.string (qA d)] rfl rfl rfl HV ⟨HX.below⟩ ZQ.out (by decide) ?_;intro u5 yO HU HB2 hx hat;have uy:=HX.UO hx (fun k e=>Kd.iF HV.out k e) (by intro p hp;simp only [List.mem_cons,List.not_mem_nil,or_false] at hp;rcases hp with rfl|rfl;all_goals exact HV.out.2.zo (HX.get _ (by simp)) (by decide));clear HX HV HB2 hx hat N7;have HX:=uy;have HV:=HU;clear uy HU))
   case roundEnd=>exact ⟨⟨i+1,by omega,by simp,⟨by rw [HT.out];exact HV.out⟩,HX.tl⟩,by simp [intOf];omega⟩
  ·obtain rfl:i=av.length:=by omega
   obtain ⟨L0,hL0⟩:∃ L0,L0=iD gF (vH av l1)::av.map qA:=⟨_,rfl⟩;rw [List.take_length,← hL0] at HV;have HL0:=aj.mk hL0;have HLN:=aj.mk (show L0.length<=101 by rw [hL0,List.length_cons,List.length_map];have:=OK.out.RA.1;omega);clear hL0 hlt hi
   go_wp2
   go_loopw [5,42] (fun v5 v42 W=>∃ i:Nat,i<=l1.length∧v42=.int .i64 i∧aj (Kd.R Kd.string 9 W w.heap.size (fun _=>True) v5 (L0++(l1.take i).flatMap lH))∧Bx [(g2,.cells #[.slice bC av.length aZ] 24 (0,0))] w W) (fun _ v42 _=>l1.length - (intOf v42).toNat)
   case atStart=>exact ⟨0,by omega,rfl,⟨by simpa using HV.out⟩,HX⟩
   case round =>
    clear HV HX;obtain ⟨i,hi,rfl,HV,HX⟩:=hrel
    by_cases hlt:i<l1.length
    ·obtain ⟨s,hs⟩:∃ s,s=l1[i]:=⟨_,rfl⟩
     obtain ⟨ad,As,cs,rfl,q0,q1,q2,hls,hCs⟩:=yg HR1.out i (by omega) (by omega)
     have hrd:bJ l1 (i:Int)=s:=by rw [hs,bJ,Int.toNat_natCast,List.getD_eq_getElem?_getD,List.getElem?_eq_getElem hlt];rfl
     rw [hrd] at q0 q1 q2 hls hCs;rw [Int.toNat_natCast] at q0 q1 q2;replace q0:=(HX.below.cell (World.block_lt_of_cell? w _ q0)).trans q0;replace q1:=(HX.below.cell (World.block_lt_of_cell? w _ q1)).trans q1;replace q2:=(HX.below.cell (World.block_lt_of_cell? w _ q2)).trans q2
     have hsm:s∈l1:=by rw [hs];exact List.getElem_mem hlt
     have HSM:=aj.mk hsm;have HSS:=aj.mk (show ∀ n∈pz s,n∈numsOf av l1 from fun n hn=>by unfold numsOf;exact List.mem_append_right _ (List.mem_flatMap.2 ⟨s,hsm,List.mem_append_left _ hn⟩));have HTK:=aj.mk (show l1.take (i+1)=l1.take i++[s] by rw [List.take_succ_eq_append_getElem hlt,hs]);have HBL:=aj.mk (OK.out.EO.2 s hsm);obtain ⟨L1,hL1⟩:∃ L1,L1=L0++(l1.take i).flatMap lH:=⟨_,rfl⟩
     have ZQ:=aj.mk (show L1.length<=100000 by
      rw [hL1,List.length_append];have h1:=HLN.out;have h2:=tJ (l1.take i) (fun s hs=>OK.out.EO.2 s (List.mem_of_mem_take hs));have h3:=OK.out.EO.1
      have h4:(l1.take i).length<=100:=by rw [List.length_take];omega
      have h5:101*(l1.take i).length<=101*100:=Nat.mul_le_mul_left _ h4
      omega)
     rw [← hL1] at HV;have HL1:=aj.mk hL1;have HC:=aj.mk hCs;have Qs:=aj.mk hls;have hm2:s.f0.length<=9223372036854775807:=hCs.2.1;clear hs hrd hsm hls hCs hL1
     go_wp2_with (first|((with_reducible refine au (N:=9) rfl ?_);refine newX rfl rfl HX (cs:=#[.slice none 0 0,.int .i64 0,.int .i64 0]) (t:=107) tG ?_;clear HX;intro g9 w9 HX hx hz;have N9:=wQ HV hz;replace HV:=qN HV hx;clear hx hz)|((with_reducible refine aY (t:=107) (p:=9) rfl ?_);refine jZ rfl rfl rfl HX 0 rfl (i:=0) (.agg #[.slice As s.f0.length cs,.int .i64 s.f1,.int .i64 s.f2]) [.slice As s.f0.length cs,.int .i64 s.f1,.int .i64 s.f2] #[.slice As s.f0.length cs,.int .i64 s.f1,.int .i64 s.f2] rfl rfl rfl tX (by simp) (by simp [Value.oneCell']) rfl ?_;clear HX;intro w9 HX hx;dsimp only [List.set] at HX;replace HV:=Et HV rfl hx N9.out;clear hx q0 q1 q2;obtain ⟨xL,xM,IU⟩:=HX.g3 0 rfl)|(go_at_call 196;refine (XR _ (pz s) _ (by simp [pz]) (HW.out.sub HX.below HSS.out) (vY _ (by decide) _ (fun n hn=>OK.out.size n (HSS.out n hn)) (by simp [pz])) (fun W hb=>qP.calls As cs s.f0 s.f1 s.f2 (pz s) W (Kd.ak HC.out (aV HX.below hb)) Qs.out rfl)).mono ?_;rintro e w8 ⟨rfl,hx⟩;replace HX:=HX.step hx;replace HV:=qN HV hx;clear hx xL xM IU)|((with_reducible refine eY (b:=.append) (xs:=#[.tmp 46,.tmp 51]) rfl ?_);at_builtin;refine oD (w:=w) Kd.string rfl (.tmp 46) (.tmp 51) 190 9 (.string ⟨#[]⟩) 16 rfl Tryz.underlying190 SN rfl (by decide) (by omega) _ L1 (iD gY (pz s)) [.string (iD gY (pz s))] rfl rfl rfl HV ⟨HX.below⟩ (by have:=ZQ.out;omega) (by decide) ?_;intro u5 yO HU HB2 hx hat;have uy:=HX.UO hx (fun k e=>Kd.iF HV.out k e) (by intro p hp;simp only [List.mem_cons,List.not_mem_nil,or_false] at hp;rcases hp with rfl|rfl;all_goals exact HV.out.2.zo (HX.get _ (by simp)) (by decide));clear HX HV HB2 hx hat N9;have HX:=uy;have HV:=HU;clear uy HU;obtain ⟨xL,xM,IU⟩:=HX.g3 0 rfl))
     obtain ⟨L2,hL2⟩:∃ L2,L2=L1++[iD gY (pz s)]:=⟨_,rfl⟩;have HL2:=aj.mk hL2;have qj8:=aj.mk (show L2.length<=100001 by rw [hL2,List.length_append];have:=ZQ.out;simp;omega);rw [← hL2] at HV;clear hL2 xL xM IU
     go_loopw [5,56] (fun v5 v56 W=>∃ j:Nat,j<=s.f0.length∧v56=.int .i64 j∧aj (Kd.R Kd.string 9 W w.heap.size (fun _=>True) v5 (L2++(s.f0.take j).map pE))∧Bx [(g9,.cells #[.slice As s.f0.length cs,.int .i64 s.f1,.int .i64 s.f2] 107 (0,0)),(g2,.cells #[.slice bC av.length aZ] 24 (0,0))] w W) (fun _ v56 _=>s.f0.length - (intOf v56).toNat)
     case atStart=>exact ⟨0,by omega,rfl,⟨by simpa using HV.out⟩,HX⟩
     case round =>
      clear HV HX;obtain ⟨j,hj,rfl,HV,HX⟩:=hrel
      by_cases hjt:j<s.f0.length
      ·obtain ⟨b,hb⟩:∃ b,b=s.f0[j]:=⟨_,rfl⟩
       obtain ⟨ad5,e5,q0,q1,q2,q3⟩:=lC HC.out j (by omega) (by omega);subst e5
       have hrd:aC s.f0 (j:Int)=b:=by rw [hb,aC,Int.toNat_natCast,List.getD_eq_getElem?_getD,List.getElem?_eq_getElem hjt];rfl
       rw [hrd] at q0 q1 q2 q3;rw [Int.toNat_natCast] at q0 q1 q2 q3;replace q0:=(HX.below.cell (World.block_lt_of_cell? w _ q0)).trans q0;replace q1:=(HX.below.cell (World.block_lt_of_cell? w _ q1)).trans q1;replace q2:=(HX.below.cell (World.block_lt_of_cell? w _ q2)).trans q2;replace q3:=(HX.below.cell (World.block_lt_of_cell? w _ q3)).trans q3
       have hbm:b∈s.f0:=by rw [hb];exact List.getElem_mem hjt
       have HBS:=aj.mk (show ∀ n∈xG b,n∈numsOf av l1 from fun n hn=>by unfold numsOf;exact List.mem_append_right _ (List.mem_flatMap.2 ⟨s,HSM.out,List.mem_append_right _ (List.mem_flatMap.2 ⟨b,hbm,hn⟩)⟩));have HTB:=aj.mk (show L2++(s.f0.take (j+1)).map pE=(L2++(s.f0.take j).map pE)++[pE b] by rw [List.take_succ_eq_append_getElem hjt,List.map_append,hb,List.append_assoc];rfl);have qj9:=aj.mk (show (L2++(s.f0.take j).map pE).length<=100000000 by rw [List.length_append,List.length_map,List.length_take];have:=qj8.out;have:=HBL.out;omega);clear hb hrd hbm
       go_wp2_with (first|((with_reducible refine au (N:=11) rfl ?_);refine newX rfl rfl HX (cs:=#[.int .i64 0,.int .i64 0,.int .i64 0,.int .i64 0]) (t:=154) tG ?_;clear HX;intro g11 Jc HX hx hz;have N11:=wQ HV hz;replace HV:=qN HV hx;clear hx hz)|((with_reducible refine aY (t:=154) (p:=11) rfl ?_);refine jZ rfl rfl rfl HX 0 rfl (i:=0) (.agg #[.int .i64 b.f0,.int .i64 b.f1,.int .i64 b.f2.f0,.int .i64 b.f2.f1]) [.int .i64 b.f0,.int .i64 b.f1,.int .i64 b.f2.f0,.int .i64 b.f2.f1] #[.int .i64 b.f0,.int .i64 b.f1,.int .i64 b.f2.f0,.int .i64 b.f2.f1] rfl rfl rfl tX (by simp) (by simp [Value.oneCell']) rfl ?_;clear HX;intro w9 HX hx;dsimp only [List.set] at HX;replace HV:=Et HV rfl hx N11.out;clear hx q0 q1 q2 q3;obtain ⟨xL,xM,IU,ce4⟩:=HX.g4 0 rfl)|(go_at_call 196;refine (XT _ (xG b) _ (by simp [xG]) (HW.out.sub HX.below HBS.out) (vY _ (by decide) _ (fun n hn=>OK.out.size n (HBS.out n hn)) (by simp [xG])) (fun W hb=>qw.calls b.f0 b.f1 b.f2.f0 b.f2.f1 (xG b) W rfl)).mono ?_;rintro e w8 ⟨rfl,hx⟩;replace HX:=HX.step hx;replace HV:=qN HV hx;clear hx xL xM IU ce4)|((with_reducible refine eY (b:=.append) (xs:=#[.tmp 60,.tmp 65]) rfl ?_);at_builtin;refine oD (w:=w) Kd.string rfl (.tmp 60) (.tmp 65) 190 9 (.string ⟨#[]⟩) 16 rfl Tryz.underlying190 SN rfl (by decide) (by omega) _ (L2++(s.f0.take j).map pE) (pE b) [.string (pE b)] rfl rfl rfl HV ⟨HX.below⟩ qj9.out (by decide) ?_;intro u5 yO HU HB2 hx hat;have uy:=HX.UO hx (fun k e=>Kd.iF HV.out k e) (by intro p hp;simp only [List.mem_cons,List.not_mem_nil,or_false] at hp;rcases hp with rfl|rfl|rfl;all_goals exact HV.out.2.zo (HX.get _ (by simp)) (by decide));clear HX HV HB2 hx hat N11;have HX:=uy;have HV:=HU;clear uy HU))
       case roundEnd=>exact ⟨⟨j+1,by omega,by simp,⟨by rw [HTB.out];exact HV.out⟩,HX.tl⟩,by simp [intOf];omega⟩
      ·obtain rfl:j=s.f0.length:=by omega
       go_wp2
       case roundEnd=>exact ⟨⟨i+1,by omega,by simp,⟨by
        have h1:=HV.out;rw [List.take_length,HL2.out,HL1.out,List.append_assoc,List.append_assoc] at h1;rw [HTK.out,List.flatMap_append]
        simpa [lH] using h1⟩,HX.tl⟩,by simp [intOf];omega⟩
    ·obtain rfl:i=l1.length:=by omega
     obtain ⟨ls,hls⟩:∃ ls,ls=qB av l1:=⟨_,rfl⟩
     have hv:L0++(l1.take l1.length).flatMap lH=ls:=by rw [hls,List.take_length,HL0.out];rfl
     rw [hv] at HV;have Qs:=aj.mk hls;have Qt:=aj.mk (show ls.length<=20000 by rw [hls];exact La OK.out);have HLZ:=aj.mk (show ∀ x∈ls,x.size<=7000 by rw [hls];exact IV OK.out);clear hls hv hlt hi
     obtain ⟨g9,cr,e9⟩:∃ g cp,u5=.slice (some ⟨g,0,none⟩) ls.length cp:=by
      obtain ⟨inner,⟨_,h⟩,_⟩:=HV.out.2
      rcases h with ⟨e,hn⟩|⟨g,cap,cur,e,_⟩
      ·rw [Qs.out] at hn
       simp [qB] at hn
      ·exact ⟨g,cap,e⟩
     subst e9;obtain ⟨Ar,c5,e5,hlr,hCr⟩:=Kd.fE HV.out
     injection e5 with e6 _ e7
     subst e6;subst e7;have HC:=aj.mk hCr
     have hm5:ls.length<=9223372036854775807:=by have:=Qt.out;omega
     clear hCr HV
     generalize wr=wb at *
     have UR:=aj.mk (Below.refl wb.heap.size wb)
     go_wp2
     go_loopw [12,71] (fun v12 v71 W=>∃ i:Nat,i<=ls.length∧v71=.int .i64 i∧v12=.int .i64 ((ls.take i).map qC).sum∧aj (Below wb.heap.size wb W)) (fun _ v71 _=>ls.length - (intOf v71).toNat)
     case atStart=>exact ⟨0,by omega,rfl,rfl,UR⟩
     case round =>
      clear UR;obtain ⟨i,hi,rfl,rfl,UR⟩:=hrel
      by_cases hlt:i<ls.length
      ·obtain ⟨x,hx⟩:∃ x,x=ls[i]:=⟨_,rfl⟩
       obtain ⟨ad,ea,d1⟩:=Kd.FM (Kd.ak HC.out UR.out) i (by omega) (by omega)
       cases ea
       have hrd:Sl ByteArray.empty ls (i:Int)=x:=by rw [hx,Sl,Int.toNat_natCast,List.getD_eq_getElem?_getD,List.getElem?_eq_getElem hlt];rfl
       rw [hrd,Int.toNat_natCast,Addr.add_mid,Nat.zero_add] at d1
       have hxz:x.size<=7000:=by rw [hx];exact HLZ.out _ (List.getElem_mem hlt)
       have HXZ:=aj.mk hxz;have HTK:=aj.mk (show ((ls.take (i+1)).map qC).sum=((ls.take i).map qC).sum+qC x by rw [List.take_succ_eq_append_getElem hlt,hx,List.map_append,List.sum_append,List.map_cons,List.map_nil,List.sum_cons,List.sum_nil,Int.add_zero]);obtain ⟨S,hS⟩:∃ S,S=((ls.take i).map qC).sum:=⟨_,rfl⟩
       have Ke:=aj.mk (show 0<=S∧S<=249900000000000 by
        have h:=Qr (ls.take i) fun y hy=>HLZ.out y (List.mem_of_mem_take hy)
        rw [← hS,List.length_take] at h;have:=Qt.out
        omega)
       rw [← hS];rw [← hS] at HTK
       have hm6:x.size<=9223372036854775807:=by omega
       clear hx hrd hS hxz
       go_wp2
       clear d1
       go_loopw [12,15,77] (fun v12 _ v77 W=>∃ j:Nat,j<=x.size∧v77=.int .i64 j∧v12=.int .i64 (S+sumTo x j)∧aj (Below wb.heap.size wb W)) (fun _ _ v77 _=>x.size - (intOf v77).toNat)
       case atStart=>exact ⟨0,by omega,rfl,by simp [sumTo],UR⟩
       case round =>
        clear UR;obtain ⟨j,hj,rfl,rfl,UR⟩:=hrel
        by_cases hjt:j<x.size
        ·have HST:=aj.mk (UQ x HXZ.out j hjt S Ke.out)
         go_wp2
         case roundEnd=>exact ⟨⟨j+1,by omega,by simp,by rw [HST.out],UR⟩,by simp [intOf];omega⟩
        ·obtain rfl:j=x.size:=by omega
         go_wp2
         case roundEnd=>exact ⟨⟨i+1,by omega,by simp,by rw [HTK.out];rfl,UR⟩,by simp [intOf];omega⟩
      ·obtain rfl:i=ls.length:=by omega
       obtain ⟨S,hS⟩:∃ S,S=(ls.map qC).sum:=⟨_,rfl⟩
       have Ke:=aj.mk (show 0<=S∧S<=249900000000000 by
        have h:=Qr ls fun y hy=>HLZ.out y hy
        rw [← hS] at h;have:=Qt.out
        omega)
       rw [List.take_length,← hS];have HS:=aj.mk hS;clear hS hlt hi
       have hcs:∀ (j:Nat) x,ls[j]?=some x->wr.cell? ⟨g9,0+j,none⟩=some (.string x):=fun j x hx=>by
        obtain ⟨hj,e⟩:=List.getElem?_eq_some_iff.1 hx;obtain ⟨ad,e1,d1⟩:=Kd.FM (Kd.ak HC.out UR.out) j (by omega) (by omega)
        cases e1
        rw [Int.toNat_natCast,Addr.add_mid,Sl,Int.toNat_natCast,List.getD_eq_getElem?_getD,hx] at d1;exact d1
       have HCS:=aj.mk hcs
       have hg9:g9<wr.heap.size:=by
        have h1:0<ls.length:=by rw [Qs.out];simp [qB]
        exact World.block_lt_of_cell? wr _ (hcs 0 _ (List.getElem?_eq_getElem h1))
       have HG9:=aj.mk hg9;clear hcs hg9;have hjs:=RO ls HLZ.out Qt.out;obtain ⟨JB,hJB⟩:∃ JB,JB=ZH ls:=⟨_,rfl⟩
       have KJ:Calls Tryz.prog 197 #[.slice (some ⟨g9,0,none⟩) ls.length cr,.string ⟨#[10]⟩] wr fun e w'=>e=.returned (.string JB)∧Below wr.heap.size wr w':=by
        rw [hJB];exact Tryz.strings_Join g9 0 cr ls ⟨#[10]⟩ wr HCS.out HG9.out (by have:=Qt.out;omega) hlr (Nat.le_trans hjs (by omega))
       have hjz:JB.size<=300000000:=by rw [hJB];show (Lib.join (ls.map (·.data.toList)) [10]).toArray.size<=_;rw [List.size_toArray];omega
       obtain ⟨q,hq⟩:∃ q,q=S%113:=⟨_,rfl⟩
       have hqb:0<=q∧q<=112:=by omega
       have hq1:S.tmod 113=q:=by rw [hq];exact Int.tmod_eq_emod_of_nonneg Ke.out.1
       obtain ⟨d1,hd1⟩:∃ d,d=q / 100:=⟨_,rfl⟩;obtain ⟨d0,hd0⟩:∃ d,d=q / 10:=⟨_,rfl⟩;obtain ⟨d2,hd2⟩:∃ d,d=d0%10:=⟨_,rfl⟩;obtain ⟨d3,hd3⟩:∃ d,d=q%10:=⟨_,rfl⟩
       have e1:q.tdiv 100=d1:=by rw [hd1];exact Int.tdiv_eq_ediv_of_nonneg hqb.1
       have e0:q.tdiv 10=d0:=by rw [hd0];exact Int.tdiv_eq_ediv_of_nonneg hqb.1
       have e2:d0.tmod 10=d2:=by rw [hd2];exact Int.tmod_eq_emod_of_nonneg (by omega)
       have e3:q.tmod 10=d3:=by rw [hd3];exact Int.tmod_eq_emod_of_nonneg hqb.1
       have w1:wrap64 d1=d1:=Br (by omega) (by omega);have w0:wrap64 d0=d0:=Br (by omega) (by omega);have D1:=aj.mk (show 0<=d1∧d1<=9 by omega);have D2:=aj.mk (show 0<=d2∧d2<=9 by omega);have D3:=aj.mk (show 0<=d3∧d3<=9 by omega);have z1:=EU d1 D1.out;have z2:=EU d2 D2.out;have z3:=EU d3 D3.out
       have qka:=aj.mk (show textOf (qB av l1)=JB++⟨#[10,101,110,100,32]⟩++iB d1++iB d2++iB d3++⟨#[10]⟩ by
        rw [← Qs.out]
        unfold textOf IJ
        rw [← HS.out,← hq,hJB,hd1,hd2,hd0,hd3])
       have KD:∀ d,0<=d∧d<=9->∀ W,Below w.heap.size w W->Calls Tryz.prog 198 #[.int .i64 d] W fun e w'=>e=.returned (.string (iB d))∧Below W.heap.size W w':=fun d hd W hb=>HD.out W hb d (by simp only [List.mem_cons,List.not_mem_nil,or_false];omega) W (Below.refl _ _)
       have rE:=aj.mk (aV HX.below UR.out)
       have n0:¬ 9223372036854775807<JB.size+5:=by omega
       have n1:¬ 9223372036854775807<JB.size+5+(iB d1).size:=by omega
       have n2:¬ 9223372036854775807<JB.size+5+(iB d1).size+(iB d2).size:=by omega
       have n3:¬ 9223372036854775807<JB.size+5+(iB d1).size+(iB d2).size+(iB d3).size:=by omega
       have n4:¬ 9223372036854775807<JB.size+5+(iB d1).size+(iB d2).size+(iB d3).size+1:=by omega
       clear HR HR1 OK HW Qs Qt HLZ qb SS Eo BR jY Zw Zy ZC ZF hm0 hm1 HL0 HLN dG hc1 hjs hJB hq hd1 hd0 hd2 hd3 hqb z1 z2 z3 hjz HC HCS HG9 Ke HS HX HD
       go_wp2_with (first|(go_at_call 197;(with_reducible refine KJ.mono ?_);rintro e w1 ⟨rfl,hx⟩;replace rE:=eH rE hx;clear hx KJ)|(go_at_call 198;(with_reducible first|refine (KD d1 D1.out _ rE.out).mono ?_|refine (KD d2 D2.out _ rE.out).mono ?_|refine (KD d3 D3.out _ rE.out).mono ?_);rintro e w1 ⟨rfl,hx⟩;replace rE:=eH rE hx;clear hx))
       go_ret
       exact ⟨by rw [qka.out];rfl,rE.out⟩
end Go.Proofs.YtnpfbjnjdngkhaaGreatDoor.P
namespace Go.Proofs.YtnpfbjnjdngkhaaGreatDoor.P
open Go.RowKit Go.Proofs.YtnpfbjnjdngkhaaGreatDoorW.aQ Go.Proofs.YtnpfbjnjdngkhaaGreatDoorW.bO Go.Proofs.YtnpfbjnjdngkhaaGreatDoorW.bT
def UU (h:List bI) (st:List dD):Bool:=decide (h.length<=100)&&(h.all (fun d=>decide (d.f0.length<=100))&&(decide (st.length<=100)&&(st.all (fun s=>decide (s.f0.length<=100))&&(numsOf h st).all fun n=>decide (0<=n)&&decide (n<100))))
def vL.f (h:List bI) (st:List dD):Option ByteArray:=if UU h st=true then some (textOf (qB h st)) else none
theorem Np (d:Int) (h:0<=d∧d<100):(iB d).size<=20:=by
 have:∀ n:Fin 100,(iB (n.val:Int)).size<=20:=by decide +kernel
 have h2:(iB ((d.toNat:Nat):Int)).size<=20:=this ⟨d.toNat,by omega⟩;rw [show ((d.toNat:Nat):Int)=d by omega] at h2;exact h2
theorem Ap (w:World) (ns:List Int) (h:∀ n∈ns,0<=n∧n<100):Writes w ns:=fun n hn W hb=>by
 have h1:=h n hn;obtain ⟨i,rfl⟩:∃ i:Nat,n=(i:Int):=⟨n.toNat,by omega⟩
 exact (Tryz.strconv_Itoa_small i (by omega) W).mono fun e w' ⟨he,hw⟩=>⟨he,hw ▸ Below.refl _ _⟩
theorem vL.calls (bC:Option Addr) (aZ:Nat) (av:List bI) (A1:Option Addr) (c1:Nat) (l1:List dD) (r:ByteArray) (w:World) (dw:Kd.C iG w bC av.length av) (dG:av.length<=aZ) (hr1:Kd.C kS w A1 l1.length l1) (hc1:l1.length<=c1) (h:vL.f av l1=some r) :
  Calls Tryz.prog 152 #[.agg #[.slice bC av.length aZ],.slice A1 l1.length c1] w fun e w'=>e=.returned (.string r)∧Below w.heap.size w w':=by
 unfold vL.f at h
 split at h
 ·rename_i hs
  injection h with h
  subst h
  unfold UU at hs
  simp only [Bool.and_eq_true,decide_eq_true_eq,List.all_eq_true] at hs;obtain ⟨h1,h2,h3,h4,h5⟩:=hs;exact Nn bC aZ av A1 c1 l1 w dw dG hr1 hc1 ⟨⟨h1,h2⟩,⟨h3,h4⟩,fun n hn=>Np n (h5 n hn)⟩ (Ap w _ h5) (fun W _=>Ap W _ (by simp only [List.mem_cons,List.not_mem_nil,or_false];omega))
 ·cases h
end Go.Proofs.YtnpfbjnjdngkhaaGreatDoor.P
namespace Go.Proofs.YtnpfbjnjdngkhaaGreatDoor.P
open Go.RowKit Go.Proofs.YtnpfbjnjdngkhaaGreatDoorW.aQ Go.Proofs.YtnpfbjnjdngkhaaGreatDoorW.bO Go.Proofs.YtnpfbjnjdngkhaaGreatDoorW.bT
attribute [local go_sem] eP eT fU fV dS dU eU eX
def yI.f (av:List bI) (l1:List dD):Option (ByteArray × Int):=(eG.f av).bind fun t302=>(if t302=true then ((iT.f av l1 0).bind fun t303=>(if t303=true then ((vL.f av l1).bind fun t304=>(some (t304,0))) else (some ((⟨#[]⟩:ByteArray),2)))) else (some ((⟨#[]⟩:ByteArray),2)))
theorem yI.calls (bC:Option Addr) (aZ:Nat) (av:List bI) (A1:Option Addr) (c1:Nat) (l1:List dD) (r1:ByteArray) (r2:Int) (w:World) (dw:Kd.C iG w bC av.length av) (dG:av.length<=aZ) (hr1:Kd.C kS w A1 l1.length l1) (hc1:l1.length<=c1) (h:yI.f av l1=some (r1,r2)) :
  Calls Tryz.prog 60 #[.agg #[.slice bC av.length aZ],.slice A1 l1.length c1] w fun e w'=>e=.returned (.tuple #[.string r1,.int .i64 r2])∧Below w.heap.size w w':=by
 have qb:=Tryz.underlying24;have dM:=aj.mk dw;have fu:=aj.mk dG;clear dw dG;have HR1:=aj.mk hr1;have yE:=aj.mk hc1;clear hr1 hc1;have HB:=aj.mk (Below.refl w.heap.size w);have H:((eG.f av).bind fun t302=>(if t302=true then ((iT.f av l1 0).bind fun t303=>(if t303=true then ((vL.f av l1).bind fun t304=>(some (t304,0))) else (some ((⟨#[]⟩:ByteArray),2)))) else (some ((⟨#[]⟩:ByteArray),2))))=some (r1,r2):=h;clear h;obtain ⟨t302,A3,H⟩:=nU H
 by_cases c4:t302=true
 ·subst c4
  rw [if_pos rfl] at H;obtain ⟨t303,A5,H⟩:=nU H
  by_cases c6:t303=true
  ·subst c6
   rw [if_pos rfl] at H;obtain ⟨t304,A7,H⟩:=nU H;simp only [Option.some.injEq,Prod.mk.injEq] at H;obtain ⟨rfl,rfl⟩:=H
   go_enter Tryz.func60,Tryz.ntmps60
   go_wp2_with (first|((with_reducible refine au (N:=2) rfl ?_);refine fA 2 #[.slice bC av.length aZ] 24 HB ?_;clear HB;intro ZR w8 hg kV ZT HB hb;clear hb hg;have GZ:=bc1 kV;have G5:=bf kV 0)|((with_reducible refine aG (f:=105) rfl ?_);refine bX (some 7) rfl rfl Tryz.func105 tX rfl #[.agg #[.slice bC av.length aZ]] rfl tM ?_;(with_reducible refine (eG.calls _ _ av true _ ?bK ?bL A3.out).mono ?_);(case bK=>exact cS dM);(case bL=>exact fu.out);rintro e Lr ⟨rfl,hb⟩;refine ⟨_,rfl,?_⟩;replace kV:=bW kV hb;replace HB:=dL HB hb;(try clear hb);have yt:=bc1 kV;have yu:=bf kV 0)|(go_at_call 127;(with_reducible refine (iT.calls _ _ av _ _ l1 0 true _ ?bK ?bL ?fM ?fO A5.out).mono ?_);(case bK=>exact cS dM);(case bL=>exact fu.out);(case fM=>exact cS HR1);(case fO=>exact yE.out);rintro e yO ⟨rfl,hb⟩;replace kV:=bW kV hb;replace HB:=dL HB hb;(try clear hb);have vS:=bc1 kV;have vT:=bf kV 0)|((with_reducible refine aG (f:=152) rfl ?_);refine bX (some 17) rfl rfl Tryz.func152 tX rfl #[.agg #[.slice bC av.length aZ],.slice A1 l1.length c1] rfl tM ?_;(with_reducible refine (vL.calls _ _ av _ _ l1 t304 _ ?bK ?bL ?fM ?fO A7.out).mono ?_);(case bK=>exact cS dM);(case bL=>exact fu.out);(case fM=>exact cS HR1);(case fO=>exact yE.out);rintro e R8 ⟨rfl,hb⟩;refine ⟨_,rfl,?_⟩;replace kV:=bW kV hb;replace HB:=dL HB hb;(try clear hb)))
   go_ret2
   exact ⟨tF,tB⟩
  ·replace c6:=Bool.eq_false_iff.mpr c6
   subst c6
   have H1:(some ((⟨#[]⟩:ByteArray),2))=some (r1,r2):=by rw [if_neg (show ¬ (false=true) by decide)] at H;exact H
   clear H;have H:=H1;clear H1;simp only [Option.some.injEq,Prod.mk.injEq] at H;obtain ⟨rfl,rfl⟩:=H
   go_enter Tryz.func60,Tryz.ntmps60
   go_wp2_with (first|((with_reducible refine au (N:=2) rfl ?_);refine fA 2 #[.slice bC av.length aZ] 24 HB ?_;clear HB;intro ZR Mf hg kV ZT HB hb;clear hb hg;have Ae:=bc1 kV;have Af:=bf kV 0)|((with_reducible refine aG (f:=105) rfl ?_);refine bX (some 7) rfl rfl Tryz.func105 tX rfl #[.agg #[.slice bC av.length aZ]] rfl tM ?_;(with_reducible refine (eG.calls _ _ av true _ ?bK ?bL A3.out).mono ?_);(case bK=>exact cS dM);(case bL=>exact fu.out);rintro e w17 ⟨rfl,hb⟩;refine ⟨_,rfl,?_⟩;replace kV:=bW kV hb;replace HB:=dL HB hb;(try clear hb);have Qe:=bc1 kV;have Qf:=bf kV 0)|(go_at_call 127;(with_reducible refine (iT.calls _ _ av _ _ l1 0 false _ ?bK ?bL ?fM ?fO A5.out).mono ?_);(case bK=>exact cS dM);(case bL=>exact fu.out);(case fM=>exact cS HR1);(case fO=>exact yE.out);rintro e w19 ⟨rfl,hb⟩;replace kV:=bW kV hb;replace HB:=dL HB hb;(try clear hb)))
   go_ret2
   exact ⟨tF,tB⟩
 ·replace c4:=Bool.eq_false_iff.mpr c4
  subst c4
  have H1:(some ((⟨#[]⟩:ByteArray),2))=some (r1,r2):=by rw [if_neg (show ¬ (false=true) by decide)] at H;exact H
  clear H;have H:=H1;clear H1;simp only [Option.some.injEq,Prod.mk.injEq] at H;obtain ⟨rfl,rfl⟩:=H
  go_enter Tryz.func60,Tryz.ntmps60
  go_wp2_with (first|((with_reducible refine au (N:=2) rfl ?_);refine fA 2 #[.slice bC av.length aZ] 24 HB ?_;clear HB;intro ZR w20 hg kV ZT HB hb;clear hb hg;have Px:=bc1 kV;have Py:=bf kV 0)|((with_reducible refine aG (f:=105) rfl ?_);refine bX (some 7) rfl rfl Tryz.func105 tX rfl #[.agg #[.slice bC av.length aZ]] rfl tM ?_;(with_reducible refine (eG.calls _ _ av false _ ?bK ?bL A3.out).mono ?_);(case bK=>exact cS dM);(case bL=>exact fu.out);rintro e w22 ⟨rfl,hb⟩;refine ⟨_,rfl,?_⟩;replace kV:=bW kV hb;replace HB:=dL HB hb;(try clear hb)))
  go_ret2
  exact ⟨tF,tB⟩
theorem qeP (d:Nat) (w:World) (x0 y0:Int) (x1 y1:Int) :
  (Op.equalIn (d+2) 37 (.agg #[.int .i64 x0,.int .i64 x1]) (.agg #[.int .i64 y0,.int .i64 y1])).run Tryz.prog w=.ok (x0 == y0&&(x1 == y1)) w:=by
 refine qar Tryz.underlying37 tX ?_;refine SG (by rfl) (by go_simp;rfl) (by go_simp;rfl) (by go_simp) ?_;exact SF (by rfl) (by go_simp;rfl) (by go_simp;rfl) (by go_simp)
end Go.Proofs.YtnpfbjnjdngkhaaGreatDoor.P
namespace Go.Proofs.YtnpfbjnjdngkhaaGreatDoor.P
open Go.RowKit Go.Proofs.YtnpfbjnjdngkhaaGreatDoorW.aQ Go.Proofs.YtnpfbjnjdngkhaaGreatDoorW.bO Go.Proofs.YtnpfbjnjdngkhaaGreatDoorW.bT
attribute [local go_sem] eP eT fU fV dS dU eU eX
attribute [local go_sem high] qeP
def dJ.l0:Nat->List bQ->List bQ->Int->Option Bool
 | 0,_,_,_=>none
 | k+1,x0,x1,x5=>if x5<(x0.length:Int) then (if 0<=x5 then (if x5<(x1.length:Int) then (if (!(((bH x0 x5).f0) == ((bH x1 x5).f0))||(!(((bH x0 x5).f1) == ((bH x1 x5).f1))))=true then (some false) else (dJ.l0 k x0 x1 (wrap64 (x5+1)))) else (none)) else (none)) else (some true)
def dJ.f (k:Nat) (l0:List bQ) (l1:List bQ):Option Bool:=if (l0.length:Int)=(l1.length:Int) then (dJ.l0 k l0 l1 0) else (some false)
theorem dJ.calls (k:Nat) (A0:Option Addr) (c0:Nat) (l0:List bQ) (A1:Option Addr) (c1:Nat) (l1:List bQ) (r:Bool) (w:World) (hr0:Kd.C jW w A0 l0.length l0) (hc0:l0.length<=c0) (hr1:Kd.C jW w A1 l1.length l1) (hc1:l1.length<=c1) (h:dJ.f k l0 l1=some r) :
  Calls Tryz.prog 32 #[.slice A0 l0.length c0,.slice A1 l1.length c1] w fun e w'=>e=.returned (.bool r)∧gU w w':=by
 have jY:=Tryz.underlying37;have Fp:=aj.mk hr0;have Zf:=aj.mk hc0;clear hr0 hc0;have HR1:=aj.mk hr1;have yE:=aj.mk hc1;clear hr1 hc1;have H:(if (l0.length:Int)=(l1.length:Int) then (dJ.l0 k l0 l1 0) else (some false))=some r:=h;clear h
 by_cases c3:(l0.length:Int)=(l1.length:Int)
 ·rw [if_pos c3] at H
  have qd:((l0.length:Int) == (l1.length:Int))=true:=beq_iff_eq.mpr c3;have yX:((l0.length:Int) != (l1.length:Int))=false:=bne_eq_false_iff_eq.mpr c3
  have Bo:(l0.length == l1.length)=true:=by first|simpa using c3|(simp at c3 ⊢;omega)
  clear c3;have H':=aj.mk H;clear H
  go_enter Tryz.func32,Tryz.ntmps32
  go_wp2
  repeat (go_quiet (fail);try go_wp2)
  go_loopg [5] k (fun kq v5 w'=>∃ (aT:Int),v5=.int .i64 aT∧aj (dJ.l0 kq l0 l1 aT=some r)∧aj (kq<=k)∧gU w w')
  case atStart=>exact ⟨(0),tS,H',⟨Nat.le_refl _⟩,tD⟩
  case round =>
   clear H'
   try clear c1
   try clear p2
   try clear c3
   try clear qd
   try clear yX
   try clear Bo
   obtain ⟨aT,rfl,HA,qg,⟨m1,rfl⟩⟩:=hrel
   cases gk with
   | zero=>exact absurd HA.out (by simp [dJ.l0])
   | succ k1 =>
    have H:=HA.out;clear HA;simp only [dJ.l0] at H
    by_cases c4:aT<(l0.length:Int)
    ·rw [if_pos c4] at H
     have pR:decide (aT<(l0.length:Int))=true:=decide_eq_true c4;clear c4
     by_cases c5:0<=aT
     ·rw [if_pos c5] at H
      have zC:decide (0<=aT)=true:=decide_eq_true c5;clear c5
      by_cases c6:aT<(l1.length:Int)
      ·rw [if_pos c6] at H
       have GV:decide (aT<(l1.length:Int))=true:=decide_eq_true c6;clear c6
       by_cases c7:(!(((bH l0 aT).f0) == ((bH l1 aT).f0))||(!(((bH l0 aT).f1) == ((bH l1 aT).f1))))=true
       ·rw [if_pos c7] at H
        have yL:(!(((bH l0 aT).f0) == ((bH l1 aT).f0))||(!(((bH l0 aT).f1) == ((bH l1 aT).f1))))=true:=c7;clear c7;obtain rfl:=Option.some.inj H;have Nq:0<=(aT:Int):=of_decide_eq_true tA;have Nr:aT<(l0.length:Int):=of_decide_eq_true tA;obtain ⟨qeQ,qbM,Yc,Yd⟩:=nI Fp.out aT Nq Nr
        cases qbM
        replace Nq:=eq_true Nq;replace Nr:=eq_true Nr;have Ns:0<=(aT:Int):=of_decide_eq_true tA;have Nt:aT<(l1.length:Int):=of_decide_eq_true tA;obtain ⟨qeR,qbN,Ye,Yf⟩:=nI HR1.out aT Ns Nt
        cases qbN
        replace Ns:=eq_true Ns;replace Nt:=eq_true Nt
        go_wp2
        repeat (go_quiet (fail);try go_wp2)
        go_ret
        exact ⟨tS,tD⟩
       ·rw [if_neg c7] at H
        have yL:(!(((bH l0 aT).f0) == ((bH l1 aT).f0))||(!(((bH l0 aT).f1) == ((bH l1 aT).f1))))=false:=by simpa using c7
        clear c7;have H':=aj.mk H;clear H;have Nq:0<=(aT:Int):=of_decide_eq_true tA;have Nr:aT<(l0.length:Int):=of_decide_eq_true tA;obtain ⟨qeQ,qbM,Yc,Yd⟩:=nI Fp.out aT Nq Nr
        cases qbM
        replace Nq:=eq_true Nq;replace Nr:=eq_true Nr;have Ns:0<=(aT:Int):=of_decide_eq_true tA;have Nt:aT<(l1.length:Int):=of_decide_eq_true tA;obtain ⟨qeR,qbN,Ye,Yf⟩:=nI HR1.out aT Ns Nt
        cases qbN
        replace Ns:=eq_true Ns;replace Nt:=eq_true Nt
        go_wp2
        repeat (go_quiet (fail);try go_wp2)
        go_roundg k1
        case measure=>have:=qg.out;omega
        case rel=>exact ⟨(wrap64 (aT+1)),tS,H',⟨by have:=qg.out;omega⟩,tD⟩
      ·rw [if_neg c6] at H
       exact absurd H (by simp)
     ·rw [if_neg c5] at H
      exact absurd H (by simp)
    ·rw [if_neg c4] at H
     have pR:decide (aT<(l0.length:Int))=false:=decide_eq_false c4;clear c4;obtain rfl:=Option.some.inj H
     go_wp2
     repeat (go_quiet (fail);try go_wp2)
     go_ret
     exact ⟨tS,tD⟩
 ·rw [if_neg c3] at H
  have qd:((l0.length:Int) == (l1.length:Int))=false:=beq_eq_false_iff_ne.mpr c3;have yX:((l0.length:Int) != (l1.length:Int))=true:=bne_iff_ne.mpr c3
  have Bo:(l0.length == l1.length)=false:=by first|simpa using c3|(simp at c3 ⊢;omega)
  obtain rfl:=Option.some.inj H
  go_enter Tryz.func32,Tryz.ntmps32
  go_wp2
  repeat (go_quiet (fail);try go_wp2)
  go_ret
  exact ⟨tS,tD⟩
end Go.Proofs.YtnpfbjnjdngkhaaGreatDoor.P
namespace Go.Proofs.YtnpfbjnjdngkhaaGreatDoor.P
open Go.RowKit Go.Proofs.YtnpfbjnjdngkhaaGreatDoorW.aQ Go.Proofs.YtnpfbjnjdngkhaaGreatDoorW.bO Go.Proofs.YtnpfbjnjdngkhaaGreatDoorW.bT
attribute [local go_sem] eP eT fU fV dS dU eU eX
def dX.l0:Nat->List Int->List Int->Int->Option Bool
 | 0,_,_,_=>none
 | k+1,x0,x1,x5=>if x5<(x0.length:Int) then (if 0<=x5 then (if x5<(x1.length:Int) then (if (rd x0 x5)=(rd x1 x5) then (dX.l0 k x0 x1 (wrap64 (x5+1))) else (some false)) else (none)) else (none)) else (some true)
def dX.f (k:Nat) (l0:List Int) (l1:List Int):Option Bool:=if (l0.length:Int)=(l1.length:Int) then (dX.l0 k l0 l1 0) else (some false)
theorem dX.calls (k:Nat) (A0:Option Addr) (c0:Nat) (l0:List Int) (A1:Option Addr) (c1:Nat) (l1:List Int) (r:Bool) (w:World) (hr0:Kd.C (Kd.int .i64) w A0 l0.length l0) (hc0:l0.length<=c0) (hr1:Kd.C (Kd.int .i64) w A1 l1.length l1) (hc1:l1.length<=c1) (h:dX.f k l0 l1=some r) :
  Calls Tryz.prog 38 #[.slice A0 l0.length c0,.slice A1 l1.length c1] w fun e w'=>e=.returned (.bool r)∧gU w w':=by
 have Fp:=aj.mk hr0;have Zf:=aj.mk hc0;clear hr0 hc0;have HR1:=aj.mk hr1;have yE:=aj.mk hc1;clear hr1 hc1;have H:(if (l0.length:Int)=(l1.length:Int) then (dX.l0 k l0 l1 0) else (some false))=some r:=h;clear h
 by_cases c3:(l0.length:Int)=(l1.length:Int)
 ·rw [if_pos c3] at H
  have qd:((l0.length:Int) == (l1.length:Int))=true:=beq_iff_eq.mpr c3;have yX:((l0.length:Int) != (l1.length:Int))=false:=bne_eq_false_iff_eq.mpr c3
  have Bo:(l0.length == l1.length)=true:=by first|simpa using c3|(simp at c3 ⊢;omega)
  clear c3;have H':=aj.mk H;clear H
  go_enter Tryz.func38,Tryz.ntmps38
  go_wp2
  repeat (go_quiet (fail);try go_wp2)
  go_loopg [5] k (fun kq v5 w'=>∃ (aT:Int),v5=.int .i64 aT∧aj (dX.l0 kq l0 l1 aT=some r)∧aj (kq<=k)∧gU w w')
  case atStart=>exact ⟨(0),tS,H',⟨Nat.le_refl _⟩,tD⟩
  case round =>
   clear H'
   try clear c1
   try clear p2
   try clear c3
   try clear qd
   try clear yX
   try clear Bo
   obtain ⟨aT,rfl,HA,qg,⟨m1,rfl⟩⟩:=hrel
   cases gk with
   | zero=>exact absurd HA.out (by simp [dX.l0])
   | succ k1 =>
    have H:=HA.out;clear HA;simp only [dX.l0] at H
    by_cases c4:aT<(l0.length:Int)
    ·rw [if_pos c4] at H
     have pR:decide (aT<(l0.length:Int))=true:=decide_eq_true c4;clear c4
     by_cases c5:0<=aT
     ·rw [if_pos c5] at H
      have zC:decide (0<=aT)=true:=decide_eq_true c5;clear c5
      by_cases c6:aT<(l1.length:Int)
      ·rw [if_pos c6] at H
       have GV:decide (aT<(l1.length:Int))=true:=decide_eq_true c6;clear c6
       by_cases c7:(rd l0 aT)=(rd l1 aT)
       ·rw [if_pos c7] at H
        have yL:((rd l0 aT) == (rd l1 aT))=true:=beq_iff_eq.mpr c7;have qbO:((rd l0 aT) != (rd l1 aT))=false:=bne_eq_false_iff_eq.mpr c7;clear c7;have H':=aj.mk H;clear H;have Nu:0<=(aT:Int):=of_decide_eq_true tA;have Nv:aT<(l0.length:Int):=of_decide_eq_true tA;obtain ⟨qeS,e190,Yg⟩:=Kd.iE Fp.out aT Nu Nv
        cases e190
        replace Nu:=eq_true Nu;replace Nv:=eq_true Nv;have Nw:0<=(aT:Int):=of_decide_eq_true tA;have Ny:aT<(l1.length:Int):=of_decide_eq_true tA;obtain ⟨qeT,qbP,Yh⟩:=Kd.iE HR1.out aT Nw Ny
        cases qbP
        replace Nw:=eq_true Nw;replace Ny:=eq_true Ny
        go_wp2
        repeat (go_quiet (fail);try go_wp2)
        go_roundg k1
        case measure=>have:=qg.out;omega
        case rel=>exact ⟨(wrap64 (aT+1)),tS,H',⟨by have:=qg.out;omega⟩,tD⟩
       ·rw [if_neg c7] at H
        have yL:((rd l0 aT) == (rd l1 aT))=false:=beq_eq_false_iff_ne.mpr c7;have qbO:((rd l0 aT) != (rd l1 aT))=true:=bne_iff_ne.mpr c7;obtain rfl:=Option.some.inj H;have Nu:0<=(aT:Int):=of_decide_eq_true tA;have Nv:aT<(l0.length:Int):=of_decide_eq_true tA;obtain ⟨qeS,e190,Yg⟩:=Kd.iE Fp.out aT Nu Nv
        cases e190
        replace Nu:=eq_true Nu;replace Nv:=eq_true Nv;have Nw:0<=(aT:Int):=of_decide_eq_true tA;have Ny:aT<(l1.length:Int):=of_decide_eq_true tA;obtain ⟨qeT,qbP,Yh⟩:=Kd.iE HR1.out aT Nw Ny
        cases qbP
        replace Nw:=eq_true Nw;replace Ny:=eq_true Ny
        go_wp2
        repeat (go_quiet (fail);try go_wp2)
        go_ret
        exact ⟨tS,tD⟩
      ·rw [if_neg c6] at H
       exact absurd H (by simp)
     ·rw [if_neg c5] at H
      exact absurd H (by simp)
    ·rw [if_neg c4] at H
     have pR:decide (aT<(l0.length:Int))=false:=decide_eq_false c4;clear c4;obtain rfl:=Option.some.inj H
     go_wp2
     repeat (go_quiet (fail);try go_wp2)
     go_ret
     exact ⟨tS,tD⟩
 ·rw [if_neg c3] at H
  have qd:((l0.length:Int) == (l1.length:Int))=false:=beq_eq_false_iff_ne.mpr c3;have yX:((l0.length:Int) != (l1.length:Int))=true:=bne_iff_ne.mpr c3
  have Bo:(l0.length == l1.length)=false:=by first|simpa using c3|(simp at c3 ⊢;omega)
  obtain rfl:=Option.some.inj H
  go_enter Tryz.func38,Tryz.ntmps38
  go_wp2
  repeat (go_quiet (fail);try go_wp2)
  go_ret
  exact ⟨tS,tD⟩
def gG.l0:Nat->List Int->List Int->Int->Option Bool
 | 0,_,_,_=>none
 | k+1,x0,x1,x5=>if x5<(x0.length:Int) then (if 0<=x5 then (if x5<(x1.length:Int) then (if (rd x0 x5)=(rd x1 x5) then (gG.l0 k x0 x1 (wrap64 (x5+1))) else (some false)) else (none)) else (none)) else (some true)
def gG.f (k:Nat) (l0:List Int) (l1:List Int):Option Bool:=if (l0.length:Int)=(l1.length:Int) then (gG.l0 k l0 l1 0) else (some false)
theorem gG.calls (k:Nat) (A0:Option Addr) (c0:Nat) (l0:List Int) (A1:Option Addr) (c1:Nat) (l1:List Int) (r:Bool) (w:World) (hr0:Kd.C (Kd.int .i64) w A0 l0.length l0) (hc0:l0.length<=c0) (hr1:Kd.C (Kd.int .i64) w A1 l1.length l1) (hc1:l1.length<=c1) (h:gG.f k l0 l1=some r) :
  Calls Tryz.prog 65 #[.slice A0 l0.length c0,.slice A1 l1.length c1] w fun e w'=>e=.returned (.bool r)∧gU w w':=by
 have Fp:=aj.mk hr0;have Zf:=aj.mk hc0;clear hr0 hc0;have HR1:=aj.mk hr1;have yE:=aj.mk hc1;clear hr1 hc1;have H:(if (l0.length:Int)=(l1.length:Int) then (gG.l0 k l0 l1 0) else (some false))=some r:=h;clear h
 by_cases c3:(l0.length:Int)=(l1.length:Int)
 ·rw [if_pos c3] at H
  have qd:((l0.length:Int) == (l1.length:Int))=true:=beq_iff_eq.mpr c3;have yX:((l0.length:Int) != (l1.length:Int))=false:=bne_eq_false_iff_eq.mpr c3
  have Bo:(l0.length == l1.length)=true:=by first|simpa using c3|(simp at c3 ⊢;omega)
  clear c3;have H':=aj.mk H;clear H
  go_enter Tryz.func65,Tryz.ntmps65
  go_wp2
  repeat (go_quiet (fail);try go_wp2)
  go_loopg [5] k (fun kq v5 w'=>∃ (aT:Int),v5=.int .i64 aT∧aj (gG.l0 kq l0 l1 aT=some r)∧aj (kq<=k)∧gU w w')
  case atStart=>exact ⟨(0),tS,H',⟨Nat.le_refl _⟩,tD⟩
  case round =>
   clear H'
   try clear c1
   try clear p2
   try clear c3
   try clear qd
   try clear yX
   try clear Bo
   obtain ⟨aT,rfl,HA,qg,⟨m1,rfl⟩⟩:=hrel
   cases gk with
   | zero=>exact absurd HA.out (by simp [gG.l0])
   | succ k1 =>
    have H:=HA.out;clear HA;simp only [gG.l0] at H
    by_cases c4:aT<(l0.length:Int)
    ·rw [if_pos c4] at H
     have pR:decide (aT<(l0.length:Int))=true:=decide_eq_true c4;clear c4
     by_cases c5:0<=aT
     ·rw [if_pos c5] at H
      have zC:decide (0<=aT)=true:=decide_eq_true c5;clear c5
      by_cases c6:aT<(l1.length:Int)
      ·rw [if_pos c6] at H
       have GV:decide (aT<(l1.length:Int))=true:=decide_eq_true c6;clear c6
       by_cases c7:(rd l0 aT)=(rd l1 aT)
       ·rw [if_pos c7] at H
        have yL:((rd l0 aT) == (rd l1 aT))=true:=beq_iff_eq.mpr c7;have qbO:((rd l0 aT) != (rd l1 aT))=false:=bne_eq_false_iff_eq.mpr c7;clear c7;have H':=aj.mk H;clear H;have Nz:0<=(aT:Int):=of_decide_eq_true tA;have NA:aT<(l0.length:Int):=of_decide_eq_true tA;obtain ⟨qeU,e305,Yi⟩:=Kd.iE Fp.out aT Nz NA
        cases e305
        replace Nz:=eq_true Nz;replace NA:=eq_true NA;have NC:0<=(aT:Int):=of_decide_eq_true tA;have ND:aT<(l1.length:Int):=of_decide_eq_true tA;obtain ⟨qeV,e306,Yj⟩:=Kd.iE HR1.out aT NC ND
        cases e306
        replace NC:=eq_true NC;replace ND:=eq_true ND
        go_wp2
        repeat (go_quiet (fail);try go_wp2)
        go_roundg k1
        case measure=>have:=qg.out;omega
        case rel=>exact ⟨(wrap64 (aT+1)),tS,H',⟨by have:=qg.out;omega⟩,tD⟩
       ·rw [if_neg c7] at H
        have yL:((rd l0 aT) == (rd l1 aT))=false:=beq_eq_false_iff_ne.mpr c7;have qbO:((rd l0 aT) != (rd l1 aT))=true:=bne_iff_ne.mpr c7;obtain rfl:=Option.some.inj H;have Nz:0<=(aT:Int):=of_decide_eq_true tA;have NA:aT<(l0.length:Int):=of_decide_eq_true tA;obtain ⟨qeU,e305,Yi⟩:=Kd.iE Fp.out aT Nz NA
        cases e305
        replace Nz:=eq_true Nz;replace NA:=eq_true NA;have NC:0<=(aT:Int):=of_decide_eq_true tA;have ND:aT<(l1.length:Int):=of_decide_eq_true tA;obtain ⟨qeV,e306,Yj⟩:=Kd.iE HR1.out aT NC ND
        cases e306
        replace NC:=eq_true NC;replace ND:=eq_true ND
        go_wp2
        repeat (go_quiet (fail);try go_wp2)
        go_ret
        exact ⟨tS,tD⟩
      ·rw [if_neg c6] at H
       exact absurd H (by simp)
     ·rw [if_neg c5] at H
      exact absurd H (by simp)
    ·rw [if_neg c4] at H
     have pR:decide (aT<(l0.length:Int))=false:=decide_eq_false c4;clear c4;obtain rfl:=Option.some.inj H
     go_wp2
     repeat (go_quiet (fail);try go_wp2)
     go_ret
     exact ⟨tS,tD⟩
 ·rw [if_neg c3] at H
  have qd:((l0.length:Int) == (l1.length:Int))=false:=beq_eq_false_iff_ne.mpr c3;have yX:((l0.length:Int) != (l1.length:Int))=true:=bne_iff_ne.mpr c3
  have Bo:(l0.length == l1.length)=false:=by first|simpa using c3|(simp at c3 ⊢;omega)
  obtain rfl:=Option.some.inj H
  go_enter Tryz.func65,Tryz.ntmps65
  go_wp2
  repeat (go_quiet (fail);try go_wp2)
  go_ret
  exact ⟨tS,tD⟩
def zi (h:List bI) (ws:List Int) (l:List bB) (d t n:Int):Option (Int × Int):=bV.f 1000 h ws (l++[⟨d,t,⟨n,n⟩⟩])
def isR (w0 w1:Int):Option (Int × Int)->Bool
 | some (a,b)=>decide (w0<=a)&&decide (b<=w1)
 | none=>false
def qR (is:Int->Bool):Nat->Int->Bool->Int->Int->Bool × Int × Int
 | 0,_,met,lo,hi=>(met,lo,hi)
 | m+1,n,met,lo,hi=>if is n then (if met then qR is m (n+1) true lo n else qR is m (n+1) true n n) else (if met then (true,lo,hi) else qR is m (n+1) false lo hi)
def ZU (h:List bI) (ws:List Int) (l:List bB) (d t:Int) (want:bQ):Bool:=iN h&&(oJ h.length ws&&(iq h.length l&&(!decide (l.length=3)&&(oN d 0 (h.length - 1)&&(oN t 0 2&&Ci want)))))
def xO (h:List bI) (ws:List Int) (l:List bB) (d t w0 w1:Int):Bool × Int × Int:=qR (fun n=>isR w0 w1 (zi h ws l d t n)) 13 0 false 0 0
def xP.f (h:List bI) (ws:List Int) (l:List bB) (d t w0 w1:Int):Option (Int × Int × Int) :=
 if ZU h ws l d t ⟨w0,w1⟩ then (if (List.range 13).all (fun n=>(zi h ws l d t (n:Int)).isSome) then
  some (if (xO h ws l d t w0 w1).1 then ((xO h ws l d t w0 w1).2.1,(xO h ws l d t w0 w1).2.2,0) else (0,0,5)) else none) else some (0,0,2)
theorem Bx.tail {p:Nat × Obj} {L:List (Nat × Obj)} {w W:World} (h:Bx (p::L) w W):Bx L w W:=⟨h.below,fun q hq=>h.get q (List.mem_cons_of_mem _ hq),fun q hq=>h.lo q (List.mem_cons_of_mem _ hq),(List.nodup_cons.1 h.nd).2⟩
structure CR where
 v4:Value
 v11:Value
 v12:Value
 g:Nat
theorem Bx.row {L:List (Nat × Obj)} {w W w1:World} {row:Option Nat} (h:Bx L w W) (hg:W.grownBy w1 row) (hlo:∀ k,row=some k->w.heap.size<=k) (hne:∀ p∈L,some p.1≠row):Bx L w w1 :=
 ⟨kH h.below row h.below.size hg hlo,fun p hp=>(hg.block _ (bZ (h.get p hp)) (hne p hp)).trans (h.get p hp),h.lo,h.nd⟩
theorem RP {L:List (Nat × Obj)} {w W:World} {P:Program} {ops:Array Oper} {o:Oper} {a:Act} {Q:Exit->Act->World->Prop} {Kc:Act->World->Prop} (hw:Region.wanted o (yielded ops a.tmps)=true) (hN:o.dst=none) {t:TypeId} {p:Tmp} {v:Operand} (ho:o.op=.store t (.tmp p) v) (HX:Bx L w W) (n:Nat)
  {g i:Nat} {cs:Array Value} {t':TypeId} (hn:L[n]?=some (g,.cells cs t' (0,0))) (u:Value) (seg:List Value) (cs':Array Value)
  (hp:a.eval (.tmp p)=.pointer (some ⟨g,i,none⟩)) (hv:a.eval v=u) (hu:u.cells.toList=seg) (ht:(P.info? t).map (·.size)=some seg.length) (hfit:i+seg.length<=cs.size) (h1:∀ q∈seg,q.oneCell'=true)
  (hcs:cs.toList.take i++seg++cs.toList.drop (i+seg.length)=cs'.toList)
  (h:∀ w1,Bx (L.set n (g,.cells cs' t' (0,0))) w w1->W.grownBy w1 (some g)->Kc a w1):if Region.wanted o (yielded ops a.tmps)=true then Oper.wp P o a W Kc Q else Kc (a.put none undef) W:=by
 have HK:=HX.get _ (List.mem_of_getElem? hn);obtain ⟨cur',h3,h4,h5⟩:=lg seg i W cs HK hfit;obtain ⟨s1,s2,s3,s4⟩:=jV g seg i W;have hg:W.grownBy (W.setCells g i seg) (some g):=⟨s1,s2,s3,by rw [s4];exact Nat.le_refl _,fun k _ hk=>jT _ _ k (fun he=>hk (by rw [he]))⟩
 obtain rfl:cur'=cs':=by rw [← Array.toList_inj,h5,hcs]
 refine YM hw hN (w1:=W.setCells g i seg) ?_ (h _ (HX.put n hn hg h3) hg);have hr:=qx (P:=P) t u seg HK hu ht hfit h1
 unfold execOp
 rw [ho];simp only [hp,hv];simp [hr]
theorem xP.calls (bC:Option Addr) (aZ:Nat) (av:List bI) (fP:Option Addr) (fK:Nat) (bF:List Int) (A2:Option Addr) (c2:Nat) (l2:List bB) (a3:Int) (a4:Int) (ni:Int) (nk:Int) (r1:Int) (r2:Int) (r3:Int) (w:World) (dw:Kd.C iG w bC av.length av) (dG:av.length<=aZ) (jU:Kd.C (Kd.int .i64) w fP bF.length bF) (mM:bF.length<=fK) (hr2:Kd.C eD w A2 l2.length l2) (hc2:l2.length<=c2) (h:xP.f av bF l2 a3 a4 ni nk=some (r1,r2,r3)) :
  Calls Tryz.prog 40 #[.agg #[.slice bC av.length aZ],.agg #[.slice fP bF.length fK],.slice A2 l2.length c2,.int .i64 a3,.int .i64 a4,.agg #[.int .i64 ni,.int .i64 nk]] w fun e w'=>e=.returned (.tuple #[.agg #[.int .i64 r1,.int .i64 r2],.int .i64 r3])∧Below w.heap.size w w':=by
 have HX:=Bx.nil w
 have K1:=fun w1 (hb:Below w.heap.size w w1)=>c105 bC aZ av w1 (Kd.ak dw hb) dG
 have K2:=fun w1 (hb:Below w.heap.size w w1)=>c116 bC aZ av w1 (Kd.ak dw hb) dG fP fK bF (Kd.ak jU hb) mM
 have K3:=fun w1 (hb:Below w.heap.size w w1)=>qbi bC aZ av w1 (Kd.ak dw hb) dG A2 c2 l2 (Kd.ak hr2 hb) hc2
 have K5:=fun w1=>rC a3 0 (av.length - 1) w1
 have K6:=fun w1=>rC a4 0 2 w1
 have K7:=fun w1=>qjz ni nk w1
 have hm0:av.length<=9223372036854775807:=dw.2.1;have HR:=aj.mk (And.intro dw (And.intro jU hr2))
 unfold xP.f ZU at h
 obtain ⟨b1,hb1⟩:∃ b,b=iN av:=⟨_,rfl⟩;obtain ⟨b2,hb2⟩:∃ b,b=oJ av.length bF:=⟨_,rfl⟩;obtain ⟨b3,hb3⟩:∃ b,b=iq av.length l2:=⟨_,rfl⟩;obtain ⟨b5,hb5⟩:∃ b,b=oN a3 0 (av.length - 1):=⟨_,rfl⟩;obtain ⟨b6,hb6⟩:∃ b,b=oN a4 0 2:=⟨_,rfl⟩;obtain ⟨b7,hb7⟩:∃ b,b=Ci ⟨ni,nk⟩:=⟨_,rfl⟩;have HG:=aj.mk (And.intro hb1 (And.intro hb2 (And.intro hb3 (And.intro hb5 (And.intro hb6 hb7)))));rw [← hb1,← hb2,← hb3,← hb5,← hb6,← hb7] at h;rw [← hb1] at K1;rw [← hb2] at K2;rw [← hb3] at K3;rw [← hb5] at K5;rw [← hb6] at K6;rw [← hb7] at K7;clear hb1 hb2 hb3 hb5 hb6 hb7 dw jU hr2;have qb:=Tryz.underlying24;have GQ:=Tryz.underlying49;have wR:=Tryz.underlying149;have BR:=Tryz.underlying154;have jY:=Tryz.underlying37
 have hc:(b1=false∨b1=true∧b2=false∨b1=true∧b2=true∧b3=false∨b1=true∧b2=true∧b3=true∧l2.length=3∨b1=true∧b2=true∧b3=true∧l2.length≠3∧b5=false∨b1=true∧b2=true∧b3=true∧l2.length≠3∧b5=true∧b6=false∨b1=true∧b2=true∧b3=true∧l2.length≠3∧b5=true∧b6=true∧b7=false)∨(b1=true∧b2=true∧b3=true∧l2.length≠3∧b5=true∧b6=true∧b7=true):=by
  by_cases hl:l2.length=3<;>cases b1<;>cases b2<;>cases b3<;>cases b5<;>cases b6<;>cases b7<;>simp [hl]
 rcases hc with hc|hc
 ·obtain ⟨rfl,rfl,rfl⟩:r1=0∧r2=0∧r3=2:=by
   rcases hc with rfl|⟨rfl,rfl⟩|⟨rfl,rfl,rfl⟩|⟨rfl,rfl,rfl,hl⟩|⟨rfl,rfl,rfl,hl,rfl⟩|⟨rfl,rfl,rfl,hl,rfl,rfl⟩|⟨rfl,rfl,rfl,hl,rfl,rfl,rfl⟩<;>(simp (config:={ failIfUnchanged:=false }) [*] at h;exact ⟨h.1.symm,h.2.1.symm,h.2.2.symm⟩)
  clear h HG
  have hl0:l2.length=3∨((l2.length:Int) == 3)=false:=by
   by_cases hl:l2.length=3
   ·exact .inl hl
   ·exact .inr (by simp;omega)
  rcases hc with rfl|⟨rfl,rfl⟩|⟨rfl,rfl,rfl⟩|⟨rfl,rfl,rfl,hl⟩|⟨rfl,rfl,rfl,hl,rfl⟩|⟨rfl,rfl,rfl,hl,rfl,rfl⟩|⟨rfl,rfl,rfl,hl,rfl,rfl,rfl⟩
  case inl.inr.inr.inr.inl =>
   have hl3:((l2.length:Int) == 3)=true:=by simp [hl]
   clear hl hl0
   go_enter Tryz.func40,Tryz.ntmps40
   go_wp2_with (first|((with_reducible refine au (N:=6) rfl ?_);refine newX rfl rfl HX (cs:=#[.slice bC av.length aZ]) (t:=24) tG ?_;clear HX;intro g6 w6 HX hx hz;clear hx hz)|((with_reducible refine au (N:=7) rfl ?_);refine newX rfl rfl HX (cs:=#[.slice fP bF.length fK]) (t:=49) tG ?_;clear HX;intro g7 w7 HX hx hz;clear hx hz)|((with_reducible refine au (N:=11) rfl ?_);refine newX rfl rfl HX (cs:=#[.int .i64 ni,.int .i64 nk]) (t:=37) tG ?_;clear HX;intro g11 Jc HX hx hz;clear hx hz)|((with_reducible refine au (N:=12) rfl ?_);refine newX rfl rfl HX (cs:=#[.int .i64 0,.int .i64 0]) (t:=37) tG ?_;clear HX;intro g12 yO HX hx hz;clear hx hz;have ch:=HX.g1 3 rfl;have cl:=HX.g1 2 rfl;obtain ⟨uf,ug⟩:=HX.g2 1 rfl;obtain ⟨nM,nN⟩:=HX.g2 0 rfl))
   go_step3
   go_wp2_with (first|(go_at_call 105;(with_reducible refine (K1 _ HX.below).mono ?_);rintro e w1 ⟨rfl,hx⟩;replace HX:=HX.step hx;clear hx ch cl uf ug nM nN;have ch:=HX.g1 3 rfl;have cl:=HX.g1 2 rfl;obtain ⟨uf,ug⟩:=HX.g2 1 rfl;obtain ⟨nM,nN⟩:=HX.g2 0 rfl)|(go_at_call 116;(with_reducible refine (K2 _ HX.below).mono ?_);rintro e w1 ⟨rfl,hx⟩;replace HX:=HX.step hx;clear hx ch cl uf ug nM nN;have ch:=HX.g1 3 rfl;have cl:=HX.g1 2 rfl;obtain ⟨uf,ug⟩:=HX.g2 1 rfl;obtain ⟨nM,nN⟩:=HX.g2 0 rfl)|(go_at_call 106;(with_reducible refine (K3 _ HX.below).mono ?_);rintro e w1 ⟨rfl,hx⟩;replace HX:=HX.step hx;clear hx ch cl uf ug nM nN;have ch:=HX.g1 3 rfl;have cl:=HX.g1 2 rfl;obtain ⟨uf,ug⟩:=HX.g2 1 rfl;obtain ⟨nM,nN⟩:=HX.g2 0 rfl)|(go_at_call 113;(with_reducible first|refine (K5 _).mono ?_|refine (K6 _).mono ?_);rintro e w1 ⟨rfl,hx⟩;replace HX:=HX.step hx;clear hx ch cl uf ug nM nN;have ch:=HX.g1 3 rfl;have cl:=HX.g1 2 rfl;obtain ⟨uf,ug⟩:=HX.g2 1 rfl;obtain ⟨nM,nN⟩:=HX.g2 0 rfl)|(go_at_call 122;(with_reducible refine (K7 _).mono ?_);rintro e w1 ⟨rfl,hx⟩;replace HX:=HX.step hx;clear hx ch cl uf ug nM nN;have ch:=HX.g1 3 rfl;have cl:=HX.g1 2 rfl;obtain ⟨uf,ug⟩:=HX.g2 1 rfl;obtain ⟨nM,nN⟩:=HX.g2 0 rfl)|((with_reducible refine aY (t:=37) (p:=12) rfl ?_);refine jZ rfl rfl rfl HX 0 rfl (i:=0) (.agg #[.int .i64 0,.int .i64 0]) [.int .i64 0,.int .i64 0] #[.int .i64 0,.int .i64 0] rfl rfl rfl tX (by simp) (by simp [Value.oneCell']) rfl ?_;clear HX;intro w9 HX hx;clear hx;dsimp only [List.set] at HX))
   rw [Exit.noGoto_ret];refine bodyPost_ret (kW rfl _ _ g12 37 #[.int .i64 0,.int .i64 0] (0,0) _ rfl (HX.gb 0 rfl) Tryz.underlying37 rfl tX) rfl ?_;exact ⟨rfl,HX.below⟩
  case inl.inl|inl.inr.inl|inl.inr.inr.inl =>
   clear hl0
   go_enter Tryz.func40,Tryz.ntmps40
   go_wp2_with (first|((with_reducible refine au (N:=6) rfl ?_);refine newX rfl rfl HX (cs:=#[.slice bC av.length aZ]) (t:=24) tG ?_;clear HX;intro g6 w6 HX hx hz;clear hx hz)|((with_reducible refine au (N:=7) rfl ?_);refine newX rfl rfl HX (cs:=#[.slice fP bF.length fK]) (t:=49) tG ?_;clear HX;intro g7 w7 HX hx hz;clear hx hz)|((with_reducible refine au (N:=11) rfl ?_);refine newX rfl rfl HX (cs:=#[.int .i64 ni,.int .i64 nk]) (t:=37) tG ?_;clear HX;intro g11 Jc HX hx hz;clear hx hz)|((with_reducible refine au (N:=12) rfl ?_);refine newX rfl rfl HX (cs:=#[.int .i64 0,.int .i64 0]) (t:=37) tG ?_;clear HX;intro g12 yO HX hx hz;clear hx hz;have ch:=HX.g1 3 rfl;have cl:=HX.g1 2 rfl;obtain ⟨uf,ug⟩:=HX.g2 1 rfl;obtain ⟨nM,nN⟩:=HX.g2 0 rfl))
   go_step3
   go_wp2_with (first|(go_at_call 105;(with_reducible refine (K1 _ HX.below).mono ?_);rintro e w1 ⟨rfl,hx⟩;replace HX:=HX.step hx;clear hx ch cl uf ug nM nN;have ch:=HX.g1 3 rfl;have cl:=HX.g1 2 rfl;obtain ⟨uf,ug⟩:=HX.g2 1 rfl;obtain ⟨nM,nN⟩:=HX.g2 0 rfl)|(go_at_call 116;(with_reducible refine (K2 _ HX.below).mono ?_);rintro e w1 ⟨rfl,hx⟩;replace HX:=HX.step hx;clear hx ch cl uf ug nM nN;have ch:=HX.g1 3 rfl;have cl:=HX.g1 2 rfl;obtain ⟨uf,ug⟩:=HX.g2 1 rfl;obtain ⟨nM,nN⟩:=HX.g2 0 rfl)|(go_at_call 106;(with_reducible refine (K3 _ HX.below).mono ?_);rintro e w1 ⟨rfl,hx⟩;replace HX:=HX.step hx;clear hx ch cl uf ug nM nN;have ch:=HX.g1 3 rfl;have cl:=HX.g1 2 rfl;obtain ⟨uf,ug⟩:=HX.g2 1 rfl;obtain ⟨nM,nN⟩:=HX.g2 0 rfl)|(go_at_call 113;(with_reducible first|refine (K5 _).mono ?_|refine (K6 _).mono ?_);rintro e w1 ⟨rfl,hx⟩;replace HX:=HX.step hx;clear hx ch cl uf ug nM nN;have ch:=HX.g1 3 rfl;have cl:=HX.g1 2 rfl;obtain ⟨uf,ug⟩:=HX.g2 1 rfl;obtain ⟨nM,nN⟩:=HX.g2 0 rfl)|(go_at_call 122;(with_reducible refine (K7 _).mono ?_);rintro e w1 ⟨rfl,hx⟩;replace HX:=HX.step hx;clear hx ch cl uf ug nM nN;have ch:=HX.g1 3 rfl;have cl:=HX.g1 2 rfl;obtain ⟨uf,ug⟩:=HX.g2 1 rfl;obtain ⟨nM,nN⟩:=HX.g2 0 rfl)|((with_reducible refine aY (t:=37) (p:=12) rfl ?_);refine jZ rfl rfl rfl HX 0 rfl (i:=0) (.agg #[.int .i64 0,.int .i64 0]) [.int .i64 0,.int .i64 0] #[.int .i64 0,.int .i64 0] rfl rfl rfl tX (by simp) (by simp [Value.oneCell']) rfl ?_;clear HX;intro w9 HX hx;clear hx;dsimp only [List.set] at HX))
   rw [Exit.noGoto_ret];refine bodyPost_ret (kW rfl _ _ g12 37 #[.int .i64 0,.int .i64 0] (0,0) _ rfl (HX.gb 0 rfl) Tryz.underlying37 rfl tX) rfl ?_;exact ⟨rfl,HX.below⟩
  all_goals
   have hl3:=hl0.resolve_left hl;clear hl hl0
   go_enter Tryz.func40,Tryz.ntmps40
   go_wp2_with (first|((with_reducible refine au (N:=6) rfl ?_);refine newX rfl rfl HX (cs:=#[.slice bC av.length aZ]) (t:=24) tG ?_;clear HX;intro g6 w6 HX hx hz;clear hx hz)|((with_reducible refine au (N:=7) rfl ?_);refine newX rfl rfl HX (cs:=#[.slice fP bF.length fK]) (t:=49) tG ?_;clear HX;intro g7 w7 HX hx hz;clear hx hz)|((with_reducible refine au (N:=11) rfl ?_);refine newX rfl rfl HX (cs:=#[.int .i64 ni,.int .i64 nk]) (t:=37) tG ?_;clear HX;intro g11 Jc HX hx hz;clear hx hz)|((with_reducible refine au (N:=12) rfl ?_);refine newX rfl rfl HX (cs:=#[.int .i64 0,.int .i64 0]) (t:=37) tG ?_;clear HX;intro g12 yO HX hx hz;clear hx hz;have ch:=HX.g1 3 rfl;have cl:=HX.g1 2 rfl;obtain ⟨uf,ug⟩:=HX.g2 1 rfl;obtain ⟨nM,nN⟩:=HX.g2 0 rfl))
   go_step3
   go_wp2_with (first|(go_at_call 105;(with_reducible refine (K1 _ HX.below).mono ?_);rintro e w1 ⟨rfl,hx⟩;replace HX:=HX.step hx;clear hx ch cl uf ug nM nN;have ch:=HX.g1 3 rfl;have cl:=HX.g1 2 rfl;obtain ⟨uf,ug⟩:=HX.g2 1 rfl;obtain ⟨nM,nN⟩:=HX.g2 0 rfl)|(go_at_call 116;(with_reducible refine (K2 _ HX.below).mono ?_);rintro e w1 ⟨rfl,hx⟩;replace HX:=HX.step hx;clear hx ch cl uf ug nM nN;have ch:=HX.g1 3 rfl;have cl:=HX.g1 2 rfl;obtain ⟨uf,ug⟩:=HX.g2 1 rfl;obtain ⟨nM,nN⟩:=HX.g2 0 rfl)|(go_at_call 106;(with_reducible refine (K3 _ HX.below).mono ?_);rintro e w1 ⟨rfl,hx⟩;replace HX:=HX.step hx;clear hx ch cl uf ug nM nN;have ch:=HX.g1 3 rfl;have cl:=HX.g1 2 rfl;obtain ⟨uf,ug⟩:=HX.g2 1 rfl;obtain ⟨nM,nN⟩:=HX.g2 0 rfl)|(go_at_call 113;(with_reducible first|refine (K5 _).mono ?_|refine (K6 _).mono ?_);rintro e w1 ⟨rfl,hx⟩;replace HX:=HX.step hx;clear hx ch cl uf ug nM nN;have ch:=HX.g1 3 rfl;have cl:=HX.g1 2 rfl;obtain ⟨uf,ug⟩:=HX.g2 1 rfl;obtain ⟨nM,nN⟩:=HX.g2 0 rfl)|(go_at_call 122;(with_reducible refine (K7 _).mono ?_);rintro e w1 ⟨rfl,hx⟩;replace HX:=HX.step hx;clear hx ch cl uf ug nM nN;have ch:=HX.g1 3 rfl;have cl:=HX.g1 2 rfl;obtain ⟨uf,ug⟩:=HX.g2 1 rfl;obtain ⟨nM,nN⟩:=HX.g2 0 rfl)|((with_reducible refine aY (t:=37) (p:=12) rfl ?_);refine jZ rfl rfl rfl HX 0 rfl (i:=0) (.agg #[.int .i64 0,.int .i64 0]) [.int .i64 0,.int .i64 0] #[.int .i64 0,.int .i64 0] rfl rfl rfl tX (by simp) (by simp [Value.oneCell']) rfl ?_;clear HX;intro w9 HX hx;clear hx;dsimp only [List.set] at HX))
   rw [Exit.noGoto_ret];refine bodyPost_ret (kW rfl _ _ g12 37 #[.int .i64 0,.int .i64 0] (0,0) _ rfl (HX.gb 0 rfl) Tryz.underlying37 rfl tX) rfl ?_;exact ⟨rfl,HX.below⟩
 ·obtain ⟨rfl,rfl,rfl,hl,rfl,rfl,rfl⟩:=hc
  have hl3:((l2.length:Int) == 3)=false:=by simp;omega
  have hL:∀ n:Nat,n<13->∃ a b,zi av bF l2 a3 a4 n=some (a,b):=by
   intro n hn;simp only [decide_eq_false hl,Bool.not_false,Bool.and_self,if_true] at h
   by_cases ha:((List.range 13).all fun n=>(zi av bF l2 a3 a4 (n:Int)).isSome)=true
   ·have:=List.all_eq_true.1 ha n (List.mem_range.2 hn)
    obtain ⟨x,hx⟩:=Option.isSome_iff_exists.1 this;exact ⟨x.1,x.2,hx⟩
   ·rw [if_neg ha] at h;cases h
  have hR:(if (xO av bF l2 a3 a4 ni nk).1 then ((xO av bF l2 a3 a4 ni nk).2.1,(xO av bF l2 a3 a4 ni nk).2.2,0) else ((0:Int),(0:Int),(5:Int)))=(r1,r2,r3):=by
   simp only [decide_eq_false hl,Bool.not_false,Bool.and_self,if_true] at h
   split at h
   ·exact Option.some.inj h
   ·cases h
  have HL:=aj.mk hL;have HRR:=aj.mk hR;have HN:=aj.mk (show l2.length<=3 from (qI HG.out.2.2.1.symm).len);clear h hL hR hl
  obtain ⟨is,his⟩:∃ is:Int->Bool,is=fun n=>isR ni nk (zi av bF l2 a3 a4 n):=⟨_,rfl⟩
  have HIS:=aj.mk his;clear his
  go_enter Tryz.func40,Tryz.ntmps40
  go_wp2_with (first|((with_reducible refine au (N:=6) rfl ?_);refine newX rfl rfl HX (cs:=#[.slice bC av.length aZ]) (t:=24) tG ?_;clear HX;intro g6 w6 HX hx hz;clear hx hz)|((with_reducible refine au (N:=7) rfl ?_);refine newX rfl rfl HX (cs:=#[.slice fP bF.length fK]) (t:=49) tG ?_;clear HX;intro g7 w7 HX hx hz;clear hx hz)|((with_reducible refine au (N:=11) rfl ?_);refine newX rfl rfl HX (cs:=#[.int .i64 ni,.int .i64 nk]) (t:=37) tG ?_;clear HX;intro g11 Jc HX hx hz;clear hx hz)|((with_reducible refine au (N:=12) rfl ?_);refine newX rfl rfl HX (cs:=#[.int .i64 0,.int .i64 0]) (t:=37) tG ?_;clear HX;intro g12 yO HX hx hz;clear hx hz;have ch:=HX.g1 3 rfl;have cl:=HX.g1 2 rfl;obtain ⟨uf,ug⟩:=HX.g2 1 rfl;obtain ⟨nM,nN⟩:=HX.g2 0 rfl))
  go_step3
  go_wp2_with (first|(go_at_call 105;(with_reducible refine (K1 _ HX.below).mono ?_);rintro e w1 ⟨rfl,hx⟩;replace HX:=HX.step hx;clear hx ch cl uf ug nM nN;have ch:=HX.g1 3 rfl;have cl:=HX.g1 2 rfl;obtain ⟨uf,ug⟩:=HX.g2 1 rfl;obtain ⟨nM,nN⟩:=HX.g2 0 rfl)|(go_at_call 116;(with_reducible refine (K2 _ HX.below).mono ?_);rintro e w1 ⟨rfl,hx⟩;replace HX:=HX.step hx;clear hx ch cl uf ug nM nN;have ch:=HX.g1 3 rfl;have cl:=HX.g1 2 rfl;obtain ⟨uf,ug⟩:=HX.g2 1 rfl;obtain ⟨nM,nN⟩:=HX.g2 0 rfl)|(go_at_call 106;(with_reducible refine (K3 _ HX.below).mono ?_);rintro e w1 ⟨rfl,hx⟩;replace HX:=HX.step hx;clear hx ch cl uf ug nM nN;have ch:=HX.g1 3 rfl;have cl:=HX.g1 2 rfl;obtain ⟨uf,ug⟩:=HX.g2 1 rfl;obtain ⟨nM,nN⟩:=HX.g2 0 rfl)|(go_at_call 113;(with_reducible first|refine (K5 _).mono ?_|refine (K6 _).mono ?_);rintro e w1 ⟨rfl,hx⟩;replace HX:=HX.step hx;clear hx ch cl uf ug nM nN;have ch:=HX.g1 3 rfl;have cl:=HX.g1 2 rfl;obtain ⟨uf,ug⟩:=HX.g2 1 rfl;obtain ⟨nM,nN⟩:=HX.g2 0 rfl)|(go_at_call 122;(with_reducible refine (K7 _).mono ?_);rintro e w1 ⟨rfl,hx⟩;replace HX:=HX.step hx;clear hx ch cl uf ug nM nN;have ch:=HX.g1 3 rfl;have cl:=HX.g1 2 rfl;obtain ⟨uf,ug⟩:=HX.g2 1 rfl;obtain ⟨nM,nN⟩:=HX.g2 0 rfl)|((with_reducible refine au (N:=14) rfl ?_);refine newX rfl rfl HX (cs:=#[.int .i64 0,.int .i64 0]) (t:=37) tG ?_;clear HX;intro g14 R8 HX hx hz;clear hx hz;clear ch cl uf ug nM nN))
  refine wp_label ?_
  go_wp2_with (fail)
  go_loopw [15,59] (fun v15 v59 W=>∃ (n:Nat) (met:Bool) (lo hi:Int),v15=.bool met∧v59=.int .i64 n∧n<=13∧aj (qR is (13 - n) n met lo hi=xO av bF l2 a3 a4 ni nk)∧Bx [(g14,.cells #[.int .i64 lo,.int .i64 hi] 37 (0,0)),(g12,.cells #[.int .i64 0,.int .i64 0] 37 (0,0)),(g11,.cells #[.int .i64 ni,.int .i64 nk] 37 (0,0)),(g7,.cells #[.slice fP bF.length fK] 49 (0,0)),(g6,.cells #[.slice bC av.length aZ] 24 (0,0))] w W) (fun _ v59 _=>(13 - intOf v59).toNat)
  case atStart=>exact ⟨0,false,0,0,rfl,rfl,by omega,⟨by rw [HIS.out];rfl⟩,HX⟩
  case round =>
   clear HX;obtain ⟨n,met,lo,hi,rfl,rfl,hn,HI,HX⟩:=hrel
   by_cases hlt:n<13
   ·have ch:=HX.g1 4 rfl
    have cl:=HX.g1 3 rfl
    go_wp2_with (fail)
    go_cut [17] (fun v17 wc=>∃ (g17:Nat) (a b:Int),v17=.pointer (some ⟨g17,0,none⟩)∧aj (zi av bF l2 a3 a4 n=some (a,b))∧Bx ((g17,.cells #[.int .i64 a,.int .i64 b] 37 (0,0))::[(g14,.cells #[.int .i64 lo,.int .i64 hi] 37 (0,0)),(g12,.cells #[.int .i64 0,.int .i64 0] 37 (0,0)),(g11,.cells #[.int .i64 ni,.int .i64 nk] 37 (0,0)),(g7,.cells #[.slice fP bF.length fK] 49 (0,0)),(g6,.cells #[.slice bC av.length aZ] 24 (0,0))]) w wc)
    case first =>
     obtain ⟨a,b,hab⟩:=HL.out n hlt;have HAB:=aj.mk hab;have HCF:=aj.mk (show eF.f l2=some l2 by unfold eF.f;rw [if_pos (by have:=HN.out;omega)]);clear hab;refine kK (n:=16) (S:=fun w'=>w'.cell? ⟨g6,0,none⟩=some (.slice bC av.length aZ)∧w'.cell? ⟨g7,0,none⟩=some (.slice fP bF.length fK)) (ds:=[]) #[false,false,false,false,false,false,false,false,false,false,false,false,false,false,false,false] tX rfl rfl ⟨ch,cl⟩ (fun hHeld=>?_);have uy:Bx [(g14,.cells #[.int .i64 lo,.int .i64 hi] 37 (0,0)),(g12,.cells #[.int .i64 0,.int .i64 0] 37 (0,0)),(g11,.cells #[.int .i64 ni,.int .i64 nk] 37 (0,0)),(g7,.cells #[.slice fP bF.length fK] 49 (0,0)),(g6,.cells #[.slice bC av.length aZ] 24 (0,0))] w wr.drew:=HX.step (fC (Below.refl _ _));have hb0:Below wr.heap.size wr wr.drew:=fC (Below.refl _ _);have HX0:=aj.mk HX.below.size;have HQ:aj (∀ p∈([(g14,.cells #[.int .i64 lo,.int .i64 hi] 37 (0,0)),(g12,.cells #[.int .i64 0,.int .i64 0] 37 (0,0)),(g11,.cells #[.int .i64 ni,.int .i64 nk] 37 (0,0)),(g7,.cells #[.slice fP bF.length fK] 49 (0,0)),(g6,.cells #[.slice bC av.length aZ] 24 (0,0))]:List (Nat × Obj)),p.1<wr.heap.size):=⟨fun p hp=>HX.lt (o:=p.2) hp⟩;clear HX ch cl
     generalize wr.drew=w6 at uy hb0 hHeld ⊢
     refine qB1 3 65 (bA 16 8) ?_;refine qB1 5 67 (bA 16 40) ?_;refine qB1 6 68 (bA 16 104) ?_;refine qB1 7 69 (bA 16 232) ?_;refine qB1 8 70 (bA 16 488) ?_;refine qB1 9 71 (bA 16 1000) ?_;refine qB1 10 72 (bA 16 2024) ?_;refine qzF 0 62 (bA 16 2025) hHeld ?_;refine qzF 1 63 (bA 16 2027) hHeld ?_;refine qB1 2 64 (bA 16 2031) ?_;refine wL (σ:=CR) 1 (bA 16 32767) (fun s=>[(66,s.v4),(73,s.v11),(74,s.v12),(75,.agg #[.int .i64 a,.int .i64 b]),(17,.pointer (some ⟨s.g,0,none⟩))]) (fun s W=>Bx [(s.g,.cells #[.int .i64 0,.int .i64 0] 37 (0,0)),(g14,.cells #[.int .i64 lo,.int .i64 hi] 37 (0,0)),(g12,.cells #[.int .i64 0,.int .i64 0] 37 (0,0)),(g11,.cells #[.int .i64 ni,.int .i64 nk] 37 (0,0)),(g7,.cells #[.slice fP bF.length fK] 49 (0,0)),(g6,.cells #[.slice bC av.length aZ] 24 (0,0))] w W∧Below wr.heap.size wr W) ?_ ?_
     ·rintro s W ⟨HX,hb⟩
      refine dn (a':=?_) ?_ ?_;rotate_left
      ·show bS _ _=_
       simp only [bS,Act.put,sL,ay,aA]
       rfl
      refine gZ (i:=15) (N:=none) (bA 16 65535) rfl rfl tX (by decide) (fun K hK=>?_);refine RP (by rfl) rfl (t:=37) (p:=17) (v:=.tmp 75) rfl HX 0 rfl (i:=0) (.agg #[.int .i64 a,.int .i64 b]) [.int .i64 a,.int .i64 b] #[.int .i64 a,.int .i64 b] rfl rfl rfl tX (by simp) (by simp [Value.oneCell']) rfl ?_;intro W1 jJ hg1
      dsimp only [List.set] at jJ
      refine hK.out _ _ ⟨jJ.c1 (g:=g6) (t:=24) (by simp),jJ.c1 (g:=g7) (t:=49) (by simp)⟩ (fun _=>?_);refine lK tX ?_
      go_wp2_with (fail)
      go_meet
      exact ⟨s.g,a,b,rfl,HAB,jJ⟩
     intro xQ;refine wL (σ:=CR) 2 (bA 16 16383) (fun s=>[(66,s.v4),(73,s.v11),(74,s.v12),(75,.agg #[.int .i64 a,.int .i64 b])]) (fun s W=>Bx [(g14,.cells #[.int .i64 lo,.int .i64 hi] 37 (0,0)),(g12,.cells #[.int .i64 0,.int .i64 0] 37 (0,0)),(g11,.cells #[.int .i64 ni,.int .i64 nk] 37 (0,0)),(g7,.cells #[.slice fP bF.length fK] 49 (0,0)),(g6,.cells #[.slice bC av.length aZ] 24 (0,0))] w W∧Below wr.heap.size wr W) ?_ ?_
     ·rintro s W ⟨HX,hb⟩
      refine dn (a':=?_) ?_ ?_;rotate_left
      ·show bS _ _=_
       simp only [bS,Act.put,sL,ay,aA]
       rfl
      refine gZ (i:=14) (N:=some 17) (bA 16 32767) rfl rfl tX (by decide) (fun K hK=>?_)
      ·refine uW ?hg (N:=17) ?hd (cs:=#[.int .i64 0,.int .i64 0]) (t:=37) ?hr ?_;(case hd=>rfl);(case hg=>rfl);(case hr=>first|(go_simp;done)|(go_simp;rfl))
       intro g17 UW W1 jX hx;have jJ:=HX.add (g:=g17) (by omega) hx jX;have hb1:=aV hb hx;refine hK.out _ _ ⟨jJ.c1 (g:=g6) (t:=24) (by simp),jJ.c1 (g:=g7) (t:=49) (by simp)⟩ (fun _=>?_);exact dn (by show Act.put _ (some 17) _=_;simp only [bS,Act.put,sL]) (xQ ⟨s.v4,s.v11,s.v12,g17⟩ _ ⟨jJ,hb1⟩)
     intro Lb;refine wL (σ:=CR) 2 (bA 16 24575) (fun s=>[(66,s.v4),(73,s.v11),(74,s.v12),(17,.pointer (some ⟨s.g,0,none⟩))]) (fun s W=>Bx [(s.g,.cells #[.int .i64 0,.int .i64 0] 37 (0,0)),(g14,.cells #[.int .i64 lo,.int .i64 hi] 37 (0,0)),(g12,.cells #[.int .i64 0,.int .i64 0] 37 (0,0)),(g11,.cells #[.int .i64 ni,.int .i64 nk] 37 (0,0)),(g7,.cells #[.slice fP bF.length fK] 49 (0,0)),(g6,.cells #[.slice bC av.length aZ] 24 (0,0))] w W∧Below wr.heap.size wr W∧Kd.R eD 154 W wr.heap.size (fun _=>True) s.v12 (l2++[(⟨a3,a4,⟨(n:Int),(n:Int)⟩⟩:bB)])) ?_ ?_
     ·rintro s W ⟨HX,hb,r12⟩
      refine dn (a':=?_) ?_ ?_;rotate_left
      ·show bS _ _=_
       simp only [bS,Act.put,sL,ay,aA]
       rfl
      refine gZ (i:=13) (N:=some 75) (bA 16 32767) rfl rfl tX (by decide) (fun K hK=>?_)
      ·obtain ⟨A5,c5,e5,hl5,Yk⟩:=Kd.fE r12
       refine gK Tryz.func123 tX rfl #[.agg #[.slice bC av.length aZ,.slice fP bF.length fK],.slice A5 (l2++[(⟨a3,a4,⟨(n:Int),(n:Int)⟩⟩:bB)]).length c5] (by rfl) rfl rfl (by (try simp only [List.map_toArray,List.map_cons,List.map_nil]);rw [← e5];first|done|rfl) ?_;refine (bV.calls 1000 bC aZ av fP fK bF A5 c5 (l2++[(⟨a3,a4,⟨(n:Int),(n:Int)⟩⟩:bB)]) a b _ (Kd.ak HR.out.1 HX.below) dG (Kd.ak HR.out.2.1 HX.below) mM Yk hl5 HAB.out).mono ?_;rintro e W1 ⟨rfl,hx⟩;refine ⟨_,rfl,?_⟩;have jJ:=HX.step hx;have hb1:=aV hb hx;refine hK.out _ _ ⟨jJ.c1 (g:=g6) (t:=24) (by simp),jJ.c1 (g:=g7) (t:=49) (by simp)⟩ (fun _=>?_);exact dn (by show Act.put _ (some 75) _=_;simp only [bS,Act.put,sL]) (xQ ⟨s.v4,s.v11,s.v12,s.g⟩ _ ⟨jJ,hb1⟩)
     intro Cu;refine wL (σ:=CR) 3 (bA 16 8191) (fun s=>[(66,s.v4),(73,s.v11),(74,s.v12)]) (fun s W=>Bx [(g14,.cells #[.int .i64 lo,.int .i64 hi] 37 (0,0)),(g12,.cells #[.int .i64 0,.int .i64 0] 37 (0,0)),(g11,.cells #[.int .i64 ni,.int .i64 nk] 37 (0,0)),(g7,.cells #[.slice fP bF.length fK] 49 (0,0)),(g6,.cells #[.slice bC av.length aZ] 24 (0,0))] w W∧Below wr.heap.size wr W∧Kd.R eD 154 W wr.heap.size (fun _=>True) s.v12 (l2++[(⟨a3,a4,⟨(n:Int),(n:Int)⟩⟩:bB)])) ?_ ?_
     ·rintro s W ⟨HX,hb,r12⟩
      refine dn (a':=?_) ?_ ?_;rotate_left
      ·show bS _ _=_
       simp only [bS,Act.put,sL,ay,aA]
       rfl
      refine QT (i:=13) (j:=14) (Ni:=some 75) (Nj:=some 17) (bA 16 16383) (bA 16 24575) rfl rfl rfl rfl tX (by decide) (by decide) (fun K hK=>?_) (fun K hK=>?_)
      ·obtain ⟨A5,c5,e5,hl5,Yk⟩:=Kd.fE r12
       refine gK Tryz.func123 tX rfl #[.agg #[.slice bC av.length aZ,.slice fP bF.length fK],.slice A5 (l2++[(⟨a3,a4,⟨(n:Int),(n:Int)⟩⟩:bB)]).length c5] (by rfl) rfl rfl (by (try simp only [List.map_toArray,List.map_cons,List.map_nil]);rw [← e5];first|done|rfl) ?_;refine (bV.calls 1000 bC aZ av fP fK bF A5 c5 (l2++[(⟨a3,a4,⟨(n:Int),(n:Int)⟩⟩:bB)]) a b _ (Kd.ak HR.out.1 HX.below) dG (Kd.ak HR.out.2.1 HX.below) mM Yk hl5 HAB.out).mono ?_;rintro e W1 ⟨rfl,hx⟩;refine ⟨_,rfl,?_⟩;have jJ:=HX.step hx;have hb1:=aV hb hx;refine hK.out _ _ ⟨jJ.c1 (g:=g6) (t:=24) (by simp),jJ.c1 (g:=g7) (t:=49) (by simp)⟩ (fun _=>?_);exact dn (by show Act.put _ (some 75) _=_;simp only [bS,Act.put,sL]) (Lb ⟨s.v4,s.v11,s.v12,s.g⟩ _ ⟨jJ,hb1⟩)
      ·refine uW ?hg (N:=17) ?hd (cs:=#[.int .i64 0,.int .i64 0]) (t:=37) ?hr ?_;(case hd=>rfl);(case hg=>rfl);(case hr=>first|(go_simp;done)|(go_simp;rfl))
       intro g17 UW W1 jX hx;have jJ:=HX.add (g:=g17) (by omega) hx jX;have hb1:=aV hb hx;refine hK.out _ _ ⟨jJ.c1 (g:=g6) (t:=24) (by simp),jJ.c1 (g:=g7) (t:=49) (by simp)⟩ (fun _=>?_);exact dn (by show Act.put _ (some 17) _=_;simp only [bS,Act.put,sL]) (Cu ⟨s.v4,s.v11,s.v12,g17⟩ _ ⟨jJ,hb1,Kd.jS r12 hx⟩)
     intro UY;refine wL (σ:=CR) 3 (bA 16 20479) (fun s=>[(66,s.v4),(73,s.v11),(17,.pointer (some ⟨s.g,0,none⟩))]) (fun s W=>Bx [(s.g,.cells #[.int .i64 0,.int .i64 0] 37 (0,0)),(g14,.cells #[.int .i64 lo,.int .i64 hi] 37 (0,0)),(g12,.cells #[.int .i64 0,.int .i64 0] 37 (0,0)),(g11,.cells #[.int .i64 ni,.int .i64 nk] 37 (0,0)),(g7,.cells #[.slice fP bF.length fK] 49 (0,0)),(g6,.cells #[.slice bC av.length aZ] 24 (0,0))] w W∧Below wr.heap.size wr W∧Kd.R eD 154 W wr.heap.size (fun _=>True) s.v4 l2∧Kd.R eD 154 W wr.heap.size (fun _=>True) s.v11 [(⟨a3,a4,⟨(n:Int),(n:Int)⟩⟩:bB)]∧uh s.v4 s.v11∧(some s.g≠s.v4.ownBlock)) ?_ ?_
     ·rintro s W ⟨HX,hb,r4,UZ,ne,n14⟩
      refine dn (a':=?_) ?_ ?_;rotate_left
      ·show bS _ _=_
       simp only [bS,Act.put,sL,ay,aA]
       rfl
      refine gZ (i:=12) (N:=some 74) (bA 16 24575) rfl rfl tX (by decide) (fun K hK=>?_)
      ·obtain ⟨A5,c5,e5,hl5,Yk⟩:=Kd.fE UZ
       refine Kd.oh eD (w0:=wr) wr.heap.size (by rfl) (.tmp 66) (.tmp 73) 25 154 (.agg #[(.int .i64 0),(.int .i64 0),(.int .i64 0),(.int .i64 0)]) 32 rfl Tryz.underlying25 C8 rfl (by decide) (by omega) s.v4 l2 [(⟨a3,a4,⟨(n:Int),(n:Int)⟩⟩:bB)] A5 1 c5 (fun _=>True) (fun _=>False) rfl e5 r4 Yk (fun _ _ h=>h) (fun _ h=>h.elim) (fun _ _=>trivial) hb hb.size (by have:=HN.out;omega) ?_;intro v W1 ho hb1 hg1 hat;have jJ:=HX.row hg1 (fun k e=>Nat.le_trans HX0.out (Kd.iF r4 k e)) (by intro p hp;rcases List.mem_cons.1 hp with rfl|hp;exact n14;exact fun e=>absurd (HQ.out p hp) (by have:=Kd.iF r4 p.1 e.symm;omega));refine hK.out _ _ ⟨jJ.c1 (g:=g6) (t:=24) (by simp),jJ.c1 (g:=g7) (t:=49) (by simp)⟩ (fun _=>?_);exact dn (by show Act.put _ (some 74) _=_;simp only [bS,Act.put,sL]) (Cu ⟨s.v4,s.v11,v,s.g⟩ _ ⟨jJ,hb1,ho⟩)
     intro EW;refine wL (σ:=CR) 4 (bA 16 4095) (fun s=>[(66,s.v4),(73,s.v11)]) (fun s W=>Bx [(g14,.cells #[.int .i64 lo,.int .i64 hi] 37 (0,0)),(g12,.cells #[.int .i64 0,.int .i64 0] 37 (0,0)),(g11,.cells #[.int .i64 ni,.int .i64 nk] 37 (0,0)),(g7,.cells #[.slice fP bF.length fK] 49 (0,0)),(g6,.cells #[.slice bC av.length aZ] 24 (0,0))] w W∧Below wr.heap.size wr W∧Kd.R eD 154 W wr.heap.size (fun _=>True) s.v4 l2∧Kd.R eD 154 W wr.heap.size (fun _=>True) s.v11 [(⟨a3,a4,⟨(n:Int),(n:Int)⟩⟩:bB)]∧uh s.v4 s.v11) ?_ ?_
     ·rintro s W ⟨HX,hb,r4,UZ,ne⟩
      refine dn (a':=?_) ?_ ?_;rotate_left
      ·show bS _ _=_
       simp only [bS,Act.put,sL,ay,aA]
       rfl
      refine QT (i:=12) (j:=14) (Ni:=some 74) (Nj:=some 17) (bA 16 8191) (bA 16 20479) rfl rfl rfl rfl tX (by decide) (by decide) (fun K hK=>?_) (fun K hK=>?_)
      ·obtain ⟨A5,c5,e5,hl5,Yk⟩:=Kd.fE UZ
       refine Kd.oh eD (w0:=wr) wr.heap.size (by rfl) (.tmp 66) (.tmp 73) 25 154 (.agg #[(.int .i64 0),(.int .i64 0),(.int .i64 0),(.int .i64 0)]) 32 rfl Tryz.underlying25 C8 rfl (by decide) (by omega) s.v4 l2 [(⟨a3,a4,⟨(n:Int),(n:Int)⟩⟩:bB)] A5 1 c5 (fun _=>True) (fun _=>False) rfl e5 r4 Yk (fun _ _ h=>h) (fun _ h=>h.elim) (fun _ _=>trivial) hb hb.size (by have:=HN.out;omega) ?_;intro v W1 ho hb1 hg1 hat;have jJ:=HX.row hg1 (fun k e=>Nat.le_trans HX0.out (Kd.iF r4 k e)) (by intro p hp;exact fun e=>absurd (HQ.out p hp) (by have:=Kd.iF r4 p.1 e.symm;omega));refine hK.out _ _ ⟨jJ.c1 (g:=g6) (t:=24) (by simp),jJ.c1 (g:=g7) (t:=49) (by simp)⟩ (fun _=>?_);exact dn (by show Act.put _ (some 74) _=_;simp only [bS,Act.put,sL]) (UY ⟨s.v4,s.v11,v,s.g⟩ _ ⟨jJ,hb1,ho⟩)
      ·refine uW ?hg (N:=17) ?hd (cs:=#[.int .i64 0,.int .i64 0]) (t:=37) ?hr ?_;(case hd=>rfl);(case hg=>rfl);(case hr=>first|(go_simp;done)|(go_simp;rfl))
       intro g17 UW W1 jX hx;have jJ:=HX.add (g:=g17) (by omega) hx jX;have hb1:=aV hb hx;refine hK.out _ _ ⟨jJ.c1 (g:=g6) (t:=24) (by simp),jJ.c1 (g:=g7) (t:=49) (by simp)⟩ (fun _=>?_);exact dn (by show Act.put _ (some 17) _=_;simp only [bS,Act.put,sL]) (EW ⟨s.v4,s.v11,s.v12,g17⟩ _ ⟨jJ,hb1,Kd.jS r4 hx,Kd.jS UZ hx,ne,fun e=>absurd (Kd.vR r4 g17 e.symm) (by omega)⟩)
     intro ZV;refine wL (σ:=CR) 4 (bA 16 18431) (fun s=>[(66,s.v4),(17,.pointer (some ⟨s.g,0,none⟩))]) (fun s W=>Bx [(s.g,.cells #[.int .i64 0,.int .i64 0] 37 (0,0)),(g14,.cells #[.int .i64 lo,.int .i64 hi] 37 (0,0)),(g12,.cells #[.int .i64 0,.int .i64 0] 37 (0,0)),(g11,.cells #[.int .i64 ni,.int .i64 nk] 37 (0,0)),(g7,.cells #[.slice fP bF.length fK] 49 (0,0)),(g6,.cells #[.slice bC av.length aZ] 24 (0,0))] w W∧Below wr.heap.size wr W∧Kd.R eD 154 W wr.heap.size (fun _=>True) s.v4 l2∧(some s.g≠s.v4.ownBlock)) ?_ ?_
     ·rintro s W ⟨HX,hb,r4,n14⟩
      refine dn (a':=?_) ?_ ?_;rotate_left
      ·show bS _ _=_
       simp only [bS,Act.put,sL,ay,aA]
       rfl
      refine gZ (i:=11) (N:=some 73) (bA 16 20479) rfl rfl tX (by decide) (fun K hK=>?_)
      ·refine Kd.og eD _ 154 ?hg (N:=73) ?hd (xs:=[(⟨a3,a4,⟨(n:Int),(n:Int)⟩⟩:bB)]) (inner:=[.int .i64 a3,.int .i64 a4,.int .i64 n,.int .i64 n]) (ok:=fun _=>True) (nE:=fun _=>True) ?hr ?hp (fun _ hk=>hk) trivial (Below.refl _ _) (Nat.le_refl _) (by simp) ?_;(case hd=>rfl);(case hg=>rfl);(case hr=>first|(go_simp;done)|(go_simp;rfl));(case hp=>exact dh.c4 (show Kd.M eD _ _ _ (⟨a3,a4,⟨(n:Int),(n:Int)⟩⟩:bB) [.int .i64 a3,.int .i64 a4,.int .i64 n,.int .i64 n] from mK _ _ _ (⟨a3,a4,⟨(n:Int),(n:Int)⟩⟩:bB)) (dh.none _ _))
       intro v W1 ho hx sS gV;clear sS gV;have jJ:=HX.step hx;have hb1:=aV hb hx;refine hK.out _ _ ⟨jJ.c1 (g:=g6) (t:=24) (by simp),jJ.c1 (g:=g7) (t:=49) (by simp)⟩ (fun _=>?_);exact dn (by show Act.put _ (some 73) _=_;simp only [bS,Act.put,sL]) (EW ⟨s.v4,v,s.v12,s.g⟩ _ ⟨jJ,hb1,Kd.jS r4 hx,Kd.dZ ho hb.size,fun k TM TN=>absurd (Kd.vR r4 k TM) (by have:=Kd.iF ho k TN;omega),n14⟩)
     intro ZW;refine wL (σ:=CR) 4 (bA 16 20463) (fun s=>[(73,s.v11),(17,.pointer (some ⟨s.g,0,none⟩))]) (fun s W=>Bx [(s.g,.cells #[.int .i64 0,.int .i64 0] 37 (0,0)),(g14,.cells #[.int .i64 lo,.int .i64 hi] 37 (0,0)),(g12,.cells #[.int .i64 0,.int .i64 0] 37 (0,0)),(g11,.cells #[.int .i64 ni,.int .i64 nk] 37 (0,0)),(g7,.cells #[.slice fP bF.length fK] 49 (0,0)),(g6,.cells #[.slice bC av.length aZ] 24 (0,0))] w W∧Below wr.heap.size wr W∧Kd.R eD 154 W wr.heap.size (fun _=>True) s.v11 [(⟨a3,a4,⟨(n:Int),(n:Int)⟩⟩:bB)]) ?_ ?_
     ·rintro s W ⟨HX,hb,UZ⟩
      refine dn (a':=?_) ?_ ?_;rotate_left
      ·show bS _ _=_
       simp only [bS,Act.put,sL,ay,aA]
       rfl
      refine gZ (i:=4) (N:=some 66) (bA 16 20479) rfl rfl tX (by decide) (fun K hK=>?_)
      ·refine gK Tryz.func124 tX rfl #[.slice A2 l2.length c2] (by rfl) rfl rfl (by (try simp only [List.map_toArray,List.map_cons,List.map_nil]);first|done|rfl) ?_
       refine (eF.calls A2 c2 l2 l2 _ (Kd.ak HR.out.2.2 HX.below) hc2 HCF.out).mono ?_;rintro e W1 ⟨v,rfl,ho,hx⟩;refine ⟨_,rfl,?_⟩;have jJ:=HX.step hx;have hb1:=aV hb hx;refine hK.out _ _ ⟨jJ.c1 (g:=g6) (t:=24) (by simp),jJ.c1 (g:=g7) (t:=49) (by simp)⟩ (fun _=>?_);exact dn (by show Act.put _ (some 66) _=_;simp only [bS,Act.put,sL]) (EW ⟨v,s.v11,s.v12,s.g⟩ _ ⟨jJ,hb1,Kd.dZ ho hb.size,Kd.jS UZ hx,fun k TM TN=>absurd (Kd.vR UZ k TN) (by have:=Kd.iF ho k TM;omega),fun e=>absurd (HX.lt (o:=.cells #[.int .i64 0,.int .i64 0] 37 (0,0)) (g:=s.g) (by simp)) (by have:=Kd.iF ho s.g e.symm;omega)⟩)
     intro U0;refine wL (σ:=CR) 5 (bA 16 18415) (fun s=>[(17,.pointer (some ⟨s.g,0,none⟩))]) (fun s W=>Bx [(s.g,.cells #[.int .i64 0,.int .i64 0] 37 (0,0)),(g14,.cells #[.int .i64 lo,.int .i64 hi] 37 (0,0)),(g12,.cells #[.int .i64 0,.int .i64 0] 37 (0,0)),(g11,.cells #[.int .i64 ni,.int .i64 nk] 37 (0,0)),(g7,.cells #[.slice fP bF.length fK] 49 (0,0)),(g6,.cells #[.slice bC av.length aZ] 24 (0,0))] w W∧Below wr.heap.size wr W) ?_ ?_
     ·rintro s W ⟨HX,hb⟩
      refine dn (a':=?_) ?_ ?_;rotate_left
      ·show bS _ _=_
       simp only [bS,Act.put,sL,ay,aA]
       rfl
      refine QT (i:=4) (j:=11) (Ni:=some 66) (Nj:=some 73) (bA 16 18431) (bA 16 20463) rfl rfl rfl rfl tX (by decide) (by decide) (fun K hK=>?_) (fun K hK=>?_)
      ·refine gK Tryz.func124 tX rfl #[.slice A2 l2.length c2] (by rfl) rfl rfl (by (try simp only [List.map_toArray,List.map_cons,List.map_nil]);first|done|rfl) ?_
       refine (eF.calls A2 c2 l2 l2 _ (Kd.ak HR.out.2.2 HX.below) hc2 HCF.out).mono ?_;rintro e W1 ⟨v,rfl,ho,hx⟩;refine ⟨_,rfl,?_⟩;have jJ:=HX.step hx;have hb1:=aV hb hx;refine hK.out _ _ ⟨jJ.c1 (g:=g6) (t:=24) (by simp),jJ.c1 (g:=g7) (t:=49) (by simp)⟩ (fun _=>?_);exact dn (by show Act.put _ (some 66) _=_;simp only [bS,Act.put,sL]) (ZW ⟨v,s.v11,s.v12,s.g⟩ _ ⟨jJ,hb1,Kd.dZ ho hb.size,fun e=>absurd (HX.lt (o:=.cells #[.int .i64 0,.int .i64 0] 37 (0,0)) (g:=s.g) (by simp)) (by have:=Kd.iF ho s.g e.symm;omega)⟩)
      ·refine Kd.og eD _ 154 ?hg (N:=73) ?hd (xs:=[(⟨a3,a4,⟨(n:Int),(n:Int)⟩⟩:bB)]) (inner:=[.int .i64 a3,.int .i64 a4,.int .i64 n,.int .i64 n]) (ok:=fun _=>True) (nE:=fun _=>True) ?hr ?hp (fun _ hk=>hk) trivial (Below.refl _ _) (Nat.le_refl _) (by simp) ?_;(case hd=>rfl);(case hg=>rfl);(case hr=>first|(go_simp;done)|(go_simp;rfl));(case hp=>exact dh.c4 (show Kd.M eD _ _ _ (⟨a3,a4,⟨(n:Int),(n:Int)⟩⟩:bB) [.int .i64 a3,.int .i64 a4,.int .i64 n,.int .i64 n] from mK _ _ _ (⟨a3,a4,⟨(n:Int),(n:Int)⟩⟩:bB)) (dh.none _ _))
       intro v W1 ho hx sS gV;clear sS gV;have jJ:=HX.step hx;have hb1:=aV hb hx;refine hK.out _ _ ⟨jJ.c1 (g:=g6) (t:=24) (by simp),jJ.c1 (g:=g7) (t:=49) (by simp)⟩ (fun _=>?_);exact dn (by show Act.put _ (some 73) _=_;simp only [bS,Act.put,sL]) (U0 ⟨s.v4,v,s.v12,s.g⟩ _ ⟨jJ,hb1,Kd.dZ ho hb.size⟩)
     intro h14;refine wL (σ:=CR) 5 (bA 16 2047) (fun s=>[(66,s.v4)]) (fun s W=>Bx [(g14,.cells #[.int .i64 lo,.int .i64 hi] 37 (0,0)),(g12,.cells #[.int .i64 0,.int .i64 0] 37 (0,0)),(g11,.cells #[.int .i64 ni,.int .i64 nk] 37 (0,0)),(g7,.cells #[.slice fP bF.length fK] 49 (0,0)),(g6,.cells #[.slice bC av.length aZ] 24 (0,0))] w W∧Below wr.heap.size wr W∧Kd.R eD 154 W wr.heap.size (fun _=>True) s.v4 l2) ?_ ?_
     ·rintro s W ⟨HX,hb,r4⟩
      refine dn (a':=?_) ?_ ?_;rotate_left
      ·show bS _ _=_
       simp only [bS,Act.put,sL,ay,aA]
       rfl
      refine QT (i:=11) (j:=14) (Ni:=some 73) (Nj:=some 17) (bA 16 4095) (bA 16 18431) rfl rfl rfl rfl tX (by decide) (by decide) (fun K hK=>?_) (fun K hK=>?_)
      ·refine Kd.og eD _ 154 ?hg (N:=73) ?hd (xs:=[(⟨a3,a4,⟨(n:Int),(n:Int)⟩⟩:bB)]) (inner:=[.int .i64 a3,.int .i64 a4,.int .i64 n,.int .i64 n]) (ok:=fun _=>True) (nE:=fun _=>True) ?hr ?hp (fun _ hk=>hk) trivial (Below.refl _ _) (Nat.le_refl _) (by simp) ?_;(case hd=>rfl);(case hg=>rfl);(case hr=>first|(go_simp;done)|(go_simp;rfl));(case hp=>exact dh.c4 (show Kd.M eD _ _ _ (⟨a3,a4,⟨(n:Int),(n:Int)⟩⟩:bB) [.int .i64 a3,.int .i64 a4,.int .i64 n,.int .i64 n] from mK _ _ _ (⟨a3,a4,⟨(n:Int),(n:Int)⟩⟩:bB)) (dh.none _ _))
       intro v W1 ho hx sS gV;clear sS gV;have jJ:=HX.step hx;have hb1:=aV hb hx;refine hK.out _ _ ⟨jJ.c1 (g:=g6) (t:=24) (by simp),jJ.c1 (g:=g7) (t:=49) (by simp)⟩ (fun _=>?_);exact dn (by show Act.put _ (some 73) _=_;simp only [bS,Act.put,sL]) (ZV ⟨s.v4,v,s.v12,s.g⟩ _ ⟨jJ,hb1,Kd.jS r4 hx,Kd.dZ ho hb.size,fun k TM TN=>absurd (Kd.vR r4 k TM) (by have:=Kd.iF ho k TN;omega)⟩)
      ·refine uW ?hg (N:=17) ?hd (cs:=#[.int .i64 0,.int .i64 0]) (t:=37) ?hr ?_;(case hd=>rfl);(case hg=>rfl);(case hr=>first|(go_simp;done)|(go_simp;rfl))
       intro g17 UW W1 jX hx;have jJ:=HX.add (g:=g17) (by omega) hx jX;have hb1:=aV hb hx;refine hK.out _ _ ⟨jJ.c1 (g:=g6) (t:=24) (by simp),jJ.c1 (g:=g7) (t:=49) (by simp)⟩ (fun _=>?_);exact dn (by show Act.put _ (some 17) _=_;simp only [bS,Act.put,sL]) (ZW ⟨s.v4,s.v11,s.v12,g17⟩ _ ⟨jJ,hb1,Kd.jS r4 hx,fun e=>absurd (Kd.vR r4 g17 e.symm) (by omega)⟩)
     intro h4;refine wL (σ:=CR) 5 (bA 16 4079) (fun s=>[(73,s.v11)]) (fun s W=>Bx [(g14,.cells #[.int .i64 lo,.int .i64 hi] 37 (0,0)),(g12,.cells #[.int .i64 0,.int .i64 0] 37 (0,0)),(g11,.cells #[.int .i64 ni,.int .i64 nk] 37 (0,0)),(g7,.cells #[.slice fP bF.length fK] 49 (0,0)),(g6,.cells #[.slice bC av.length aZ] 24 (0,0))] w W∧Below wr.heap.size wr W∧Kd.R eD 154 W wr.heap.size (fun _=>True) s.v11 [(⟨a3,a4,⟨(n:Int),(n:Int)⟩⟩:bB)]) ?_ ?_
     ·rintro s W ⟨HX,hb,UZ⟩
      refine dn (a':=?_) ?_ ?_;rotate_left
      ·show bS _ _=_
       simp only [bS,Act.put,sL,ay,aA]
       rfl
      refine QT (i:=4) (j:=14) (Ni:=some 66) (Nj:=some 17) (bA 16 4095) (bA 16 20463) rfl rfl rfl rfl tX (by decide) (by decide) (fun K hK=>?_) (fun K hK=>?_)
      ·refine gK Tryz.func124 tX rfl #[.slice A2 l2.length c2] (by rfl) rfl rfl (by (try simp only [List.map_toArray,List.map_cons,List.map_nil]);first|done|rfl) ?_
       refine (eF.calls A2 c2 l2 l2 _ (Kd.ak HR.out.2.2 HX.below) hc2 HCF.out).mono ?_;rintro e W1 ⟨v,rfl,ho,hx⟩;refine ⟨_,rfl,?_⟩;have jJ:=HX.step hx;have hb1:=aV hb hx;refine hK.out _ _ ⟨jJ.c1 (g:=g6) (t:=24) (by simp),jJ.c1 (g:=g7) (t:=49) (by simp)⟩ (fun _=>?_);exact dn (by show Act.put _ (some 66) _=_;simp only [bS,Act.put,sL]) (ZV ⟨v,s.v11,s.v12,s.g⟩ _ ⟨jJ,hb1,Kd.dZ ho hb.size,Kd.jS UZ hx,fun k TM TN=>absurd (Kd.vR UZ k TN) (by have:=Kd.iF ho k TM;omega)⟩)
      ·refine uW ?hg (N:=17) ?hd (cs:=#[.int .i64 0,.int .i64 0]) (t:=37) ?hr ?_;(case hd=>rfl);(case hg=>rfl);(case hr=>first|(go_simp;done)|(go_simp;rfl))
       intro g17 UW W1 jX hx;have jJ:=HX.add (g:=g17) (by omega) hx jX;have hb1:=aV hb hx;refine hK.out _ _ ⟨jJ.c1 (g:=g6) (t:=24) (by simp),jJ.c1 (g:=g7) (t:=49) (by simp)⟩ (fun _=>?_);exact dn (by show Act.put _ (some 17) _=_;simp only [bS,Act.put,sL]) (U0 ⟨s.v4,s.v11,s.v12,g17⟩ _ ⟨jJ,hb1,Kd.jS UZ hx⟩)
     intro h11;have HX:=uy;have hb:=hb0;have s:CR:=⟨undef,undef,undef,0⟩;refine qak (i:=4) (j:=11) (k:=14) (Ni:=some 66) (Nj:=some 73) (Nk:=some 17) (bA 16 2047) (bA 16 4079) (bA 16 18415) rfl rfl rfl rfl rfl rfl tX (by decide) (by decide) (by decide) (fun K hK=>?_) (fun K hK=>?_) (fun K hK=>?_)
     ·refine gK Tryz.func124 tX rfl #[.slice A2 l2.length c2] (by rfl) rfl rfl (by (try simp only [List.map_toArray,List.map_cons,List.map_nil]);first|done|rfl) ?_
      refine (eF.calls A2 c2 l2 l2 _ (Kd.ak HR.out.2.2 HX.below) hc2 HCF.out).mono ?_;rintro e W1 ⟨v,rfl,ho,hx⟩;refine ⟨_,rfl,?_⟩;have jJ:=HX.step hx;have hb1:=aV hb hx;refine hK.out _ _ ⟨jJ.c1 (g:=g6) (t:=24) (by simp),jJ.c1 (g:=g7) (t:=49) (by simp)⟩ (fun _=>?_);exact dn (by show Act.put _ (some 66) _=_;simp only [bS,Act.put,sL]) (h4 ⟨v,s.v11,s.v12,s.g⟩ _ ⟨jJ,hb1,Kd.dZ ho hb.size⟩)
     ·refine Kd.og eD _ 154 ?hg (N:=73) ?hd (xs:=[(⟨a3,a4,⟨(n:Int),(n:Int)⟩⟩:bB)]) (inner:=[.int .i64 a3,.int .i64 a4,.int .i64 n,.int .i64 n]) (ok:=fun _=>True) (nE:=fun _=>True) ?hr ?hp (fun _ hk=>hk) trivial (Below.refl _ _) (Nat.le_refl _) (by simp) ?_;(case hd=>rfl);(case hg=>rfl);(case hr=>first|(go_simp;done)|(go_simp;rfl));(case hp=>exact dh.c4 (show Kd.M eD _ _ _ (⟨a3,a4,⟨(n:Int),(n:Int)⟩⟩:bB) [.int .i64 a3,.int .i64 a4,.int .i64 n,.int .i64 n] from mK _ _ _ (⟨a3,a4,⟨(n:Int),(n:Int)⟩⟩:bB)) (dh.none _ _))
      intro v W1 ho hx sS gV;clear sS gV;have jJ:=HX.step hx;have hb1:=aV hb hx;refine hK.out _ _ ⟨jJ.c1 (g:=g6) (t:=24) (by simp),jJ.c1 (g:=g7) (t:=49) (by simp)⟩ (fun _=>?_);exact dn (by show Act.put _ (some 73) _=_;simp only [bS,Act.put,sL]) (h11 ⟨s.v4,v,s.v12,s.g⟩ _ ⟨jJ,hb1,Kd.dZ ho hb.size⟩)
     ·refine uW ?hg (N:=17) ?hd (cs:=#[.int .i64 0,.int .i64 0]) (t:=37) ?hr ?_;(case hd=>rfl);(case hg=>rfl);(case hr=>first|(go_simp;done)|(go_simp;rfl))
      intro g17 UW W1 jX hx;have jJ:=HX.add (g:=g17) (by omega) hx jX;have hb1:=aV hb hx;refine hK.out _ _ ⟨jJ.c1 (g:=g6) (t:=24) (by simp),jJ.c1 (g:=g7) (t:=49) (by simp)⟩ (fun _=>?_);exact dn (by show Act.put _ (some 17) _=_;simp only [bS,Act.put,sL]) (h14 ⟨s.v4,s.v11,s.v12,g17⟩ _ ⟨jJ,hb1⟩)
    case rest =>
     obtain ⟨g17,a,b,rfl,HAB,HX⟩:=hcut;obtain ⟨cs1,cs2⟩:=HX.g2 0 rfl;obtain ⟨nM,nN⟩:=HX.g2 1 rfl;obtain ⟨xL,xM⟩:=HX.g2 2 rfl;obtain ⟨uf,ug⟩:=HX.g2 3 rfl;have HS:=aj.mk (show is n=(decide (ni<=a)&&decide (b<=nk)) by rw [HIS.out];show isR _ _ (zi _ _ _ _ _ _)=_;rw [HAB.out];rfl);have HI2:=aj.mk (show qR is (12 - n+1) n met lo hi=xO av bF l2 a3 a4 ni nk by rw [← HI.out];congr 1;omega);have HNX:=aj.mk (show 13 - (n+1)=12 - n by omega)
     by_cases h1:ni<=a
     ·by_cases h2:b<=nk
      ·have HT:=aj.mk (show is n=true by rw [HS.out];simp [h1,h2])
       cases met
       ·go_wp2_with (first|((with_reducible refine aY (t:=37) (p:=14) rfl ?_);refine jZ rfl rfl rfl HX 1 rfl (i:=0) (.agg #[.int .i64 n,.int .i64 n]) [.int .i64 n,.int .i64 n] #[.int .i64 n,.int .i64 n] rfl rfl rfl tX (by simp) (by simp [Value.oneCell']) rfl ?_;clear HX nM nN xL xM;intro w9 HX hx;clear hx;dsimp only [List.set] at HX;obtain ⟨nM,nN⟩:=HX.g2 1 rfl;obtain ⟨xL,xM⟩:=HX.g2 2 rfl))
        exact ⟨⟨n+1,true,n,n,rfl,by go_num,by omega,⟨by rw [HNX.out,← HI2.out,qR,HT.out];rfl⟩,HX.tail⟩,by simp [intOf];omega⟩
       ·go_wp2_with (first|((with_reducible refine aY (t:=3) (p:=100) rfl ?_);refine jZ rfl rfl rfl HX 1 rfl (i:=1) (.int .i64 n) [.int .i64 n] #[.int .i64 lo,.int .i64 n] rfl rfl rfl tX (by simp) (by simp [Value.oneCell']) rfl ?_;clear HX nM nN xL xM;intro w9 HX hx;clear hx;dsimp only [List.set] at HX;obtain ⟨nM,nN⟩:=HX.g2 1 rfl;obtain ⟨xL,xM⟩:=HX.g2 2 rfl))
        exact ⟨⟨n+1,true,lo,n,rfl,by go_num,by omega,⟨by rw [HNX.out,← HI2.out,qR,HT.out];rfl⟩,HX.tail⟩,by simp [intOf];omega⟩
      ·have HT:=aj.mk (show is n=false by rw [HS.out];simp [h2])
       cases met
       ·go_wp2_with (fail)
        exact ⟨⟨n+1,false,lo,hi,rfl,by go_num,by omega,⟨by rw [HNX.out,← HI2.out,qR,HT.out];rfl⟩,HX.tail⟩,by simp [intOf];omega⟩
       ·go_wp2_with (first|((with_reducible refine aY (t:=37) (p:=12) rfl ?_);refine jZ rfl rfl rfl HX 2 rfl (i:=0) (.agg #[.int .i64 lo,.int .i64 hi]) [.int .i64 lo,.int .i64 hi] #[.int .i64 lo,.int .i64 hi] rfl rfl rfl tX (by simp) (by simp [Value.oneCell']) rfl ?_;clear HX nM nN xL xM;intro w9 HX hx;clear hx;dsimp only [List.set] at HX;obtain ⟨nM,nN⟩:=HX.g2 1 rfl;obtain ⟨xL,xM⟩:=HX.g2 2 rfl))
        have HF:xO av bF l2 a3 a4 ni nk=(true,lo,hi):=by rw [← HI2.out,qR,HT.out];rfl
        refine bodyPost_ret (kW rfl _ _ g12 37 #[.int .i64 lo,.int .i64 hi] (0,0) _ rfl (HX.gb 2 rfl) Tryz.underlying37 rfl tX) rfl ?_;have hR:=HRR.out;rw [HF] at hR
        obtain ⟨rfl,rfl,rfl⟩:lo=r1∧hi=r2∧0=r3:=by simpa using hR
        exact ⟨rfl,HX.below⟩
     ·have HT:=aj.mk (show is n=false by rw [HS.out];simp [h1])
      cases met
      ·go_wp2_with (fail)
       exact ⟨⟨n+1,false,lo,hi,rfl,by go_num,by omega,⟨by rw [HNX.out,← HI2.out,qR,HT.out];rfl⟩,HX.tail⟩,by simp [intOf];omega⟩
      ·go_wp2_with (first|((with_reducible refine aY (t:=37) (p:=12) rfl ?_);refine jZ rfl rfl rfl HX 2 rfl (i:=0) (.agg #[.int .i64 lo,.int .i64 hi]) [.int .i64 lo,.int .i64 hi] #[.int .i64 lo,.int .i64 hi] rfl rfl rfl tX (by simp) (by simp [Value.oneCell']) rfl ?_;clear HX nM nN xL xM;intro w9 HX hx;clear hx;dsimp only [List.set] at HX;obtain ⟨nM,nN⟩:=HX.g2 1 rfl;obtain ⟨xL,xM⟩:=HX.g2 2 rfl))
       have HF:xO av bF l2 a3 a4 ni nk=(true,lo,hi):=by rw [← HI2.out,qR,HT.out];rfl
       refine bodyPost_ret (kW rfl _ _ g12 37 #[.int .i64 lo,.int .i64 hi] (0,0) _ rfl (HX.gb 2 rfl) Tryz.underlying37 rfl tX) rfl ?_;have hR:=HRR.out;rw [HF] at hR
       obtain ⟨rfl,rfl,rfl⟩:lo=r1∧hi=r2∧0=r3:=by simpa using hR
       exact ⟨rfl,HX.below⟩
   ·obtain rfl:n=13:=by omega
    obtain ⟨nM,nN⟩:=HX.g2 0 rfl;obtain ⟨xL,xM⟩:=HX.g2 1 rfl
    have HF:xO av bF l2 a3 a4 ni nk=(met,lo,hi):=by rw [← HI.out];rfl
    cases met
    ·go_wp2_with (first|((with_reducible refine aY (t:=37) (p:=12) rfl ?_);refine jZ rfl rfl rfl HX 1 rfl (i:=0) (.agg #[.int .i64 0,.int .i64 0]) [.int .i64 0,.int .i64 0] #[.int .i64 0,.int .i64 0] rfl rfl rfl tX (by simp) (by simp [Value.oneCell']) rfl ?_;clear HX nM nN xL xM;intro w9 HX hx;clear hx;dsimp only [List.set] at HX;obtain ⟨nM,nN⟩:=HX.g2 0 rfl;obtain ⟨xL,xM⟩:=HX.g2 1 rfl))
     (try rw [Exit.noGoto_ret])
     refine bodyPost_ret (kW rfl _ _ g12 37 #[.int .i64 0,.int .i64 0] (0,0) _ rfl (HX.gb 1 rfl) Tryz.underlying37 rfl tX) rfl ?_;have hR:=HRR.out;rw [HF] at hR
     obtain ⟨rfl,rfl,rfl⟩:0=r1∧0=r2∧5=r3:=by simpa using hR
     exact ⟨rfl,HX.below⟩
    ·go_wp2_with (first|((with_reducible refine aY (t:=37) (p:=12) rfl ?_);refine jZ rfl rfl rfl HX 1 rfl (i:=0) (.agg #[.int .i64 lo,.int .i64 hi]) [.int .i64 lo,.int .i64 hi] #[.int .i64 lo,.int .i64 hi] rfl rfl rfl tX (by simp) (by simp [Value.oneCell']) rfl ?_;clear HX nM nN xL xM;intro w9 HX hx;clear hx;dsimp only [List.set] at HX;obtain ⟨nM,nN⟩:=HX.g2 0 rfl;obtain ⟨xL,xM⟩:=HX.g2 1 rfl))
     (try rw [Exit.noGoto_ret])
     refine bodyPost_ret (kW rfl _ _ g12 37 #[.int .i64 lo,.int .i64 hi] (0,0) _ rfl (HX.gb 1 rfl) Tryz.underlying37 rfl tX) rfl ?_;have hR:=HRR.out;rw [HF] at hR
     obtain ⟨rfl,rfl,rfl⟩:lo=r1∧hi=r2∧0=r3:=by simpa using hR
     exact ⟨rfl,HX.below⟩
def iQ.l0:Nat->Int->List Int->Int->Int->Option Int
 | 0,_,_,_,_=>none
 | k+1,x3,x6,x7,x8=>if x8<x7 then (if 0<=x8 then (if x8<(x6.length:Int) then (if (rd x6 x8)=x3 then (iQ.l0 k x3 x6 x7 (wrap64 (x8+1))) else (some (rd x6 x8))) else (none)) else (none)) else (some x3)
def iQ.f (k:Nat) (l0:List Int):Option Int:=iQ.l0 k 0 l0 (l0.length:Int) 0
theorem iQ.calls (k:Nat) (A0:Option Addr) (c0:Nat) (l0:List Int) (r:Int) (w:World) (hr0:Kd.C (Kd.int .i64) w A0 l0.length l0) (hc0:l0.length<=c0) (h:iQ.f k l0=some r) :
  Calls Tryz.prog 134 #[.slice A0 l0.length c0] w fun e w'=>e=.returned (.int .i64 r)∧gU w w':=by
 have Fp:=aj.mk hr0;have Zf:=aj.mk hc0;clear hr0 hc0;have H:(iQ.l0 k 0 l0 (l0.length:Int) 0)=some r:=h;clear h;have H':=aj.mk H;clear H
 go_enter Tryz.func134,Tryz.ntmps134
 go_wp2
 go_loopg [8] k (fun kq v8 w'=>∃ (dK:Int),v8=.int .i64 dK∧aj (iQ.l0 kq 0 l0 (l0.length:Int) dK=some r)∧aj (kq<=k)∧gU w w')
 case atStart=>exact ⟨(0),tS,H',⟨Nat.le_refl _⟩,tD⟩
 case round =>
  clear H'
  try clear c1
  obtain ⟨dK,rfl,HA,qg,⟨m1,rfl⟩⟩:=hrel
  cases gk with
  | zero=>exact absurd HA.out (by simp [iQ.l0])
  | succ k1 =>
   have H:=HA.out;clear HA;simp only [iQ.l0] at H
   by_cases c2:dK<(l0.length:Int)
   ·rw [if_pos c2] at H
    have Ep:decide (dK<(l0.length:Int))=true:=decide_eq_true c2;clear c2
    by_cases c3:0<=dK
    ·rw [if_pos c3] at H
     have qd:decide (0<=dK)=true:=decide_eq_true c3;clear c3
     by_cases c4:dK<(l0.length:Int)
     ·rw [if_pos c4] at H
      have pR:decide (dK<(l0.length:Int))=true:=decide_eq_true c4;clear c4
      by_cases c5:(rd l0 dK)=0
      ·rw [if_pos c5] at H
       have zC:((rd l0 dK) == 0)=true:=beq_iff_eq.mpr c5;have qkc:((rd l0 dK) != 0)=false:=bne_eq_false_iff_eq.mpr c5;clear c5;have H':=aj.mk H;clear H;have NG:0<=(dK:Int):=of_decide_eq_true tA;have NH:dK<(l0.length:Int):=of_decide_eq_true tA;obtain ⟨qeX,e230,Yl⟩:=Kd.iE Fp.out dK NG NH
       cases e230
       replace NG:=eq_true NG;replace NH:=eq_true NH
       go_wp2
       go_roundg k1
       case measure=>have:=qg.out;omega
       case rel=>exact ⟨(wrap64 (dK+1)),tS,H',⟨by have:=qg.out;omega⟩,tD⟩
      ·rw [if_neg c5] at H
       have zC:((rd l0 dK) == 0)=false:=beq_eq_false_iff_ne.mpr c5;have qkc:((rd l0 dK) != 0)=true:=bne_iff_ne.mpr c5;obtain rfl:=Option.some.inj H;have NG:0<=(dK:Int):=of_decide_eq_true tA;have NH:dK<(l0.length:Int):=of_decide_eq_true tA;obtain ⟨qeX,e230,Yl⟩:=Kd.iE Fp.out dK NG NH
       cases e230
       replace NG:=eq_true NG;replace NH:=eq_true NH
       go_wp2
       go_ret
       exact ⟨tS,tD⟩
     ·rw [if_neg c4] at H
      exact absurd H (by simp)
    ·rw [if_neg c3] at H
     exact absurd H (by simp)
   ·rw [if_neg c2] at H
    have Ep:decide (dK<(l0.length:Int))=false:=decide_eq_false c2;clear c2;obtain rfl:=Option.some.inj H
    go_wp2
    go_ret
    exact ⟨tS,tD⟩
def cmp_isNaN_int.f (a0:Int):Option Bool:=some (a0 != a0)
theorem cmp_isNaN_int.calls (a0:Int) (r:Bool) (w:World) (h:cmp_isNaN_int.f a0=some r) :
  Calls Tryz.prog 183 #[.int .i64 a0] w fun e w'=>e=.returned (.bool r)∧gU w w':=by
 have H:(some (a0 != a0))=some r:=h;clear h;obtain rfl:=Option.some.inj H
 go_enter Tryz.func183,Tryz.ntmps183
 go_wp2
 go_ret
 exact ⟨tS,tD⟩
def cmp_Compare_int.f (a0:Int) (a1:Int):Option Int:=(cmp_isNaN_int.f a0).bind fun t231=>((cmp_isNaN_int.f a1).bind fun t232=>(if t231=true then (if t232=true then (some 0) else (some (-1))) else (if t232=true then (some 1) else (if a0<a1 then (some (-1)) else (if a0>a1 then (some 1) else (some 0))))))
theorem cmp_Compare_int.calls (a0:Int) (a1:Int) (r:Int) (w:World) (h:cmp_Compare_int.f a0 a1=some r) :
  Calls Tryz.prog 135 #[.int .i64 a0,.int .i64 a1] w fun e w'=>e=.returned (.int .i64 r)∧gU w w':=by
 have H:((cmp_isNaN_int.f a0).bind fun t231=>((cmp_isNaN_int.f a1).bind fun t232=>(if t231=true then (if t232=true then (some 0) else (some (-1))) else (if t232=true then (some 1) else (if a0<a1 then (some (-1)) else (if a0>a1 then (some 1) else (some 0)))))))=some r:=h;clear h;obtain ⟨t231,A3,H⟩:=nU H;obtain ⟨t232,A4,H⟩:=nU H
 by_cases c5:t231=true
 ·subst c5
  rw [if_pos rfl] at H
  by_cases c6:t232=true
  ·subst c6
   rw [if_pos rfl] at H;obtain rfl:=Option.some.inj H
   go_enter Tryz.func135,Tryz.ntmps135
   go_wp2_with (first|((with_reducible refine aG (f:=183) rfl ?_);refine bX (some 8) rfl rfl Tryz.func183 tX rfl #[.int .i64 a0] rfl tM ?_;(with_reducible refine (cmp_isNaN_int.calls a0 true _ A3.out).mono ?_);rintro e w' ⟨rfl,⟨nd,rfl⟩⟩;refine ⟨_,rfl,?_⟩)|((with_reducible refine aG (f:=183) rfl ?_);refine bX (some 10) rfl rfl Tryz.func183 tX rfl #[.int .i64 a1] rfl tM ?_;(with_reducible refine (cmp_isNaN_int.calls a1 true _ A4.out).mono ?_);rintro e w' ⟨rfl,⟨nd,rfl⟩⟩;refine ⟨_,rfl,?_⟩))
   go_ret
   exact ⟨tS,tD⟩
  ·replace c6:=Bool.eq_false_iff.mpr c6
   subst c6
   have H1:(some (-1))=some r:=by rw [if_neg (show ¬ (false=true) by decide)] at H;exact H
   clear H;have H:=H1;clear H1;obtain rfl:=Option.some.inj H
   go_enter Tryz.func135,Tryz.ntmps135
   go_wp2_with (first|((with_reducible refine aG (f:=183) rfl ?_);refine bX (some 8) rfl rfl Tryz.func183 tX rfl #[.int .i64 a0] rfl tM ?_;(with_reducible refine (cmp_isNaN_int.calls a0 true _ A3.out).mono ?_);rintro e w' ⟨rfl,⟨nd,rfl⟩⟩;refine ⟨_,rfl,?_⟩)|((with_reducible refine aG (f:=183) rfl ?_);refine bX (some 10) rfl rfl Tryz.func183 tX rfl #[.int .i64 a1] rfl tM ?_;(with_reducible refine (cmp_isNaN_int.calls a1 false _ A4.out).mono ?_);rintro e w' ⟨rfl,⟨nd,rfl⟩⟩;refine ⟨_,rfl,?_⟩))
   go_ret
   exact ⟨tS,tD⟩
 ·replace c5:=Bool.eq_false_iff.mpr c5
  subst c5
  have H1:(if t232=true then (some 1) else (if a0<a1 then (some (-1)) else (if a0>a1 then (some 1) else (some 0))))=some r:=by rw [if_neg (show ¬ (false=true) by decide)] at H;exact H
  clear H;have H:=H1;clear H1
  by_cases c7:t232=true
  ·subst c7
   rw [if_pos rfl] at H;obtain rfl:=Option.some.inj H
   go_enter Tryz.func135,Tryz.ntmps135
   go_wp2_with (first|((with_reducible refine aG (f:=183) rfl ?_);refine bX (some 8) rfl rfl Tryz.func183 tX rfl #[.int .i64 a0] rfl tM ?_;(with_reducible refine (cmp_isNaN_int.calls a0 false _ A3.out).mono ?_);rintro e w' ⟨rfl,⟨nd,rfl⟩⟩;refine ⟨_,rfl,?_⟩)|((with_reducible refine aG (f:=183) rfl ?_);refine bX (some 10) rfl rfl Tryz.func183 tX rfl #[.int .i64 a1] rfl tM ?_;(with_reducible refine (cmp_isNaN_int.calls a1 true _ A4.out).mono ?_);rintro e w' ⟨rfl,⟨nd,rfl⟩⟩;refine ⟨_,rfl,?_⟩))
   go_ret
   exact ⟨tS,tD⟩
  ·replace c7:=Bool.eq_false_iff.mpr c7
   subst c7
   have H1:(if a0<a1 then (some (-1)) else (if a0>a1 then (some 1) else (some 0)))=some r:=by rw [if_neg (show ¬ (false=true) by decide)] at H;exact H
   clear H;have H:=H1;clear H1
   by_cases c8:a0<a1
   ·rw [if_pos c8] at H
    have Hz:decide (a0<a1)=true:=decide_eq_true c8;clear c8;obtain rfl:=Option.some.inj H
    go_enter Tryz.func135,Tryz.ntmps135
    go_wp2_with (first|((with_reducible refine aG (f:=183) rfl ?_);refine bX (some 8) rfl rfl Tryz.func183 tX rfl #[.int .i64 a0] rfl tM ?_;(with_reducible refine (cmp_isNaN_int.calls a0 false _ A3.out).mono ?_);rintro e w' ⟨rfl,⟨nd,rfl⟩⟩;refine ⟨_,rfl,?_⟩)|((with_reducible refine aG (f:=183) rfl ?_);refine bX (some 10) rfl rfl Tryz.func183 tX rfl #[.int .i64 a1] rfl tM ?_;(with_reducible refine (cmp_isNaN_int.calls a1 false _ A4.out).mono ?_);rintro e w' ⟨rfl,⟨nd,rfl⟩⟩;refine ⟨_,rfl,?_⟩))
    go_ret
    exact ⟨tS,tD⟩
   ·rw [if_neg c8] at H
    have Hz:decide (a0<a1)=false:=decide_eq_false c8;clear c8
    by_cases c9:a0>a1
    ·rw [if_pos c9] at H
     have Q9:decide (a1<a0)=true:=decide_eq_true c9;clear c9;obtain rfl:=Option.some.inj H
     go_enter Tryz.func135,Tryz.ntmps135
     go_wp2_with (first|((with_reducible refine aG (f:=183) rfl ?_);refine bX (some 8) rfl rfl Tryz.func183 tX rfl #[.int .i64 a0] rfl tM ?_;(with_reducible refine (cmp_isNaN_int.calls a0 false _ A3.out).mono ?_);rintro e w' ⟨rfl,⟨nd,rfl⟩⟩;refine ⟨_,rfl,?_⟩)|((with_reducible refine aG (f:=183) rfl ?_);refine bX (some 10) rfl rfl Tryz.func183 tX rfl #[.int .i64 a1] rfl tM ?_;(with_reducible refine (cmp_isNaN_int.calls a1 false _ A4.out).mono ?_);rintro e w' ⟨rfl,⟨nd,rfl⟩⟩;refine ⟨_,rfl,?_⟩))
     go_ret
     exact ⟨tS,tD⟩
    ·rw [if_neg c9] at H
     have Q9:decide (a1<a0)=false:=decide_eq_false c9;clear c9;obtain rfl:=Option.some.inj H
     go_enter Tryz.func135,Tryz.ntmps135
     go_wp2_with (first|((with_reducible refine aG (f:=183) rfl ?_);refine bX (some 8) rfl rfl Tryz.func183 tX rfl #[.int .i64 a0] rfl tM ?_;(with_reducible refine (cmp_isNaN_int.calls a0 false _ A3.out).mono ?_);rintro e w' ⟨rfl,⟨nd,rfl⟩⟩;refine ⟨_,rfl,?_⟩)|((with_reducible refine aG (f:=183) rfl ?_);refine bX (some 10) rfl rfl Tryz.func183 tX rfl #[.int .i64 a1] rfl tM ?_;(with_reducible refine (cmp_isNaN_int.calls a1 false _ A4.out).mono ?_);rintro e w' ⟨rfl,⟨nd,rfl⟩⟩;refine ⟨_,rfl,?_⟩))
     go_ret
     exact ⟨tS,tD⟩
def kQ.f (a0:Int):Option Int:=some (Go.bits .and .i64 (wrap64 (IntKind.u64.wrap ((IntKind.u64.wrap ((IntKind.u64.wrap ((Go.bits .and .u64 (IntKind.u64.wrap (((IntKind.u64.wrap ((Go.bits .and .u64 ((IntKind.u64.wrap ((Go.bits .and .u64 (a0 / 2) 6148914691236517205)+(Go.bits .and .u64 a0 6148914691236517205))) / 4) 3689348814741910323)+(Go.bits .and .u64 (IntKind.u64.wrap ((Go.bits .and .u64 (a0 / 2) 6148914691236517205)+(Go.bits .and .u64 a0 6148914691236517205))) 3689348814741910323))) / 16)+(IntKind.u64.wrap ((Go.bits .and .u64 ((IntKind.u64.wrap ((Go.bits .and .u64 (a0 / 2) 6148914691236517205)+(Go.bits .and .u64 a0 6148914691236517205))) / 4) 3689348814741910323)+(Go.bits .and .u64 (IntKind.u64.wrap ((Go.bits .and .u64 (a0 / 2) 6148914691236517205)+(Go.bits .and .u64 a0 6148914691236517205))) 3689348814741910323))))) 1085102592571150095)+((Go.bits .and .u64 (IntKind.u64.wrap (((IntKind.u64.wrap ((Go.bits .and .u64 ((IntKind.u64.wrap ((Go.bits .and .u64 (a0 / 2) 6148914691236517205)+(Go.bits .and .u64 a0 6148914691236517205))) / 4) 3689348814741910323)+(Go.bits .and .u64 (IntKind.u64.wrap ((Go.bits .and .u64 (a0 / 2) 6148914691236517205)+(Go.bits .and .u64 a0 6148914691236517205))) 3689348814741910323))) / 16)+(IntKind.u64.wrap ((Go.bits .and .u64 ((IntKind.u64.wrap ((Go.bits .and .u64 (a0 / 2) 6148914691236517205)+(Go.bits .and .u64 a0 6148914691236517205))) / 4) 3689348814741910323)+(Go.bits .and .u64 (IntKind.u64.wrap ((Go.bits .and .u64 (a0 / 2) 6148914691236517205)+(Go.bits .and .u64 a0 6148914691236517205))) 3689348814741910323))))) 1085102592571150095) / 256)))+((IntKind.u64.wrap ((Go.bits .and .u64 (IntKind.u64.wrap (((IntKind.u64.wrap ((Go.bits .and .u64 ((IntKind.u64.wrap ((Go.bits .and .u64 (a0 / 2) 6148914691236517205)+(Go.bits .and .u64 a0 6148914691236517205))) / 4) 3689348814741910323)+(Go.bits .and .u64 (IntKind.u64.wrap ((Go.bits .and .u64 (a0 / 2) 6148914691236517205)+(Go.bits .and .u64 a0 6148914691236517205))) 3689348814741910323))) / 16)+(IntKind.u64.wrap ((Go.bits .and .u64 ((IntKind.u64.wrap ((Go.bits .and .u64 (a0 / 2) 6148914691236517205)+(Go.bits .and .u64 a0 6148914691236517205))) / 4) 3689348814741910323)+(Go.bits .and .u64 (IntKind.u64.wrap ((Go.bits .and .u64 (a0 / 2) 6148914691236517205)+(Go.bits .and .u64 a0 6148914691236517205))) 3689348814741910323))))) 1085102592571150095)+((Go.bits .and .u64 (IntKind.u64.wrap (((IntKind.u64.wrap ((Go.bits .and .u64 ((IntKind.u64.wrap ((Go.bits .and .u64 (a0 / 2) 6148914691236517205)+(Go.bits .and .u64 a0 6148914691236517205))) / 4) 3689348814741910323)+(Go.bits .and .u64 (IntKind.u64.wrap ((Go.bits .and .u64 (a0 / 2) 6148914691236517205)+(Go.bits .and .u64 a0 6148914691236517205))) 3689348814741910323))) / 16)+(IntKind.u64.wrap ((Go.bits .and .u64 ((IntKind.u64.wrap ((Go.bits .and .u64 (a0 / 2) 6148914691236517205)+(Go.bits .and .u64 a0 6148914691236517205))) / 4) 3689348814741910323)+(Go.bits .and .u64 (IntKind.u64.wrap ((Go.bits .and .u64 (a0 / 2) 6148914691236517205)+(Go.bits .and .u64 a0 6148914691236517205))) 3689348814741910323))))) 1085102592571150095) / 256))) / 65536)))+((IntKind.u64.wrap ((IntKind.u64.wrap ((Go.bits .and .u64 (IntKind.u64.wrap (((IntKind.u64.wrap ((Go.bits .and .u64 ((IntKind.u64.wrap ((Go.bits .and .u64 (a0 / 2) 6148914691236517205)+(Go.bits .and .u64 a0 6148914691236517205))) / 4) 3689348814741910323)+(Go.bits .and .u64 (IntKind.u64.wrap ((Go.bits .and .u64 (a0 / 2) 6148914691236517205)+(Go.bits .and .u64 a0 6148914691236517205))) 3689348814741910323))) / 16)+(IntKind.u64.wrap ((Go.bits .and .u64 ((IntKind.u64.wrap ((Go.bits .and .u64 (a0 / 2) 6148914691236517205)+(Go.bits .and .u64 a0 6148914691236517205))) / 4) 3689348814741910323)+(Go.bits .and .u64 (IntKind.u64.wrap ((Go.bits .and .u64 (a0 / 2) 6148914691236517205)+(Go.bits .and .u64 a0 6148914691236517205))) 3689348814741910323))))) 1085102592571150095)+((Go.bits .and .u64 (IntKind.u64.wrap (((IntKind.u64.wrap ((Go.bits .and .u64 ((IntKind.u64.wrap ((Go.bits .and .u64 (a0 / 2) 6148914691236517205)+(Go.bits .and .u64 a0 6148914691236517205))) / 4) 3689348814741910323)+(Go.bits .and .u64 (IntKind.u64.wrap ((Go.bits .and .u64 (a0 / 2) 6148914691236517205)+(Go.bits .and .u64 a0 6148914691236517205))) 3689348814741910323))) / 16)+(IntKind.u64.wrap ((Go.bits .and .u64 ((IntKind.u64.wrap ((Go.bits .and .u64 (a0 / 2) 6148914691236517205)+(Go.bits .and .u64 a0 6148914691236517205))) / 4) 3689348814741910323)+(Go.bits .and .u64 (IntKind.u64.wrap ((Go.bits .and .u64 (a0 / 2) 6148914691236517205)+(Go.bits .and .u64 a0 6148914691236517205))) 3689348814741910323))))) 1085102592571150095) / 256)))+((IntKind.u64.wrap ((Go.bits .and .u64 (IntKind.u64.wrap (((IntKind.u64.wrap ((Go.bits .and .u64 ((IntKind.u64.wrap ((Go.bits .and .u64 (a0 / 2) 6148914691236517205)+(Go.bits .and .u64 a0 6148914691236517205))) / 4) 3689348814741910323)+(Go.bits .and .u64 (IntKind.u64.wrap ((Go.bits .and .u64 (a0 / 2) 6148914691236517205)+(Go.bits .and .u64 a0 6148914691236517205))) 3689348814741910323))) / 16)+(IntKind.u64.wrap ((Go.bits .and .u64 ((IntKind.u64.wrap ((Go.bits .and .u64 (a0 / 2) 6148914691236517205)+(Go.bits .and .u64 a0 6148914691236517205))) / 4) 3689348814741910323)+(Go.bits .and .u64 (IntKind.u64.wrap ((Go.bits .and .u64 (a0 / 2) 6148914691236517205)+(Go.bits .and .u64 a0 6148914691236517205))) 3689348814741910323))))) 1085102592571150095)+((Go.bits .and .u64 (IntKind.u64.wrap (((IntKind.u64.wrap ((Go.bits .and .u64 ((IntKind.u64.wrap ((Go.bits .and .u64 (a0 / 2) 6148914691236517205)+(Go.bits .and .u64 a0 6148914691236517205))) / 4) 3689348814741910323)+(Go.bits .and .u64 (IntKind.u64.wrap ((Go.bits .and .u64 (a0 / 2) 6148914691236517205)+(Go.bits .and .u64 a0 6148914691236517205))) 3689348814741910323))) / 16)+(IntKind.u64.wrap ((Go.bits .and .u64 ((IntKind.u64.wrap ((Go.bits .and .u64 (a0 / 2) 6148914691236517205)+(Go.bits .and .u64 a0 6148914691236517205))) / 4) 3689348814741910323)+(Go.bits .and .u64 (IntKind.u64.wrap ((Go.bits .and .u64 (a0 / 2) 6148914691236517205)+(Go.bits .and .u64 a0 6148914691236517205))) 3689348814741910323))))) 1085102592571150095) / 256))) / 65536))) / 4294967296)))) 127)
theorem kQ.calls (a0:Int) (r:Int) (w:World) (h:kQ.f a0=some r) :
  Calls Tryz.prog 185 #[.int .u64 a0] w fun e w'=>e=.returned (.int .i64 r)∧gU w w':=by
 have H:(some (Go.bits .and .i64 (wrap64 (IntKind.u64.wrap ((IntKind.u64.wrap ((IntKind.u64.wrap ((Go.bits .and .u64 (IntKind.u64.wrap (((IntKind.u64.wrap ((Go.bits .and .u64 ((IntKind.u64.wrap ((Go.bits .and .u64 (a0 / 2) 6148914691236517205)+(Go.bits .and .u64 a0 6148914691236517205))) / 4) 3689348814741910323)+(Go.bits .and .u64 (IntKind.u64.wrap ((Go.bits .and .u64 (a0 / 2) 6148914691236517205)+(Go.bits .and .u64 a0 6148914691236517205))) 3689348814741910323))) / 16)+(IntKind.u64.wrap ((Go.bits .and .u64 ((IntKind.u64.wrap ((Go.bits .and .u64 (a0 / 2) 6148914691236517205)+(Go.bits .and .u64 a0 6148914691236517205))) / 4) 3689348814741910323)+(Go.bits .and .u64 (IntKind.u64.wrap ((Go.bits .and .u64 (a0 / 2) 6148914691236517205)+(Go.bits .and .u64 a0 6148914691236517205))) 3689348814741910323))))) 1085102592571150095)+((Go.bits .and .u64 (IntKind.u64.wrap (((IntKind.u64.wrap ((Go.bits .and .u64 ((IntKind.u64.wrap ((Go.bits .and .u64 (a0 / 2) 6148914691236517205)+(Go.bits .and .u64 a0 6148914691236517205))) / 4) 3689348814741910323)+(Go.bits .and .u64 (IntKind.u64.wrap ((Go.bits .and .u64 (a0 / 2) 6148914691236517205)+(Go.bits .and .u64 a0 6148914691236517205))) 3689348814741910323))) / 16)+(IntKind.u64.wrap ((Go.bits .and .u64 ((IntKind.u64.wrap ((Go.bits .and .u64 (a0 / 2) 6148914691236517205)+(Go.bits .and .u64 a0 6148914691236517205))) / 4) 3689348814741910323)+(Go.bits .and .u64 (IntKind.u64.wrap ((Go.bits .and .u64 (a0 / 2) 6148914691236517205)+(Go.bits .and .u64 a0 6148914691236517205))) 3689348814741910323))))) 1085102592571150095) / 256)))+((IntKind.u64.wrap ((Go.bits .and .u64 (IntKind.u64.wrap (((IntKind.u64.wrap ((Go.bits .and .u64 ((IntKind.u64.wrap ((Go.bits .and .u64 (a0 / 2) 6148914691236517205)+(Go.bits .and .u64 a0 6148914691236517205))) / 4) 3689348814741910323)+(Go.bits .and .u64 (IntKind.u64.wrap ((Go.bits .and .u64 (a0 / 2) 6148914691236517205)+(Go.bits .and .u64 a0 6148914691236517205))) 3689348814741910323))) / 16)+(IntKind.u64.wrap ((Go.bits .and .u64 ((IntKind.u64.wrap ((Go.bits .and .u64 (a0 / 2) 6148914691236517205)+(Go.bits .and .u64 a0 6148914691236517205))) / 4) 3689348814741910323)+(Go.bits .and .u64 (IntKind.u64.wrap ((Go.bits .and .u64 (a0 / 2) 6148914691236517205)+(Go.bits .and .u64 a0 6148914691236517205))) 3689348814741910323))))) 1085102592571150095)+((Go.bits .and .u64 (IntKind.u64.wrap (((IntKind.u64.wrap ((Go.bits .and .u64 ((IntKind.u64.wrap ((Go.bits .and .u64 (a0 / 2) 6148914691236517205)+(Go.bits .and .u64 a0 6148914691236517205))) / 4) 3689348814741910323)+(Go.bits .and .u64 (IntKind.u64.wrap ((Go.bits .and .u64 (a0 / 2) 6148914691236517205)+(Go.bits .and .u64 a0 6148914691236517205))) 3689348814741910323))) / 16)+(IntKind.u64.wrap ((Go.bits .and .u64 ((IntKind.u64.wrap ((Go.bits .and .u64 (a0 / 2) 6148914691236517205)+(Go.bits .and .u64 a0 6148914691236517205))) / 4) 3689348814741910323)+(Go.bits .and .u64 (IntKind.u64.wrap ((Go.bits .and .u64 (a0 / 2) 6148914691236517205)+(Go.bits .and .u64 a0 6148914691236517205))) 3689348814741910323))))) 1085102592571150095) / 256))) / 65536)))+((IntKind.u64.wrap ((IntKind.u64.wrap ((Go.bits .and .u64 (IntKind.u64.wrap (((IntKind.u64.wrap ((Go.bits .and .u64 ((IntKind.u64.wrap ((Go.bits .and .u64 (a0 / 2) 6148914691236517205)+(Go.bits .and .u64 a0 6148914691236517205))) / 4) 3689348814741910323)+(Go.bits .and .u64 (IntKind.u64.wrap ((Go.bits .and .u64 (a0 / 2) 6148914691236517205)+(Go.bits .and .u64 a0 6148914691236517205))) 3689348814741910323))) / 16)+(IntKind.u64.wrap ((Go.bits .and .u64 ((IntKind.u64.wrap ((Go.bits .and .u64 (a0 / 2) 6148914691236517205)+(Go.bits .and .u64 a0 6148914691236517205))) / 4) 3689348814741910323)+(Go.bits .and .u64 (IntKind.u64.wrap ((Go.bits .and .u64 (a0 / 2) 6148914691236517205)+(Go.bits .and .u64 a0 6148914691236517205))) 3689348814741910323))))) 1085102592571150095)+((Go.bits .and .u64 (IntKind.u64.wrap (((IntKind.u64.wrap ((Go.bits .and .u64 ((IntKind.u64.wrap ((Go.bits .and .u64 (a0 / 2) 6148914691236517205)+(Go.bits .and .u64 a0 6148914691236517205))) / 4) 3689348814741910323)+(Go.bits .and .u64 (IntKind.u64.wrap ((Go.bits .and .u64 (a0 / 2) 6148914691236517205)+(Go.bits .and .u64 a0 6148914691236517205))) 3689348814741910323))) / 16)+(IntKind.u64.wrap ((Go.bits .and .u64 ((IntKind.u64.wrap ((Go.bits .and .u64 (a0 / 2) 6148914691236517205)+(Go.bits .and .u64 a0 6148914691236517205))) / 4) 3689348814741910323)+(Go.bits .and .u64 (IntKind.u64.wrap ((Go.bits .and .u64 (a0 / 2) 6148914691236517205)+(Go.bits .and .u64 a0 6148914691236517205))) 3689348814741910323))))) 1085102592571150095) / 256)))+((IntKind.u64.wrap ((Go.bits .and .u64 (IntKind.u64.wrap (((IntKind.u64.wrap ((Go.bits .and .u64 ((IntKind.u64.wrap ((Go.bits .and .u64 (a0 / 2) 6148914691236517205)+(Go.bits .and .u64 a0 6148914691236517205))) / 4) 3689348814741910323)+(Go.bits .and .u64 (IntKind.u64.wrap ((Go.bits .and .u64 (a0 / 2) 6148914691236517205)+(Go.bits .and .u64 a0 6148914691236517205))) 3689348814741910323))) / 16)+(IntKind.u64.wrap ((Go.bits .and .u64 ((IntKind.u64.wrap ((Go.bits .and .u64 (a0 / 2) 6148914691236517205)+(Go.bits .and .u64 a0 6148914691236517205))) / 4) 3689348814741910323)+(Go.bits .and .u64 (IntKind.u64.wrap ((Go.bits .and .u64 (a0 / 2) 6148914691236517205)+(Go.bits .and .u64 a0 6148914691236517205))) 3689348814741910323))))) 1085102592571150095)+((Go.bits .and .u64 (IntKind.u64.wrap (((IntKind.u64.wrap ((Go.bits .and .u64 ((IntKind.u64.wrap ((Go.bits .and .u64 (a0 / 2) 6148914691236517205)+(Go.bits .and .u64 a0 6148914691236517205))) / 4) 3689348814741910323)+(Go.bits .and .u64 (IntKind.u64.wrap ((Go.bits .and .u64 (a0 / 2) 6148914691236517205)+(Go.bits .and .u64 a0 6148914691236517205))) 3689348814741910323))) / 16)+(IntKind.u64.wrap ((Go.bits .and .u64 ((IntKind.u64.wrap ((Go.bits .and .u64 (a0 / 2) 6148914691236517205)+(Go.bits .and .u64 a0 6148914691236517205))) / 4) 3689348814741910323)+(Go.bits .and .u64 (IntKind.u64.wrap ((Go.bits .and .u64 (a0 / 2) 6148914691236517205)+(Go.bits .and .u64 a0 6148914691236517205))) 3689348814741910323))))) 1085102592571150095) / 256))) / 65536))) / 4294967296)))) 127))=some r:=h;clear h;obtain rfl:=Option.some.inj H
 go_enter Tryz.func185,Tryz.ntmps185
 go_wp2
 go_ret
 exact ⟨tS,tD⟩
def jL.f (a0:Int):Option Int:=(kQ.f a0).bind fun t233=>(some t233)
theorem jL.calls (a0:Int) (r:Int) (w:World) (h:jL.f a0=some r) :
  Calls Tryz.prog 136 #[.int .u64 a0] w fun e w'=>e=.returned (.int .i64 r)∧gU w w':=by
 have H:((kQ.f a0).bind fun t233=>(some t233))=some r:=h;clear h;obtain ⟨t233,A2,H⟩:=nU H;obtain rfl:=Option.some.inj H
 go_enter Tryz.func136,Tryz.ntmps136
 go_wp2_with (first|((with_reducible refine aG (f:=185) rfl ?_);refine bX (some 7) rfl rfl Tryz.func185 tX rfl #[.int .u64 a0] rfl tM ?_;(with_reducible refine (kQ.calls a0 t233 _ A2.out).mono ?_);rintro e w' ⟨rfl,⟨nd,rfl⟩⟩;refine ⟨_,rfl,?_⟩))
 go_ret
 exact ⟨tS,tD⟩
def xR (n:Int):Int:=n%2+n / 2%2+n / 4%2+n / 8%2+n / 16%2
def xS (a b:Int):Int:=if a<b then -1 else if b<a then 1 else 0
def orI (x y z:Int):Int:=if x=0 then (if y=0 then z else y) else x
def rM (l:List dD) (a b:Int):Bool:=decide (orI (xS (xR a) (xR b)) (xS (nL l a) (nL l b)) (xS a b)<0)
theorem U1 {n:Int} (h0:0<=n) (h1:n<32):IntKind.u64.wrap n=n:=by
 rw [IntKind.wrap_u64]
 omega
theorem qbQ {n:Int} (h0:0<=n) (h1:n<32):jL.f n=some (xR n):=by
 have h:((List.range 32).all fun m=>jL.f (m:Int) == some (xR (m:Int)))=true:=by kernel_rfl
 have:=List.all_eq_true.1 h n.toNat (List.mem_range.2 (by omega));rw [show ((n.toNat:Nat):Int)=n by omega] at this
 simpa using this
theorem U2 {n:Int} (h0:0<=n) (h1:n<32):jL.f (IntKind.u64.wrap n)=some (xR n):=by
 rw [show IntKind.u64.wrap n=n from U1 h0 h1];exact qbQ h0 h1
theorem U3 (a b:Int):cmp_Compare_int.f a b=some (xS a b):=by
 unfold cmp_Compare_int.f cmp_isNaN_int.f xS
 simp only [bne_self_eq_false,Option.bind_some,Bool.false_eq_true,if_false]
 by_cases h:a<b
 ·rw [if_pos h,if_pos h]
 ·rw [if_neg h,if_neg h]
  by_cases h2:b<a
  ·rw [if_pos (show a>b from h2),if_pos h2]
  ·rw [if_neg (show ¬ a>b from h2),if_neg h2]
theorem qke (x y z:Int):iQ.f 4 [x,y,z]=some (orI x y z):=by
 unfold iQ.f orI
 have w1:wrap64 (0+1)=1:=by unfold wrap64;omega
 have w2:wrap64 (1+1)=2:=by unfold wrap64;omega
 have w3:wrap64 (2+1)=3:=by unfold wrap64;omega
 simp only [iQ.l0,List.length_cons,List.length_nil,w1,w2,w3]
 by_cases hx:x=0
 ·by_cases hy:y=0
  ·by_cases hz:z=0<;>simp [hx,hy,hz,rd]
  ·simp [hx,hy,rd]
 ·simp [hx,rd]
theorem IW (g8 g5:Nat) (A2:Option Addr) (c2:Nat) (l2:List dD) (a b:Int) (w:World) (h8:w.heap[g8]?=some (.cells #[.func (.func 128) #[] #[.pointer (some ⟨g5,0,none⟩)]] 170 (0,0))) (h5:w.heap[g5]?=some (.cells #[.slice A2 l2.length c2] 59 (0,0)))
  (hr2:Kd.C kS w A2 l2.length l2) (hc2:l2.length<=c2) (hl:l2.length<=5) (hs:∀ s∈l2,0<=s.f2∧s.f2<=999) (ha0:0<=a) (ha1:a<32) (hb0:0<=b) (hb1:b<32) :
  Calls Tryz.prog 133 #[.int .i64 a,.int .i64 b,.pointer (some ⟨g8,0,none⟩)] w fun e w'=>e=.returned (.bool (rM l2 a b))∧Below w.heap.size w w':=by
 have HR:=aj.mk hr2;have HL:=aj.mk hl;have HS:=aj.mk hs;have H8:=aj.mk h8;have H5:=aj.mk h5;have ch:=fG h8;clear h8 h5 hr2 hl hs
 go_enter Tryz.func133,Tryz.ntmps133
 go_wp2_with (fail)
 refine kK (n:=21) (S:=fun w'=>w'.cell? ⟨g8,0,none⟩=some (.func (.func 128) #[] #[.pointer (some ⟨g5,0,none⟩)])) (ds:=[]) #[false,false,false,false,false,false,false,false,false,false,false,false,false,false,false,false,false,false,false,false,false] tX rfl rfl ch (fun hHeld=>?_);have HB:=aj.mk (fC (Below.refl w.heap.size w));clear ch
 generalize w.drew=w6 at HB hHeld ⊢
 refine qB1 0 6 (bA 21 1) ?_;refine qB1 1 7 (bA 21 3) ?_;refine qB1 3 9 (bA 21 11) ?_;refine qB1 4 10 (bA 21 27) ?_;refine qB1 8 14 (bA 21 283) ?_;refine qB1 11 17 (bA 21 2331) ?_;refine qB1 14 20 (bA 21 18715) ?_;refine qB1 15 21 (bA 21 51483) ?_;refine fF (i:=7) (N:=some 13) (v:=?_) (a':=?_) (bA 21 51611) rfl rfl tX (fun _ _ _ h=>h) (Or.inl ⟨by rfl,?_⟩) hHeld ?_ ?_;rotate_left
 ·rintro w' s0
  go_simp
  with_reducible rfl
 rotate_left
 ·simp only [Act.put,sL,ay,aA]
  rfl
 refine fF (i:=10) (N:=some 16) (v:=?_) (a':=?_) (bA 21 52635) rfl rfl tX (fun _ _ _ h=>h) (Or.inl ⟨by rfl,?_⟩) hHeld ?_ ?_;rotate_left
 ·rintro w' s0
  go_simp
  with_reducible rfl
 rotate_left
 ·simp only [Act.put,sL,ay,aA]
  rfl
 refine gZ (i:=2) (N:=some 8) (bA 21 52639) rfl rfl tX (by decide) (fun K hK=>?_);refine gK Tryz.func136 tX rfl #[.int .u64 (IntKind.u64.wrap a)] (by rfl) rfl rfl (by (try simp only [List.map_toArray,List.map_cons,List.map_nil]);first|done|rfl) ?_;refine (oZ (jL.calls _ _ _ (U2 ha0 ha1))).mono ?_;rintro e w1 ⟨rfl,hx⟩;refine ⟨_,rfl,?_⟩;replace HB:=eH HB hx;clear hx;refine hK.out _ _ (fG (aD H8.out HB.out)) (fun hHeld=>?_);clear hK K;refine dn (a':=?_) ?_ ?_;rotate_left
 ·show Act.put _ (some 8) _=_
  simp only [bS,Act.put,sL,ay,aA]
  rfl
 refine gZ (i:=5) (N:=some 11) (bA 21 52671) rfl rfl tX (by decide) (fun K hK=>?_);refine gK Tryz.func136 tX rfl #[.int .u64 (IntKind.u64.wrap b)] (by rfl) rfl rfl (by (try simp only [List.map_toArray,List.map_cons,List.map_nil]);first|done|rfl) ?_;refine (oZ (jL.calls _ _ _ (U2 hb0 hb1))).mono ?_;rintro e w1 ⟨rfl,hx⟩;refine ⟨_,rfl,?_⟩;replace HB:=eH HB hx;clear hx;refine hK.out _ _ (fG (aD H8.out HB.out)) (fun hHeld=>?_);clear hK K;refine dn (a':=?_) ?_ ?_;rotate_left
 ·show Act.put _ (some 11) _=_
  simp only [bS,Act.put,sL,ay,aA]
  rfl
 refine gZ (i:=6) (N:=some 12) (bA 21 52735) rfl rfl tX (by decide) (fun K hK=>?_);refine gK Tryz.func135 tX rfl #[.int .i64 (xR a),.int .i64 (xR b)] (by rfl) rfl rfl (by (try simp only [List.map_toArray,List.map_cons,List.map_nil]);first|done|rfl) ?_;refine (oZ (cmp_Compare_int.calls _ _ _ _ (U3 (xR a) (xR b)))).mono ?_;rintro e w1 ⟨rfl,hx⟩;refine ⟨_,rfl,?_⟩;replace HB:=eH HB hx;clear hx;refine hK.out _ _ (fG (aD H8.out HB.out)) (fun hHeld=>?_);clear hK K;refine dn (a':=?_) ?_ ?_;rotate_left
 ·show Act.put _ (some 12) _=_
  simp only [bS,Act.put,sL,ay,aA]
  rfl
 refine gZ (i:=9) (N:=some 15) (bA 21 53247) rfl rfl tX (by decide) (fun K hK=>?_);refine Oi 128 #[.int .i64 a,.pointer (some ⟨g5,0,none⟩)] (by rfl) rfl tG ?_;refine (Cr g5 A2 c2 l2 a _ (aD H5.out HB.out) (Kd.ak HR.out HB.out) hc2 HL.out HS.out).mono ?_;rintro e w1 ⟨rfl,hx⟩;refine ⟨_,rfl,?_⟩;replace HB:=eH HB hx;clear hx;refine hK.out _ _ (fG (aD H8.out HB.out)) (fun hHeld=>?_);clear hK K;refine dn (a':=?_) ?_ ?_;rotate_left
 ·show Act.put _ (some 15) _=_
  simp only [bS,Act.put,sL,ay,aA]
  rfl
 refine gZ (i:=12) (N:=some 18) (bA 21 57343) rfl rfl tX (by decide) (fun K hK=>?_);refine Oi 128 #[.int .i64 b,.pointer (some ⟨g5,0,none⟩)] (by rfl) rfl tG ?_;refine (Cr g5 A2 c2 l2 b _ (aD H5.out HB.out) (Kd.ak HR.out HB.out) hc2 HL.out HS.out).mono ?_;rintro e w1 ⟨rfl,hx⟩;refine ⟨_,rfl,?_⟩;replace HB:=eH HB hx;clear hx;refine hK.out _ _ (fG (aD H8.out HB.out)) (fun hHeld=>?_);clear hK K;refine dn (a':=?_) ?_ ?_;rotate_left
 ·show Act.put _ (some 18) _=_
  simp only [bS,Act.put,sL,ay,aA]
  rfl
 refine gZ (i:=13) (N:=some 19) (bA 21 65535) rfl rfl tX (by decide) (fun K hK=>?_);refine gK Tryz.func135 tX rfl #[.int .i64 (nL l2 a),.int .i64 (nL l2 b)] (by rfl) rfl rfl (by (try simp only [List.map_toArray,List.map_cons,List.map_nil]);first|done|rfl) ?_;refine (oZ (cmp_Compare_int.calls _ _ _ _ (U3 (nL l2 a) (nL l2 b)))).mono ?_;rintro e w1 ⟨rfl,hx⟩;refine ⟨_,rfl,?_⟩;replace HB:=eH HB hx;clear hx;refine hK.out _ _ (fG (aD H8.out HB.out)) (fun hHeld=>?_);clear hK K;refine dn (a':=?_) ?_ ?_;rotate_left
 ·show Act.put _ (some 19) _=_
  simp only [bS,Act.put,sL,ay,aA]
  rfl
 refine gZ (i:=16) (N:=some 22) (bA 21 131071) rfl rfl tX (by decide) (fun K hK=>?_);refine gK Tryz.func135 tX rfl #[.int .i64 a,.int .i64 b] (by rfl) rfl rfl (by (try simp only [List.map_toArray,List.map_cons,List.map_nil]);first|done|rfl) ?_;refine (oZ (cmp_Compare_int.calls _ _ _ _ (U3 a b))).mono ?_;rintro e w1 ⟨rfl,hx⟩;refine ⟨_,rfl,?_⟩;replace HB:=eH HB hx;clear hx;refine hK.out _ _ (fG (aD H8.out HB.out)) (fun hHeld=>?_);clear hK K;refine dn (a':=?_) ?_ ?_;rotate_left
 ·show Act.put _ (some 22) _=_
  simp only [bS,Act.put,sL,ay,aA]
  rfl
 refine gZ (i:=17) (N:=some 23) (bA 21 262143) rfl rfl tX (by decide) (fun K hK=>?_);refine Kd.og (Kd.int .i64) _ 3 ?hg (N:=23) ?hd (xs:=[xS (xR a) (xR b),xS (nL l2 a) (nL l2 b),xS a b]) (inner:=[.int .i64 (xS (xR a) (xR b)),.int .i64 (xS (nL l2 a) (nL l2 b)),.int .i64 (xS a b)]) (ok:=fun _=>True) (nE:=fun _=>True) ?hr ?hp (fun _ hk=>hk) trivial (Below.refl _ _) (Nat.le_refl _) (by simp) ?_;(case hd=>rfl);(case hg=>rfl);(case hr=>first|(go_simp;done)|(go_simp;rfl));(case hp=>exact dh.one (show Kd.M (Kd.int .i64) _ _ _ _ _ from rfl) (dh.one (show Kd.M (Kd.int .i64) _ _ _ _ _ from rfl) (dh.one (show Kd.M (Kd.int .i64) _ _ _ _ _ from rfl) (dh.none _ _))));intro v w1 ho hx sS gV;clear sS gV;replace HB:=eH HB hx;obtain ⟨A5,c5,rfl,hl5,Yk⟩:=Kd.fE ho;clear hx ho;refine hK.out _ _ (fG (aD H8.out HB.out)) (fun hHeld=>?_);clear hK K;refine dn (a':=?_) ?_ ?_;rotate_left
 ·show Act.put _ (some 23) _=_
  simp only [bS,Act.put,sL,ay,aA]
  rfl
 refine gZ (i:=18) (N:=some 24) (bA 21 524287) rfl rfl tX (by decide) (fun K hK=>?_);refine gK Tryz.func134 tX rfl #[.slice A5 [xS (xR a) (xR b),xS (nL l2 a) (nL l2 b),xS a b].length c5] (by rfl) rfl rfl (by (try simp only [List.map_toArray,List.map_cons,List.map_nil]);first|done|rfl) ?_;refine (oZ (iQ.calls 4 A5 c5 [xS (xR a) (xR b),xS (nL l2 a) (nL l2 b),xS a b] _ _ Yk hl5 (qke _ _ _))).mono ?_;rintro e w1 ⟨rfl,hx⟩;refine ⟨_,rfl,?_⟩;replace HB:=eH HB hx;clear hx;refine hK.out _ _ (fG (aD H8.out HB.out)) (fun hHeld=>?_);clear hK K;refine dn (a':=?_) ?_ ?_;rotate_left
 ·show Act.put _ (some 24) _=_
  simp only [bS,Act.put,sL,ay,aA]
  rfl
 refine qB1 19 25 (bA 21 1048575) ?_;refine qB1 20 5 (bA 21 2097151) ?_;refine lK tX ?_
 go_wp2_with (fail)
 go_ret
 exact ⟨rfl,HB.out⟩
def Au (bt:Int->Int->Bool):List Int->Int
 | []=>0
 | x::l=>l.foldl (fun out y=>if bt y out then y else out) x
theorem NI (bt:Int->Int->Bool) (l:List Int) (x:Int) (h:l≠[]):Au bt (l++[x])=if bt x (Au bt l) then x else Au bt l:=by
 cases l with
 | nil=>exact absurd rfl h
 | cons y l =>
  show (l++[x]).foldl (fun out y=>if bt y out then y else out) y=_
  rw [List.foldl_append]
  rfl
theorem EX (g8 g5:Nat) (A2:Option Addr) (c2:Nat) (l2:List dD) (A:Option Addr) (c:Nat) (l:List Int) (w:World) (h8:w.heap[g8]?=some (.cells #[.func (.func 128) #[] #[.pointer (some ⟨g5,0,none⟩)]] 170 (0,0))) (h5:w.heap[g5]?=some (.cells #[.slice A2 l2.length c2] 59 (0,0)))
  (hr2:Kd.C kS w A2 l2.length l2) (hc2:l2.length<=c2) (hl:l2.length<=5) (hs:∀ s∈l2,0<=s.f2∧s.f2<=999) (hr:Kd.C (Kd.int .i64) w A l.length l) (hb:∀ x∈l,0<=x∧x<32) :
  Calls Tryz.prog 132 #[.slice A l.length c,.func (.func 133) #[] #[.pointer (some ⟨g8,0,none⟩)]] w fun e w'=>e=.returned (.tuple #[.int .i64 (Au (rM l2) l),.bool (decide (0<l.length))])∧Below w.heap.size w w':=by
 have HR:=aj.mk hr;have KB:=aj.mk (fun (x y:Int) (hx:0<=x∧x<32) (hy:0<=y∧y<32) (W:World) (hbw:Below w.heap.size w W)=>IW g8 g5 A2 c2 l2 x y W (aD h8 hbw) (aD h5 hbw) (Kd.ak hr2 hbw) hc2 hl hs hx.1 hx.2 hy.1 hy.2);have HBD:=aj.mk hb;have hm:l.length<=9223372036854775807:=hr.2.1;have HB:=aj.mk (Below.refl w.heap.size w);clear h8 h5 hr2 hl hs hr hb
 go_enter Tryz.func132,Tryz.ntmps132
 go_wp2_with (fail)
 go_loopw [6,11] (fun v6 v11 W=>∃ (i:Nat) (out:Int),i<=l.length∧v6=.int .i64 out∧v11=.int .i64 i∧aj (out=Au (rM l2) (l.take i)∧(0<i->0<=out∧out<32))∧aj (Below w.heap.size w W)) (fun _ v11 _=>l.length - (intOf v11).toNat)
 case atStart=>exact ⟨0,0,by omega,rfl,rfl,⟨rfl,fun h=>absurd h (by omega)⟩,HB⟩
 case round =>
  clear HB;obtain ⟨i,out,hi,rfl,rfl,HI,HB⟩:=hrel
  by_cases hlt:i<l.length
  ·obtain ⟨x,hx⟩:∃ x,x=rd l (i:Int):=⟨_,rfl⟩
   have hx2:rd l (i:Int)=l[i]:=sZ hlt;obtain ⟨ad,rfl,q0⟩:=Kd.iE HR.out i (by omega) (by omega);replace q0:=dz HB q0;rw [← hx,Int.toNat_natCast] at q0;have HT:=aj.mk (show l.take (i+1)=l.take i++[x] by rw [List.take_succ_eq_append_getElem hlt,hx,hx2]);have HXB:=aj.mk (HBD.out x (by rw [hx,hx2];exact List.getElem_mem hlt))
   have hilt:(i:Int)<l.length:=by omega
   clear hx hx2
   by_cases h0:i=0
   ·have h1:((i:Int) == 0)=true:=by simp [h0]
    have H0:=aj.mk h0;clear h0
    go_wp2_with (fail)
    exact ⟨⟨i+1,x,by omega,rfl,by go_num,⟨by rw [HT.out,H0.out];rfl,fun _=>HXB.out⟩,HB⟩,by simp [intOf];omega⟩
   ·have h1:((i:Int) == 0)=false:=by simp;omega
    have HO:=aj.mk (HI.out.2 (by omega));have HN:=aj.mk (show Au (rM l2) (l.take (i+1))=if rM l2 x out then x else out by rw [HT.out,NI _ _ _ (fun e=>by have:=congrArg List.length e;rw [List.length_take,List.length_nil] at this;omega),← HI.out.1]);clear h0
    by_cases hbt:rM l2 x out=true
    ·have K:=aj.mk (fun W hw=>KB.out x out HXB.out HO.out W hw)
     rw [hbt] at K;rw [hbt] at HN;clear hbt
     go_wp2_with (go_at_call 133;(with_reducible refine (K.out _ HB.out).mono ?_);rintro e w1 ⟨rfl,hx⟩;replace HB:=eH HB hx;clear hx)
     exact ⟨⟨i+1,x,by omega,rfl,by go_num,⟨by rw [HN.out];rfl,fun _=>HXB.out⟩,HB⟩,by simp [intOf];omega⟩
    ·rw [Bool.not_eq_true] at hbt
     have K:=aj.mk (fun W hw=>KB.out x out HXB.out HO.out W hw);rw [hbt] at K;rw [hbt] at HN;clear hbt
     go_wp2_with (go_at_call 133;(with_reducible refine (K.out _ HB.out).mono ?_);rintro e w1 ⟨rfl,hx⟩;replace HB:=eH HB hx;clear hx)
     exact ⟨⟨i+1,out,by omega,rfl,by go_num,⟨by rw [HN.out];rfl,fun _=>HO.out⟩,HB⟩,by simp [intOf];omega⟩
  ·obtain rfl:i=l.length:=by omega
   go_wp2_with (fail)
   go_ret2
   exact ⟨by rw [HI.out.1,List.take_length];simp,HB.out⟩
def U4 (n:Nat):List Int:=(List.range n).map fun (i:Nat)=>(i:Int)
def U5 (h:List bI) (gD:List nJ) (e:bQ) (old:List bQ) (need:Int) (l:List dD) (n:Nat):List Int:=(U4 n).filter fun s=>qQ h gD e old need l s
def Qu (h:List bI) (gD:List nJ) (e:bQ) (old:List bQ) (need:Int) (l:List dD):Int × Int :=
 if 0<(U5 h gD e old need l (2 ^ l.length)).length then (Au (rM l) (U5 h gD e old need l (2 ^ l.length)),0) else (0,5)
def xU.f (h:List bI) (gD:List nJ) (e0 e1:Int) (old:List bQ) (need:Int) (l:List dD):Option (Int × Int) :=
 some (if iN h&&(zZ h.length gD ⟨e0,e1⟩ old need&&rF h.length l 1) then Qu h gD ⟨e0,e1⟩ old need l else (0,2))
theorem U6 (n:Nat):U4 (n+1)=U4 n++[(n:Int)]:=by simp [U4,List.range_succ]
theorem Ym {n:Nat} (h:n<=5):2 ^ n<=32:=Nat.le_trans (Nat.pow_le_pow_right (by decide) h) (by decide)
theorem xU.calls (bC:Option Addr) (aZ:Nat) (av:List bI) (fP:Option Addr) (fK:Nat) (bF:List nJ) (gT:Int) (iY:Int) (vX:Option Addr) (vE:Nat) (gX:List bQ) (kg:Int) (A2:Option Addr) (c2:Nat) (l2:List dD) (r1:Int) (r2:Int) (w:World) (dw:Kd.C iG w bC av.length av) (dG:av.length<=aZ) (jU:Kd.C Bf w fP bF.length bF) (mM:bF.length<=fK) (zW:Kd.C jW w vX gX.length gX) (F8:gX.length<=vE) (hr2:Kd.C kS w A2 l2.length l2) (hc2:l2.length<=c2) (h:xU.f av bF gT iY gX kg l2=some (r1,r2)) :
  Calls Tryz.prog 48 #[.agg #[.slice bC av.length aZ],.agg #[.slice fP bF.length fK,.int .i64 gT,.int .i64 iY,.slice vX gX.length vE,.int .i64 kg],.slice A2 l2.length c2] w fun e w'=>e=.returned (.tuple #[.int .i64 r1,.int .i64 r2])∧Below w.heap.size w w':=by
 have HX:=Bx.nil w
 have K1:=fun w1 (hb:Below w.heap.size w w1)=>c105 bC aZ av w1 (Kd.ak dw hb) dG
 have K2:=fun w1 (hb:Below w.heap.size w w1)=>qjy bC aZ av w1 (Kd.ak dw hb) dG fP fK bF ⟨gT,iY⟩ vX vE gX kg (Kd.ak jU hb) mM (Kd.ak zW hb) F8
 have K3:=fun w1 (hb:Below w.heap.size w w1)=>c127 bC aZ av w1 (Kd.ak dw hb) dG A2 c2 l2 1 (Kd.ak hr2 hb) hc2
 have HR:=aj.mk (And.intro dw (And.intro jU (And.intro zW hr2)));have hm2:l2.length<=9223372036854775807:=hr2.2.1
 unfold xU.f at h
 obtain ⟨b1,hb1⟩:∃ b,b=iN av:=⟨_,rfl⟩;obtain ⟨b2,hb2⟩:∃ b,b=zZ av.length bF ⟨gT,iY⟩ gX kg:=⟨_,rfl⟩;obtain ⟨b3,hb3⟩:∃ b,b=rF av.length l2 1:=⟨_,rfl⟩;have HG:=aj.mk (And.intro hb1 (And.intro hb2 hb3));rw [← hb1,← hb2,← hb3] at h;rw [← hb1] at K1;rw [← hb2] at K2;rw [← hb3] at K3;clear hb1 hb2 hb3 dw jU zW hr2;have qb:=Tryz.underlying24;have Wn:=Tryz.underlying58
 have hmf:∀ (fn:Fn) (first cap:Array Value) (w:World),(Instr.makeFunc fn first cap).run Tryz.prog w=.ok (.func fn first cap) w:=fun _ _ _ _=>rfl
 have hc:(b1=false∨b1=true∧b2=false∨b1=true∧b2=true∧b3=false)∨(b1=true∧b2=true∧b3=true):=by
  cases b1<;>cases b2<;>cases b3<;>simp
 rcases hc with hc|hc
 ·obtain ⟨rfl,rfl⟩:r1=0∧r2=2:=by
   rcases hc with rfl|⟨rfl,rfl⟩|⟨rfl,rfl,rfl⟩<;>(simp at h;exact ⟨h.1.symm,h.2.symm⟩)
  clear h HG
  rcases hc with rfl|⟨rfl,rfl⟩|⟨rfl,rfl,rfl⟩
  all_goals
   go_enter Tryz.func48,Tryz.ntmps48
   go_wp2_with (first|((with_reducible refine au (N:=3) rfl ?_);refine newX rfl rfl HX (cs:=#[.slice bC av.length aZ]) (t:=24) tG ?_;clear HX;intro g3 w3 HX hx hz;clear hx hz)|((with_reducible refine au (N:=4) rfl ?_);refine newX rfl rfl HX (cs:=#[.slice fP bF.length fK,.int .i64 gT,.int .i64 iY,.slice vX gX.length vE,.int .i64 kg]) (t:=58) tG ?_;clear HX;intro g4 w4 HX hx hz;clear hx hz)|((with_reducible refine au (N:=5) rfl ?_);refine newX rfl rfl HX (cs:=#[.slice A2 l2.length c2]) (t:=59) tG ?_;clear HX;intro g5 w5 HX hx hz;clear hx hz;have ck:=HX.g1 2 rfl;obtain ⟨wS,wT,vO,wC,wU⟩:=HX.g5 1 rfl;have cl:=HX.g1 0 rfl)|(go_at_call 105;(with_reducible refine (K1 _ HX.below).mono ?_);rintro e w1 ⟨rfl,hx⟩;replace HX:=HX.step hx;clear hx ck wS wT vO wC wU cl;have ck:=HX.g1 2 rfl;obtain ⟨wS,wT,vO,wC,wU⟩:=HX.g5 1 rfl;have cl:=HX.g1 0 rfl)|(go_at_call 126;(with_reducible refine (K2 _ HX.below).mono ?_);rintro e w1 ⟨rfl,hx⟩;replace HX:=HX.step hx;clear hx ck wS wT vO wC wU cl;have ck:=HX.g1 2 rfl;obtain ⟨wS,wT,vO,wC,wU⟩:=HX.g5 1 rfl;have cl:=HX.g1 0 rfl)|(go_at_call 127;(with_reducible refine (K3 _ HX.below).mono ?_);rintro e w1 ⟨rfl,hx⟩;replace HX:=HX.step hx;clear hx ck wS wT vO wC wU cl;have ck:=HX.g1 2 rfl;obtain ⟨wS,wT,vO,wC,wU⟩:=HX.g5 1 rfl;have cl:=HX.g1 0 rfl))
   go_ret2
   exact ⟨rfl,HX.below⟩
 ·obtain ⟨rfl,rfl,rfl⟩:=hc
  have hR:Qu av bF ⟨gT,iY⟩ gX kg l2=(r1,r2):=by simpa using h
  have OK:=aj.mk (Qp HG.out.1.symm HG.out.2.1.symm HG.out.2.2.symm);have HRR:=aj.mk hR;have KS:=aj.mk (fun (set:Int) w1 (hb:Below w.heap.size w w1)=>vK.calls bC aZ av fP fK bF gT iY vX vE gX kg A2 c2 l2 set (qQ av bF ⟨gT,iY⟩ gX kg l2 set) w1 (Kd.ak HR.out.1 hb) dG (Kd.ak HR.out.2.1 hb) mM (Kd.ak HR.out.2.2.1 hb) F8 (Kd.ak HR.out.2.2.2 hb) hc2 (by unfold vK.f;rw [← HG.out.1,← HG.out.2.1,← HG.out.2.2];rfl))
  have hl5:(l2.length:Int)<=5:=by have:=OK.out.RL;omega
  obtain ⟨M,hM⟩:∃ M:Nat,M=2 ^ l2.length:=⟨_,rfl⟩;have HM:=aj.mk (And.intro hM (show M<=32 by rw [hM];exact Ym OK.out.RL));clear h hR hM
  go_enter Tryz.func48,Tryz.ntmps48
  go_wp2_with (first|((with_reducible refine au (N:=3) rfl ?_);refine newX rfl rfl HX (cs:=#[.slice bC av.length aZ]) (t:=24) tG ?_;clear HX;intro g3 w3 HX hx hz;clear hx hz)|((with_reducible refine au (N:=4) rfl ?_);refine newX rfl rfl HX (cs:=#[.slice fP bF.length fK,.int .i64 gT,.int .i64 iY,.slice vX gX.length vE,.int .i64 kg]) (t:=58) tG ?_;clear HX;intro g4 w4 HX hx hz;clear hx hz)|((with_reducible refine au (N:=5) rfl ?_);refine newX rfl rfl HX (cs:=#[.slice A2 l2.length c2]) (t:=59) tG ?_;clear HX;intro g5 w5 HX hx hz;clear hx hz;have ck:=HX.g1 2 rfl;obtain ⟨wS,wT,vO,wC,wU⟩:=HX.g5 1 rfl;have cl:=HX.g1 0 rfl)|(go_at_call 105;(with_reducible refine (K1 _ HX.below).mono ?_);rintro e w1 ⟨rfl,hx⟩;replace HX:=HX.step hx;clear hx ck wS wT vO wC wU cl;have ck:=HX.g1 2 rfl;obtain ⟨wS,wT,vO,wC,wU⟩:=HX.g5 1 rfl;have cl:=HX.g1 0 rfl)|(go_at_call 126;(with_reducible refine (K2 _ HX.below).mono ?_);rintro e w1 ⟨rfl,hx⟩;replace HX:=HX.step hx;clear hx ck wS wT vO wC wU cl;have ck:=HX.g1 2 rfl;obtain ⟨wS,wT,vO,wC,wU⟩:=HX.g5 1 rfl;have cl:=HX.g1 0 rfl)|(go_at_call 127;(with_reducible refine (K3 _ HX.below).mono ?_);rintro e w1 ⟨rfl,hx⟩;replace HX:=HX.step hx;clear hx ck wS wT vO wC wU cl;have ck:=HX.g1 2 rfl;obtain ⟨wS,wT,vO,wC,wU⟩:=HX.g5 1 rfl;have cl:=HX.g1 0 rfl)|((with_reducible refine au (N:=8) rfl ?_);refine newX rfl rfl HX (cs:=#[.nilFunc]) (t:=170) tG ?_;clear HX;intro g8 w8 HX hx hz;clear hx hz;clear ck wS wT vO wC wU cl)|((with_reducible refine aY (t:=170) (p:=8) rfl ?_);refine jZ rfl rfl rfl HX 0 rfl (i:=0) (.func (.func 128) #[] #[.pointer (some ⟨g5,0,none⟩)]) [.func (.func 128) #[] #[.pointer (some ⟨g5,0,none⟩)]] #[.func (.func 128) #[] #[.pointer (some ⟨g5,0,none⟩)]] rfl rfl rfl tX (by simp) (by simp [Value.oneCell']) rfl ?_;clear HX;intro w9 HX hx;clear hx;dsimp only [List.set] at HX;have ck:=HX.g1 3 rfl;obtain ⟨wS,wT,vO,wC,wU⟩:=HX.g5 2 rfl;have cl:=HX.g1 1 rfl;have cf:=HX.g1 0 rfl))
  have hMW:wrap64 (2 ^ l2.length)=(M:Int):=by
   have h1:=HM.out.1;have h2:=HM.out.2
   have h3:((2:Int) ^ l2.length)=(M:Int):=by rw [h1];simp
   rw [h3];exact Br (by omega) (by omega)
  rw [hMW];clear hMW ck wS wT vO wC wU cl cf;obtain ⟨w0,hw0⟩:∃ w0,w0=w9:=⟨_,rfl⟩;rw [← hw0] at HX;rw [← hw0];clear hw0;have HX0:=HX;clear HX;have HX:=Bx.nil w0;have HML:=HM.out.2
  go_loopw [9,32] (fun v9 v32 W=>∃ i:Nat,i<=M∧v32=.int .i64 i∧aj (Kd.R (Kd.int .i64) 3 W w0.heap.size (fun _=>True) v9 ((U4 i).filter fun s=>qQ av bF ⟨gT,iY⟩ gX kg l2 s))∧Bx [] w0 W) (fun _ v32 _=>M - (intOf v32).toNat)
  case atStart=>exact ⟨0,by omega,rfl,⟨Kd.mI _ _ _ _ _⟩,HX⟩
  case round =>
   clear HX;obtain ⟨i,hi,rfl,HV,HX⟩:=hrel;have ck:=fG (aD (HX0.gb 3 rfl) HX.below);obtain ⟨wS,wT,vO,wC,wU⟩:=Es (aD (HX0.gb 2 rfl) HX.below);have cl:=fG (aD (HX0.gb 1 rfl) HX.below);have cf:=fG (aD (HX0.gb 0 rfl) HX.below)
   by_cases hlt:i<M
   ·have hilt:(i:Int)<M:=by omega
    have HU:=aj.mk (show ((U4 (i+1)).filter fun s=>qQ av bF ⟨gT,iY⟩ gX kg l2 s)=((U4 i).filter fun s=>qQ av bF ⟨gT,iY⟩ gX kg l2 s)++(if qQ av bF ⟨gT,iY⟩ gX kg l2 i then [(i:Int)] else []) by
     rw [U6,List.filter_append,List.filter_cons,List.filter_nil])
    have ZQ:=aj.mk (show ((U4 i).filter fun s=>qQ av bF ⟨gT,iY⟩ gX kg l2 s).length<=100000000 from Nat.le_trans (List.length_filter_le _ _) (by simp [U4];omega));have K:=aj.mk (KS.out i);obtain ⟨b,hb⟩:∃ b,b=qQ av bF ⟨gT,iY⟩ gX kg l2 i:=⟨_,rfl⟩;rw [← hb] at HU K;clear hb
    cases b
    ·go_wp2_with (go_at_call 131;(with_reducible refine (K.out _ (aV HX0.below HX.below)).mono ?_);rintro e w1 ⟨rfl,hx⟩;replace HX:=HX.step hx;replace HV:=qN HV hx;clear hx ck wS wT vO wC wU cl cf)
     exact ⟨⟨i+1,by omega,by go_num,⟨by rw [HU.out];simpa using HV.out⟩,HX⟩,by simp [intOf];omega⟩
    ·go_wp2_with (first|(go_at_call 131;(with_reducible refine (K.out _ (aV HX0.below HX.below)).mono ?_);rintro e w1 ⟨rfl,hx⟩;replace HX:=HX.step hx;replace HV:=qN HV hx;clear hx ck wS wT vO wC wU cl cf)|((with_reducible refine eY (b:=.append) (xs:=#[.tmp 40,.tmp 42]) rfl ?_);at_builtin;refine oD (w:=w0) (Kd.int .i64) rfl (.tmp 40) (.tmp 42) 47 3 (.int .i64 0) 8 rfl Tryz.underlying47 info3 rfl (by decide) (by omega) _ ((U4 i).filter fun s=>qQ av bF ⟨gT,iY⟩ gX kg l2 s) (i:Int) [.int .i64 i] rfl rfl rfl HV ⟨HX.below⟩ ZQ.out (by decide) ?_;intro v9 yO HU2 HB2 hx hat;have uy:=HX.UO hx (fun k e=>Kd.iF HV.out k e) (by simp);clear HX HV HB2 hx hat;have HX:=uy;have HV:=HU2;clear uy HU2))
     exact ⟨⟨i+1,by omega,by go_num,⟨by rw [HU.out];exact HV.out⟩,HX⟩,by simp [intOf];omega⟩
   ·obtain rfl:i=M:=by omega
    obtain ⟨ss,hss⟩:∃ ss,ss=(U4 i).filter fun s=>qQ av bF ⟨gT,iY⟩ gX kg l2 s:=⟨_,rfl⟩
    rw [← hss] at HV;have HSS:=aj.mk (show Qu av bF ⟨gT,iY⟩ gX kg l2=if 0<ss.length then (Au (rM l2) ss,0) else (0,5) by unfold Qu U5;rw [← HM.out.1,← hss])
    have Ke:=aj.mk (show ∀ x∈ss,0<=x∧x<32 from fun x hx=>by
     rw [hss] at hx;obtain ⟨m,hm,rfl⟩:=List.mem_map.1 (List.mem_filter.1 hx).1;have:=List.mem_range.1 hm
     omega)
    have hR2:=HRR.out;rw [HSS.out] at hR2;clear hss;obtain ⟨A9,c9,rfl,hl9,hC9⟩:=Kd.fE HV.out;have HC9:=aj.mk hC9;clear hC9
    by_cases h0:0<ss.length
    ·rw [if_pos h0] at hR2
     obtain ⟨rfl,rfl⟩:Au (rM l2) ss=r1∧0=r2:=by simpa using hR2
     clear hR2;have K:=aj.mk (EX g8 g5 A2 c2 l2 A9 c9 ss wr (aD (HX0.gb 0 rfl) HX.below) (aD (HX0.gb 1 rfl) HX.below) (Kd.ak HR.out.2.2.2 (aV HX0.below HX.below)) hc2 OK.out.RL (fun s hs=>(OK.out.UL s hs).2.2.2) HC9.out Ke.out);rw [decide_eq_true h0] at K;clear h0
     go_wp2_with (go_at_call 132;refine K.out.mono ?_;rintro e w1 ⟨rfl,hx⟩;replace HX:=HX.step hx;clear hx ck wS wT vO wC wU cl cf)
     go_ret2
     exact ⟨rfl,aV HX0.below HX.below⟩
    ·rw [if_neg h0] at hR2
     obtain ⟨rfl,rfl⟩:0=r1∧5=r2:=by simpa using hR2
     clear hR2;have K:=aj.mk (EX g8 g5 A2 c2 l2 A9 c9 ss wr (aD (HX0.gb 0 rfl) HX.below) (aD (HX0.gb 1 rfl) HX.below) (Kd.ak HR.out.2.2.2 (aV HX0.below HX.below)) hc2 OK.out.RL (fun s hs=>(OK.out.UL s hs).2.2.2) HC9.out Ke.out);rw [decide_eq_false h0] at K;clear h0
     go_wp2_with (go_at_call 132;refine K.out.mono ?_;rintro e w1 ⟨rfl,hx⟩;replace HX:=HX.step hx;clear hx ck wS wT vO wC wU cl cf)
     go_ret2
     exact ⟨rfl,aV HX0.below HX.below⟩
end Go.Proofs.YtnpfbjnjdngkhaaGreatDoor.P
