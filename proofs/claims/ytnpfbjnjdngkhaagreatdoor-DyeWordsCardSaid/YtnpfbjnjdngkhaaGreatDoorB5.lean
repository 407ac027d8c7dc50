import Derived.Defers
import Derived.Recover
import Derived.Deep.Slices
import Derived.DataReads
import Derived.ChangeArms
import Derived.WideShapes
import Derived.Test.YtnpfbjnjdngkhaaGreatDoorRows
import Derived.WalkKit
import Derived.ProofKit
import Derived.LaidMore
import Derived.OpenShut
import Derived.ShutString
import Derived.ChangeOld
import Derived.Below
import Derived.Stop.Joined
import Derived.Test.YtnpfbjnjdngkhaaGreatDoorB4
set_option maxHeartbeats 8000000
set_option maxRecDepth 100000
set_option linter.unusedVariables false
set_option linter.unusedSimpArgs false
set_option linter.unusedSectionVars false
namespace Go.Proofs.YtnpfbjnjdngkhaaGreatDoor.P
open Go.RowKit Go.Proofs.YtnpfbjnjdngkhaaGreatDoorW.aQ Go.Proofs.YtnpfbjnjdngkhaaGreatDoorW.bO Go.Proofs.YtnpfbjnjdngkhaaGreatDoorW.bT
attribute [local go_sem] eP eT fU fV dS dU eU eX
def qeY {α:Type} (P:Program) (g:Nat) (lb:Array Value) (encs:α->Array Value) (Rd:α->World->Prop) (Kp:World->World->Prop) (S:List α->Prop) (N:Nat) (w:World):Prop :=
 ∀ (l:Nat) (J:List α->World->Prop) (W:World),Below w.heap.size w W->w.heap.size+2<=W.heap.size->OwnFrom W.heap.size J ->
  (∀ pre x W1,J pre W1->Rd x W1->pre.length<N->YieldAt Fence.wide 1 P l (encs x) W1 fun e W'=>e=.returned (.bool true)∧J (pre++[x]) W'∧Kp W1 W')->J [] W ->
  CallsIn Fence.wide 2 P g (#[.func (.yield l) #[] #[]]++lb) W fun e W'=>(∃ v,e=.returned v)∧∃ xs,S xs∧J xs W'
def wX (Wr:Nat->Prop) (B:Nat) (W W':World):Prop:=mH Wr W W'∧∀ k o,B<=k->W.heap[k]?=some o->W'.heap[k]?=some o
theorem wX.trans {Wr:Nat->Prop} {B:Nat} {X Y Z:World} (h:wX Wr B X Y) (k:wX Wr B Y Z):wX Wr B X Z:=⟨h.1.trans k.1,fun i o hi ho=>k.2 i o hi (h.2 i o hi ho)⟩
theorem wX.below {Wr:Nat->Prop} {B:Nat} {W W':World} (h:Below W.heap.size W W'):wX Wr B W W':=⟨mH.below h,fun k o _ ho=>(h.block k (bZ ho)).trans ho⟩
theorem mH.qeZ {Wr:Nat->Prop} {W:World} {l:Nat} {o o':Obj} (h:W.heap[l]?=some o) (ho:o.isCells=false):mH Wr W (W.putObj l o'):=by
 refine ⟨by simp [World.putObj],fun k q hk hq _=>?_⟩
 have:k≠l:=by
  intro e;subst e;rw [h] at hk
  cases hk
  rw [ho] at hq
  cases hq
 exact (World.putObj_heap_other this).trans hk
theorem wX.put {Wr:Nat->Prop} {B:Nat} {W:World} {l:Nat} {o o':Obj} (h:W.heap[l]?=some o) (ho:o.isCells=false) (hB:l<B):wX Wr B W (W.putObj l o') :=
 ⟨mH.qeZ h ho,fun k q hk hq=>(World.putObj_heap_other (by omega)).trans hq⟩
theorem wX.grown {Wr:Nat->Prop} {B g:Nat} {W W':World} (hg:W.grownBy W' (some g)) (hw:Wr g) (hB:g<B):wX Wr B W W' :=
 ⟨⟨hg.size,fun k o hk _ hn=>(hg.block k (bZ hk) (fun e=>by injection e with e;exact hn (e ▸ hw))).trans hk⟩,fun k o hk ho=>(hg.block k (bZ ho) (fun e=>by injection e;omega)).trans ho⟩
theorem wX.from {Wr:Nat->Prop} {B B':Nat} {W W':World} (h:wX Wr B W W') (hB:B<=B'):KeepsFrom B' W W':=⟨h.1.1,fun k o hk ho _=>h.2 k o (by omega) ho⟩
theorem qbR {n m lp l:Nat} {P:Program} {f:FuncId} {tmps:Array Value} {assign body:Code} {w:World} {R:Ending->World->Prop} (h:RoundIn Fence.wide n P l f tmps assign body w R):RoundIn (Fence.wide.inRound lp) m P l f tmps assign body w R:=⟨h.1,fun c cs _=>h.2 c cs (room_wide _)⟩
theorem U7 {P:Program} {g:Operand} {ps:Array Tmp} {assign body:Code} {Q:Exit->Act->World->Prop} {a:Act} {w:World} {gf:Nat} {lb:Array Value}
  (hg:a.eval g=.func (.func gf) #[] lb) (eg:∀ args w,(callFunc gf args).run P w=.ok (.enter gf args) w)
  {α:Type} {encs:α->Array Value} {Rd:α->World->Prop} {Kp:World->World->Prop} {S:List α->Prop} {N:Nat} {w0:World} (hseq:qeY P gf lb encs Rd Kp S N w0)
  (hKt:∀ {A B C:World},Kp A B->Kp B C->Kp A C) (hKb:∀ (W:World) (o o':Obj),W.heap[w.heap.size+1]?=some o->o.isCells=false->Kp W (W.putObj (w.heap.size+1) o')) (hb0:Below w0.heap.size w0 w) (hps:∀ x,(encs x).size=ps.size)
  (I:List α->World->Prop) (hI:OwnFrom w.heap.size I) (h0:I [] w) (Ax:α->Act->World->Prop) (hAx:∀ x a',OwnFrom w.heap.size (fun (_:Unit) W=>Ax x a' W))
  (hassign:∀ (l:Nat) (pre:List α) (x:α) (W:World) (K:Act->World->Prop),I pre W->Rd x W->(∀ a' Wa,KeepsFrom w.heap.size W Wa->Kp W Wa->I pre Wa->Ax x a' Wa->K a' Wa) ->
   assign.wpIn (Fence.wide.inRound l) 1 P (Exit.then K (fun _ _ _=>False)) { tmps:=(ps.zip (encs x)).foldl (fun t (p,v)=>t.setIfInBounds p v) a.tmps,defers:=[] } W)
  (hbody:∀ (l:Nat) (pre:List α) (x:α) (a':Act) (W:World),I pre W->Ax x a' W->pre.length<N->body.wpIn (Fence.wide.inRound l) 1 P (fun e _ W'=>e=.normal∧KeepsFrom w.heap.size W W'∧Kp W W'∧I (pre++[x]) W') a' W)
  (hdone:∀ (xs:List α) (W:World),S xs->I xs W->W.heap[w.heap.size]?=some (.deferred (some []))->Q .normal { a with defers:={ target:=.collected w.heap.size,args:=#[] }::a.defers } W) :
  (Code.rangeFunc g ps assign body).wpIn Fence.wide 3 P Q a w:=by
 refine wpIn_rangeFunc fun fn hfn=>?_
 obtain ⟨rec,hrec⟩:∃ rec:LoopState->Option Code->Loop,rec=fun st pe=>{ state:=st,pending:=pe,fn,tmps:=a.tmps,params:=ps,assign,body,defers:=w.heap.size }:=⟨_,rfl⟩
 obtain ⟨W1,hW1⟩:∃ W1,(w.alloc (.deferred (some []))).alloc (.loop (rec .ready none))=W1:=⟨_,rfl⟩
 have hB:Below w.heap.size w W1:=by rw [← hW1];exact ((Below.refl _ w).alloc (Nat.le_refl _) _).alloc (by simp) _
 have hs1:W1.heap.size=w.heap.size+2:=by rw [← hW1];simp
 have hL1:W1.heap[w.heap.size+1]?=some (.loop (rec .ready none)):=by
  have:=World.alloc_heap_new (w.alloc (.deferred (some []))) (.loop (rec .ready none))
  rwa [World.size_alloc,hW1] at this
 have hD1:W1.heap[w.heap.size]?=some (.deferred (some [])):=by
  rw [← hW1];exact (Below.heap_alloc _ _ _ (by simp)).trans (World.alloc_heap_new w _)
 refine ⟨w.heap.size+1,[{ target:=.collected w.heap.size,args:=#[] }],W1,{ target:=.fn (.func gf) lb,args:=#[.func (.yield (w.heap.size+1)) #[] #[]] },W1,gf,#[.func (.yield (w.heap.size+1)) #[] #[]]++lb,W1,?_,?_,fun _ _=>trivial,?_,fun h=>absurd h (by decide),?_⟩
 ·rw [← hW1,hrec]
  exact run_enterLoop_outer _ _ _ _ _
 ·simp only [resolve,hg]
  simp [go_sem]
 ·simp [invoke,go_sem,eg]
 refine (hseq (w.heap.size+1) (fun pre W=>I pre W∧W.heap[w.heap.size+1]?=some (.loop (rec .ready none))∧W.heap[w.heap.size]?=some (.deferred (some []))) W1 (hb0.trans (hB.mono hb0.size)) (by have:=hb0.size;omega) ?_ ?_ ⟨?_,hL1,hD1⟩).mono ?_
 ·rintro s A B row ⟨hi,hl,hd⟩ hgr hr
  have ne:∀ k,k<w.heap.size+2->some k≠row:=fun k hk e=>by have:=(hr k e.symm).1;omega
  exact ⟨hI s A B row hi hgr fun r e=>⟨by have:=(hr r e).1;omega,(hr r e).2⟩,(hgr.block _ (bZ hl) (ne _ (by omega))).trans hl,(hgr.block _ (bZ hd) (ne _ (by omega))).trans hd⟩
 ·rintro pre x W ⟨hi,hl,hd⟩ hrd hlt
  have hy:=run_yield (P:=P) (args:=encs x) hl (by rw [hrec];exact hps x);rw [hrec] at hy;refine ⟨fn,_,assign,body,hy,roundIn_of_wpIn hfn (hassign _ pre x W _ hi hrd ?_)⟩;clear hy;intro a' Wa hkfa hkpa hia hax;replace hl:=hkfa.same _ _ (by omega) hl rfl;replace hd:=hkfa.same _ _ (Nat.le_refl _) hd rfl;refine ⟨_,run_beginRound hl (by rw [hrec]),?_⟩;have h2:=World.putObj_heap_same (o:=.loop { rec .ready none with state:=.busy }) (bZ hl);have d2:=(World.putObj_heap_other (w:=Wa) (r:=w.heap.size+1) (k:=w.heap.size) (o:=.loop { rec .ready none with state:=.busy }) (by omega)).trans hd;refine wpIn_mono (hbody _ pre x a' _ (hI.putObj _ hia (by omega) hl rfl) ((hAx x a').putObj (s:=()) _ hax (by omega) hl rfl) hlt) ?_;rintro e a3 W3 ⟨rfl,hk3,hkp3,hi3⟩;have hl3:=hk3.same _ _ (by omega) h2 rfl;have hd3:=hk3.same _ _ (Nat.le_refl _) d2 rfl;have hr:=run_endRound (P:=P) none hl3;rw [hrec] at hr;refine ⟨_,_,hr,rfl,⟨hI.putObj _ hi3 (by omega) hl3 rfl,?_,(World.putObj_heap_other (by omega)).trans hd3⟩,hKt hkpa (hKt (hKb _ _ _ hl rfl) (hKt hkp3 (hKb _ _ _ hl3 rfl)))⟩;rw [hrec];exact World.putObj_heap_same (bZ hl3)
 ·rw [← hW1]
  exact hI.alloc _ (hI.alloc _ h0)
 ·rintro e W2 ⟨⟨v,rfl⟩,xs,hS,hi,hl,hd⟩
  have he:=run_endLoop (P:=P) hl (by rw [hrec];simp);rw [hrec] at he;exact ⟨none,_,he,hdone xs _ hS (hI.putObj _ hi (by omega) hl rfl) ((World.putObj_heap_other (by omega)).trans hd)⟩
end Go.Proofs.YtnpfbjnjdngkhaaGreatDoor.P
namespace Go.Proofs.YtnpfbjnjdngkhaaGreatDoor.P
open Go.RowKit Go.Proofs.YtnpfbjnjdngkhaaGreatDoorW.aQ Go.Proofs.YtnpfbjnjdngkhaaGreatDoorW.bO Go.Proofs.YtnpfbjnjdngkhaaGreatDoorW.bT
attribute [local go_sem] eP eT fU fV dS dU eU eX
attribute [local go_sem] Oper.semAt_some
structure tL where
 A:Option Addr
 c:Nat
 xs:List Int
 eye:Int
def tL.enc (x:tL):Array Value:=#[.agg #[.slice x.A x.xs.length x.c,.int .i64 x.eye]]
def tL.Rd (x:tL) (W:World):Prop:=Kd.C (Kd.int .i64) W x.A x.xs.length x.xs∧x.xs.length<=x.c
def tL.val (x:tL):List Int × Int:=(x.xs,x.eye)
def lI (ls:List bQ) (e0 e1:Int):List (List Int × Int):=(lD ls).flatMap fun xs=>(EG e0 e1).map fun e=>(xs,e)
theorem uR {α β γ:Type} {u:List β} {g:α->β->γ}:∀ {l:List α},(l.flatMap fun x=>u.map (g x)).length=l.length*u.length
 | []=>by simp
 | x::l=>by rw [List.flatMap_cons,List.length_append,uR,List.length_map,List.length_cons,Nat.add_mul,Nat.one_mul,Nat.add_comm]
theorem mH.weak {W W':World} (h:mH (fun _=>False) W W') (Wr:Nat->Prop):mH Wr W W':=⟨h.1,fun k o hk hc _=>h.2 k o hk hc (fun h=>h)⟩
theorem EY (gs:Nat) (e0 e1 ti:Int) (Al:Option Addr) (cl:Nat) (ls:List bQ) (Wr:Nat->Prop) (w:World) (hls:ls.length<=1000) (hin:∀ s∈ls,-1000000<=s.f0∧s.f1<=1000000) (he : -1000000<=e0∧e1<=1000000)
  (hl:w.heap[gs]?=some (.cells #[.int .i64 e0,.int .i64 e1,.int .i64 ti,.slice Al ls.length cl] 67 (0,0))) (hr:Kd.C jW w Al ls.length ls) (h1:¬ Wr gs) (h4:∀ ad,Al=some ad->¬ Wr ad.block) (h5:∀ k,Wr k->k<w.heap.size) :
  qeY Tryz.prog 199 #[.pointer (some ⟨gs,0,none⟩)] tL.enc (fun x W=>x.Rd W∧x.val∈lI ls e0 e1∧∀ ad,x.A=some ad->¬ Wr ad.block) (wX Wr (w.heap.size+2)) (fun ys=>ys.map tL.val=lI ls e0 e1) (lI ls e0 e1).length w:=by
 intro l J W hb hB2 hJ hY h0;have HX:=Bx.nil W;have HY:=aj.mk hY;have HJ:=aj.mk hJ;have H0:=aj.mk h0;have HL:=aj.mk (aD hl hb);have HR:=aj.mk (Kd.ak hr hb);have H5:=aj.mk (fun k (hk:Wr k)=>Nat.lt_of_lt_of_le (h5 k hk) hb.size);have HB2:=aj.mk hB2;have HE:=aj.mk he;obtain ⟨nM,nN,cl3,cl4⟩:=Bl HL.out;clear hY hJ h0 hl hr h5 hb hB2 he;have ME:=Tryz.underlying67;have jY:=Tryz.underlying37;refine callsIn_of_wp_marks Tryz.func199 rfl trivial ?_ rfl;refine wpIn_wide.2 ?_;simp only [Tryz.ntmps199,List.size_toArray,List.length_cons,List.length_nil,Nat.reduceAdd,Nat.reduceSub,Array.replicate_succ,Array.replicate_zero,List.push_toArray,List.append_toArray,List.nil_append,List.cons_append]
 go_wp2_with (first|((with_reducible refine au (N:=2) rfl ?_);refine newX rfl rfl HX (cs:=#[.func (.yield l) #[] #[]]) (t:=242) tG ?_;clear HX;intro g2 w2 HX hx hz;clear nM nN cl3 cl4;obtain ⟨nM,nN,cl3,cl4⟩:=Bl (aD HL.out hx);clear hx hz)|(go_at_call 200;refine (uP Al cl ls _).mono ?_;rintro e wl ⟨gn,rfl,hgn,jX,hx⟩;have GN:=aj.mk hgn;have HN:=aj.mk jX;have HGN:=aj.mk HX.below.size;replace HX:=HX.step hx;clear hx hgn jX nM nN cl3 cl4))
 refine (wpIn_wide (n:=3)).1 ?_;have HW2:aj (∀ k,Wr k->k<wl.heap.size):=⟨fun k hk=>by have:=H5.out k hk;have:=HX.below.size;omega⟩;have Lv:aj (¬ Wr gn∧¬ Wr g2):=⟨fun h=>by have:=H5.out _ h;have:=GN.out;have:=HX.below.size;have:=HGN.out;omega,fun h=>by have:=H5.out _ h;have:=HX.lo _ (List.mem_cons_self ..);omega⟩;have HG2:=aj.mk (HX.gb 0 rfl);have Qt:=aj.mk (aD HL.out HX.below)
 refine MW (gf:=223) (lb:=#[.pointer (some ⟨gn,0,none⟩)]) rfl (enters_of Tryz.func223 tX rfl) (zR gn Al cl ls Wr wl hls hin HN.out (Kd.ak HR.out HX.below) Lv.out.1 h4 HW2.out) mH.trans (fun W o o' ho hc=>mH.qeZ ho hc) (Below.refl _ _) (fun _=>rfl) (fun x _ W W' row h hg hr=>⟨Ua x _ () W W' row h.1 hg hr,h.2⟩)
  (fun (pre:List o8) Wx=>∃ ys:List tL,ys.map tL.val=(pre.map o8.xs).flatMap (fun xs=>(EG e0 e1).map fun e=>(xs,e))∧J ys Wx∧mH Wr wl Wx)
  (fun pre A B row hi hg hr=>by
   obtain ⟨ys,i1,i2,i3⟩:=hi
   exact ⟨ys,i1,HJ.out ys A B row i2 hg (fun r e=>⟨by have:=(hr r e).1;have:=HX.below.size;omega,(hr r e).2⟩),i3.trans ((mH.own hg fun r e=>(hr r e).2).weak Wr)⟩)
  ⟨[],rfl,HJ.out _ _ _ none H0.out (MZ HX.below) (fun _ e=>by cases e),mH.refl _ _⟩
  (fun x=>{ tmps:=#[.func (.yield l) #[] #[],.pointer (some ⟨gs,0,none⟩),.pointer (some ⟨g2,0,none⟩),.slice x.A x.xs.length x.c,undef,.pointer (some ⟨gs,3,none⟩),.slice Al ls.length cl,.func (.func 223) #[] #[.pointer (some ⟨gn,0,none⟩)],.slice x.A x.xs.length x.c,undef,undef,undef,undef,undef,undef,undef,undef,undef,undef,undef,undef,undef,undef,undef,undef],defers:=[] }) ?assign ?body ?done
 case assign =>
  intro lp x W K hK
  unfold o8.enc
  gi_wp2
  exact hK
 case body =>
  rintro lp pre x W0 ⟨ys0,hys,hj,hk⟩ ⟨hrd,hxs,hxw⟩ hpre;have HYS:=aj.mk hys;have HJ0:=aj.mk hj;have HK0:=aj.mk hk;have xu:=aj.mk (And.intro hrd (And.intro hxs hxw));have qkf:=aj.mk hpre;clear hys hj hk hrd hxs hxw hpre;obtain ⟨nM,nN,cl3,cl4⟩:=Bl (HK0.out.box Qt h1).out
  gi_wp2
  gi_loopw [4] (fun v4 W'=>∃ (n:Int) (ys:List tL),v4=.int .i64 n∧e0<=n∧aj (n<=e1+1∨n=e0)∧aj (ys.map tL.val++((EG n e1).map fun e=>(x.xs,e))=(pre.map o8.xs).flatMap (fun xs=>(EG e0 e1).map fun e=>(xs,e))++((EG e0 e1).map fun e=>(x.xs,e)))∧aj (J ys W')∧aj (wX Wr (w.heap.size+2) W0 W')) (fun v4 _=>(e1+1 - intOf v4).toNat)
  case atStart=>exact ⟨e0,ys0,rfl,Int.le_refl _,⟨.inr rfl⟩,⟨by rw [HYS.out]⟩,HJ0,⟨⟨mH.refl _ _,fun k o _ h=>h⟩⟩⟩
  case round =>
   obtain ⟨n,ys,rfl,hn0,hn1,Xx,HJ2,HKB⟩:=hrel;have HKW:=aj.mk (HK0.out.trans HKB.out.1);clear nM nN cl3 cl4;obtain ⟨nM,nN,cl3,cl4⟩:=Bl (HKW.out.box Qt h1).out;have c2:=fG (HKW.out.box HG2 Lv.out.2).out;have hqi:=HE.out.1;have hqj:=HE.out.2;have hqk:=hn1.out
   by_cases hle:n<=e1
   ·have HUP:=aj.mk (zQ hle)
    obtain ⟨fn,tmps,assign,bd,hy,hR⟩:=HY.out ys ⟨x.A,x.c,x.xs,n⟩ wr HJ2.out ⟨⟨HKB.out.1.row vC xu.out.1.1 (fun ad e _=>xu.out.2.2 ad e),xu.out.1.2⟩,List.mem_flatMap.2 ⟨x.xs,xu.out.2.1,List.mem_map.2 ⟨n,Po hn0 hle,rfl⟩⟩,xu.out.2.2⟩ (by
     have q1:=congrArg List.length Xx.out;rw [HUP.out] at q1;simp only [List.length_append,List.length_map,List.length_cons,uR] at q1;have q2:=qkf.out
     unfold lI
     rw [uR];have q3:(pre.length+1)*(EG e0 e1).length<=(lD ls).length*(EG e0 e1).length:=Nat.mul_le_mul_right _ q2;rw [Nat.add_mul,Nat.one_mul] at q3
     omega)
    simp only [tL.enc] at hy;have HR2:=aj.mk hR;clear hR
    gi_wp2
    refine qbR (RoundIn.mono HR2.out ?_);rintro e W' ⟨rfl,hj',hkp⟩;have HJ3:=aj.mk hj';have qkh:=aj.mk hkp;clear hj' hkp hy HR2 nM nN cl3 cl4 c2
    gi_wp2
    exact ⟨⟨n+1,ys++[⟨x.A,x.c,x.xs,n⟩],rfl,by omega,⟨by omega⟩,⟨by rw [← Xx.out,HUP.out];simp [tL.val]⟩,HJ3,⟨HKB.out.trans qkh.out⟩⟩,by simp [intOf];omega⟩
   ·gi_wp2
    refine ⟨HKB.out.from (by have:=HB2.out;have:=HX.below.size;omega),HKB.out.1,ys,?_,HJ2.out,HKW.out⟩;have:=Xx.out;rw [Pn (by omega),List.map_nil,List.append_nil] at this;exact this
 case done =>
  rintro xs Wd hxs ⟨ys,i1,i2,i3⟩ hD;have HI1:=aj.mk (show ys.map tL.val=lI ls e0 e1 by rw [i1,hxs];rfl);have HJ9:=aj.mk i2;have HD:=aj.mk hD;clear i1 i2 i3 hD hxs;refine ⟨by simp,.inl ⟨_,_,rfl,run_takeDeferred HD.out,?_⟩⟩;exact ⟨_,results_none rfl _ _ _,⟨_,rfl⟩,ys,HI1.out,HJ.out.putObj _ HJ9.out HX.below.size HD.out rfl⟩
theorem Az (e0 e1 ti:Int) (A:Option Addr) (c:Nat) (ls:List bQ) (w:World) :
  Calls Tryz.prog 153 #[.agg #[.int .i64 e0,.int .i64 e1,.int .i64 ti,.slice A ls.length c]] w fun e w'=>∃ g,e=.returned (.func (.func 199) #[] #[.pointer (some ⟨g,0,none⟩)])∧w.heap.size<=g∧w'.heap[g]?=some (.cells #[.int .i64 e0,.int .i64 e1,.int .i64 ti,.slice A ls.length c] 67 (0,0))∧Below w.heap.size w w':=by
 have HX:=Bx.nil w
 have hmf:∀ (fn:Fn) (first cap:Array Value) (w:World),(Instr.makeFunc fn first cap).run Tryz.prog w=.ok (.func fn first cap) w:=fun _ _ _ _=>rfl
 go_enter Tryz.func153,Tryz.ntmps153
 go_wp2_with (first|((with_reducible refine au (N:=1) rfl ?_);refine newX rfl rfl HX (cs:=#[.int .i64 e0,.int .i64 e1,.int .i64 ti,.slice A ls.length c]) (t:=67) tG ?_;clear HX;intro g w3 HX hx hz;clear hx hz))
 go_ret
 exact ⟨g,rfl,HX.lo _ (List.mem_cons_self ..),HX.gb 0 rfl,HX.below⟩
end Go.Proofs.YtnpfbjnjdngkhaaGreatDoor.P
namespace Go.Proofs.YtnpfbjnjdngkhaaGreatDoor.P
open Go.RowKit Go.Proofs.YtnpfbjnjdngkhaaGreatDoorW.aQ Go.Proofs.YtnpfbjnjdngkhaaGreatDoorW.bO Go.Proofs.YtnpfbjnjdngkhaaGreatDoorW.bT
section
variable {P:Program} {ops:Array Oper} {rest:List Oper} {o:Oper} {a:Act} {Q:Exit->Act->World->Prop} {L:List (Nat × Obj)} {w W:World} {lp nF:Nat}
theorem qki (hgd:o.guard=none) (hN:o.dst=none) (hnd:vV o=true) {t:TypeId} {p:Tmp} {v:Operand} (ho:o.op=.store t (.tmp p) v) (HX:Bx L w W) (n:Nat)
  {g i:Nat} {cs:Array Value} {t':TypeId} (hn:L[n]?=some (g,.cells cs t' (0,0))) (u:Value) (seg:List Value) (cs':Array Value)
  (hp:a.eval (.tmp p)=.pointer (some ⟨g,i,none⟩)) (hv:a.eval v=u) (hu:u.cells.toList=seg) (ht:(P.info? t).map (·.size)=some seg.length) (hfit:i+seg.length<=cs.size) (h1:∀ q∈seg,q.oneCell'=true)
  (hcs:cs.toList.take i++seg++cs.toList.drop (i+seg.length)=cs'.toList)
  (h:∀ w1,Bx (L.set n (g,.cells cs' t' (0,0))) w w1->W.grownBy w1 (some g)->wpListIn (Fence.wide.inRound lp) nF P ops Q rest a w1):wpListIn (Fence.wide.inRound lp) nF P ops Q (o::rest) a W:=by
 have HK:=HX.get _ (List.mem_of_getElem? hn);obtain ⟨cur',h3,h4,h5⟩:=lg seg i W cs HK hfit;obtain ⟨s1,s2,s3,s4⟩:=jV g seg i W;have hg:W.grownBy (W.setCells g i seg) (some g):=⟨s1,s2,s3,by rw [s4];exact Nat.le_refl _,fun k _ hk=>jT _ _ k (fun he=>hk (by rw [he]))⟩
 obtain rfl:cur'=cs':=by rw [← Array.toList_inj,h5,hcs]
 refine wpListIn_plain hgd fun K hK=>opT (some lp) nF (zP hnd) ?_
 have hr:=qx (P:=P) t u seg HK hu ht hfit h1
 have hrun:(execOp a.eval o).run P W=.ok .skip (W.setCells g i seg):=by
  unfold execOp
  rw [ho];simp only [hp,hv];simp [hr]
 unfold Oper.wp
 rw [hrun]
 show K (a.put o.dst undef) _
 rw [hN];exact hK _ _ (h _ (HX.put n hn hg h3) hg)
end
end Go.Proofs.YtnpfbjnjdngkhaaGreatDoor.P
namespace Go.Proofs.YtnpfbjnjdngkhaaGreatDoor.P
open Go.RowKit Go.Proofs.YtnpfbjnjdngkhaaGreatDoorW.aQ Go.Proofs.YtnpfbjnjdngkhaaGreatDoorW.bO Go.Proofs.YtnpfbjnjdngkhaaGreatDoorW.bT
attribute [local go_sem] eP eT fU fV dS dU eU eX
attribute [local go_sem] Oper.semAt_some
def NJ (ti:Int) (p:List Int × Int):List Int:=vG ti p.2 p.1 0 [] []
def uF (ti a b:Int) (p:List Int × Int):Bool:=decide (rd (NJ ti p) a=rd (NJ ti p) b)
def qbU (ti:Int) (ls:List bQ) (e0 e1 a b:Int):Int:=KF ((lI ls e0 e1).any fun p=>uF ti a b p) ((lI ls e0 e1).any fun p=>!uF ti a b p)
def pJ.f (e0 e1 ti:Int) (ls:List bQ) (a b:Int):Option (Int × Int) :=
 some (if rG ⟨e0,e1⟩ ti ls&&(oN a 0 (ls.length - 1)&&oN b 0 (ls.length - 1)) then (qbU ti ls e0 e1 a b,0) else (0,2))
structure U8 (e0 e1 ti:Int) (ls:List bQ):Prop where
 eye:0<=e0∧e0<=e1∧e1<=200
 Bu:0<=ti∧ti<=9
 len:1<=ls.length∧ls.length<=4
 look:∀ s∈ls,-3000<=s.f0∧s.f0<=s.f1∧s.f1<=3000∧s.f1 - s.f0<=6
theorem Qv {e0 e1 ti:Int} {ls:List bQ} (h:rG ⟨e0,e1⟩ ti ls=true):U8 e0 e1 ti ls:=by
 unfold rG Ku at h
 simp only [Bool.and_eq_true,Bool.not_eq_true',List.any_eq_false,Bool.not_eq_false,pq] at h;have h1:=(oK (by decide) (by decide)).1 h.1;exact ⟨⟨h1.1,h1.2.1,h1.2.2.1⟩,h.2.1,by have:=h.2.2.1;omega,fun s hs=>by have:=(oK (by decide) (by decide)).1 (h.2.2.2 s hs);omega⟩
theorem yJ (ti e:Int):∀ (l:List Int) (n:Int) (fs out:List Int),(vG ti e l n fs out).length=out.length+l.length
 | [],_,_,out=>by simp [vG]
 | x::l,n,fs,out=>by
  rw [vG]
  split
  ·rw [yJ];simp;omega
  ·rw [yJ];simp;omega
theorem pJ.calls (bq:Int) (aU:Int) (dN:Int) (jh:Option Addr) (jv:Nat) (cu:List bQ) (a1:Int) (a2:Int) (r1:Int) (r2:Int) (w:World) (o9:Kd.C jW w jh cu.length cu) (xw:cu.length<=jv) (h:pJ.f bq aU dN cu a1 a2=some (r1,r2)) :
  Calls Tryz.prog 64 #[.agg #[.int .i64 bq,.int .i64 aU,.int .i64 dN,.slice jh cu.length jv],.int .i64 a1,.int .i64 a2] w fun e w'=>e=.returned (.tuple #[.int .i64 r1,.int .i64 r2])∧Below w.heap.size w w':=by
 have HX:=Bx.nil w
 have K1:=fun w1 (hb:Below w.heap.size w w1)=>c138 bq aU dN jh jv cu w1 (Kd.ak o9 hb) xw
 have K2:=fun w1=>rC a1 0 (cu.length - 1) w1
 have K3:=fun w1=>rC a2 0 (cu.length - 1) w1
 have hm0:cu.length<=9223372036854775807:=o9.2.1;have HR:=aj.mk o9
 unfold pJ.f at h
 obtain ⟨b1,hb1⟩:∃ b,b=rG ⟨bq,aU⟩ dN cu:=⟨_,rfl⟩;obtain ⟨b2,hb2⟩:∃ b,b=oN a1 0 (cu.length - 1):=⟨_,rfl⟩;obtain ⟨b3,hb3⟩:∃ b,b=oN a2 0 (cu.length - 1):=⟨_,rfl⟩;have HG:=aj.mk (And.intro hb1 (And.intro hb2 hb3));rw [← hb1,← hb2,← hb3] at h;rw [← hb1] at K1;rw [← hb2] at K2;rw [← hb3] at K3;clear hb1 hb2 hb3 o9;have ME:=Tryz.underlying67;have jY:=Tryz.underlying37
 have hc:(b1=false∨b1=true∧b2=false∨b1=true∧b2=true∧b3=false)∨(b1=true∧b2=true∧b3=true):=by
  cases b1<;>cases b2<;>cases b3<;>simp
 rcases hc with hc|hc
 ·obtain ⟨rfl,rfl⟩:r1=0∧r2=2:=by
   rcases hc with rfl|⟨rfl,rfl⟩|⟨rfl,rfl,rfl⟩<;>(simp at h;exact ⟨h.1.symm,h.2.symm⟩)
  clear h HG
  rcases hc with rfl|⟨rfl,rfl⟩|⟨rfl,rfl,rfl⟩
  all_goals
   go_enter Tryz.func64,Tryz.ntmps64
   go_wp2_with (first|((with_reducible refine au (N:=3) rfl ?_);refine newX rfl rfl HX (cs:=#[.int .i64 bq,.int .i64 aU,.int .i64 dN,.slice jh cu.length jv]) (t:=67) tG ?_;clear HX;intro g3 w3 HX hx hz;clear hx hz)|((with_reducible refine au (N:=4) rfl ?_);refine newX rfl rfl HX (cs:=#[.int .i64 a1]) (t:=3) tG ?_;clear HX;intro g4 w4 HX hx hz;clear hx hz)|((with_reducible refine au (N:=5) rfl ?_);refine newX rfl rfl HX (cs:=#[.int .i64 a2]) (t:=3) tG ?_;clear HX;intro g5 w5 HX hx hz;clear hx hz;obtain ⟨cs1,cs2,uG,uS⟩:=HX.g4 2 rfl;have ca:=HX.g1 1 rfl;have cb:=HX.g1 0 rfl)|(go_at_call 138;(with_reducible refine (K1 _ HX.below).mono ?_);rintro e w1 ⟨rfl,hx⟩;replace HX:=HX.step hx;clear hx cs1 cs2 uG uS ca cb;obtain ⟨cs1,cs2,uG,uS⟩:=HX.g4 2 rfl;have ca:=HX.g1 1 rfl;have cb:=HX.g1 0 rfl)|(go_at_call 113;(with_reducible first|refine (K2 _).mono ?_|refine (K3 _).mono ?_);rintro e w1 ⟨rfl,hx⟩;replace HX:=HX.step hx;clear hx cs1 cs2 uG uS ca cb;obtain ⟨cs1,cs2,uG,uS⟩:=HX.g4 2 rfl;have ca:=HX.g1 1 rfl;have cb:=HX.g1 0 rfl))
   go_ret2
   exact ⟨rfl,HX.below⟩
 ·obtain ⟨rfl,rfl,rfl⟩:=hc
  have hR:(qbU dN cu bq aU a1 a2,0)=(r1,r2):=by simpa using h
  obtain ⟨hr1,rfl⟩:qbU dN cu bq aU a1 a2=r1∧0=r2:=by simpa using hR
  have HRR:=aj.mk hr1;have OK:=aj.mk (Qv HG.out.1.symm);have HI:=aj.mk (And.intro (pq.1 HG.out.2.1.symm) (pq.1 HG.out.2.2.symm));clear h hR hr1;refine (callsIn_wide (n:=3)).1 ?_;refine callsIn_of_wp_marks Tryz.func64 rfl trivial ?_ rfl;refine wpIn_wide.2 ?_;simp only [Tryz.ntmps64,List.size_toArray,List.length_cons,List.length_nil,Nat.reduceAdd,Nat.reduceSub,Array.replicate_succ,Array.replicate_zero,List.push_toArray,List.append_toArray,List.nil_append,List.cons_append]
  go_wp2_with (first|((with_reducible refine au (N:=3) rfl ?_);refine newX rfl rfl HX (cs:=#[.int .i64 bq,.int .i64 aU,.int .i64 dN,.slice jh cu.length jv]) (t:=67) tG ?_;clear HX;intro g3 w3 HX hx hz;clear hx hz)|((with_reducible refine au (N:=4) rfl ?_);refine newX rfl rfl HX (cs:=#[.int .i64 a1]) (t:=3) tG ?_;clear HX;intro g4 w4 HX hx hz;clear hx hz)|((with_reducible refine au (N:=5) rfl ?_);refine newX rfl rfl HX (cs:=#[.int .i64 a2]) (t:=3) tG ?_;clear HX;intro g5 w5 HX hx hz;clear hx hz;obtain ⟨cs1,cs2,uG,uS⟩:=HX.g4 2 rfl;have ca:=HX.g1 1 rfl;have cb:=HX.g1 0 rfl)|(go_at_call 138;(with_reducible refine (K1 _ HX.below).mono ?_);rintro e w1 ⟨rfl,hx⟩;replace HX:=HX.step hx;clear hx cs1 cs2 uG uS ca cb;obtain ⟨cs1,cs2,uG,uS⟩:=HX.g4 2 rfl;have ca:=HX.g1 1 rfl;have cb:=HX.g1 0 rfl)|(go_at_call 113;(with_reducible first|refine (K2 _).mono ?_|refine (K3 _).mono ?_);rintro e w1 ⟨rfl,hx⟩;replace HX:=HX.step hx;clear hx cs1 cs2 uG uS ca cb;obtain ⟨cs1,cs2,uG,uS⟩:=HX.g4 2 rfl;have ca:=HX.g1 1 rfl;have cb:=HX.g1 0 rfl)|((with_reducible refine au (N:=8) rfl ?_);refine newX rfl rfl HX (cs:=#[.bool false]) (t:=4) tG ?_;clear HX;intro g8 w8 HX hx hz;clear hx hz;clear cs1 cs2 uG uS ca cb)|((with_reducible refine au (N:=9) rfl ?_);refine newX rfl rfl HX (cs:=#[.bool false]) (t:=4) tG ?_;clear HX;intro g9 w9 HX hx hz;clear hx hz)|((with_reducible refine aY (t:=4) (p:=8) rfl ?_);refine jZ rfl rfl rfl HX 1 rfl (i:=0) (.bool false) [.bool false] #[.bool false] rfl rfl rfl tX (by simp) (by simp [Value.oneCell']) rfl ?_;clear HX;intro w9 HX hx;clear hx;dsimp only [List.set] at HX)|((with_reducible refine aY (t:=4) (p:=9) rfl ?_);refine jZ rfl rfl rfl HX 0 rfl (i:=0) (.bool false) [.bool false] #[.bool false] rfl rfl rfl tX (by simp) (by simp [Value.oneCell']) rfl ?_;clear HX;intro w9 HX hx;clear hx;dsimp only [List.set] at HX;obtain ⟨cs1,cs2,uG,uS⟩:=HX.g4 4 rfl;have ca:=HX.g1 3 rfl;have cb:=HX.g1 2 rfl)|(go_at_call 153;refine (Az bq aU dN jh jv cu _).mono ?_;rintro e wl ⟨gs,rfl,hgs,jX,hx⟩;have GSS:=aj.mk (Nat.le_trans HX.below.size hgs);have GSN:=aj.mk (show g8≠gs∧g9≠gs from ⟨fun e=>by have:=bZ (HX.gb 1 rfl);omega,fun e=>by have:=bZ (HX.gb 0 rfl);omega⟩);have HGS:=aj.mk jX;replace HX:=HX.step hx;clear hx hgs jX cs1 cs2 uG uS ca cb))
  obtain ⟨Wr,Yn⟩:∃ Wr:Nat->Prop,Wr=fun k=>k=g8∨k=g9:=⟨_,rfl⟩
  have HWR:=aj.mk Yn;have qe2:g8<wl.heap.size:=bZ (HX.gb 1 rfl);have qe3:g9<wl.heap.size:=bZ (HX.gb 0 rfl);have Qw:=aj.mk (And.intro qe2 qe3)
  have Lv:=aj.mk (show ¬ Wr g3∧¬ Wr g4∧¬ Wr g5∧¬ Wr gs from by
   rw [Yn]
   exact ⟨fun h=>h.elim (HX.key (i:=4) (j:=1) rfl rfl (by decide)) (HX.key (i:=4) (j:=0) rfl rfl (by decide)),fun h=>h.elim (HX.key (i:=3) (j:=1) rfl rfl (by decide)) (HX.key (i:=3) (j:=0) rfl rfl (by decide)),fun h=>h.elim (HX.key (i:=2) (j:=1) rfl rfl (by decide)) (HX.key (i:=2) (j:=0) rfl rfl (by decide)),fun h=>h.elim (fun e=>GSN.out.1 e.symm) (fun e=>GSN.out.2 e.symm)⟩)
  have Lu:=aj.mk (And.intro (HX.lo _ (List.mem_of_getElem? (i:=1) rfl)) (HX.lo _ (List.mem_of_getElem? (i:=0) rfl)))
  have HAD:∀ ad,jh=some ad->¬ Wr ad.block:=fun ad e h=>by
   obtain ⟨ad2,e2,q,_⟩:=nI HR.out 0 (by omega) (by have:=OK.out.len;omega);rw [e] at e2
   cases e2
   have hq:=World.block_lt_of_cell? w _ q;rw [add_block] at hq;have h8:w.heap.size<=g8:=Lu.out.1;have h9:w.heap.size<=g9:=Lu.out.2;rw [Yn] at h
   rcases h with h|h<;>omega
  have HNE:=aj.mk (show g8≠g9 from HX.key (i:=1) (j:=0) rfl rfl (by decide));clear Yn qe2 qe3;refine (wpIn_wide (n:=3)).1 ?_
  refine U7 (gf:=199) (lb:=#[.pointer (some ⟨gs,0,none⟩)]) rfl (enters_of Tryz.func199 tX rfl) (EY gs bq aU dN jh jv cu Wr wl (by have:=OK.out.len;omega) (fun s hs=>by have:=OK.out.look s hs;omega) (by have:=OK.out.eye;omega) HGS.out (Kd.ak HR.out HX.below) Lv.out.2.2.2 HAD (fun k hk=>by rw [HWR.out] at hk;rcases hk with rfl|rfl;exact Qw.out.1;exact Qw.out.2)) wX.trans (fun W o o' ho hc=>wX.put ho hc (by omega)) (Below.refl _ _) (fun _=>rfl)
   (fun (pre:List tL) W=>W.heap[g8]?=some (.cells #[.bool (pre.any fun x=>uF dN a1 a2 x.val)] 4 (0,0))∧W.heap[g9]?=some (.cells #[.bool (pre.any fun x=>!uF dN a1 a2 x.val)] 4 (0,0))∧mH Wr wl W∧Below w.heap.size w W)
   (fun pre A B row hi hg hr=>⟨(hg.block _ (bZ hi.1) (fun e=>by have:=(hr _ e.symm).1;have:=Qw.out.1;omega)).trans hi.1,(hg.block _ (bZ hi.2.1) (fun e=>by have:=(hr _ e.symm).1;have:=Qw.out.2;omega)).trans hi.2.1,hi.2.2.1.trans ((mH.own hg fun r e=>(hr r e).2).weak Wr),kH hi.2.2.2 row hi.2.2.2.size hg (fun k e=>by have:=(hr k e).1;have:=HX.below.size;omega)⟩)
   ⟨HX.gb 1 rfl,HX.gb 0 rfl,mH.refl _ _,HX.below⟩
   (fun x a' W=>∃ g10,a'={ tmps:=#[.agg #[.int .i64 bq,.int .i64 aU,.int .i64 dN,.slice jh cu.length jv],.int .i64 a1,.int .i64 a2,.pointer (some ⟨g3,0,none⟩),.pointer (some ⟨g4,0,none⟩),.pointer (some ⟨g5,0,none⟩),.int .i64 0,.int .i64 0,.pointer (some ⟨g8,0,none⟩),.pointer (some ⟨g9,0,none⟩),.pointer (some ⟨g10,0,none⟩),undef,.agg #[.int .i64 bq,.int .i64 aU,.int .i64 dN,.slice jh cu.length jv],.bool true,.bool false,.bool false,.int .i64 a1,.pointer (some ⟨g3,3,none⟩),.slice jh cu.length jv,.int .i64 cu.length,.int .i64 ((cu.length:Int) - 1),.bool true,.bool false,.bool false,.bool false,.int .i64 a2,.pointer (some ⟨g3,3,none⟩),.slice jh cu.length jv,.int .i64 cu.length,.int .i64 ((cu.length:Int) - 1),.bool true,.bool false,.bool false,.agg #[.int .i64 bq,.int .i64 aU,.int .i64 dN,.slice jh cu.length jv],.func (.func 199) #[] #[.pointer (some ⟨gs,0,none⟩)],.agg #[.slice x.A x.xs.length x.c,.int .i64 x.eye],undef,undef,undef,undef,undef,undef,undef,undef,undef,undef,undef,undef,undef,undef,undef,undef,undef,undef,undef],defers:=[] }∧W.heap[g10]?=some (.cells #[.slice x.A x.xs.length x.c,.int .i64 x.eye] 196 (0,0))∧x.Rd W∧x.val∈lI cu bq aU)
   (fun x a' _ A B row hi hg hr=>by
    obtain ⟨g10,e,h1,h2,h3⟩:=hi
    have hk:=mH.own hg fun r e=>(hr r e).2
    exact ⟨g10,e,hk.2 _ _ h1 rfl (fun h=>h),⟨hk.row vC h2.1 (fun _ _ _ h=>h),h2.2⟩,h3⟩) ?assign ?body ?done
  case assign =>
   rintro lp pre x W K ⟨i1,i2,i3,i4⟩ ⟨hrd,hxv,_⟩ hK;have HI1:=aj.mk (And.intro i1 (And.intro i2 (And.intro i3 i4)));have xu:=aj.mk (And.intro hrd hxv);have HY:=Bx.nil W;clear i1 i2 i3 i4 hrd hxv
   unfold tL.enc
   gi_wp2_with (fail)
   have hb:=fH (Below.refl W.heap.size W) (.cells #[.slice x.A x.xs.length x.c,.int .i64 x.eye] 196 (0,0));refine hK _ _ ⟨hb.size,fun k o _ hk _=>(hb.block k (bZ hk)).trans hk⟩ (wX.below hb) ⟨aD HI1.out.1 hb,aD HI1.out.2.1 hb,HI1.out.2.2.1.trans (mH.below hb),aV HI1.out.2.2.2 hb⟩ ⟨W.heap.size,rfl,uj W _,⟨Kd.ak xu.out.1.1 hb,xu.out.1.2⟩,xu.out.2⟩
  case body =>
   rintro lp pre x a' W ⟨i1,i2,i3,i4⟩ ⟨g10,rfl,hc,hrd,hxv⟩ hpre;have HI1:=aj.mk i1;have HI2:=aj.mk i2;have HK:=aj.mk i3;have rE:=aj.mk i4;have xu:=aj.mk hrd;have HXV:=aj.mk hxv;have Fq:=aj.mk hc;clear i1 i2 i3 i4 hc hrd hxv hpre
   have hxl:x.xs.length=cu.length:=by
    obtain ⟨xs,h1,h2⟩:=List.mem_flatMap.1 HXV.out;obtain ⟨e,_,h3⟩:=List.mem_map.1 h2
    have:x.xs=xs:=by injection h3 with h4 _;exact h4.symm
    rw [this];exact qG h1
   obtain ⟨ls,hls⟩:∃ ls,ls=NJ dN x.val:=⟨_,rfl⟩;have HLF:=aj.mk (show lG.f dN x.xs x.eye=some ls by unfold lG.f;rw [if_pos (by have:=OK.out.len;omega),hls];rfl);have Qt:=aj.mk (show ls.length=cu.length by rw [hls];unfold NJ;rw [yJ];simpa [tL.val] using hxl);have Qs:=aj.mk hls;obtain ⟨cs1,cs2,uG,uS⟩:=Bl (HK.out.box ⟨HX.gb 4 rfl⟩ Lv.out.1).out;obtain ⟨ZX,ZY⟩:=qM Fq.out;clear hxl hls
   gi_wp2
   refine ⟨trivial,?_⟩;refine (CallsIn.inRound lp (callsIn_wide.2 (lG.calls dN x.A x.c x.xs x.eye ls W xu.out.1 xu.out.2 HLF.out))).mono ?_;rintro e w5 ⟨v,rfl,ho,hx⟩;obtain ⟨Av,cv,rfl,hlv,hCv⟩:=Kd.fE ho;have Yo:=aj.mk hx;have HK5:=aj.mk (HK.out.trans (mH.below hx));have HCV:=aj.mk hCv;have ca:=fG (HK5.out.box ⟨HX.gb 3 rfl⟩ Lv.out.2.1).out;have cb:=fG (HK5.out.box ⟨HX.gb 2 rfl⟩ Lv.out.2.2.1).out;clear cs1 cs2 uG uS ZX ZY ho hx hCv
   gi_wp2
   obtain ⟨ad,rfl,d1⟩:=Kd.iE HCV.out a1 HI.out.1.1 (by have:=HI.out.1.2;have:=Qt.out;omega);obtain ⟨ad2,e2,d2⟩:=Kd.iE HCV.out a2 HI.out.2.1 (by have:=HI.out.2.2;have:=Qt.out;omega)
   cases e2
   have n1:0<=a1:=HI.out.1.1
   have n2:a1<(ls.length:Int):=by have:=HI.out.1.2;have:=Qt.out;omega
   have n3:0<=a2:=HI.out.2.1
   have n4:a2<(ls.length:Int):=by have:=HI.out.2.2;have:=Qt.out;omega
   refine EF (some lp) (fun ⟨_,_,h⟩=>by have h2:Exit.outgrown=Exit.normal∧_:=h;cases h2.1) (by rfl) (S:=fun w'=>w'.cell? ⟨g4,0,none⟩=some (.int .i64 a1)∧w'.cell? ⟨g5,0,none⟩=some (.int .i64 a2)∧w'.cell? (ad.add a1.toNat)=some (.int .i64 (rd ls a1))∧w'.cell? (ad.add a2.toNat)=some (.int .i64 (rd ls a2))) (ds:=[]) (bA 9 0) tX rfl rfl ⟨ca,cb,d1,d2⟩ (fun hHeld=>?_);clear ca cb d1 d2;refine qB1 0 43 (bA 9 1) ?_;refine qB1 4 47 (bA 9 17) ?_;refine qzF 1 44 (bA 9 19) hHeld ?_;refine qzF 5 48 (bA 9 51) hHeld ?_;refine qB1 2 45 (bA 9 55) ?_;refine qB1 6 49 (bA 9 119) ?_;refine qzF 3 46 (bA 9 127) hHeld ?_;refine qzF 7 50 (bA 9 255) hHeld ?_;refine qB1 8 51 (bA 9 511) ?_;refine lK tX ?_;have HD5:=aj.mk (fC (Below.refl w5.heap.size w5))
   generalize w5.drew=w6 at HD5 ⊢
   have c8:=fG (aD (aD HI1.out Yo.out) HD5.out);have c9:=fG (aD (aD HI2.out Yo.out) HD5.out);clear hHeld;have f8:=pW (aD (aD HI1.out Yo.out) HD5.out) 0;have f9:=pW (aD (aD HI2.out Yo.out) HD5.out) 0
   by_cases hq:rd ls a1=rd ls a2
   ·have hqb:(rd ls a1 == rd ls a2)=true:=by simp [hq]
    gi_wp2
    have hsm:uF dN a1 a2 x.val=true:=by
     unfold uF
     rw [← Qs.out];exact decide_eq_true hq
    have RQ:=aV Yo.out HD5.out;have hg:=grownBy_setCell' w6 g8 (.bool true);have hkb:wX Wr wl.heap.size W _:=(wX.below RQ).trans (wX.grown hg (by rw [HWR.out];exact .inl rfl) Qw.out.1);rw [hsm];refine ⟨hkb.from (Nat.le_refl _),⟨hkb.1,fun k o hk ho=>hkb.2 k o (by omega) ho⟩,?_,?_,HK.out.trans hkb.1,kH (aV rE.out RQ) (some g8) (aV rE.out RQ).size hg (fun k e=>by injection e with e;subst e;exact Lu.out.1)⟩
    ·exact dO (aD HI1.out RQ) 0 _ (by simp)
    ·exact (hg.block _ (bZ (aD HI2.out RQ)) (fun e=>by injection e with e;exact HNE.out e.symm)).trans (by simpa using aD HI2.out RQ)
   ·have hqb:(rd ls a1 == rd ls a2)=false:=by simp [hq]
    gi_wp2
    have hsm:uF dN a1 a2 x.val=false:=by
     unfold uF
     rw [← Qs.out];exact decide_eq_false hq
    have RQ:=aV Yo.out HD5.out;have hg:=grownBy_setCell' w6 g9 (.bool true);have hkb:wX Wr wl.heap.size W _:=(wX.below RQ).trans (wX.grown hg (by rw [HWR.out];exact .inr rfl) Qw.out.2);rw [hsm];refine ⟨hkb.from (Nat.le_refl _),⟨hkb.1,fun k o hk ho=>hkb.2 k o (by omega) ho⟩,?_,?_,HK.out.trans hkb.1,kH (aV rE.out RQ) (some g9) (aV rE.out RQ).size hg (fun k e=>by injection e with e;subst e;exact Lu.out.2)⟩
    ·exact (hg.block _ (bZ (aD HI1.out RQ)) (fun e=>by injection e with e;exact HNE.out e)).trans (by simpa using aD HI1.out RQ)
    ·exact dO (aD HI2.out RQ) 0 _ (by simp)
  case done =>
   rintro xs W hxs ⟨i1,i2,i3,i4⟩ hD;have HA:=aj.mk (show (xs.any fun x=>uF dN a1 a2 x.val)=(lI cu bq aU).any fun p=>uF dN a1 a2 p by rw [← hxs,List.any_map];rfl);have HN:=aj.mk (show (xs.any fun x=>!uF dN a1 a2 x.val)=(lI cu bq aU).any fun p=>!uF dN a1 a2 p by rw [← hxs,List.any_map];rfl);rw [HA.out] at i1;rw [HN.out] at i2
   obtain ⟨bs,hbs⟩:∃ b,b=(lI cu bq aU).any fun p=>uF dN a1 a2 p:=⟨_,rfl⟩
   obtain ⟨bn,hbn⟩:∃ b,b=(lI cu bq aU).any fun p=>!uF dN a1 a2 p:=⟨_,rfl⟩
   rw [← hbs] at i1;rw [← hbn] at i2;have HT:=aj.mk (show r1=KF bs bn by rw [← HRR.out,hbs,hbn];rfl);have c8:=fG i1;have c9:=fG i2;have HD:=aj.mk hD;have rE:=aj.mk i4;clear i1 i2 i3 i4 hD hxs hbs hbn HA HN
   go_wp2_with (go_at_call 154;refine (oZ (xB.calls _ _ _ _ (Us bs bn))).mono ?_;rintro e w5 ⟨rfl,hx⟩;have Yo:=aj.mk hx;clear hx c8 c9)
   have HD2:=dQ HD Yo.out;refine ⟨by simp,.inl ⟨_,_,rfl,run_takeDeferred HD2.out,?_⟩⟩;refine ⟨_,results_tmp2 rfl _ _ _,by rw [HT.out];rfl,?_⟩;exact (stepG ⟨aV rE.out Yo.out⟩ (grownBy_putObj' w5 wl.heap.size (.deferred none)) ⟨HX.below.size⟩).out
end Go.Proofs.YtnpfbjnjdngkhaaGreatDoor.P
namespace Go.Proofs.YtnpfbjnjdngkhaaGreatDoor.P
open Go.RowKit Go.Proofs.YtnpfbjnjdngkhaaGreatDoorW.aQ Go.Proofs.YtnpfbjnjdngkhaaGreatDoorW.bO Go.Proofs.YtnpfbjnjdngkhaaGreatDoorW.bT
attribute [local go_sem] eP eT fU fV dS dU eU eX
def sJ.f (bq:Int) (aU:Int) (a1:Int):Option (Int × Int):=if bq>aU then (some (a1,a1)) else (some (mn bq a1,mx aU a1))
theorem sJ.calls (bq:Int) (aU:Int) (a1:Int) (r1:Int) (r2:Int) (w:World) (h:sJ.f bq aU a1=some (r1,r2)) :
  Calls Tryz.prog 191 #[.agg #[.int .i64 bq,.int .i64 aU],.int .i64 a1] w fun e w'=>e=.returned (.agg #[.int .i64 r1,.int .i64 r2])∧Below w.heap.size w w':=by
 have jY:=Tryz.underlying37;have HB:=aj.mk (Below.refl w.heap.size w);have H:(if bq>aU then (some (a1,a1)) else (some (mn bq a1,mx aU a1)))=some (r1,r2):=h;clear h
 by_cases c3:bq>aU
 ·rw [if_pos c3] at H
  have qd:decide (aU<bq)=true:=decide_eq_true c3;clear c3;simp only [Option.some.injEq,Prod.mk.injEq] at H;obtain ⟨rfl,rfl⟩:=H
  go_enter Tryz.func191,Tryz.ntmps191
  go_wp2_with (first|((with_reducible refine au (N:=2) rfl ?_);refine fA 2 #[.int .i64 bq,.int .i64 aU] 37 HB ?_;clear HB;intro qe4 w4 hg tN qe5 HB hb;clear hb hg)|((with_reducible refine au (N:=4) rfl ?_);refine fA 4 #[.int .i64 0,.int .i64 0] 37 HB ?_;clear HB;intro U9 w5 hg AA qe6 HB hb;have BA:=Fh tN hg;have BD:=Fj tN hg;replace tN:=bW tN hb;clear hb hg;have qex:=BA.out;have qey:=BD.out;obtain ⟨Hg,Hl⟩:=bc2 tN;have Ho:=bf tN 0;have Hq:=bf tN 1;obtain ⟨yY,Nf⟩:=bc2 AA;have yZ:=bf AA 0;have Ng:=bf AA 1))
  refine bodyPost_ret (results_cell_row rfl _ _ U9 37 #[.int .i64 a1,.int .i64 a1] (0,0) _ rfl (by (with_reducible repeat (first|refine aJ ?_ _|refine aN ?_|refine aI ?_ _));refine dO (cs:=#[.int .i64 a1,.int .i64 0]) ?_ 1 _ rfl;(with_reducible repeat (first|refine aJ ?_ _|refine aN ?_|refine aI ?_ _));refine dO (cs:=#[.int .i64 0,.int .i64 0]) ?_ 0 _ rfl;(with_reducible repeat (first|refine aJ ?_ _|refine aN ?_|refine aI ?_ _));exact AA.out) Tryz.underlying37 rfl tX) rfl ?_;exact ⟨tF,tB⟩
 ·rw [if_neg c3] at H
  have qd:decide (aU<bq)=false:=decide_eq_false c3;clear c3;obtain ⟨ji9,Yp⟩:∃ j_:Int,(mn bq a1)=j_:=⟨_,rfl⟩
  replace H:(some (ji9,mx aU a1))=some (r1,r2):=by first|(rw [Yp] at H;exact H)|(simp only [Yp] at H ⊢;exact H)
  have qnH:(if a1<bq then a1 else bq)=ji9:=Yp;obtain ⟨qbW,Qx⟩:∃ j_:Int,(mx aU a1)=j_:=⟨_,rfl⟩
  replace H:(some (ji9,qbW))=some (r1,r2):=by first|(rw [Qx] at H;exact H)|(simp only [Qx] at H ⊢;exact H)
  have qkm:(if aU<a1 then a1 else aU)=qbW:=Qx;simp only [Option.some.injEq,Prod.mk.injEq] at H;obtain ⟨rfl,rfl⟩:=H
  go_enter Tryz.func191,Tryz.ntmps191
  go_wp2_with (first|((with_reducible refine au (N:=2) rfl ?_);refine fA 2 #[.int .i64 bq,.int .i64 aU] 37 HB ?_;clear HB;intro qe4 Jc hg tN qe5 HB hb;clear hb hg)|((with_reducible refine au (N:=4) rfl ?_);refine fA 4 #[.int .i64 0,.int .i64 0] 37 HB ?_;clear HB;intro U9 yO hg AA qe6 HB hb;have BA:=Fh tN hg;have BD:=Fj tN hg;replace tN:=bW tN hb;clear hb hg;have qdT:=BA.out;have qdU:=BD.out;obtain ⟨Pj,XF⟩:=bc2 tN;have Pk:=bf tN 0;have XG:=bf tN 1;obtain ⟨yw,He⟩:=bc2 AA;have yx:=bf AA 0;have Hf:=bf AA 1))
  refine bodyPost_ret (results_cell_row rfl _ _ U9 37 #[.int .i64 ji9,.int .i64 qbW] (0,0) _ rfl (by (with_reducible repeat (first|refine aJ ?_ _|refine aN ?_|refine aI ?_ _));refine dO (cs:=#[.int .i64 ji9,.int .i64 0]) ?_ 1 _ rfl;(with_reducible repeat (first|refine aJ ?_ _|refine aN ?_|refine aI ?_ _));refine dO (cs:=#[.int .i64 0,.int .i64 0]) ?_ 0 _ rfl;(with_reducible repeat (first|refine aJ ?_ _|refine aN ?_|refine aI ?_ _));exact AA.out) Tryz.underlying37 rfl tX) rfl ?_;exact ⟨by first|rfl|(simp [ow,oz]<;>rfl)|(simp only [← Yp,← Qx];first|rfl|(simp [ow,oz]<;>rfl))|(simp [*,ow,oz]<;>rfl),tB⟩
def cZ.l0:Nat->List Int->List Int->Int->Int->Option Bool
 | 0,_,_,_,_=>none
 | k+1,x0,x1,Gb,VQ=>if VQ<Gb then (if 0<=VQ then (if VQ<(x0.length:Int) then (if VQ<(x1.length:Int) then (if (rd x0 VQ)=(rd x1 VQ) then (cZ.l0 k x0 x1 Gb (wrap64 (VQ+1))) else (some false)) else (none)) else (none)) else (none)) else (some true)
def cZ.f (k:Nat) (l0:List Int) (l1:List Int):Option Bool:=if (l0.length:Int)=(l1.length:Int) then (cZ.l0 k l0 l1 (l0.length:Int) 0) else (some false)
theorem cZ.calls (k:Nat) (A0:Option Addr) (c0:Nat) (l0:List Int) (A1:Option Addr) (c1:Nat) (l1:List Int) (r:Bool) (w:World) (hr0:Kd.C (Kd.int .i64) w A0 l0.length l0) (hc0:l0.length<=c0) (hr1:Kd.C (Kd.int .i64) w A1 l1.length l1) (hc1:l1.length<=c1) (h:cZ.f k l0 l1=some r) :
  Calls Tryz.prog 190 #[.slice A0 l0.length c0,.slice A1 l1.length c1] w fun e w'=>e=.returned (.bool r)∧gU w w':=by
 have Fp:=aj.mk hr0;have Zf:=aj.mk hc0;clear hr0 hc0;have HR1:=aj.mk hr1;have yE:=aj.mk hc1;clear hr1 hc1;have H:(if (l0.length:Int)=(l1.length:Int) then (cZ.l0 k l0 l1 (l0.length:Int) 0) else (some false))=some r:=h;clear h
 by_cases c3:(l0.length:Int)=(l1.length:Int)
 ·rw [if_pos c3] at H
  have qd:((l0.length:Int) == (l1.length:Int))=true:=beq_iff_eq.mpr c3;have yX:((l0.length:Int) != (l1.length:Int))=false:=bne_eq_false_iff_eq.mpr c3
  have Bo:(l0.length == l1.length)=true:=by first|simpa using c3|(simp at c3 ⊢;omega)
  clear c3;have H':=aj.mk H;clear H
  go_enter Tryz.func190,Tryz.ntmps190
  go_wp2
  repeat (go_quiet (fail);try go_wp2)
  go_loopg [13] k (fun kq v13 w'=>∃ (iX:Int),v13=.int .i64 iX∧aj (cZ.l0 kq l0 l1 (l0.length:Int) iX=some r)∧aj (kq<=k)∧gU w w')
  case atStart=>exact ⟨(0),tS,H',⟨Nat.le_refl _⟩,tD⟩
  case round =>
   clear H'
   try clear c1
   try clear p2
   try clear c3
   try clear qd
   try clear yX
   try clear Bo
   obtain ⟨iX,rfl,HA,qg,⟨m1,rfl⟩⟩:=hrel
   cases gk with
   | zero=>exact absurd HA.out (by simp [cZ.l0])
   | succ k1 =>
    have H:=HA.out;clear HA;simp only [cZ.l0] at H
    by_cases c4:iX<(l0.length:Int)
    ·rw [if_pos c4] at H
     have pR:decide (iX<(l0.length:Int))=true:=decide_eq_true c4;clear c4
     by_cases c5:0<=iX
     ·rw [if_pos c5] at H
      have zC:decide (0<=iX)=true:=decide_eq_true c5;clear c5
      by_cases c6:iX<(l0.length:Int)
      ·rw [if_pos c6] at H
       have GV:decide (iX<(l0.length:Int))=true:=decide_eq_true c6;clear c6
       by_cases c7:iX<(l1.length:Int)
       ·rw [if_pos c7] at H
        have yL:decide (iX<(l1.length:Int))=true:=decide_eq_true c7;clear c7
        by_cases c8:(rd l0 iX)=(rd l1 iX)
        ·rw [if_pos c8] at H
         have Hz:((rd l0 iX) == (rd l1 iX))=true:=beq_iff_eq.mpr c8;have qbF:((rd l0 iX) != (rd l1 iX))=false:=bne_eq_false_iff_eq.mpr c8;clear c8;have H':=aj.mk H;clear H;have NK:0<=(iX:Int):=of_decide_eq_true tA;have NM:iX<(l0.length:Int):=of_decide_eq_true tA;obtain ⟨qe8,e252,Yq⟩:=Kd.iE Fp.out iX NK NM
         cases e252
         replace NK:=eq_true NK;replace NM:=eq_true NM;have NN:0<=(iX:Int):=of_decide_eq_true tA;have NP:iX<(l1.length:Int):=of_decide_eq_true tA;obtain ⟨qe9,qbX,Yr⟩:=Kd.iE HR1.out iX NN NP
         cases qbX
         replace NN:=eq_true NN;replace NP:=eq_true NP
         go_wp2
         repeat (go_quiet (fail);try go_wp2)
         go_roundg k1
         case measure=>have:=qg.out;omega
         case rel=>exact ⟨(wrap64 (iX+1)),tS,H',⟨by have:=qg.out;omega⟩,tD⟩
        ·rw [if_neg c8] at H
         have Hz:((rd l0 iX) == (rd l1 iX))=false:=beq_eq_false_iff_ne.mpr c8;have qbF:((rd l0 iX) != (rd l1 iX))=true:=bne_iff_ne.mpr c8;obtain rfl:=Option.some.inj H;have NK:0<=(iX:Int):=of_decide_eq_true tA;have NM:iX<(l0.length:Int):=of_decide_eq_true tA;obtain ⟨qe8,e252,Yq⟩:=Kd.iE Fp.out iX NK NM
         cases e252
         replace NK:=eq_true NK;replace NM:=eq_true NM;have NN:0<=(iX:Int):=of_decide_eq_true tA;have NP:iX<(l1.length:Int):=of_decide_eq_true tA;obtain ⟨qe9,qbX,Yr⟩:=Kd.iE HR1.out iX NN NP
         cases qbX
         replace NN:=eq_true NN;replace NP:=eq_true NP
         go_wp2
         repeat (go_quiet (fail);try go_wp2)
         go_ret
         exact ⟨tS,tD⟩
       ·rw [if_neg c7] at H
        exact absurd H (by simp)
      ·rw [if_neg c6] at H
       exact absurd H (by simp)
     ·rw [if_neg c5] at H
      exact absurd H (by simp)
    ·rw [if_neg c4] at H
     have pR:decide (iX<(l0.length:Int))=false:=decide_eq_false c4;clear c4;obtain rfl:=Option.some.inj H
     go_wp2
     repeat (go_quiet (fail);try go_wp2)
     go_ret
     exact ⟨tS,tD⟩
 ·rw [if_neg c3] at H
  have qd:((l0.length:Int) == (l1.length:Int))=false:=beq_eq_false_iff_ne.mpr c3;have yX:((l0.length:Int) != (l1.length:Int))=true:=bne_iff_ne.mpr c3
  have Bo:(l0.length == l1.length)=false:=by first|simpa using c3|(simp at c3 ⊢;omega)
  obtain rfl:=Option.some.inj H
  go_enter Tryz.func190,Tryz.ntmps190
  go_wp2
  repeat (go_quiet (fail);try go_wp2)
  go_ret
  exact ⟨tS,tD⟩
end Go.Proofs.YtnpfbjnjdngkhaaGreatDoor.P
namespace Go.Proofs.YtnpfbjnjdngkhaaGreatDoor.P
open Go.RowKit Go.Proofs.YtnpfbjnjdngkhaaGreatDoorW.aQ Go.Proofs.YtnpfbjnjdngkhaaGreatDoorW.bO Go.Proofs.YtnpfbjnjdngkhaaGreatDoorW.bT
def jM (s:bQ) (n:Int):bQ:=if s.f0>s.f1 then ⟨n,n⟩ else ⟨mn s.f0 n,mx s.f1 n⟩
theorem Qy (s:bQ) (n:Int):sJ.f s.f0 s.f1 n=some ((jM s n).f0,(jM s n).f1):=by
 unfold sJ.f jM
 split<;>rfl
def Cv (ti:Int) (nH:List Int) (st:List bQ × bQ) (p:List Int × Int):List bQ × bQ:=if NJ ti p=nH then (List.zipWith jM st.1 p.1,jM st.2 p.2) else st
def DL (n:Nat):List bQ × bQ:=(List.replicate n ⟨1,0⟩,⟨1,0⟩)
def jO (ti e0 e1:Int) (ls:List bQ) (nH:List Int):List bQ × bQ:=(lI ls e0 e1).foldl (Cv ti nH) (DL ls.length)
def flat (l:List bQ):List Value:=l.flatMap fun s=>[.int .i64 s.f0,.int .i64 s.f1]
theorem sK (s:bQ) (l:List bQ):flat (s::l)=.int .i64 s.f0::.int .i64 s.f1::flat l:=rfl
theorem vM:∀ l:List bQ,(flat l).length=2*l.length
 | []=>rfl
 | s::l=>by rw [sK,List.length_cons,List.length_cons,vM l,List.length_cons];omega
theorem Gl:∀ (l:List bQ) (i:Nat) (h:i<l.length),(flat l)[2*i]?=some (.int .i64 l[i].f0)
 | s::l,0,_=>rfl
 | s::l,i+1,h=>by
  have:=Gl l i (by simpa using h);rw [sK,show 2*(i+1)=2*i+1+1 by omega,List.getElem?_cons_succ,List.getElem?_cons_succ,this]
  rfl
theorem Gm:∀ (l:List bQ) (i:Nat) (h:i<l.length),(flat l)[2*i+1]?=some (.int .i64 l[i].f1)
 | s::l,0,_=>rfl
 | s::l,i+1,h=>by
  have:=Gm l i (by simpa using h);rw [sK,show 2*(i+1)+1=2*i+1+1+1 by omega,List.getElem?_cons_succ,List.getElem?_cons_succ,this]
  rfl
theorem Lc:∀ (l:List bQ) (i:Nat) (s:bQ),i<l.length->(flat l).take (2*i)++[.int .i64 s.f0,.int .i64 s.f1]++(flat l).drop (2*i+2)=flat (l.set i s)
 | x::l,0,s,_=>rfl
 | x::l,i+1,s,h=>by
  have:=Lc l i s (by simpa using h);rw [sK,show 2*(i+1)=2*i+1+1 by omega,List.take_succ_cons,List.take_succ_cons,show 2*i+1+1+2=(2*i+2)+1+1 by omega,List.drop_succ_cons,List.drop_succ_cons,List.set_cons_succ,sK,← this]
  rfl
def wF (st:List bQ) (xs:List Int) (j:Nat):List bQ:=(List.zipWith jM st xs).take j++st.drop j
theorem Ld {st:List bQ} {xs:List Int} (h:xs.length=st.length) (j:Nat) (hj:j<=st.length):(wF st xs j).length=st.length:=by
 unfold wF
 simp only [List.length_append,List.length_take,List.length_zipWith,List.length_drop]
 omega
theorem Va {st:List bQ} {xs:List Int} (h:xs.length=st.length) (j:Nat) (hj:j<st.length):(wF st xs j)[j]'(by rw [Ld h j (by omega)];exact hj)=st[j]:=by
 unfold wF
 rw [List.getElem_append_right (by simp;omega)];simp only [List.length_take,List.length_zipWith,List.getElem_drop]
 congr 1
 omega
theorem Vb {st:List bQ} {xs:List Int} (h:xs.length=st.length) (j:Nat) (hj:j<st.length):(wF st xs j).set j (jM st[j] (xs[j]'(by omega)))=wF st xs (j+1):=by
 unfold wF
 have hz:j<(List.zipWith jM st xs).length:=by simp;omega
 rw [List.set_append_right _ _ (by simp;omega),List.take_succ_eq_append_getElem hz,List.append_assoc]
 congr 1
 rw [List.drop_eq_getElem_cons hj];simp only [List.length_take,List.length_zipWith,List.getElem_zipWith];rw [show j - min j (min st.length xs.length)=0 by omega]
 rfl
theorem Vd {st:List bQ} {xs:List Int} (h:xs.length=st.length):wF st xs st.length=List.zipWith jM st xs:=by
 unfold wF
 rw [List.drop_length,List.append_nil,List.take_of_length_le (by simp;omega)]
theorem RS {ti:Int} {nH:List Int} {st:List bQ × bQ} {p:List Int × Int} {n:Nat} (h:st.1.length=n) (hp:p.1.length=n):(Cv ti nH st p).1.length=n:=by
 unfold Cv
 split
 ·simp [h,hp]
 ·exact h
theorem Gp {ti:Int} {nH:List Int} {n:Nat}:∀ (l:List (List Int × Int)) (st:List bQ × bQ),(∀ p∈l,p.1.length=n)->st.1.length=n->(l.foldl (Cv ti nH) st).1.length=n
 | [],_,_,h=>h
 | p::l,st,hp,h=>Gp l _ (fun q hq=>hp q (List.mem_cons_of_mem _ hq)) (RS h (hp p (List.mem_cons_self ..)))
theorem EZ {ls:List bQ} {e0 e1:Int} {p:List Int × Int} (h:p∈lI ls e0 e1):p.1.length=ls.length:=by
 obtain ⟨xs,h1,h2⟩:=List.mem_flatMap.1 h;obtain ⟨e,_,rfl⟩:=List.mem_map.1 h2;exact qG h1
theorem IX (ad:Addr) (c n:Nat) (hn:1<=n∧n<=4) (s:bQ) (w:World) (h0:w.cell? ad=some (.int .i64 s.f0)) (h1:w.cell? (ad.add 1)=some (.int .i64 s.f1)) :
  Calls Tryz.prog 189 #[.slice (some ad) 1 c,.int .i64 n] w fun e w'=>∃ g,e=.returned (.slice (some ⟨g,0,none⟩) n n)∧w.heap.size<=g∧w'.heap[g]?=some (.cells (flat (List.replicate n s)).toArray 37 (0,0))∧Below w.heap.size w w':=by
 obtain rfl|rfl|rfl|rfl:n=1∨n=2∨n=3∨n=4:=by omega
 ·exact X7 ad c s.f0 s.f1 w h0 h1
 ·exact X8 ad c s.f0 s.f1 w h0 h1
 ·exact X9 ad c s.f0 s.f1 w h0 h1
 ·exact Ya ad c s.f0 s.f1 w h0 h1
theorem qfa (a b:List Int) (hl:a.length=b.length) (h9:a.length<=1000000):∀ (m k i:Nat),i+m=a.length->m<k->cZ.l0 k a b (a.length:Int) (i:Int)=some (decide (a.drop i=b.drop i)):=by
 intro m
 induction m with
 | zero =>
  intro k i him hk;obtain ⟨k,rfl⟩:∃ m,k=m+1:=⟨k - 1,by omega⟩;simp only [cZ.l0];rw [if_neg (by omega),List.drop_eq_nil_of_le (by omega),List.drop_eq_nil_of_le (by omega)];simp
 | succ m ih =>
  intro k i him hk;obtain ⟨k,rfl⟩:∃ m,k=m+1:=⟨k - 1,by omega⟩
  have hi:i<a.length:=by omega
  have hj:i<b.length:=by omega
  simp only [cZ.l0]
  have hw:wrap64 ((i:Int)+1)=((i+1:Nat):Int):=by rw [Br (by omega) (by omega)];omega
  simp only [sZ hi,sZ hj];rw [if_pos (by omega),show a.drop i=a[i]::a.drop (i+1) from List.drop_eq_getElem_cons hi,show b.drop i=b[i]::b.drop (i+1) from List.drop_eq_getElem_cons hj];simp only [show (0:Int)<=i by omega,show (i:Int)<a.length by omega,show (i:Int)<b.length by omega,if_true,hw,ih k (i+1) (by omega) (by omega)]
  by_cases h:a[i]=b[i]
  ·rw [if_pos h]
   congr 1
   simp only [List.cons.injEq,h,true_and]
  ·rw [if_neg h,decide_eq_false (fun e=>h (by injection e))]
theorem qkn (a b:List Int) (h9:a.length<=900):cZ.f 1000 a b=some (decide (a=b)):=by
 unfold cZ.f
 by_cases hl:a.length=b.length
 ·rw [if_pos (by omega)]
  have:=qfa a b hl (by omega) a.length 1000 0 (by omega) (by omega)
  simpa using this
 ·rw [if_neg (by omega),decide_eq_false (fun h=>hl (by rw [h]))]
end Go.Proofs.YtnpfbjnjdngkhaaGreatDoor.P
namespace Go.Proofs.YtnpfbjnjdngkhaaGreatDoor.P
open Go.RowKit Go.Proofs.YtnpfbjnjdngkhaaGreatDoorW.aQ Go.Proofs.YtnpfbjnjdngkhaaGreatDoorW.bO Go.Proofs.YtnpfbjnjdngkhaaGreatDoorW.bT
attribute [local go_sem] eP eT fU fV dS dU eU eX
attribute [local go_sem] Oper.semAt_some
theorem RU {W:World} {g:Nat} {l:List bQ} {t:TypeId} (h:W.heap[g]?=some (.cells (flat l).toArray t (0,0))) (i:Nat) (hi:i<l.length):W.cell? ⟨g,i*2,none⟩=some (.int .i64 l[i].f0)∧W.cell? ⟨g,i*2+1,none⟩=some (.int .i64 l[i].f1):=by
 have h0:=Gl l i hi;have h1:=Gm l i hi;exact ⟨(aM h _).trans (by simpa [Nat.mul_comm] using h0),(aM h _).trans (by simpa [Nat.mul_comm] using h1)⟩
theorem Ve {P:Program} {ops:Array Oper} {rest:List Oper} {o:Oper} {a:Act} {Q:Exit->Act->World->Prop} {W:World} {lp nF:Nat} {t:TypeId} {p:Tmp} {v:Operand} (_:o.op=.store t (.tmp p) v) (h:wpListIn (Fence.wide.inRound lp) nF P ops Q (o::rest) a W):wpListIn (Fence.wide.inRound lp) nF P ops Q (o::rest) a W:=h
theorem IY {P:Program} (t:TypeId) (v:Value) (w:World):(Instr.panic (.iface t v)).run P w=.halt (.panic (.iface t v)) w:=rfl
theorem Cw {P:Program} {c:Code} {Q:Exit->Act->World->Prop} {a:Act} {w:World} (h:c.wp P (fun e a w=>e=.normal∧Q .normal a w) a w):c.wp P Q a w:=Code.wp_mono (fun e a w h=>by obtain ⟨rfl,h⟩:=h;exact h) h
def Gq (e0 e1 ti:Int) (ls:List bQ) (nH:List Int) (A1:Option Addr) (c1:Nat) (w:World) (e:Ending) (w':World):Prop :=
 Below w.heap.size w w'∧(if (jO ti e0 e1 ls nH).2.f0>(jO ti e0 e1 ls nH).2.f1 then e=.panicked [{ v:=.iface 181 (.agg #[.slice A1 nH.length c1]),recovered:=false,goexit:=false }]
  else ∃ g,e=.returned (.tuple #[.slice (some ⟨g,0,none⟩) ls.length ls.length,.agg #[.int .i64 (jO ti e0 e1 ls nH).2.f0,.int .i64 (jO ti e0 e1 ls nH).2.f1]])∧w.heap.size<=g∧w'.heap[g]?=some (.cells (flat (jO ti e0 e1 ls nH).1).toArray 37 (0,0)))
theorem IZ (bq:Int) (aU:Int) (dN:Int) (jh:Option Addr) (jv:Nat) (cu:List bQ) (A1:Option Addr) (c1:Nat) (l1:List Int) (w:World) (o9:Kd.C jW w jh cu.length cu) (xw:cu.length<=jv) (hr1:Kd.C (Kd.int .i64) w A1 l1.length l1) (hc1:l1.length<=c1) (hs:U8 bq aU dN cu) (hl1:l1.length=cu.length) :
  Calls Tryz.prog 145 #[.agg #[.int .i64 bq,.int .i64 aU,.int .i64 dN,.slice jh cu.length jv],.slice A1 l1.length c1] w (Gq bq aU dN cu l1 A1 c1 w):=by
 have HX:=Bx.nil w;have HR:=aj.mk o9;have HR1:=aj.mk hr1;have OK:=aj.mk hs;have HL1:=aj.mk hl1;have hm0:cu.length<=9223372036854775807:=o9.2.1;clear o9 hr1 hs hl1;have ME:=Tryz.underlying67;have jY:=Tryz.underlying37;have qnI:=Tryz.underlying196;refine (callsIn_wide (n:=3)).1 ?_;refine callsIn_of_wp_marks Tryz.func145 rfl trivial ?_ rfl;refine wpIn_wide.2 ?_;simp only [Tryz.ntmps145,List.size_toArray,List.length_cons,List.length_nil,Nat.reduceAdd,Nat.reduceSub,Array.replicate_succ,Array.replicate_zero,List.push_toArray,List.append_toArray,List.nil_append,List.cons_append]
 go_wp2_with (first|((with_reducible refine au (N:=2) rfl ?_);refine newX rfl rfl HX (cs:=#[.int .i64 bq,.int .i64 aU,.int .i64 dN,.slice jh cu.length jv]) (t:=67) tG ?_;clear HX;intro g2 w2 HX hx hz;clear hx hz)|((with_reducible refine au (N:=3) rfl ?_);refine newX rfl rfl HX (cs:=#[.slice A1 l1.length c1]) (t:=47) tG ?_;clear HX;intro g3 w3 HX hx hz;clear hx hz)|((with_reducible refine au (N:=5) rfl ?_);refine newX rfl rfl HX (cs:=#[.int .i64 0,.int .i64 0]) (t:=37) tG ?_;clear HX;intro g5 w5 HX hx hz;clear hx hz;obtain ⟨cs1,cs2,uG,uS⟩:=HX.g4 2 rfl)|((with_reducible refine au (N:=12) rfl ?_);refine wE rfl rfl HX (ob:=.cells #[.int .i64 1,.int .i64 0] 37 (0,0)) (fun g=>.slice (some ⟨g,0,none⟩) 1 1) tG ?_;clear HX cs1 cs2 uG uS;intro gb yO HX hx hz;clear hx hz;obtain ⟨cs1,cs2,uG,uS⟩:=HX.g4 3 rfl)|(go_at_call 189;refine (IX ⟨gb,0,none⟩ 1 cu.length OK.out.len ⟨1,0⟩ _ (HX.g2 0 rfl).1 (HX.g2 0 rfl).2).mono ?_;rintro e w13 ⟨gL,rfl,hz,jX,hx⟩;replace HX:=HX.add hz hx jX;clear hx hz jX cs1 cs2 uG uS;obtain ⟨cs1,cs2,uG,uS⟩:=HX.g4 4 rfl)|((with_reducible refine au (N:=6) rfl ?_);refine newX rfl rfl HX (cs:=#[.slice none 0 0]) (t:=28) tG ?_;clear HX;intro g6 w6 HX hx hz;clear hx hz)|((with_reducible refine aY (t:=28) (p:=6) rfl ?_);refine jZ rfl rfl rfl HX 0 rfl (i:=0) (.slice (some ⟨gL,0,none⟩) cu.length cu.length) [.slice (some ⟨gL,0,none⟩) cu.length cu.length] #[.slice (some ⟨gL,0,none⟩) cu.length cu.length] rfl rfl rfl tX (by simp) (by simp [Value.oneCell']) rfl ?_;clear HX;intro w9 HX hx;clear hx;dsimp only [List.set] at HX)|((with_reducible refine au (N:=7) rfl ?_);refine newX rfl rfl HX (cs:=#[.int .i64 0,.int .i64 0]) (t:=37) tG ?_;clear HX;intro g7 w7 HX hx hz;clear hx hz;clear cs1 cs2 uG uS)|((with_reducible refine aY (t:=37) (p:=7) rfl ?_);refine jZ rfl rfl rfl HX 0 rfl (i:=0) (.agg #[.int .i64 1,.int .i64 0]) [.int .i64 1,.int .i64 0] #[.int .i64 1,.int .i64 0] rfl rfl rfl tX (by simp) (by simp [Value.oneCell']) rfl ?_;clear HX;intro w9 HX hx;clear hx;dsimp only [List.set] at HX;obtain ⟨cs1,cs2,uG,uS⟩:=HX.g4 6 rfl)|(go_at_call 153;refine (Az bq aU dN jh jv cu _).mono ?_;rintro e wl ⟨gs,rfl,hgs,jX,hx⟩;have GSN:=aj.mk (show g7≠gs∧gL≠gs from ⟨fun e=>by have:=bZ (HX.gb 0 rfl);omega,fun e=>by have:=bZ (HX.gb 2 rfl);omega⟩);have HGS:=aj.mk jX;replace HX:=HX.step hx;clear hx hgs jX cs1 cs2 uG uS))
 obtain ⟨Wr,Yn⟩:∃ Wr:Nat->Prop,Wr=fun k=>k=gL∨k=g7:=⟨_,rfl⟩
 have HWR:=aj.mk Yn;have Qw:aj (gL<wl.heap.size∧g7<wl.heap.size):=⟨⟨bZ (HX.gb 2 rfl),bZ (HX.gb 0 rfl)⟩⟩;have HNE:=aj.mk (show gL≠g7 from HX.key (i:=2) (j:=0) rfl rfl (by decide))
 have Lv:=aj.mk (show ¬ Wr g2∧¬ Wr g3∧¬ Wr g5∧¬ Wr g6∧¬ Wr gs from by
  rw [Yn]
  exact ⟨fun h=>h.elim (HX.key (i:=6) (j:=2) rfl rfl (by decide)) (HX.key (i:=6) (j:=0) rfl rfl (by decide)),fun h=>h.elim (HX.key (i:=5) (j:=2) rfl rfl (by decide)) (HX.key (i:=5) (j:=0) rfl rfl (by decide)),fun h=>h.elim (HX.key (i:=4) (j:=2) rfl rfl (by decide)) (HX.key (i:=4) (j:=0) rfl rfl (by decide)),fun h=>h.elim (HX.key (i:=1) (j:=2) rfl rfl (by decide)) (HX.key (i:=1) (j:=0) rfl rfl (by decide)),fun h=>h.elim (fun e=>GSN.out.2 e.symm) (fun e=>GSN.out.1 e.symm)⟩)
 have Lu:aj (w.heap.size<=gL∧w.heap.size<=g7):=⟨⟨HX.lo _ (List.mem_of_getElem? (i:=2) rfl),HX.lo _ (List.mem_of_getElem? (i:=0) rfl)⟩⟩
 have HAD:∀ ad,jh=some ad->¬ Wr ad.block:=fun ad e h=>by
  obtain ⟨ad2,e2,q,_⟩:=nI HR.out 0 (by omega) (by have:=OK.out.len;omega);rw [e] at e2
  cases e2
  have hq:=World.block_lt_of_cell? w _ q;rw [add_block] at hq;have h8:=Lu.out.1;have h9:=Lu.out.2;rw [Yn] at h
  rcases h with h|h<;>omega
 clear Yn
 obtain ⟨stP,qbY⟩:∃ stP:List tL->List bQ × bQ,stP=fun pre=>(pre.map tL.val).foldl (Cv dN l1) (DL cu.length):=⟨_,rfl⟩
 have Yt:=aj.mk qbY;have Z0:=aj.mk (show ∀ pre x,stP (pre++[x])=Cv dN l1 (stP pre) x.val by intro pre x;rw [qbY];simp);clear qbY;refine (wpIn_wide (n:=3)).1 ?_
 refine U7 (gf:=199) (lb:=#[.pointer (some ⟨gs,0,none⟩)]) rfl (enters_of Tryz.func199 tX rfl) (EY gs bq aU dN jh jv cu Wr wl (by have:=OK.out.len;omega) (fun s hs=>by have:=OK.out.look s hs;omega) (by have:=OK.out.eye;omega) HGS.out (Kd.ak HR.out HX.below) Lv.out.2.2.2.2 HAD (fun k hk=>by rw [HWR.out] at hk;rcases hk with rfl|rfl;exact Qw.out.1;exact Qw.out.2)) wX.trans (fun W o o' ho hc=>wX.put ho hc (by omega)) (Below.refl _ _) (fun _=>rfl)
  (fun (pre:List tL) W=>W.heap[gL]?=some (.cells (flat (stP pre).1).toArray 37 (0,0))∧W.heap[g7]?=some (.cells #[.int .i64 (stP pre).2.f0,.int .i64 (stP pre).2.f1] 37 (0,0))∧mH Wr wl W∧Below w.heap.size w W∧(stP pre).1.length=cu.length)
  (fun pre A B row hi hg hr=>⟨(hg.block _ (bZ hi.1) (fun e=>by have:=(hr _ e.symm).1;have:=Qw.out.1;omega)).trans hi.1,(hg.block _ (bZ hi.2.1) (fun e=>by have:=(hr _ e.symm).1;have:=Qw.out.2;omega)).trans hi.2.1,hi.2.2.1.trans ((mH.own hg fun r e=>(hr r e).2).weak Wr),kH hi.2.2.2.1 row hi.2.2.2.1.size hg (fun k e=>by have:=(hr k e).1;have:=HX.below.size;omega),hi.2.2.2.2⟩)
  ⟨by rw [Yt.out];exact HX.gb 2 rfl,by rw [Yt.out];exact HX.gb 0 rfl,mH.refl _ _,HX.below,by rw [Yt.out];simp [DL]⟩
  (fun x a' W=>∃ g8,a'={ tmps:=#[.agg #[.int .i64 bq,.int .i64 aU,.int .i64 dN,.slice jh cu.length jv],.slice A1 l1.length c1,.pointer (some ⟨g2,0,none⟩),.pointer (some ⟨g3,0,none⟩),.slice none 0 0,.pointer (some ⟨g5,0,none⟩),.pointer (some ⟨g6,0,none⟩),.pointer (some ⟨g7,0,none⟩),.pointer (some ⟨g8,0,none⟩),undef,undef,.agg #[.int .i64 1,.int .i64 0],.slice (some ⟨gb,0,none⟩) 1 1,.pointer (some ⟨g2,3,none⟩),.slice jh cu.length jv,.int .i64 cu.length,.slice (some ⟨gL,0,none⟩) cu.length cu.length,.agg #[.int .i64 1,.int .i64 0],.agg #[.int .i64 bq,.int .i64 aU,.int .i64 dN,.slice jh cu.length jv],.func (.func 199) #[] #[.pointer (some ⟨gs,0,none⟩)],.agg #[.slice x.A x.xs.length x.c,.int .i64 x.eye],undef,undef,undef,undef,undef,undef,undef,undef,undef,undef,undef,undef,undef,undef,undef,undef,undef,undef,undef,undef,undef,undef,undef,undef,undef,undef,undef,undef,undef,undef,undef,undef,undef,undef,undef,undef,undef,undef,undef,undef,undef,undef],defers:=[] }∧W.heap[g8]?=some (.cells #[.slice x.A x.xs.length x.c,.int .i64 x.eye] 196 (0,0))∧wl.heap.size<=g8∧x.Rd W∧x.val∈lI cu bq aU∧∀ ad,x.A=some ad->¬ Wr ad.block)
  (fun x a' _ A B row hi hg hr=>by
   obtain ⟨g8,e,h1,h2,h3,h4⟩:=hi
   have hk:=mH.own hg fun r e=>(hr r e).2
   exact ⟨g8,e,hk.2 _ _ h1 rfl (fun h=>h),h2,⟨hk.row vC h3.1 (fun _ _ _ h=>h),h3.2⟩,h4⟩) ?assign ?body ?done
 case assign =>
  rintro lp pre x W K ⟨i1,i2,i3,i4,i5⟩ ⟨hrd,hxv⟩ hK;have HI1:=aj.mk (And.intro i1 (And.intro i2 (And.intro i3 (And.intro i4 i5))));have xu:=aj.mk (And.intro hrd hxv);clear i1 i2 i3 i4 i5 hrd hxv
  unfold tL.enc
  gi_wp2_with (fail)
  have hb:=fH (Below.refl W.heap.size W) (.cells #[.slice x.A x.xs.length x.c,.int .i64 x.eye] 196 (0,0));refine hK _ _ ⟨hb.size,fun k o _ hk _=>(hb.block k (bZ hk)).trans hk⟩ (wX.below hb) ⟨aD HI1.out.1 hb,aD HI1.out.2.1 hb,HI1.out.2.2.1.trans (mH.below hb),aV HI1.out.2.2.2.1 hb,HI1.out.2.2.2.2⟩ ⟨W.heap.size,rfl,uj W _,HI1.out.2.2.1.1,⟨Kd.ak xu.out.1.1 hb,xu.out.1.2⟩,xu.out.2⟩
 case body =>
  rintro lp pre x a' W ⟨i1,i2,i3,i4,i5⟩ ⟨g8,rfl,hc,hg8,hrd,hxv,hxw⟩ hpre;obtain ⟨s1,hs1⟩:∃ s,s=(stP pre).1:=⟨_,rfl⟩;obtain ⟨s2,hs2⟩:∃ s,s=(stP pre).2:=⟨_,rfl⟩;have HST:=aj.mk (show stP pre=(s1,s2) by rw [hs1,hs2]);rw [← hs1] at i1 i5;rw [← hs2] at i2;have HI1:=aj.mk i1;have HI2:=aj.mk i2;have HK:=aj.mk i3;have rE:=aj.mk i4;have HSL:=aj.mk i5;have xu:=aj.mk hrd;have HXV:=aj.mk (And.intro hxv hxw);have H8:=aj.mk hc;have HG8:=aj.mk hg8;have Sd:=aj.mk (show x.xs.length=cu.length from EZ hxv);clear i1 i2 i3 i4 i5 hc hg8 hrd hxv hxw hpre hs1 hs2;obtain ⟨ls,hls⟩:∃ ls,ls=NJ dN x.val:=⟨_,rfl⟩;have HLF:=aj.mk (show lG.f dN x.xs x.eye=some ls by unfold lG.f;rw [if_pos (by have:=OK.out.len;have:=Sd.out;omega),hls];rfl);have HEQ:=aj.mk (qkn ls l1 (by rw [hls];unfold NJ;rw [yJ];have:=OK.out.len;have:=Sd.out;simp [tL.val];omega));have Qs:=aj.mk hls;clear hls;obtain ⟨cs1,cs2,uG,uS⟩:=Bl (HK.out.box ⟨HX.gb 6 rfl⟩ Lv.out.1).out;obtain ⟨ZX,ZY⟩:=qM H8.out;have c3:=fG (HK.out.box ⟨HX.gb 5 rfl⟩ Lv.out.2.1).out;have HH0:=aj.mk (And.intro uG (And.intro ZX (And.intro ZY c3)))
  gi_wp2
  refine EF (some lp) (fun ⟨_,_,h⟩=>by have h2:Exit.outgrown=Exit.normal∧_:=h;cases h2.1) (by rfl) (S:=fun w'=>w'.cell? ⟨g2,2,none⟩=some (.int .i64 dN)∧w'.cell? ⟨g8,0,none⟩=some (.slice x.A x.xs.length x.c)∧w'.cell? ⟨g8,1,none⟩=some (.int .i64 x.eye)∧w'.cell? ⟨g3,0,none⟩=some (.slice A1 l1.length c1)) (ds:=[]) (bA 10 0) tX rfl rfl HH0.out (fun hHeld=>?_);have HB:=aj.mk (fC (Below.refl W.heap.size W));clear cs1 cs2 uG uS ZX ZY c3
  generalize W.drew=w6 at HB hHeld ⊢
  refine qB1 0 21 (bA 10 1) ?_;refine qB1 2 23 (bA 10 5) ?_;refine qB1 4 25 (bA 10 21) ?_;refine qzF 1 22 (bA 10 23) hHeld ?_;refine qzF 3 24 (bA 10 31) hHeld ?_;refine qzF 5 26 (bA 10 63) hHeld ?_;refine qzF 7 28 (bA 10 191) hHeld ?_;refine gZ (i:=6) (N:=some 27) (bA 10 255) rfl rfl tX (by decide) (fun K hK=>?_);refine gK Tryz.func141 tX rfl #[.int .i64 dN,.slice x.A x.xs.length x.c,.int .i64 x.eye] (by rfl) rfl rfl (by (try simp only [List.map_toArray,List.map_cons,List.map_nil]);first|done|rfl) ?_;refine (lG.calls dN x.A x.c x.xs x.eye ls _ (Kd.ak xu.out.1 HB.out) xu.out.2 HLF.out).mono ?_;rintro e w7 ⟨v,rfl,ho,hx⟩;refine ⟨_,rfl,?_⟩;obtain ⟨Av,cv,rfl,hlv,hCv⟩:=Kd.fE ho;have Zm:=eH HB hx;have lJ:=HH0.out;refine hK.out _ _ ⟨(Zm.out.cell (World.block_lt_of_cell? W _ lJ.1)).trans lJ.1,(Zm.out.cell (World.block_lt_of_cell? W _ lJ.2.1)).trans lJ.2.1,(Zm.out.cell (World.block_lt_of_cell? W _ lJ.2.2.1)).trans lJ.2.2.1,(Zm.out.cell (World.block_lt_of_cell? W _ lJ.2.2.2)).trans lJ.2.2.2⟩ (fun hHeld=>?_);clear hK K lJ ho hx;refine dn (a':=?_) ?_ ?_;rotate_left
  ·show Act.put _ (some 27) _=_
   simp only [bS,Act.put,sL,ay,aA]
   rfl
  refine gZ (i:=8) (N:=some 29) (bA 10 511) rfl rfl tX (by decide) (fun K hK=>?_);refine gK Tryz.func190 tX rfl #[.slice Av ls.length cv,.slice A1 l1.length c1] (by rfl) rfl rfl (by (try simp only [List.map_toArray,List.map_cons,List.map_nil]);first|done|rfl) ?_;refine (oZ (cZ.calls 1000 Av cv ls A1 c1 l1 _ _ hCv hlv (Kd.ak HR1.out (aV rE.out Zm.out)) hc1 HEQ.out)).mono ?_;rintro e w8 ⟨rfl,hx⟩;refine ⟨_,rfl,?_⟩;have RV:=eH Zm hx;have lJ:=HH0.out;refine hK.out _ _ ⟨(RV.out.cell (World.block_lt_of_cell? W _ lJ.1)).trans lJ.1,(RV.out.cell (World.block_lt_of_cell? W _ lJ.2.1)).trans lJ.2.1,(RV.out.cell (World.block_lt_of_cell? W _ lJ.2.2.1)).trans lJ.2.2.1,(RV.out.cell (World.block_lt_of_cell? W _ lJ.2.2.2)).trans lJ.2.2.2⟩ (fun hHeld=>?_);clear hK K lJ hx hHeld;refine dn (a':=?_) ?_ ?_;rotate_left
  ·show Act.put _ (some 29) _=_
   simp only [bS,Act.put,sL,ay,aA]
   rfl
  refine qB1 9 30 (bA 10 1023) ?_;refine lK tX ?_
  by_cases hq:ls=l1
  ·rw [decide_eq_true hq]
   have HQ:=aj.mk (show stP (pre++[x])=(List.zipWith jM s1 x.xs,jM s2 x.eye) by rw [Z0.out,HST.out,Cv,if_pos (by rw [← Qs.out];exact hq)];rfl);clear hq hHeld;obtain ⟨ZX,ZY⟩:=qM (aD H8.out RV.out);have I4:aj (wX Wr wl.heap.size W w8):=⟨wX.below RV.out⟩;have oO:=aj.mk (show w8.heap[gL]?=some (.cells (flat (wF s1 x.xs 0)).toArray 37 (0,0)) by rw [show wF s1 x.xs 0=s1 by simp [wF]];exact aD HI1.out RV.out);have H70:=aj.mk (aD HI2.out RV.out);have HB0:=aj.mk (aV rE.out RV.out);have hxm:x.xs.length<=9223372036854775807:=xu.out.1.2.1
   gi_wp2
   clear ZX ZY
   gi_loopw [34] (fun v34 W'=>∃ j:Nat,v34=.int .i64 j∧j<=x.xs.length∧aj (wX Wr wl.heap.size W W')∧aj (W'.heap[gL]?=some (.cells (flat (wF s1 x.xs j)).toArray 37 (0,0)))∧aj (W'.heap[g7]?=some (.cells #[.int .i64 s2.f0,.int .i64 s2.f1] 37 (0,0)))∧aj (Below w.heap.size w W')) (fun v34 _=>x.xs.length - (intOf v34).toNat)
   case atStart=>exact ⟨0,rfl,by omega,I4,oO,H70,HB0⟩
   case round =>
    clear I4 oO H70 HB0;obtain ⟨j,rfl,hj,I4,oO,H70,HB0⟩:=hrel
    have hjm:j<9223372036854775807∨j=9223372036854775807:=by omega
    have HX6:=I4.out.1.box (HK.out.box ⟨HX.gb 1 rfl⟩ Lv.out.2.2.2.1) Lv.out.2.2.2.1;have HX8:aj (wr.heap[g8]?=_):=⟨I4.out.2 g8 _ HG8.out H8.out⟩;have HY:Bx [(gL,.cells (flat (wF s1 x.xs j)).toArray 37 (0,0)),(g7,.cells #[.int .i64 s2.f0,.int .i64 s2.f1] 37 (0,0))] w wr:=⟨HB0.out,by intro p hp;rcases List.mem_cons.1 hp with rfl|hp;exact oO.out;rw [List.mem_singleton.1 hp];exact H70.out,by intro p hp;rcases List.mem_cons.1 hp with rfl|hp;exact Lu.out.1;rw [List.mem_singleton.1 hp];exact Lu.out.2,by simp [HNE.out]⟩
    by_cases hlt:j<x.xs.length
    ·obtain ⟨ad,he,d1⟩:=Kd.iE (mH.row I4.out.1 vC xu.out.1 (fun ad h _=>HXV.out.2 ad h)) j (by omega) (by omega)
     have hd:wr.cell? (ad.add j)=some (.int .i64 x.xs[j]):=by rw [Int.toNat_natCast] at d1;rw [d1,sZ hlt]
     clear d1;rw [he]
     gi_wp2
     have hn:j<s1.length:=by have:=HSL.out;have:=Sd.out;omega
     have hn2:j<cu.length:=by have:=Sd.out;omega
     have hu:(wF s1 x.xs j).length=s1.length:=Ld (by rw [Sd.out,HSL.out]) j (by omega);have e0:=RU oO.out j (by omega);rw [Va (by rw [Sd.out,HSL.out]) j hn] at e0;have c6:=fG HX6.out;have CK:=aj.mk (And.intro c6 (And.intro e0.1 e0.2));clear hd;refine EF (some lp) (fun ⟨_,_,h⟩=>by have h2:Exit.outgrown=Exit.normal∧_:=h;cases h2.1) (by rfl) (S:=fun w'=>w'.cell? ⟨g6,0,none⟩=some (.slice (some ⟨gL,0,none⟩) cu.length cu.length)∧w'.cell? ⟨gL,j*2,none⟩=some (.int .i64 s1[j].f0)∧w'.cell? ⟨gL,j*2+1,none⟩=some (.int .i64 s1[j].f1)) (ds:=[9]) (bA 10 0) tX rfl rfl CK.out (fun hHeld=>?_);have HBD:=aj.mk (fC (Below.refl wr.heap.size wr));clear c6 e0
     generalize wr.drew=wd at HBD hHeld ⊢
     refine qB1 1 40 (bA 10 2) ?_;refine qB1 3 42 (bA 10 10) ?_;refine qB1 6 45 (bA 10 74) ?_;refine qzF 0 39 (bA 10 75) hHeld ?_;refine qzF 2 41 (bA 10 79) hHeld ?_;refine qB1 4 43 (bA 10 95) ?_;refine qzF 5 44 (bA 10 127) hHeld ?_;refine gZ (i:=7) (N:=some 46) (bA 10 255) rfl rfl tX (by decide) (fun K hK=>?_);refine gK Tryz.func191 tX rfl #[.agg #[.int .i64 s1[j].f0,.int .i64 s1[j].f1],.int .i64 x.xs[j]] (by rfl) rfl rfl (by (try simp only [List.map_toArray,List.map_cons,List.map_nil]);first|done|rfl) ?_;refine (sJ.calls _ _ _ _ _ _ (Qy s1[j] x.xs[j])).mono ?_;rintro e Lr ⟨rfl,hx⟩;refine ⟨_,rfl,?_⟩;have HBE:=eH HBD hx;have zk:=CK.out;refine hK.out _ _ ⟨(HBE.out.cell (World.block_lt_of_cell? wr _ zk.1)).trans zk.1,(HBE.out.cell (World.block_lt_of_cell? wr _ zk.2.1)).trans zk.2.1,(HBE.out.cell (World.block_lt_of_cell? wr _ zk.2.2)).trans zk.2.2⟩ (fun hHeld=>?_);clear hK K hx;refine dn (a':=?_) ?_ ?_;rotate_left
     ·show Act.put _ (some 46) _=_
      simp only [bS,Act.put,sL,ay,aA]
      rfl
     refine qB1 8 47 (bA 10 511) ?_;have HYd:Bx _ w Lr:=HY.step HBE.out;refine Sw (i:=9) (N:=none) (bA 10 1023) rfl rfl tX (by decide) (fun K hK=>?_);refine RP (by rfl) rfl (t:=37) (p:=47) (v:=.tmp 46) rfl HYd 0 rfl (i:=j*2) (.agg #[.int .i64 (jM s1[j] x.xs[j]).f0,.int .i64 (jM s1[j] x.xs[j]).f1]) [.int .i64 (jM s1[j] x.xs[j]).f0,.int .i64 (jM s1[j] x.xs[j]).f1] (flat (wF s1 x.xs (j+1))).toArray rfl rfl rfl tX (by have:=vM (wF s1 x.xs j);simp only [List.size_toArray,List.length_cons,List.length_nil];omega) (by simp [Value.oneCell']) ?_ ?_
     ·have hs:=Lc (wF s1 x.xs j) j (jM s1[j] x.xs[j]) (by omega)
      rw [show j*2=2*j by omega];refine hs.trans ?_;have h2:=Vb (st:=s1) (xs:=x.xs) (by rw [Sd.out,HSL.out]) j hn;rw [h2]
     intro W1 jJ hg1
     dsimp only [List.set] at jJ
     have HG1:=aj.mk hg1;clear hg1;refine hK.out _ _ (lK tX ?_);clear hK K hHeld zk
     gi_wp2
     go_roundw
     case rel=>exact ⟨j+1,by go_num,by omega,⟨(I4.out.trans (wX.below HBE.out)).trans (wX.grown HG1.out (by rw [HWR.out];exact .inl rfl) Qw.out.1)⟩,⟨jJ.gb 0 rfl⟩,⟨jJ.gb 1 rfl⟩,⟨jJ.below⟩⟩
     case measure=>simp [intOf];omega
    ·obtain ⟨ZX,ZY⟩:=qM HX8.out
     obtain ⟨cu1,cu2⟩:=HY.g2 1 rfl
     gi_wp2
     refine ⟨trivial,?_⟩;refine (CallsIn.inRound lp (callsIn_wide.2 (sJ.calls _ _ _ _ _ _ (Qy s2 x.eye)))).mono ?_;rintro e Jc ⟨rfl,hx⟩;have HYe:=HY.step hx;have qkp:=aj.mk (I4.out.trans (wX.below hx));clear hx ZX ZY cu1 cu2 HY oO H70 I4 HB0
     gi_wp2_with ((with_reducible refine Ve (t:=37) (p:=7) rfl ?_);refine qki rfl rfl rfl rfl HYe 1 rfl (i:=0) (.agg #[.int .i64 (jM s2 x.eye).f0,.int .i64 (jM s2 x.eye).f1]) [.int .i64 (jM s2 x.eye).f0,.int .i64 (jM s2 x.eye).f1] #[.int .i64 (jM s2 x.eye).f0,.int .i64 (jM s2 x.eye).f1] rfl rfl rfl tX (by simp) (by simp [Value.oneCell']) rfl ?_;clear HYe;intro yO HYf hgx;have HG2:=aj.mk hgx;clear hgx;dsimp only [List.set] at HYf)
     have hkb:wX Wr wl.heap.size W _:=qkp.out.trans (wX.grown HG2.out (by rw [HWR.out];exact .inr rfl) Qw.out.2)
     obtain rfl:j=x.xs.length:=by omega
     have hz:wF s1 x.xs x.xs.length=List.zipWith jM s1 x.xs:=by rw [show x.xs.length=s1.length by rw [Sd.out,HSL.out]];exact Vd (by rw [Sd.out,HSL.out])
     rw [HQ.out];exact ⟨hkb.from (Nat.le_refl _),⟨hkb.1,fun k o hk ho=>hkb.2 k o (by omega) ho⟩,by rw [← hz];exact HYf.gb 0 rfl,HYf.gb 1 rfl,HK.out.trans hkb.1,HYf.below,by simp [Sd.out,HSL.out]⟩
  ·rw [decide_eq_false hq]
   have HQ:=aj.mk (show stP (pre++[x])=(s1,s2) by rw [Z0.out,HST.out,Cv,if_neg (by rw [← Qs.out];exact hq)]);clear hq
   gi_wp2
   rw [HQ.out];have hkb:wX Wr wl.heap.size W w8:=wX.below RV.out;exact ⟨hkb.from (Nat.le_refl _),⟨hkb.1,fun k o hk ho=>hkb.2 k o (by omega) ho⟩,aD HI1.out RV.out,aD HI2.out RV.out,HK.out.trans hkb.1,aV rE.out RV.out,HSL.out⟩
 case done =>
  rintro xs W hxs ⟨i1,i2,i3,i4,i5⟩ hD;obtain ⟨p1,hp1⟩:∃ s,s=(jO dN bq aU cu l1).1:=⟨_,rfl⟩;obtain ⟨p2,hp2⟩:∃ s,s=(jO dN bq aU cu l1).2:=⟨_,rfl⟩
  have hP:stP xs=jO dN bq aU cu l1:=by rw [Yt.out];unfold jO;rw [← hxs]
  rw [hP] at i1 i2 i5;rw [← hp1] at i1 i5;rw [← hp2] at i2;have HP:=aj.mk (And.intro hp1 hp2);have HB:=aj.mk i4;have HD:=aj.mk hD;have H7:=aj.mk i2;have HG:=aj.mk i1;have c6:=fG (i3.box ⟨HX.gb 1 rfl⟩ Lv.out.2.2.2.1).out;have c3:=fG (i3.box ⟨HX.gb 5 rfl⟩ Lv.out.2.1).out;have H5:=i3.box ⟨HX.gb 4 rfl⟩ Lv.out.2.2.1;have HK:=aj.mk i3;obtain ⟨c71,c72⟩:=qM i2;clear i1 i2 i3 i4 i5 hD hxs hP hp1 hp2
  by_cases hgt:p2.f0>p2.f1
  ·have hgi:p2.f1<p2.f0:=hgt
   go_wp2
   rw [IY];refine ⟨by simp,.inl ⟨_,_,rfl,run_takeDeferred HD.out,?_⟩⟩;refine ⟨(stepG ⟨HB.out⟩ (grownBy_putObj' W wl.heap.size (.deferred none)) ⟨HX.below.size⟩).out,?_⟩;rw [← HP.out.2,if_pos hgt]
  ·have hgi:¬ p2.f1<p2.f0:=hgt
   go_wp2
   have HH2:=aj.mk (And.intro c6 (And.intro c71 c72));refine Cw ?_;refine kK (n:=4) (S:=fun w'=>w'.cell? ⟨g6,0,none⟩=some (.slice (some ⟨gL,0,none⟩) cu.length cu.length)∧w'.cell? ⟨g7,0,none⟩=some (.int .i64 p2.f0)∧w'.cell? ⟨g7,1,none⟩=some (.int .i64 p2.f1)) (ds:=[3]) #[false,false,false,false] tX rfl rfl HH2.out (fun hHeld=>?_);have HY:Bx [(g5,.cells #[.int .i64 0,.int .i64 0] 37 (0,0))] w W.drew:=⟨aV HB.out (fC (Below.refl W.heap.size W)),by intro p hp;rw [List.mem_singleton.1 hp];exact H5.out,by intro p hp;rw [List.mem_singleton.1 hp];exact HX.lo _ (List.mem_of_getElem? (i:=4) rfl),by simp⟩;have HGd:=aj.mk (show W.drew.heap[gL]?=some (.cells (flat p1).toArray 37 (0,0)) from HG.out);have HDd:=aj.mk (show W.drew.heap[wl.heap.size]?=_ from HD.out);clear c6 c71 c72 c3
   generalize W.drew=w6 at HY HGd HDd hHeld ⊢
   refine fF (i:=0) (N:=some 61) (v:=?_) (a':=?_) (bA 4 1) rfl rfl tX (fun _ _ _ h=>absurd h.1 (by simp)) (Or.inl ⟨by rfl,?_⟩) hHeld ?_ ?_;rotate_left
   ·rintro w' ⟨s0,t0,t1⟩
    go_simp
    with_reducible rfl
   rotate_left
   ·simp only [Act.put,sL,ay,aA]
    rfl
   refine fF (i:=1) (N:=some 62) (v:=?_) (a':=?_) (bA 4 3) rfl rfl tX (fun _ _ _ h=>absurd h.1 (by simp)) (Or.inl ⟨by rfl,?_⟩) hHeld ?_ ?_;rotate_left
   ·rintro w' ⟨s0,t0,t1⟩
    go_simp
    with_reducible rfl
   rotate_left
   ·simp only [Act.put,sL,ay,aA]
    rfl
   refine aH (i:=2) (N:=some 4) (v:=?_) (a':=?_) (bA 4 7) rfl rfl tX (fun _ _ _ h=>absurd h.1 (by simp)) (Or.inl ⟨by rfl,?_⟩) ?_ ?_;rotate_left
   ·intro w'
    go_simp
    with_reducible rfl
   rotate_left
   ·simp only [Act.put,sL,ay,aA]
    rfl
   refine Sw (i:=3) (N:=none) (bA 4 15) rfl rfl tX (by decide) (fun K hK=>?_);refine RP (by rfl) rfl (t:=37) (p:=5) (v:=.tmp 62) rfl HY 0 rfl (i:=0) (.agg #[.int .i64 p2.f0,.int .i64 p2.f1]) [.int .i64 p2.f0,.int .i64 p2.f1] #[.int .i64 p2.f0,.int .i64 p2.f1] rfl rfl rfl tX (by simp) (by simp [Value.oneCell']) rfl ?_;intro W1 jJ hg1
   dsimp only [List.set] at jJ
   refine hK.out _ _ (lK tX ⟨rfl,?_⟩);clear hK K hHeld;have HG2:aj (W1.heap[gL]?=_):=gM HGd hg1 (fun e=>by have:=HX.key (i:=2) (j:=4) rfl rfl (by decide);exact this e);have HD2:aj (W1.heap[wl.heap.size]?=_):=gM HDd hg1 (fun e=>by have:=bZ (HX.gb 4 rfl);omega)
   go_wp2
   refine ⟨by simp,.inl ⟨_,_,rfl,run_takeDeferred HD2.out,?_⟩⟩;have HG3:aj ((W1.putObj wl.heap.size (.deferred none)).heap[gL]?=_):=gM HG2 (grownBy_putObj' W1 wl.heap.size (.deferred none)) (fun e=>by have:=Qw.out.1;omega);refine ⟨_,LG rfl _ _ g5 37 #[.int .i64 p2.f0,.int .i64 p2.f1] (0,0) _ rfl ((gM ⟨jJ.gb 0 rfl⟩ (grownBy_putObj' W1 wl.heap.size (.deferred none)) (fun e=>by have:=bZ (HX.gb 4 rfl);omega)).out) jY (by rfl) tX,(stepG ⟨jJ.below⟩ (grownBy_putObj' W1 wl.heap.size (.deferred none)) ⟨HX.below.size⟩).out,?_⟩;rw [← HP.out.2,if_neg (by omega),← HP.out.1];exact ⟨gL,rfl,Lu.out.1,HG3.out⟩
theorem qbZ (g:Nat) (e0 e1 ti:Int) (A:Option Addr) (n c:Nat) (hn:n<=9223372036854775807) (x:Int) (w:World) (hb:w.heap[g]?=some (.cells #[.int .i64 e0,.int .i64 e1,.int .i64 ti,.slice A n c] 67 (0,0))) :
  Calls Tryz.prog 143 #[.int .i64 x,.pointer (some ⟨g,0,none⟩)] w fun e w'=>e=.returned (.bool (!oN x 0 n))∧Below w.heap.size w w':=by
 have ME:=Tryz.underlying67;obtain ⟨cs1,cs2,uG,uS⟩:=Bl hb
 go_enter Tryz.func143,Tryz.ntmps143
 go_wp2_with (go_at_call 113;(with_reducible refine (rC x 0 n _).mono ?_);rintro e w1 ⟨rfl,hx⟩;clear cs1 cs2 uG uS)
 go_ret
 exact ⟨rfl,hx⟩
theorem qfd (g:Nat) (e0 e1 ti:Int) (A:Option Addr) (n c:Nat) (hn:n<=9223372036854775807) (A1:Option Addr) (c1:Nat) (l1:List Int) (w:World) (hb:w.heap[g]?=some (.cells #[.int .i64 e0,.int .i64 e1,.int .i64 ti,.slice A n c] 67 (0,0))) (hr:Kd.C (Kd.int .i64) w A1 l1.length l1) :
  Calls Tryz.prog 142 #[.slice A1 l1.length c1,.func (.func 143) #[] #[.pointer (some ⟨g,0,none⟩)]] w fun e w'=>e=.returned (.bool (l1.any fun x=>!oN x 0 n))∧Below w.heap.size w w':=by
 refine cf3 (fun x=>!oN x 0 n) 143 #[.pointer (some ⟨g,0,none⟩)] A1 c1 l1 w hr (enters_of Tryz.func143 tX rfl) (fun x hx=>⟨fun W cs hb2 hK=>?_⟩);obtain rfl:=hK;exact qbZ g e0 e1 ti A n c hn x W (aD hb hb2)
theorem Le (ti e0 e1:Int) (ls:List bQ) (tr:List Int):(jO ti e0 e1 ls tr).1.length=ls.length:=by
 unfold jO
 exact Gp _ _ (fun p hp=>EZ hp) (by simp [DL])
theorem Gs:∀ (l:List bQ) (j:Nat) (p:bQ),l[j]?=some p->((flat l).drop (j*2)).take 2=[.int .i64 p.f0,.int .i64 p.f1]
 | s::l,0,p,h=>by
  simp at h;subst h
  rfl
 | s::l,j+1,p,h=>by
  have:=Gs l j p (by simpa using h);rw [sK,show (j+1)*2=j*2+1+1 by omega,List.drop_succ_cons,List.drop_succ_cons,this]
theorem Vf {w:World} {g base:Nat} {l:List bQ} (hg:base<=g) (hl:l.length<=1000000) (h:w.heap[g]?=some (.cells (flat l).toArray 37 (0,0))):Kd.R jW 37 w base (fun _=>True) (.slice (some ⟨g,0,none⟩) l.length l.length) l:=by
 refine ⟨fun _ _=>trivial,flat l,⟨by rw [vM];show 2*l.length=l.length*2;omega,.inr ⟨g,l.length,_,rfl,hg,h,Nat.le_refl _,by unfold maxLen;omega,by rw [List.size_toArray,vM];show 2*l.length=l.length*2;omega,by rw [show l.length*jW.sz=(flat l).length by rw [vM];show l.length*2=2*l.length;omega];simp⟩⟩,⟨by rw [vM];show 2*l.length=l.length*2;omega,fun j p hp=>?_⟩⟩;rw [show ((flat l).drop (j*jW.sz)).take jW.sz=_ from Gs l j p hp];exact lu w base _ p
theorem xV {fn:Func} {p q r:Tmp} (h:fn.results=#[.cell p 28,.cell q 37,.cell r 29]) (tmps:Array Value) (w:World) (g1 g2 g3:Nat) (v:Value) (x y n:Int)
  (hp:tmps.getD p undef=.pointer (some ⟨g1,0,none⟩)) (hq:tmps.getD q undef=.pointer (some ⟨g2,0,none⟩)) (hr:tmps.getD r undef=.pointer (some ⟨g3,0,none⟩))
  (h1:w.heap[g1]?=some (.cells #[v] 28 (0,0))) (h2:w.heap[g2]?=some (.cells #[.int .i64 x,.int .i64 y] 37 (0,0))) (h3:w.heap[g3]?=some (.cells #[.int .i64 n] 29 (0,0))) :
  (results fn tmps).run Tryz.prog w=.ok (.tuple #[v,.agg #[.int .i64 x,.int .i64 y],.int .i64 n]) w:=by
 have hp':tmps[p]?.getD undef=.pointer (some ⟨g1,0,none⟩):=by simpa using hp
 have hq':tmps[q]?.getD undef=.pointer (some ⟨g2,0,none⟩):=by simpa using hq
 have hr':tmps[r]?.getD undef=.pointer (some ⟨g3,0,none⟩):=by simpa using hr
 have c1:=fG h1;have c3:=fG h3;obtain ⟨c21,Zv⟩:=qM h2;have qkq:=Tryz.underlying28;have qkr:=Tryz.underlying29;have jY:=Tryz.underlying37;simp [results,h,hp',hq',hr',asAddr,go_sem,c1,c3,c21,Zv,qkq,qkr,jY]
theorem Yu (a b c:Value) (w:World) :
  CallsD Tryz.prog 144 #[a,b,c] .returning w fun e u' w'=>e=.returned (.tuple #[])∧u'=.returning∧w'=w:=by
 refine callsD_of_wpS Tryz.func144 rfl fun c₀ cs hu=>?_
 apply wpS_seq;apply wpS_region;simp [wpOpsS,go_sem,recoverD,hu,Tryz.ntmps144,Exit.thenS,Array.replicate_succ];refine wpS_of_wp ?_
 go_wp2
 cases c₀
 simp_all [bodyPostS,results,Tryz.results144]
theorem Vg {L:List (Nat × Obj)} (g4 g5 g6:Nat) (pv:Value) (h1:pv.oneCell'=true) (w W:World) (HX:Bx ((g6,.cells #[.int .i64 0] 29 (0,0))::(g5,.cells #[.int .i64 0,.int .i64 0] 37 (0,0))::(g4,.cells #[.slice none 0 0] 28 (0,0))::L) w W) :
  CallsD Tryz.prog 144 #[.pointer (some ⟨g4,0,none⟩),.pointer (some ⟨g5,0,none⟩),.pointer (some ⟨g6,0,none⟩)] (.panicking [{ v:=.iface 181 (.agg #[pv]),recovered:=false,goexit:=false }]) W fun e u' w'=>e=.returned (.tuple #[])∧u'=.panicking [{ v:=.iface 181 (.agg #[pv]),recovered:=true,goexit:=false }]∧Bx ((g6,.cells #[.int .i64 7] 29 (0,0))::(g5,.cells #[.int .i64 0,.int .i64 0] 37 (0,0))::(g4,.cells #[.slice none 0 0] 28 (0,0))::L) w w':=by
 refine callsD_of_wpS Tryz.func144 rfl fun c₀ cs hu=>?_
 apply wpS_seq;apply wpS_region;simp [wpOpsS,go_sem,recoverD,hu,Tryz.ntmps144,Exit.thenS,Array.replicate_succ];refine wpS_of_wp ?_;have qnO:=Tryz.underlying181;have jY:=Tryz.underlying37
 have hta:∀ W,(Instr.typeAssert (.iface 181 (.agg #[pv])) 20 181 true).run Tryz.prog W=.ok (.tuple #[.agg #[pv],.bool true]) W:=fun W=>by kernel_rfl
 go_wp2_with (first|((with_reducible refine au (N:=4) rfl ?_);refine newX rfl rfl HX (cs:=#[.slice none 0 0]) (t:=181) tG ?_;clear HX;intro g7 w7 HX hx hz;clear hx hz)|((with_reducible refine aY (t:=181) (p:=4) rfl ?_);refine jZ rfl rfl rfl HX 0 rfl (i:=0) (.agg #[pv]) [pv] #[pv] rfl rfl rfl tX (by simp) (by simp [h1]) rfl ?_;clear HX;intro w9 HX hx;clear hx;dsimp only [List.set] at HX)|((with_reducible refine aY (t:=28) (p:=0) rfl ?_);refine jZ rfl rfl rfl HX 3 rfl (i:=0) (.slice none 0 0) [.slice none 0 0] #[.slice none 0 0] rfl rfl rfl tX (by simp) (by simp [Value.oneCell']) rfl ?_;clear HX;intro w9 HX hx;clear hx;dsimp only [List.set] at HX)|((with_reducible refine aY (t:=37) (p:=1) rfl ?_);refine jZ rfl rfl rfl HX 2 rfl (i:=0) (.agg #[.int .i64 0,.int .i64 0]) [.int .i64 0,.int .i64 0] #[.int .i64 0,.int .i64 0] rfl rfl rfl tX (by simp) (by simp [Value.oneCell']) rfl ?_;clear HX;intro w9 HX hx;clear hx;dsimp only [List.set] at HX)|((with_reducible refine aY (t:=29) (p:=2) rfl ?_);refine jZ rfl rfl rfl HX 1 rfl (i:=0) (.int .i64 7) [.int .i64 7] #[.int .i64 7] rfl rfl rfl tX (by simp) (by simp [Value.oneCell']) rfl ?_;clear HX;intro w9 HX hx;clear hx;dsimp only [List.set] at HX))
 exact ⟨rfl,_,rfl,.tuple #[],by simp [results,Tryz.results144],rfl,rfl,HX.tail⟩
def tO.f (e0 e1 ti:Int) (ls:List bQ) (nH:List Int):Option (List bQ × Int × Int × Int) :=
 some (if rG ⟨e0,e1⟩ ti ls&&(decide (nH.length=ls.length)&&!(nH.any fun x=>!oN x 0 ls.length)) then
  (if (jO ti e0 e1 ls nH).2.f0>(jO ti e0 e1 ls nH).2.f1 then ([],0,0,7) else ((jO ti e0 e1 ls nH).1,(jO ti e0 e1 ls nH).2.f0,(jO ti e0 e1 ls nH).2.f1,0)) else ([],0,0,2))
theorem tO.calls (bq:Int) (aU:Int) (dN:Int) (jh:Option Addr) (jv:Nat) (cu:List bQ) (A1:Option Addr) (c1:Nat) (l1:List Int) (r1:List bQ) (r2:Int) (r3:Int) (r4:Int) (w:World) (o9:Kd.C jW w jh cu.length cu) (xw:cu.length<=jv) (hr1:Kd.C (Kd.int .i64) w A1 l1.length l1) (hc1:l1.length<=c1) (h:tO.f bq aU dN cu l1=some (r1,r2,r3,r4)) :
  Calls Tryz.prog 54 #[.agg #[.int .i64 bq,.int .i64 aU,.int .i64 dN,.slice jh cu.length jv],.slice A1 l1.length c1] w fun e w'=>∃ lM:Value,e=.returned (.tuple #[lM,.agg #[.int .i64 r2,.int .i64 r3],.int .i64 r4])∧Kd.R jW 37 w' w.heap.size (fun _=>True) lM r1∧Below w.heap.size w w':=by
 have HX:=Bx.nil w
 have K1:=fun w1 (hb:Below w.heap.size w w1)=>c138 bq aU dN jh jv cu w1 (Kd.ak o9 hb) xw
 have hm0:cu.length<=9223372036854775807:=o9.2.1;have hm1:l1.length<=9223372036854775807:=hr1.2.1;have HR:=aj.mk o9;have HR1:=aj.mk hr1
 unfold tO.f at h
 obtain ⟨b1,hb1⟩:∃ b,b=rG ⟨bq,aU⟩ dN cu:=⟨_,rfl⟩;obtain ⟨b2,hb2⟩:∃ b,b=decide (l1.length=cu.length):=⟨_,rfl⟩;have HG:=aj.mk hb1
 have K4:=fun g w1 (hb:w1.heap[g]?=some (.cells #[.int .i64 bq,.int .i64 aU,.int .i64 dN,.slice jh cu.length jv] 67 (0,0))) (hx:Below w.heap.size w w1)=>qfd g bq aU dN jh cu.length jv hm0 A1 c1 l1 w1 hb (Kd.ak HR1.out hx)
 rw [← hb1,← hb2] at h;rw [← hb1] at K1;clear hb1 o9 hr1;have ME:=Tryz.underlying67;have jY:=Tryz.underlying37
 have hc:(b1=false∨b1=true∧b2=false∨b1=true∧b2=true∧(l1.any fun x=>!oN x 0 cu.length)=true)∨(b1=true∧b2=true∧(l1.any fun x=>!oN x 0 cu.length)=false):=by
  cases b1<;>cases b2<;>cases (l1.any fun x=>!oN x 0 cu.length)<;>simp
 rcases hc with hc|hc
 ·obtain ⟨rfl,rfl,rfl,rfl⟩:r1=[]∧r2=0∧r3=0∧r4=2:=by
   rcases hc with rfl|⟨rfl,rfl⟩|⟨rfl,rfl,hc⟩<;>(first|simp only [hc] at h|skip)<;>(simp at h;exact ⟨h.1,h.2.1.symm,h.2.2.1.symm,h.2.2.2.symm⟩)
  clear h HG
  rcases hc with rfl|⟨rfl,rfl⟩|⟨rfl,rfl,hc⟩
  all_goals (try have hne:¬ l1.length=cu.length:=of_decide_eq_false hb2.symm)
  all_goals (try have heq:l1.length=cu.length:=of_decide_eq_true hb2.symm)
  all_goals (try simp only [heq,hc] at K4)
  all_goals (try clear hc)
  all_goals
   clear hb2
   go_enter Tryz.func54,Tryz.ntmps54
   go_wp2_with (first|((with_reducible refine au (N:=2) rfl ?_);refine newX rfl rfl HX (cs:=#[.int .i64 bq,.int .i64 aU,.int .i64 dN,.slice jh cu.length jv]) (t:=67) tG ?_;clear HX;intro g2 w2 HX hx hz;clear hx hz)|((with_reducible refine au (N:=4) rfl ?_);refine newX rfl rfl HX (cs:=#[.slice none 0 0]) (t:=28) tG ?_;clear HX;intro g4 w4 HX hx hz;clear hx hz)|((with_reducible refine au (N:=5) rfl ?_);refine newX rfl rfl HX (cs:=#[.int .i64 0,.int .i64 0]) (t:=37) tG ?_;clear HX;intro g5 w5 HX hx hz;clear hx hz)|((with_reducible refine au (N:=6) rfl ?_);refine newX rfl rfl HX (cs:=#[.int .i64 0]) (t:=29) tG ?_;clear HX;intro g6 w6 HX hx hz;clear hx hz;obtain ⟨cs1,cs2,uG,uS⟩:=HX.g4 3 rfl)|(go_at_call 138;(with_reducible refine (K1 _ HX.below).mono ?_);rintro e w1 ⟨rfl,hx⟩;replace HX:=HX.step hx;clear hx cs1 cs2 uG uS;obtain ⟨cs1,cs2,uG,uS⟩:=HX.g4 3 rfl)|(go_at_call 142;refine (K4 g2 _ (HX.gb 3 rfl) HX.below).mono ?_;rintro e w1 ⟨rfl,hx⟩;replace HX:=HX.step hx;clear hx cs1 cs2 uG uS;obtain ⟨cs1,cs2,uG,uS⟩:=HX.g4 3 rfl)|((with_reducible refine aY (t:=28) (p:=4) rfl ?_);refine jZ rfl rfl rfl HX 2 rfl (i:=0) (.slice none 0 0) [.slice none 0 0] #[.slice none 0 0] rfl rfl rfl tX (by simp) (by simp [Value.oneCell']) rfl ?_;clear HX;intro w9 HX hx;clear hx;dsimp only [List.set] at HX)|((with_reducible refine aY (t:=37) (p:=5) rfl ?_);refine jZ rfl rfl rfl HX 1 rfl (i:=0) (.agg #[.int .i64 0,.int .i64 0]) [.int .i64 0,.int .i64 0] #[.int .i64 0,.int .i64 0] rfl rfl rfl tX (by simp) (by simp [Value.oneCell']) rfl ?_;clear HX;intro w9 HX hx;clear hx;dsimp only [List.set] at HX)|((with_reducible refine aY (t:=29) (p:=6) rfl ?_);refine jZ rfl rfl rfl HX 0 rfl (i:=0) (.int .i64 2) [.int .i64 2] #[.int .i64 2] rfl rfl rfl tX (by simp) (by simp [Value.oneCell']) rfl ?_;clear HX;intro w9 HX hx;clear hx;dsimp only [List.set] at HX))
   refine bodyPost_ret (xV rfl _ _ g4 g5 g6 _ _ _ _ (by rfl) (by rfl) (by rfl) (HX.gb 2 rfl) (HX.gb 1 rfl) (HX.gb 0 rfl)) rfl ?_;exact ⟨_,rfl,Kd.mI _ _ _ _ _,HX.below⟩
 ·obtain ⟨rfl,rfl,hc⟩:=hc
  have heq:l1.length=cu.length:=of_decide_eq_true hb2.symm;have HSO:=aj.mk (Qv HG.out.symm);simp only [heq,hc] at K4;have HEQ:=aj.mk heq
  have K5:=fun w1 (hb:Below w.heap.size w w1)=>IZ bq aU dN jh jv cu A1 c1 l1 w1 (Kd.ak HR.out hb) xw (Kd.ak HR1.out hb) hc1 HSO.out HEQ.out
  obtain ⟨p1,hp1⟩:∃ s,s=(jO dN bq aU cu l1).1:=⟨_,rfl⟩;obtain ⟨p2,hp2⟩:∃ s,s=(jO dN bq aU cu l1).2:=⟨_,rfl⟩
  unfold Gq at K5
  rw [← hp1,← hp2] at K5 h;simp only [heq] at K5;have HC:=aj.mk hc;have HL1:=aj.mk (show p1.length=cu.length by rw [hp1];exact Le _ _ _ _ _);clear hb2 hc hp1 hp2
  by_cases hgt:p2.f0>p2.f1
  ·obtain ⟨rfl,rfl,rfl,rfl⟩:r1=[]∧r2=0∧r3=0∧r4=7:=by
    simp [HC.out,hgt] at h;exact ⟨h.1,h.2.1.symm,h.2.2.1.symm,h.2.2.2.symm⟩
   simp only [if_pos hgt] at K5;clear h
   go_enter_defers Tryz.func54,Tryz.ntmps54
   go_wp2_with (first|((with_reducible refine au (N:=2) rfl ?_);refine newX rfl rfl HX (cs:=#[.int .i64 bq,.int .i64 aU,.int .i64 dN,.slice jh cu.length jv]) (t:=67) tG ?_;clear HX;intro g2 w2 HX hx hz;clear hx hz)|((with_reducible refine au (N:=4) rfl ?_);refine newX rfl rfl HX (cs:=#[.slice none 0 0]) (t:=28) tG ?_;clear HX;intro g4 w4 HX hx hz;clear hx hz)|((with_reducible refine au (N:=5) rfl ?_);refine newX rfl rfl HX (cs:=#[.int .i64 0,.int .i64 0]) (t:=37) tG ?_;clear HX;intro g5 w5 HX hx hz;clear hx hz)|((with_reducible refine au (N:=6) rfl ?_);refine newX rfl rfl HX (cs:=#[.int .i64 0]) (t:=29) tG ?_;clear HX;intro g6 w6 HX hx hz;clear hx hz;obtain ⟨cs1,cs2,uG,uS⟩:=HX.g4 3 rfl)|(go_at_call 138;(with_reducible refine (K1 _ HX.below).mono ?_);rintro e w1 ⟨rfl,hx⟩;replace HX:=HX.step hx;clear hx cs1 cs2 uG uS;obtain ⟨cs1,cs2,uG,uS⟩:=HX.g4 3 rfl)|(go_at_call 142;refine (K4 g2 _ (HX.gb 3 rfl) HX.below).mono ?_;rintro e w1 ⟨rfl,hx⟩;replace HX:=HX.step hx;clear hx cs1 cs2 uG uS;obtain ⟨cs1,cs2,uG,uS⟩:=HX.g4 3 rfl)|(go_at_call 145;refine (K5 _ HX.below).mono ?_;rintro e w1 ⟨hx,hE⟩;subst hE;replace HX:=HX.step hx;clear hx cs1 cs2 uG uS))
   refine leaves_cons (f:=144) (args:=#[.pointer (some ⟨g4,0,none⟩),.pointer (some ⟨g5,0,none⟩),.pointer (some ⟨g6,0,none⟩)]) (by simp) (by simp [go_sem]) ?_;refine (Vg g4 g5 g6 (.slice A1 cu.length c1) rfl w _ HX).mono ?_;rintro e u' w'' ⟨rfl,rfl,HX⟩;refine ⟨_,xV rfl _ _ g4 g5 g6 _ _ _ _ (by rfl) (by rfl) (by rfl) (HX.gb 2 rfl) (HX.gb 1 rfl) (HX.gb 0 rfl),?_⟩;exact ⟨_,rfl,Kd.mI _ _ _ _ _,HX.below⟩
  ·obtain ⟨rfl,rfl,rfl,rfl⟩:p1=r1∧p2.f0=r2∧p2.f1=r3∧0=r4:=by
    simp [HC.out,show ¬ p2.f1<p2.f0 by omega] at h;exact ⟨h.1,h.2.1,h.2.2.1,h.2.2.2⟩
   simp only [if_neg hgt] at K5;clear h
   go_enter_defers Tryz.func54,Tryz.ntmps54
   go_wp2_with (first|((with_reducible refine au (N:=2) rfl ?_);refine newX rfl rfl HX (cs:=#[.int .i64 bq,.int .i64 aU,.int .i64 dN,.slice jh cu.length jv]) (t:=67) tG ?_;clear HX;intro g2 w2 HX hx hz;clear hx hz)|((with_reducible refine au (N:=4) rfl ?_);refine newX rfl rfl HX (cs:=#[.slice none 0 0]) (t:=28) tG ?_;clear HX;intro g4 w4 HX hx hz;clear hx hz)|((with_reducible refine au (N:=5) rfl ?_);refine newX rfl rfl HX (cs:=#[.int .i64 0,.int .i64 0]) (t:=37) tG ?_;clear HX;intro g5 w5 HX hx hz;clear hx hz)|((with_reducible refine au (N:=6) rfl ?_);refine newX rfl rfl HX (cs:=#[.int .i64 0]) (t:=29) tG ?_;clear HX;intro g6 w6 HX hx hz;clear hx hz;obtain ⟨cs1,cs2,uG,uS⟩:=HX.g4 3 rfl)|(go_at_call 138;(with_reducible refine (K1 _ HX.below).mono ?_);rintro e w1 ⟨rfl,hx⟩;replace HX:=HX.step hx;clear hx cs1 cs2 uG uS;obtain ⟨cs1,cs2,uG,uS⟩:=HX.g4 3 rfl)|(go_at_call 142;refine (K4 g2 _ (HX.gb 3 rfl) HX.below).mono ?_;rintro e w1 ⟨rfl,hx⟩;replace HX:=HX.step hx;clear hx cs1 cs2 uG uS;obtain ⟨cs1,cs2,uG,uS⟩:=HX.g4 3 rfl)|(go_at_call 145;refine (K5 _ HX.below).mono ?_;rintro e w1 ⟨hx,gL,hE,hgl,hrow⟩;subst hE;have HGL:=aj.mk hgl;have HNL:=aj.mk (show g6<gL∧g5<gL∧g4<gL from ⟨Nat.lt_of_lt_of_le (bZ (HX.gb 0 rfl)) hgl,Nat.lt_of_lt_of_le (bZ (HX.gb 1 rfl)) hgl,Nat.lt_of_lt_of_le (bZ (HX.gb 2 rfl)) hgl⟩);replace HX:=HX.add hgl hx hrow;clear hx hgl hrow cs1 cs2 uG uS)|((with_reducible refine aY (t:=28) (p:=4) rfl ?_);refine jZ rfl rfl rfl HX 3 rfl (i:=0) (.slice (some ⟨gL,0,none⟩) cu.length cu.length) [.slice (some ⟨gL,0,none⟩) cu.length cu.length] #[.slice (some ⟨gL,0,none⟩) cu.length cu.length] rfl rfl rfl tX (by simp) (by simp [Value.oneCell']) rfl ?_;clear HX;intro w9 HX hx;clear hx;dsimp only [List.set] at HX)|((with_reducible refine aY (t:=37) (p:=5) rfl ?_);refine jZ rfl rfl rfl HX 2 rfl (i:=0) (.agg #[.int .i64 p2.f0,.int .i64 p2.f1]) [.int .i64 p2.f0,.int .i64 p2.f1] #[.int .i64 p2.f0,.int .i64 p2.f1] rfl rfl rfl tX (by simp) (by simp [Value.oneCell']) rfl ?_;clear HX;intro w9 HX hx;clear hx;dsimp only [List.set] at HX))
   have HD:=HX.step (fC (Below.refl w9.heap.size w9));refine Cw ?_;refine kK (n:=5) (S:=fun w'=>w'.cell? ⟨g4,0,none⟩=some (.slice (some ⟨gL,0,none⟩) cu.length cu.length)∧w'.cell? ⟨g5,0,none⟩=some (.int .i64 p2.f0)∧w'.cell? ⟨g5,1,none⟩=some (.int .i64 p2.f1)) (ds:=[]) #[false,false,false,false,false] tX rfl rfl ⟨HX.g1 3 rfl,(HX.g2 2 rfl).1,(HX.g2 2 rfl).2⟩ (fun hHeld=>?_);clear HX;have HX:=HD;clear HD
   generalize w9.drew=Lr at HX hHeld ⊢
   refine fF (i:=0) (N:=some 31) (v:=?_) (a':=?_) (bA 5 1) rfl rfl tX (fun _ _ _ h=>absurd h.1 (by simp)) (Or.inl ⟨by rfl,?_⟩) hHeld ?_ ?_;rotate_left
   ·rintro w' ⟨s0,t0,t1⟩
    go_simp
    with_reducible rfl
   rotate_left
   ·simp only [Act.put,sL,ay,aA]
    rfl
   refine fF (i:=1) (N:=some 32) (v:=?_) (a':=?_) (bA 5 3) rfl rfl tX (fun _ _ _ h=>absurd h.1 (by simp)) (Or.inl ⟨by rfl,?_⟩) hHeld ?_ ?_;rotate_left
   ·rintro w' ⟨s0,t0,t1⟩
    go_simp
    with_reducible rfl
   rotate_left
   ·simp only [Act.put,sL,ay,aA]
    rfl
   refine gZ (i:=2) (N:=none) (bA 5 7) rfl rfl tX (by decide) (fun K hK=>?_);refine RP (by rfl) rfl (t:=28) (p:=4) (v:=.tmp 31) rfl HX 3 rfl (i:=0) (.slice (some ⟨gL,0,none⟩) cu.length cu.length) [.slice (some ⟨gL,0,none⟩) cu.length cu.length] #[.slice (some ⟨gL,0,none⟩) cu.length cu.length] rfl rfl rfl tX (by simp) (by simp [Value.oneCell']) rfl ?_;clear HX hHeld;intro W2 HX hg
   dsimp only [List.set] at HX
   refine hK.out _ _ ⟨HX.g1 3 rfl,(HX.g2 2 rfl).1,(HX.g2 2 rfl).2⟩ (fun hHeld=>?_);clear hK K hg;refine gZ (i:=3) (N:=none) (bA 5 15) rfl rfl tX (by decide) (fun K hK=>?_);refine RP (by rfl) rfl (t:=37) (p:=5) (v:=.tmp 32) rfl HX 2 rfl (i:=0) (.agg #[.int .i64 p2.f0,.int .i64 p2.f1]) [.int .i64 p2.f0,.int .i64 p2.f1] #[.int .i64 p2.f0,.int .i64 p2.f1] rfl rfl rfl tX (by simp) (by simp [Value.oneCell']) rfl ?_;clear HX hHeld;intro W3 HX hg
   dsimp only [List.set] at HX
   refine hK.out _ _ ⟨HX.g1 3 rfl,(HX.g2 2 rfl).1,(HX.g2 2 rfl).2⟩ (fun hHeld=>?_);clear hK K hg;refine gZ (i:=4) (N:=none) (bA 5 31) rfl rfl tX (by decide) (fun K hK=>?_);refine RP (by rfl) rfl (t:=29) (p:=6) (v:=.const (.int .i64 0)) rfl HX 1 rfl (i:=0) (.int .i64 0) [.int .i64 0] #[.int .i64 0] rfl rfl rfl tX (by simp) (by simp [Value.oneCell']) rfl ?_;clear HX hHeld;intro W4 HX hg
   dsimp only [List.set] at HX
   refine hK.out _ _ ⟨HX.g1 3 rfl,(HX.g2 2 rfl).1,(HX.g2 2 rfl).2⟩ (fun hHeld=>?_);clear hK K hg;refine lK tX ⟨rfl,?_⟩;clear hHeld
   go_wp2
   refine leaves_cons (f:=144) (args:=#[.pointer (some ⟨g4,0,none⟩),.pointer (some ⟨g5,0,none⟩),.pointer (some ⟨g6,0,none⟩)]) (by simp) (by simp [go_sem]) ?_;refine (Yu _ _ _ _).mono ?_;rintro e u' w'' ⟨rfl,rfl,rfl⟩;refine ⟨_,xV rfl _ _ g4 g5 g6 _ _ _ _ (by rfl) (by rfl) (by rfl) (HX.gb 3 rfl) (HX.gb 2 rfl) (HX.gb 1 rfl),?_⟩;have hl:=HL1.out;have hR:=Vf (HX.lo _ (List.mem_of_getElem? (i:=0) rfl)) (by have:=HSO.out.len;omega) (HX.gb 0 rfl);rw [hl] at hR;exact ⟨_,rfl,hR,HX.below⟩
end Go.Proofs.YtnpfbjnjdngkhaaGreatDoor.P
namespace Go.Proofs.YtnpfbjnjdngkhaaGreatDoor.P
open Go.RowKit Go.Proofs.YtnpfbjnjdngkhaaGreatDoorW.aQ Go.Proofs.YtnpfbjnjdngkhaaGreatDoorW.bO Go.Proofs.YtnpfbjnjdngkhaaGreatDoorW.bT
def uT:List bI:=[⟨[⟨2,3⟩,⟨5,5⟩,⟨8,10⟩],40⟩,⟨[⟨1,1⟩,⟨2,2⟩,⟨4,4⟩],20⟩]
def DN:List bB:=[⟨0,0,⟨4,5⟩⟩,⟨1,1,⟨3,3⟩⟩]
def DR:List bB:=[⟨0,0,⟨5,5⟩⟩]
def mU:List Int:=[1,-2]
def mV:List Int:=[1,1]
def CS:List nJ:=[⟨[1,1]⟩,⟨[1,-2]⟩]
def CU:List bQ:=[⟨12,14⟩,⟨10,12⟩]
def Sj:List dD:=[⟨[⟨0,0,⟨5,5⟩⟩],2,5⟩,⟨[⟨0,1,⟨2,2⟩⟩],3,9⟩,⟨[⟨0,0,⟨5,5⟩⟩],2,4⟩]
def exS:List bQ:=[⟨10,12⟩,⟨13,14⟩,⟨17,17⟩]
def I5:ByteArray:=⟨#[104,111,117,115,101,32,50,32,48,10,100,121,101,32,52,48,32,50,32,51,32,53,32,53,32,56,32,49,48,10,100,121,101,32,50,48,32,49,32,49,32,50,32,50,32,52,32,52,10,101,110,100,32,48,53,54,10]⟩
theorem qfe:qX.f=some uT:=by kernel_rfl
theorem qff:qY.f=some DN:=by kernel_rfl
theorem qfg:iH.f=some DR:=by kernel_rfl
theorem Yv:jG.f=some mU:=by kernel_rfl
theorem Yw:jH.f=some mV:=by kernel_rfl
theorem qfh:qZ.f=some (CS,6,6,CU,3):=by kernel_rfl
theorem qfi:ru.f=some Sj:=by kernel_rfl
theorem qfj:rz.f=some (2,3,1,exS):=by kernel_rfl
theorem Vh:gI.f 1000 uT DN=some ([⟨8,15⟩,⟨6,6⟩],0):=by kernel_rfl
theorem Vi:vF.f uT mU DN DR=some (-15,-12,0):=by kernel_rfl
theorem Vj:dI.f 1000 uT [⟨mV⟩,⟨mU⟩] DN DR 4 4=some ([2,1],0):=by kernel_rfl
theorem Yx:xP.f uT mV DR 1 2 18 30=some (2,3,0):=by kernel_rfl
theorem Yy:xU.f uT CS 6 6 CU 3 Sj=some (2,0):=by kernel_rfl
theorem qb0:DJ.f 2 3 1 exS [10,14,17] 2=some ([0,1,1],0):=by kernel_rfl
theorem RX:tO.f 2 3 1 exS [0,0,1]=some (exS,2,3,0):=by kernel_rfl
theorem Lf:pJ.f 2 3 1 exS 1 2=some (2,0):=by kernel_rfl
theorem Vk:yI.f uT []=some (I5,0):=by kernel_rfl
theorem Vm:dJ.f 1000 [⟨8,15⟩,⟨6,6⟩] [⟨8,15⟩,⟨6,6⟩]=some true:=by kernel_rfl
theorem Vn:dX.f 1000 [2,1] [2,1]=some true:=by kernel_rfl
theorem Vp:gG.f 1000 [0,1,1] [0,1,1]=some true:=by kernel_rfl
theorem Vq:dJ.f 1000 exS exS=some true:=by kernel_rfl
end Go.Proofs.YtnpfbjnjdngkhaaGreatDoor.P
namespace Go.Proofs.YtnpfbjnjdngkhaaGreatDoor.P
open Go.RowKit Go.Proofs.YtnpfbjnjdngkhaaGreatDoorW.aQ Go.Proofs.YtnpfbjnjdngkhaaGreatDoorW.bO Go.Proofs.YtnpfbjnjdngkhaaGreatDoorW.bT
attribute [local go_sem] eP eT fU fV dS dU eU eX
attribute [local go_sem] Oper.semAt_some
theorem sM (w:World):Calls Tryz.prog 97 #[] w fun e w'=>∃ A c,e=.returned (.agg #[.slice A uT.length c])∧uT.length<=c∧Kd.C iG w' A uT.length uT∧Below w.heap.size w w' :=
 (qX.calls uT w qfe).mono fun e w' h=>by
  obtain ⟨v,rfl,ho,hx⟩:=h;obtain ⟨A,c,rfl,hl,hC⟩:=Kd.CY ho;exact ⟨A,c,rfl,hl,hC,hx⟩
theorem BF (w:World):Calls Tryz.prog 98 #[] w fun e w'=>∃ A c,e=.returned (.slice A DN.length c)∧DN.length<=c∧Kd.C eD w' A DN.length DN∧Below w.heap.size w w' :=
 (qY.calls DN w qff).mono fun e w' h=>by
  obtain ⟨v,rfl,ho,hx⟩:=h;obtain ⟨A,c,rfl,hl,hC⟩:=Kd.fE ho;exact ⟨A,c,rfl,hl,hC,hx⟩
theorem BG (w:World):Calls Tryz.prog 100 #[] w fun e w'=>∃ A c,e=.returned (.slice A DR.length c)∧DR.length<=c∧Kd.C eD w' A DR.length DR∧Below w.heap.size w w' :=
 (iH.calls DR w qfg).mono fun e w' h=>by
  obtain ⟨v,rfl,ho,hx⟩:=h;obtain ⟨A,c,rfl,hl,hC⟩:=Kd.fE ho;exact ⟨A,c,rfl,hl,hC,hx⟩
theorem Cx (w:World):Calls Tryz.prog 99 #[] w fun e w'=>∃ A c,e=.returned (.agg #[.slice A mU.length c])∧mU.length<=c∧Kd.C (Kd.int .i64) w' A mU.length mU∧Below w.heap.size w w' :=
 (jG.calls mU w Yv).mono fun e w' h=>by
  obtain ⟨v,rfl,ho,hx⟩:=h;obtain ⟨A,c,rfl,hl,hC⟩:=Kd.fE ho;exact ⟨A,c,rfl,hl,hC,hx⟩
theorem Cy (w:World):Calls Tryz.prog 101 #[] w fun e w'=>∃ A c,e=.returned (.agg #[.slice A mV.length c])∧mV.length<=c∧Kd.C (Kd.int .i64) w' A mV.length mV∧Below w.heap.size w w' :=
 (jH.calls mV w Yw).mono fun e w' h=>by
  obtain ⟨v,rfl,ho,hx⟩:=h;obtain ⟨A,c,rfl,hl,hC⟩:=Kd.fE ho;exact ⟨A,c,rfl,hl,hC,hx⟩
theorem RY (w:World):Calls Tryz.prog 103 #[] w fun e w'=>∃ A c,e=.returned (.slice A Sj.length c)∧Sj.length<=c∧Kd.C kS w' A Sj.length Sj∧Below w.heap.size w w' :=
 (ru.calls Sj w qfi).mono fun e w' h=>by
  obtain ⟨v,rfl,ho,hx⟩:=h;obtain ⟨A,c,rfl,hl,hC⟩:=Kd.CY ho;exact ⟨A,c,rfl,hl,hC,hx⟩
theorem yK (w:World):Calls Tryz.prog 104 #[] w fun e w'=>∃ A c,e=.returned (.agg #[.int .i64 2,.int .i64 3,.int .i64 1,.slice A exS.length c])∧exS.length<=c∧Kd.C jW w' A exS.length exS∧Below w.heap.size w w' :=
 (rz.calls 2 3 1 exS w qfj).mono fun e w' h=>by
  obtain ⟨v,rfl,ho,hx⟩:=h;obtain ⟨A,c,rfl,hl,hC⟩:=Kd.fE ho;exact ⟨A,c,rfl,hl,hC,hx⟩
def RZ:List Int:=[2,1]
def R3:List Int:=[0,1,1]
def R4:List bQ:=[⟨8,15⟩,⟨6,6⟩]
theorem FE (A0:Option Addr) (c0:Nat) (A1:Option Addr) (c1:Nat) (w:World) (h0:Kd.C iG w A0 uT.length uT) (l0:uT.length<=c0) (h1:Kd.C eD w A1 DN.length DN) (l1:DN.length<=c1) :
  Calls Tryz.prog 29 #[.agg #[.slice A0 uT.length c0],.slice A1 DN.length c1] w fun e w'=>∃ A c,e=.returned (.tuple #[.slice A R4.length c,.int .i64 0])∧R4.length<=c∧Kd.C jW w' A R4.length R4∧Below w.heap.size w w' :=
 (gI.calls 1000 A0 c0 uT A1 c1 DN R4 0 w h0 l0 h1 l1 Vh).mono fun e w' h=>by
  obtain ⟨v,rfl,ho,hx⟩:=h;obtain ⟨A,c,rfl,hl,hC⟩:=Kd.fE ho;exact ⟨A,c,rfl,hl,hC,hx⟩
theorem FH (A0:Option Addr) (c0:Nat) (A1:Option Addr) (c1:Nat) (A2:Option Addr) (c2:Nat) (A3:Option Addr) (c3:Nat) (w:World) (h0:Kd.C iG w A0 uT.length uT) (l0:uT.length<=c0) (h1:Kd.C (Kd.int .i64) w A1 mU.length mU) (l1:mU.length<=c1) (h2:Kd.C eD w A2 DN.length DN) (l2:DN.length<=c2) (h3:Kd.C eD w A3 DR.length DR) (l3:DR.length<=c3) :
  Calls Tryz.prog 72 #[.agg #[.slice A0 uT.length c0],.agg #[.slice A1 mU.length c1],.slice A2 DN.length c2,.slice A3 DR.length c3] w fun e w'=>e=.returned (.tuple #[.agg #[.int .i64 (-15),.int .i64 (-12)],.int .i64 0])∧Below w.heap.size w w' :=
 vF.calls A0 c0 uT A1 c1 mU A2 c2 DN A3 c3 DR (-15) (-12) 0 w h0 l0 h1 l1 h2 l2 h3 l3 Vi
theorem Vr {W:World} {g:Nat} (l:List Int) (h:W.heap[g]?=some (.cells (l.map (Value.int .i64 ·)).toArray 3 (0,0))) (hl:l.length<=9223372036854775807):Kd.C (Kd.int .i64) W (some ⟨g,0,none⟩) l.length l :=
 ⟨rfl,hl,fun _=>⟨_,rfl,fun j p hj=>⟨[.int .i64 p],rfl,rfl,fun i u hu=>by
  cases i with
  | zero =>
   simp at hu;subst hu;rw [Addr.add_mid];exact (aM h _).trans (by show (l.map (Value.int .i64 ·)).toArray[0+(j*1+0)]?=_;simp [hj])
  | succ i=>simp at hu⟩⟩⟩
theorem Qz {W:World} {g t:Nat} (l:List Int) (h:W.heap[g]?=some (.cells (l.map (Value.int .i64 ·)).toArray t (0,0))) (hl:l.length<=9223372036854775807):Kd.C (Kd.int .i64) W (some ⟨g,0,none⟩) l.length l :=
 ⟨rfl,hl,fun _=>⟨_,rfl,fun j p hj=>⟨[.int .i64 p],rfl,rfl,fun i u hu=>by
  cases i with
  | zero =>
   simp at hu;subst hu;rw [Addr.add_mid];exact (aM h _).trans (by show (l.map (Value.int .i64 ·)).toArray[0+(j*1+0)]?=_;simp [hj])
  | succ i=>simp at hu⟩⟩⟩
theorem Yz {W:World} {g:Nat} (l:List bQ) (h:W.heap[g]?=some (.cells (flat l).toArray 37 (0,0))) (hl:l.length<=1000):Kd.C jW W (some ⟨g,0,none⟩) l.length l:=by
 obtain ⟨A,c,e,_,hC⟩:=Kd.fE (Vf (base:=0) (Nat.zero_le _) (by omega) h)
 injection e with e1 _ _
 rw [e1];exact hC
theorem YA (A0:Option Addr) (c0:Nat) (g:Nat) (w:World) (h0:Kd.C jW w A0 R4.length R4) (l0:R4.length<=c0) (h:w.heap[g]?=some (.cells #[.int .i64 8,.int .i64 15,.int .i64 6,.int .i64 6] 37 (0,0))) :
  Calls Tryz.prog 32 #[.slice A0 R4.length c0,.slice (some ⟨g,0,none⟩) 2 2] w fun e w'=>e=.returned (.bool true)∧Below w.heap.size w w' :=
 oZ (dJ.calls 1000 A0 c0 R4 (some ⟨g,0,none⟩) 2 R4 true w h0 l0 (Yz R4 h (by decide)) (by decide) Vm)
theorem YB (A0:Option Addr) (c0:Nat) (g:Nat) (w:World) (h0:Kd.C (Kd.int .i64) w A0 RZ.length RZ) (l0:RZ.length<=c0) (h:w.heap[g]?=some (.cells #[.int .i64 2,.int .i64 1] 88 (0,0))) :
  Calls Tryz.prog 38 #[.slice A0 RZ.length c0,.slice (some ⟨g,0,none⟩) 2 2] w fun e w'=>e=.returned (.bool true)∧Below w.heap.size w w' :=
 oZ (dX.calls 1000 A0 c0 RZ (some ⟨g,0,none⟩) 2 RZ true w h0 l0 (Qz RZ h (by decide)) (by decide) Vn)
theorem YC (A0:Option Addr) (c0:Nat) (g:Nat) (w:World) (h0:Kd.C (Kd.int .i64) w A0 R3.length R3) (l0:R3.length<=c0) (h:w.heap[g]?=some (.cells #[.int .i64 0,.int .i64 1,.int .i64 1] 3 (0,0))) :
  Calls Tryz.prog 65 #[.slice A0 R3.length c0,.slice (some ⟨g,0,none⟩) 3 3] w fun e w'=>e=.returned (.bool true)∧Below w.heap.size w w' :=
 oZ (gG.calls 1000 A0 c0 R3 (some ⟨g,0,none⟩) 3 R3 true w h0 l0 (Qz R3 h (by decide)) (by decide) Vp)
theorem YD (A0:Option Addr) (c0:Nat) (A1:Option Addr) (c1:Nat) (w:World) (h0:Kd.C jW w A0 exS.length exS) (l0:exS.length<=c0) (h1:Kd.C jW w A1 exS.length exS) (l1:exS.length<=c1) :
  Calls Tryz.prog 32 #[.slice A0 exS.length c0,.slice A1 exS.length c1] w fun e w'=>e=.returned (.bool true)∧Below w.heap.size w w' :=
 oZ (dJ.calls 1000 A0 c0 exS A1 c1 exS true w h0 l0 h1 l1 Vq)
theorem qfk {W:World} {g:Nat} {Ad Aq:Option Addr} {cd cq:Nat} (h:W.heap[g]?=some (.cells #[.slice Ad mV.length cd,.slice Aq mU.length cq] 49 (0,0))) (h1:Kd.C (Kd.int .i64) W Ad mV.length mV) (l1:mV.length<=cd) (h2:Kd.C (Kd.int .i64) W Aq mU.length mU) (l2:mU.length<=cq):Kd.C Bf W (some ⟨g,0,none⟩) 2 [⟨mV⟩,⟨mU⟩]:=by
 obtain ⟨e0,e1⟩:=qM h;refine ⟨rfl,by decide,fun _=>⟨_,rfl,fun j p hj=>?_⟩⟩
 match j,hj with
 | 0,hj =>
  simp at hj;subst hj
  exact ⟨[.slice Ad mV.length cd],rfl,GL W ⟨mV⟩ l1 h1,fun i u hu=>by
   cases i with
   | zero=>simp at hu;subst hu;rw [Addr.add_mid];exact e0
   | succ i=>simp at hu⟩
 | 1,hj =>
  simp at hj;subst hj
  exact ⟨[.slice Aq mU.length cq],rfl,GL W ⟨mU⟩ l2 h2,fun i u hu=>by
   cases i with
   | zero=>simp at hu;subst hu;rw [Addr.add_mid];exact e1
   | succ i=>simp at hu⟩
 | j+2,hj=>simp at hj
theorem AB (a:Int) (w:World):Calls Tryz.prog 66 #[.int .i64 a] w fun e w'=>e=.returned (.agg #[.int .i64 a,.int .i64 a])∧Below w.heap.size w w':=bg.calls a a a w (by first|rfl|simp [bg.f])
theorem pK (a b:Int) (w:World):Calls Tryz.prog 67 #[.int .i64 a,.int .i64 b] w fun e w'=>e=.returned (.agg #[.int .i64 a,.int .i64 b])∧Below w.heap.size w w':=bE.calls a b a b w (by first|rfl|simp [bE.f])
theorem FI (A0:Option Addr) (c0:Nat) (A1:Option Addr) (A2:Option Addr) (c2:Nat) (A3:Option Addr) (c3:Nat) (w:World) (h0:Kd.C iG w A0 uT.length uT) (l0:uT.length<=c0) (h1:Kd.C Bf w A1 2 [⟨mV⟩,⟨mU⟩]) (h2:Kd.C eD w A2 DN.length DN) (l2:DN.length<=c2) (h3:Kd.C eD w A3 DR.length DR) (l3:DR.length<=c3) :
  Calls Tryz.prog 35 #[.agg #[.slice A0 uT.length c0],.slice A1 2 2,.slice A2 DN.length c2,.slice A3 DR.length c3,.agg #[.int .i64 4,.int .i64 4]] w fun e w'=>∃ A c,e=.returned (.tuple #[.slice A RZ.length c,.int .i64 0])∧RZ.length<=c∧Kd.C (Kd.int .i64) w' A RZ.length RZ∧Below w.heap.size w w' :=
 (dI.calls 1000 A0 c0 uT A1 2 [⟨mV⟩,⟨mU⟩] A2 c2 DN A3 c3 DR 4 4 RZ 0 w h0 l0 h1 (by decide) h2 l2 h3 l3 Vj).mono fun e w' h=>by
  obtain ⟨v,rfl,ho,hx⟩:=h;obtain ⟨A,c,rfl,hl,hC⟩:=Kd.fE ho;exact ⟨A,c,rfl,hl,hC,hx⟩
theorem I6 (A0:Option Addr) (c0:Nat) (A1:Option Addr) (c1:Nat) (A2:Option Addr) (c2:Nat) (w:World) (h0:Kd.C iG w A0 uT.length uT) (l0:uT.length<=c0) (h1:Kd.C (Kd.int .i64) w A1 mV.length mV) (l1:mV.length<=c1) (h2:Kd.C eD w A2 DR.length DR) (l2:DR.length<=c2) :
  Calls Tryz.prog 40 #[.agg #[.slice A0 uT.length c0],.agg #[.slice A1 mV.length c1],.slice A2 DR.length c2,.int .i64 1,.int .i64 2,.agg #[.int .i64 18,.int .i64 30]] w fun e w'=>e=.returned (.tuple #[.agg #[.int .i64 2,.int .i64 3],.int .i64 0])∧Below w.heap.size w w' :=
 xP.calls A0 c0 uT A1 c1 mV A2 c2 DR 1 2 18 30 2 3 0 w h0 l0 h1 l1 h2 l2 Yx
theorem R5 (w:World):Calls Tryz.prog 102 #[] w fun e w'=>∃ A c A2 c2,e=.returned (.agg #[.slice A CS.length c,.int .i64 6,.int .i64 6,.slice A2 CU.length c2,.int .i64 3])∧CS.length<=c∧CU.length<=c2∧Kd.C Bf w' A CS.length CS∧Kd.C jW w' A2 CU.length CU∧Below w.heap.size w w' :=
 (qZ.calls CS 6 6 CU 3 w qfh).mono fun e w' h=>by
  obtain ⟨v,v3,rfl,ho,ho2,hx⟩:=h;obtain ⟨A,c,rfl,hl,hC⟩:=Kd.CY ho;obtain ⟨A2,c2,rfl,hl2,hC2⟩:=Kd.fE ho2;exact ⟨A,c,A2,c2,rfl,hl,hl2,hC,hC2,hx⟩
theorem I7 (A0:Option Addr) (c0:Nat) (A1:Option Addr) (c1:Nat) (A3:Option Addr) (c3:Nat) (A2:Option Addr) (c2:Nat) (w:World) (h0:Kd.C iG w A0 uT.length uT) (l0:uT.length<=c0) (h1:Kd.C Bf w A1 CS.length CS) (l1:CS.length<=c1) (h3:Kd.C jW w A3 CU.length CU) (l3:CU.length<=c3) (h2:Kd.C kS w A2 Sj.length Sj) (l2:Sj.length<=c2) :
  Calls Tryz.prog 48 #[.agg #[.slice A0 uT.length c0],.agg #[.slice A1 CS.length c1,.int .i64 6,.int .i64 6,.slice A3 CU.length c3,.int .i64 3],.slice A2 Sj.length c2] w fun e w'=>e=.returned (.tuple #[.int .i64 2,.int .i64 0])∧Below w.heap.size w w' :=
 xU.calls A0 c0 uT A1 c1 CS 6 6 A3 c3 CU 3 A2 c2 Sj 2 0 w h0 l0 h1 l1 h3 l3 h2 l2 Yy
theorem Lg (A0:Option Addr) (c0:Nat) (A1:Option Addr) (c1:Nat) (w:World) (h0:Kd.C jW w A0 exS.length exS) (l0:exS.length<=c0) (h1:Kd.C (Kd.int .i64) w A1 3 [10,14,17]) (l1:3<=c1:=by decide) :
  Calls Tryz.prog 53 #[.agg #[.int .i64 2,.int .i64 3,.int .i64 1,.slice A0 exS.length c0],.slice A1 3 c1,.int .i64 2] w fun e w'=>∃ A c,e=.returned (.tuple #[.slice A R3.length c,.int .i64 0])∧R3.length<=c∧Kd.C (Kd.int .i64) w' A R3.length R3∧Below w.heap.size w w' :=
 (DJ.calls 2 3 1 A0 c0 exS A1 c1 [10,14,17] 2 R3 0 w h0 l0 h1 l1 qb0).mono fun e w' h=>by
  obtain ⟨v,rfl,ho,hx⟩:=h;obtain ⟨A,c,rfl,hl,hC⟩:=Kd.fE ho;exact ⟨A,c,rfl,hl,hC,hx⟩
theorem E5 (A0:Option Addr) (c0:Nat) (A1:Option Addr) (c1:Nat) (w:World) (h0:Kd.C jW w A0 exS.length exS) (l0:exS.length<=c0) (h1:Kd.C (Kd.int .i64) w A1 3 [0,0,1]) (l1:3<=c1:=by decide) :
  Calls Tryz.prog 54 #[.agg #[.int .i64 2,.int .i64 3,.int .i64 1,.slice A0 exS.length c0],.slice A1 3 c1] w fun e w'=>∃ A c,e=.returned (.tuple #[.slice A exS.length c,.agg #[.int .i64 2,.int .i64 3],.int .i64 0])∧exS.length<=c∧Kd.C jW w' A exS.length exS∧Below w.heap.size w w' :=
 (tO.calls 2 3 1 A0 c0 exS A1 c1 [0,0,1] exS 2 3 0 w h0 l0 h1 l1 RX).mono fun e w' h=>by
  obtain ⟨v,rfl,ho,hx⟩:=h;obtain ⟨A,c,rfl,hl,hC⟩:=Kd.fE ho;exact ⟨A,c,rfl,hl,hC,hx⟩
theorem BH (A0:Option Addr) (c0:Nat) (w:World) (h0:Kd.C jW w A0 exS.length exS) (l0:exS.length<=c0) :
  Calls Tryz.prog 64 #[.agg #[.int .i64 2,.int .i64 3,.int .i64 1,.slice A0 exS.length c0],.int .i64 1,.int .i64 2] w fun e w'=>e=.returned (.tuple #[.int .i64 2,.int .i64 0])∧Below w.heap.size w w' :=
 pJ.calls 2 3 1 A0 c0 exS 1 2 2 0 w h0 l0 Lf
theorem FJ (A0:Option Addr) (c0:Nat) (w:World) (h0:Kd.C iG w A0 uT.length uT) (l0:uT.length<=c0) :
  Calls Tryz.prog 60 #[.agg #[.slice A0 uT.length c0],.slice none 0 0] w fun e w'=>e=.returned (.tuple #[.string I5,.int .i64 0])∧Below w.heap.size w w' :=
 yI.calls A0 c0 uT none 0 [] I5 0 w h0 l0 (Kd.Oh _ _) (Nat.le_refl _) Vk
theorem Lh (w:World):Calls Tryz.prog 28 #[] w fun e w'=>e=.returned (.bool true)∧Below w.heap.size w w':=by
 have HX:=Bx.nil w;have jY:=Tryz.underlying37
 go_enter Tryz.func28,Tryz.ntmps28
 go_wp2_with (first|fail)
 refine (sM _).mono ?_;rintro e w1 ⟨Ah1,FC,rfl,qks,hC,hx⟩;replace HX:=HX.step hx;clear hx;have Hh1:=aj.mk hC;clear hC
 go_wp2_with (first|fail)
 refine (BF _).mono ?_;rintro e w1 ⟨Aa1,ca1,rfl,qkt,hC,hx⟩;replace HX:=HX.step hx;replace Hh1:=aj.mk (Kd.ak Hh1.out hx);clear hx;have Ha1:=aj.mk hC;clear hC
 go_wp2_with (first|fail)
 refine (FE _ _ _ _ _ Hh1.out qks Ha1.out qkt).mono ?_;rintro e w1 ⟨Ak1,ck1,rfl,qku,hC,hx⟩;replace HX:=HX.step hx;replace Hh1:=aj.mk (Kd.ak Hh1.out hx);replace Ha1:=aj.mk (Kd.ak Ha1.out hx);clear hx;have jm:=aj.mk hC;clear hC;clear Hh1;clear Ha1
 go_wp2_with (first|fail)
 refine (sM _).mono ?_;rintro e w1 ⟨Ah2,J8,rfl,qkv,hC,hx⟩;replace HX:=HX.step hx;replace jm:=aj.mk (Kd.ak jm.out hx);clear hx;have VR:=aj.mk hC;clear hC
 go_wp2_with (first|fail)
 refine (Cx _).mono ?_;rintro e w1 ⟨Ag2,cg2,rfl,qkw,hC,hx⟩;replace HX:=HX.step hx;replace jm:=aj.mk (Kd.ak jm.out hx);replace VR:=aj.mk (Kd.ak VR.out hx);clear hx;have Z4:=aj.mk hC;clear hC
 go_wp2_with (first|fail)
 refine (BF _).mono ?_;rintro e w1 ⟨Aa2,ca2,rfl,qkx,hC,hx⟩;replace HX:=HX.step hx;replace jm:=aj.mk (Kd.ak jm.out hx);replace VR:=aj.mk (Kd.ak VR.out hx);replace Z4:=aj.mk (Kd.ak Z4.out hx);clear hx;have Ha2:=aj.mk hC;clear hC
 go_wp2_with (first|fail)
 refine (BG _).mono ?_;rintro e w1 ⟨Ab2,cb2,rfl,qky,hC,hx⟩;replace HX:=HX.step hx;replace jm:=aj.mk (Kd.ak jm.out hx);replace VR:=aj.mk (Kd.ak VR.out hx);replace Z4:=aj.mk (Kd.ak Z4.out hx);replace Ha2:=aj.mk (Kd.ak Ha2.out hx);clear hx;have Hb2:=aj.mk hC;clear hC
 go_wp2_with (first|fail)
 refine (FH _ _ _ _ _ _ _ _ _ VR.out qkv Z4.out qkw Ha2.out qkx Hb2.out qky).mono ?_;rintro e w1 ⟨rfl,hx⟩;replace HX:=HX.step hx;replace jm:=aj.mk (Kd.ak jm.out hx);replace VR:=aj.mk (Kd.ak VR.out hx);replace Z4:=aj.mk (Kd.ak Z4.out hx);replace Ha2:=aj.mk (Kd.ak Ha2.out hx);replace Hb2:=aj.mk (Kd.ak Hb2.out hx);clear hx;clear VR;clear Z4;clear Ha2;clear Hb2
 go_wp2_with (first|fail|((with_reducible refine au (N:=3) rfl ?_);refine newX rfl rfl HX (cs:=#[.int .i64 0,.int .i64 0]) (t:=37) tG ?_;clear HX;intro g3 w3 HX hy hz)|((with_reducible refine aY (t:=37) (p:=3) rfl ?_);refine jZ rfl rfl rfl HX 0 rfl (i:=0) (.agg #[.int .i64 (-15),.int .i64 (-12)]) [.int .i64 (-15),.int .i64 (-12)] #[.int .i64 (-15),.int .i64 (-12)] rfl rfl rfl tX (by simp) (by simp [Value.oneCell']) rfl ?_;clear HX;intro w9 HX hg;dsimp only [List.set] at HX;have hx:=(stepG ⟨hy⟩ hg ⟨hz⟩).out;replace jm:=aj.mk (Kd.ak jm.out hx);clear hx hy hz hg))
 refine (sM _).mono ?_;rintro e w1 ⟨Ah3,ch3,rfl,qkz,hC,hx⟩;replace HX:=HX.step hx;replace jm:=aj.mk (Kd.ak jm.out hx);clear hx;have Lx:=aj.mk hC;clear hC
 go_wp2_with (first|fail)
 refine (Cy _).mono ?_;rintro e w1 ⟨Ad3,vO,rfl,qkA,hC,hx⟩;replace HX:=HX.step hx;replace jm:=aj.mk (Kd.ak jm.out hx);replace Lx:=aj.mk (Kd.ak Lx.out hx);clear hx;have QA:=aj.mk hC;clear hC
 go_wp2_with (first|fail)
 refine (Cx _).mono ?_;rintro e w1 ⟨Aq3,cq3,rfl,qkB,hC,hx⟩;replace HX:=HX.step hx;replace jm:=aj.mk (Kd.ak jm.out hx);replace Lx:=aj.mk (Kd.ak Lx.out hx);replace QA:=aj.mk (Kd.ak QA.out hx);clear hx;have Sk:=aj.mk hC;clear hC
 go_wp2_with (first|fail|((with_reducible refine au (N:=38) rfl ?_);refine wE rfl rfl HX (ob:=.cells #[.slice Ad3 mV.length vO,.slice Aq3 mU.length cq3] 49 (0,0)) (fun g=>.slice (some ⟨g,0,none⟩) 2 2) tG ?_;clear HX;intro gl3 yO HX hx hz;replace jm:=aj.mk (Kd.ak jm.out hx);replace Lx:=aj.mk (Kd.ak Lx.out hx);replace QA:=aj.mk (Kd.ak QA.out hx);replace Sk:=aj.mk (Kd.ak Sk.out hx);clear hx hz))
 refine (BF _).mono ?_;rintro e w1 ⟨Aa3,ca3,rfl,qkC,hC,hx⟩;replace HX:=HX.step hx;replace jm:=aj.mk (Kd.ak jm.out hx);replace Lx:=aj.mk (Kd.ak Lx.out hx);replace QA:=aj.mk (Kd.ak QA.out hx);replace Sk:=aj.mk (Kd.ak Sk.out hx);clear hx;have Z5:=aj.mk hC;clear hC
 go_wp2_with (first|fail)
 refine (BG _).mono ?_;rintro e w1 ⟨Ab3,cb3,rfl,qkD,hC,hx⟩;replace HX:=HX.step hx;replace jm:=aj.mk (Kd.ak jm.out hx);replace Lx:=aj.mk (Kd.ak Lx.out hx);replace QA:=aj.mk (Kd.ak QA.out hx);replace Sk:=aj.mk (Kd.ak Sk.out hx);replace Z5:=aj.mk (Kd.ak Z5.out hx);clear hx;have Hb3:=aj.mk hC;clear hC
 go_wp2_with (first|fail)
 refine (AB 4 _).mono ?_;rintro e w1 ⟨rfl,hx⟩;replace HX:=HX.step hx;replace jm:=aj.mk (Kd.ak jm.out hx);replace Lx:=aj.mk (Kd.ak Lx.out hx);replace QA:=aj.mk (Kd.ak QA.out hx);replace Sk:=aj.mk (Kd.ak Sk.out hx);replace Z5:=aj.mk (Kd.ak Z5.out hx);replace Hb3:=aj.mk (Kd.ak Hb3.out hx);clear hx
 go_wp2_with (first|fail)
 refine (FI _ _ _ _ _ _ _ _ Lx.out qkz (qfk (HX.gb 0 rfl) QA.out qkA Sk.out qkB) Z5.out qkC Hb3.out qkD).mono ?_;rintro e w1 ⟨Ak2,ck2,rfl,hlk2,hC,hx⟩;replace HX:=HX.step hx;replace jm:=aj.mk (Kd.ak jm.out hx);replace Lx:=aj.mk (Kd.ak Lx.out hx);replace QA:=aj.mk (Kd.ak QA.out hx);replace Sk:=aj.mk (Kd.ak Sk.out hx);replace Z5:=aj.mk (Kd.ak Z5.out hx);replace Hb3:=aj.mk (Kd.ak Hb3.out hx);clear hx;have mG:=aj.mk hC;clear hC;clear Lx;clear QA;clear Sk;clear Z5;clear Hb3
 go_wp2_with (first|fail)
 refine (sM _).mono ?_;rintro e w1 ⟨Ah4,ch4,rfl,qkE,hC,hx⟩;replace HX:=HX.step hx;replace jm:=aj.mk (Kd.ak jm.out hx);replace mG:=aj.mk (Kd.ak mG.out hx);clear hx;have VT:=aj.mk hC;clear hC
 go_wp2_with (first|fail)
 refine (Cy _).mono ?_;rintro e w1 ⟨Ad4,wC,rfl,qkF,hC,hx⟩;replace HX:=HX.step hx;replace jm:=aj.mk (Kd.ak jm.out hx);replace mG:=aj.mk (Kd.ak mG.out hx);replace VT:=aj.mk (Kd.ak VT.out hx);clear hx;have Z6:=aj.mk hC;clear hC
 go_wp2_with (first|fail)
 refine (BG _).mono ?_;rintro e w1 ⟨Ab4,cb4,rfl,qkG,hC,hx⟩;replace HX:=HX.step hx;replace jm:=aj.mk (Kd.ak jm.out hx);replace mG:=aj.mk (Kd.ak mG.out hx);replace VT:=aj.mk (Kd.ak VT.out hx);replace Z6:=aj.mk (Kd.ak Z6.out hx);clear hx;have Hb4:=aj.mk hC;clear hC
 go_wp2_with (first|fail)
 refine (pK 18 30 _).mono ?_;rintro e w1 ⟨rfl,hx⟩;replace HX:=HX.step hx;replace jm:=aj.mk (Kd.ak jm.out hx);replace mG:=aj.mk (Kd.ak mG.out hx);replace VT:=aj.mk (Kd.ak VT.out hx);replace Z6:=aj.mk (Kd.ak Z6.out hx);replace Hb4:=aj.mk (Kd.ak Hb4.out hx);clear hx
 go_wp2_with (first|fail)
 refine (I6 _ _ _ _ _ _ _ VT.out qkE Z6.out qkF Hb4.out qkG).mono ?_;rintro e w1 ⟨rfl,hx⟩;replace HX:=HX.step hx;replace jm:=aj.mk (Kd.ak jm.out hx);replace mG:=aj.mk (Kd.ak mG.out hx);replace VT:=aj.mk (Kd.ak VT.out hx);replace Z6:=aj.mk (Kd.ak Z6.out hx);replace Hb4:=aj.mk (Kd.ak Hb4.out hx);clear hx;clear VT;clear Z6;clear Hb4
 go_wp2_with (first|fail|((with_reducible refine au (N:=7) rfl ?_);refine newX rfl rfl HX (cs:=#[.int .i64 0,.int .i64 0]) (t:=37) tG ?_;clear HX;intro g7 w7 HX hy hz)|((with_reducible refine aY (t:=37) (p:=7) rfl ?_);refine jZ rfl rfl rfl HX 0 rfl (i:=0) (.agg #[.int .i64 2,.int .i64 3]) [.int .i64 2,.int .i64 3] #[.int .i64 2,.int .i64 3] rfl rfl rfl tX (by simp) (by simp [Value.oneCell']) rfl ?_;clear HX;intro w9 HX hg;dsimp only [List.set] at HX;have hx:=(stepG ⟨hy⟩ hg ⟨hz⟩).out;replace jm:=aj.mk (Kd.ak jm.out hx);replace mG:=aj.mk (Kd.ak mG.out hx);clear hx hy hz hg))
 refine (sM _).mono ?_;rintro e w1 ⟨Ah5,ch5,rfl,qkH,hC,hx⟩;replace HX:=HX.step hx;replace jm:=aj.mk (Kd.ak jm.out hx);replace mG:=aj.mk (Kd.ak mG.out hx);clear hx;have Z7:=aj.mk hC;clear hC
 go_wp2_with (first|fail)
 refine (R5 _).mono ?_;rintro e w1 ⟨Ac5,cc5,Ae5,ce5,rfl,qkI,qkJ,hC,hC2,hx⟩;replace HX:=HX.step hx;replace jm:=aj.mk (Kd.ak jm.out hx);replace mG:=aj.mk (Kd.ak mG.out hx);replace Z7:=aj.mk (Kd.ak Z7.out hx);clear hx;have Hc5:=aj.mk hC;have He5:=aj.mk hC2;clear hC hC2
 go_wp2_with (first|fail)
 refine (RY _).mono ?_;rintro e w1 ⟨Al5,cl5,rfl,qkK,hC,hx⟩;replace HX:=HX.step hx;replace jm:=aj.mk (Kd.ak jm.out hx);replace mG:=aj.mk (Kd.ak mG.out hx);replace Z7:=aj.mk (Kd.ak Z7.out hx);replace Hc5:=aj.mk (Kd.ak Hc5.out hx);replace He5:=aj.mk (Kd.ak He5.out hx);clear hx;have Hl5:=aj.mk hC;clear hC
 go_wp2_with (first|fail)
 refine (I7 _ _ _ _ _ _ _ _ _ Z7.out qkH Hc5.out qkI He5.out qkJ Hl5.out qkK).mono ?_;rintro e w1 ⟨rfl,hx⟩;replace HX:=HX.step hx;replace jm:=aj.mk (Kd.ak jm.out hx);replace mG:=aj.mk (Kd.ak mG.out hx);replace Z7:=aj.mk (Kd.ak Z7.out hx);replace Hc5:=aj.mk (Kd.ak Hc5.out hx);replace He5:=aj.mk (Kd.ak He5.out hx);replace Hl5:=aj.mk (Kd.ak Hl5.out hx);clear hx;clear Z7;clear Hc5;clear He5;clear Hl5
 go_wp2_with (first|fail)
 refine (yK _).mono ?_;rintro e w1 ⟨As6,cs6,rfl,qkL,hC,hx⟩;replace HX:=HX.step hx;replace jm:=aj.mk (Kd.ak jm.out hx);replace mG:=aj.mk (Kd.ak mG.out hx);clear hx;have Hs6:=aj.mk hC;clear hC
 go_wp2_with (first|fail|((with_reducible refine au (N:=62) rfl ?_);refine wE rfl rfl HX (ob:=.cells #[.int .i64 10,.int .i64 14,.int .i64 17] 3 (0,0)) (fun g=>.slice (some ⟨g,0,none⟩) 3 3) tG ?_;clear HX;intro gl6 yO HX hx hz;replace jm:=aj.mk (Kd.ak jm.out hx);replace mG:=aj.mk (Kd.ak mG.out hx);replace Hs6:=aj.mk (Kd.ak Hs6.out hx);clear hx hz))
 refine (Lg _ _ _ _ _ Hs6.out qkL (Vr [10,14,17] (HX.gb 0 rfl) (by decide))).mono ?_;rintro e w1 ⟨Ak3,ck3,rfl,qkM,hC,hx⟩;replace HX:=HX.step hx;replace jm:=aj.mk (Kd.ak jm.out hx);replace mG:=aj.mk (Kd.ak mG.out hx);replace Hs6:=aj.mk (Kd.ak Hs6.out hx);clear hx;have tQ:=aj.mk hC;clear hC;clear Hs6
 go_wp2_with (first|fail)
 refine (yK _).mono ?_;rintro e w1 ⟨As7,cs7,rfl,qkN,hC,hx⟩;replace HX:=HX.step hx;replace jm:=aj.mk (Kd.ak jm.out hx);replace mG:=aj.mk (Kd.ak mG.out hx);replace tQ:=aj.mk (Kd.ak tQ.out hx);clear hx;have Hs7:=aj.mk hC;clear hC
 go_wp2_with (first|fail|((with_reducible refine au (N:=68) rfl ?_);refine wE rfl rfl HX (ob:=.cells #[.int .i64 0,.int .i64 0,.int .i64 1] 3 (0,0)) (fun g=>.slice (some ⟨g,0,none⟩) 3 3) tG ?_;clear HX;intro gl7 yO HX hx hz;replace jm:=aj.mk (Kd.ak jm.out hx);replace mG:=aj.mk (Kd.ak mG.out hx);replace tQ:=aj.mk (Kd.ak tQ.out hx);replace Hs7:=aj.mk (Kd.ak Hs7.out hx);clear hx hz))
 refine (E5 _ _ _ _ _ Hs7.out qkN (Vr [0,0,1] (HX.gb 0 rfl) (by decide))).mono ?_;rintro e w1 ⟨Ak4,ck4,rfl,qkO,hC,hx⟩;replace HX:=HX.step hx;replace jm:=aj.mk (Kd.ak jm.out hx);replace mG:=aj.mk (Kd.ak mG.out hx);replace tQ:=aj.mk (Kd.ak tQ.out hx);replace Hs7:=aj.mk (Kd.ak Hs7.out hx);clear hx;have vN:=aj.mk hC;clear hC;clear Hs7
 go_wp2_with (first|fail|((with_reducible refine au (N:=14) rfl ?_);refine newX rfl rfl HX (cs:=#[.int .i64 0,.int .i64 0]) (t:=37) tG ?_;clear HX;intro g14 R8 HX hy hz)|((with_reducible refine aY (t:=37) (p:=14) rfl ?_);refine jZ rfl rfl rfl HX 0 rfl (i:=0) (.agg #[.int .i64 2,.int .i64 3]) [.int .i64 2,.int .i64 3] #[.int .i64 2,.int .i64 3] rfl rfl rfl tX (by simp) (by simp [Value.oneCell']) rfl ?_;clear HX;intro w9 HX hg;dsimp only [List.set] at HX;have hx:=(stepG ⟨hy⟩ hg ⟨hz⟩).out;replace jm:=aj.mk (Kd.ak jm.out hx);replace mG:=aj.mk (Kd.ak mG.out hx);replace tQ:=aj.mk (Kd.ak tQ.out hx);replace vN:=aj.mk (Kd.ak vN.out hx);clear hx hy hz hg))
 refine (yK _).mono ?_;rintro e w1 ⟨As8,cs8,rfl,qkP,hC,hx⟩;replace HX:=HX.step hx;replace jm:=aj.mk (Kd.ak jm.out hx);replace mG:=aj.mk (Kd.ak mG.out hx);replace tQ:=aj.mk (Kd.ak tQ.out hx);replace vN:=aj.mk (Kd.ak vN.out hx);clear hx;have Hs8:=aj.mk hC;clear hC
 go_wp2_with (first|fail)
 refine (BH _ _ _ Hs8.out qkP).mono ?_;rintro e w1 ⟨rfl,hx⟩;replace HX:=HX.step hx;replace jm:=aj.mk (Kd.ak jm.out hx);replace mG:=aj.mk (Kd.ak mG.out hx);replace tQ:=aj.mk (Kd.ak tQ.out hx);replace vN:=aj.mk (Kd.ak vN.out hx);replace Hs8:=aj.mk (Kd.ak Hs8.out hx);clear hx;clear Hs8
 go_wp2_with (first|fail)
 refine (sM _).mono ?_;rintro e w1 ⟨Ah9,ch9,rfl,qkQ,hC,hx⟩;replace HX:=HX.step hx;replace jm:=aj.mk (Kd.ak jm.out hx);replace mG:=aj.mk (Kd.ak mG.out hx);replace tQ:=aj.mk (Kd.ak tQ.out hx);replace vN:=aj.mk (Kd.ak vN.out hx);clear hx;have Hh9:=aj.mk hC;clear hC
 go_wp2_with (first|fail)
 refine (FJ _ _ _ Hh9.out qkQ).mono ?_;rintro e w1 ⟨rfl,hx⟩;replace HX:=HX.step hx;replace jm:=aj.mk (Kd.ak jm.out hx);replace mG:=aj.mk (Kd.ak mG.out hx);replace tQ:=aj.mk (Kd.ak tQ.out hx);replace vN:=aj.mk (Kd.ak vN.out hx);replace Hh9:=aj.mk (Kd.ak Hh9.out hx);clear hx;clear Hh9
 go_wp2_with (first|fail)
 have hxd:=fC (Below.refl w1.heap.size w1);refine kK (n:=26) (S:=fun w'=>w'.cell? ⟨g3,0,none⟩=some (.int .i64 (-15))∧w'.cell? ⟨g3,1,none⟩=some (.int .i64 (-12))∧w'.cell? ⟨g7,0,none⟩=some (.int .i64 2)∧w'.cell? ⟨g7,1,none⟩=some (.int .i64 3)) (ds:=[]) #[false,false,false,false,false,false,false,false,false,false,false,false,false,false,false,false,false,false,false,false,false,false,false,false,false,false] tX rfl rfl ⟨(HX.g2 5 rfl).1,(HX.g2 5 rfl).2,(HX.g2 3 rfl).1,(HX.g2 3 rfl).2⟩ (fun hHeld=>?_);replace HX:=HX.step hxd;replace jm:=aj.mk (Kd.ak jm.out hxd);replace mG:=aj.mk (Kd.ak mG.out hxd);replace tQ:=aj.mk (Kd.ak tQ.out hxd);replace vN:=aj.mk (Kd.ak vN.out hxd);clear hxd
 generalize w1.drew=w2 at *
 refine qB1 0 117 (bA 26 1) ?_;refine gZ (i:=1) (N:=some 118) (bA 26 3) rfl rfl tX (by decide) (fun K hK=>?_);refine gK Tryz.func67 tX rfl #[.int .i64 8,.int .i64 15] (by rfl) rfl rfl (by (try simp only [List.map_toArray,List.map_cons,List.map_nil]);first|done|rfl) ?_;refine (pK 8 15 _).mono ?_;rintro e w1 ⟨rfl,hx⟩;refine ⟨_,rfl,?_⟩;replace HX:=HX.step hx;replace jm:=aj.mk (Kd.ak jm.out hx);replace mG:=aj.mk (Kd.ak mG.out hx);replace tQ:=aj.mk (Kd.ak tQ.out hx);replace vN:=aj.mk (Kd.ak vN.out hx);clear hx;refine hK.out _ _ ⟨(HX.g2 5 rfl).1,(HX.g2 5 rfl).2,(HX.g2 3 rfl).1,(HX.g2 3 rfl).2⟩ (fun hHeld=>?_);clear hK K;refine dn (a':=?_) ?_ ?_;rotate_left
 ·show Act.put _ (some 118) _=_
  simp only [bS,Act.put,sL,ay,aA]
  rfl
 refine gZ (i:=2) (N:=some 119) (bA 26 7) rfl rfl tX (by decide) (fun K hK=>?_);refine gK Tryz.func66 tX rfl #[.int .i64 6] (by rfl) rfl rfl (by (try simp only [List.map_toArray,List.map_cons,List.map_nil]);first|done|rfl) ?_;refine (AB 6 _).mono ?_;rintro e w1 ⟨rfl,hx⟩;refine ⟨_,rfl,?_⟩;replace HX:=HX.step hx;replace jm:=aj.mk (Kd.ak jm.out hx);replace mG:=aj.mk (Kd.ak mG.out hx);replace tQ:=aj.mk (Kd.ak tQ.out hx);replace vN:=aj.mk (Kd.ak vN.out hx);clear hx;refine hK.out _ _ ⟨(HX.g2 5 rfl).1,(HX.g2 5 rfl).2,(HX.g2 3 rfl).1,(HX.g2 3 rfl).2⟩ (fun hHeld=>?_);clear hK K;refine dn (a':=?_) ?_ ?_;rotate_left
 ·show Act.put _ (some 119) _=_
  simp only [bS,Act.put,sL,ay,aA]
  rfl
 refine gZ (i:=3) (N:=some 120) (bA 26 15) rfl rfl tX (by decide) (fun K hK=>?_);refine pX (by rfl) (v:=.slice (some ⟨w1.heap.size,0,none⟩) 2 2) (w1:=w1.alloc (.cells #[.int .i64 8,.int .i64 15,.int .i64 6,.int .i64 6] 37 (0,0))) tG ?_;have hx:=fH (Below.refl w1.heap.size w1) (.cells #[.int .i64 8,.int .i64 15,.int .i64 6,.int .i64 6] 37 (0,0));replace HX:=HX.add (Nat.le_refl _) hx (uj w1 _);replace jm:=aj.mk (Kd.ak jm.out hx);replace mG:=aj.mk (Kd.ak mG.out hx);replace tQ:=aj.mk (Kd.ak tQ.out hx);replace vN:=aj.mk (Kd.ak vN.out hx);clear hx;refine hK.out _ _ ⟨(HX.g2 6 rfl).1,(HX.g2 6 rfl).2,(HX.g2 4 rfl).1,(HX.g2 4 rfl).2⟩ (fun hHeld=>?_);clear hK K
 generalize w1.alloc (.cells #[.int .i64 8,.int .i64 15,.int .i64 6,.int .i64 6] 37 (0,0))=w3 at *
 generalize w1.heap.size=gb1 at *
 refine dn (a':=?_) ?_ ?_;rotate_left
 ·show Act.put _ (some 120) _=_
  simp only [bS,Act.put,sL,ay,aA]
  rfl
 refine gZ (i:=4) (N:=some 121) (bA 26 31) rfl rfl tX (by decide) (fun K hK=>?_);refine gK Tryz.func32 tX rfl #[.slice Ak1 R4.length ck1,.slice (some ⟨gb1,0,none⟩) 2 2] (by rfl) rfl rfl (by (try simp only [List.map_toArray,List.map_cons,List.map_nil]);first|done|rfl) ?_;refine (YA _ _ _ _ jm.out qku (HX.gb 0 rfl)).mono ?_;rintro e w1 ⟨rfl,hx⟩;refine ⟨_,rfl,?_⟩;replace HX:=HX.step hx;replace jm:=aj.mk (Kd.ak jm.out hx);replace mG:=aj.mk (Kd.ak mG.out hx);replace tQ:=aj.mk (Kd.ak tQ.out hx);replace vN:=aj.mk (Kd.ak vN.out hx);clear hx;refine hK.out _ _ ⟨(HX.g2 6 rfl).1,(HX.g2 6 rfl).2,(HX.g2 4 rfl).1,(HX.g2 4 rfl).2⟩ (fun hHeld=>?_);clear hK K;refine dn (a':=?_) ?_ ?_;rotate_left
 ·show Act.put _ (some 121) _=_
  simp only [bS,Act.put,sL,ay,aA]
  rfl
 refine qB1 5 122 (bA 26 63) ?_;refine qB1 6 123 (bA 26 127) ?_;refine qzF 7 124 (bA 26 255) hHeld ?_;refine gZ (i:=8) (N:=some 125) (bA 26 511) rfl rfl tX (by decide) (fun K hK=>?_);refine gK Tryz.func67 tX rfl #[.int .i64 (-15),.int .i64 (-12)] (by rfl) rfl rfl (by (try simp only [List.map_toArray,List.map_cons,List.map_nil]);first|done|rfl) ?_;refine (pK (-15) (-12) _).mono ?_;rintro e w1 ⟨rfl,hx⟩;refine ⟨_,rfl,?_⟩;replace HX:=HX.step hx;replace jm:=aj.mk (Kd.ak jm.out hx);replace mG:=aj.mk (Kd.ak mG.out hx);replace tQ:=aj.mk (Kd.ak tQ.out hx);replace vN:=aj.mk (Kd.ak vN.out hx);clear hx;refine hK.out _ _ ⟨(HX.g2 6 rfl).1,(HX.g2 6 rfl).2,(HX.g2 4 rfl).1,(HX.g2 4 rfl).2⟩ (fun hHeld=>?_);clear hK K;refine dn (a':=?_) ?_ ?_;rotate_left
 ·show Act.put _ (some 125) _=_
  simp only [bS,Act.put,sL,ay,aA]
  rfl
 refine qB1 9 126 (bA 26 1023) ?_;refine qB1 10 127 (bA 26 2047) ?_;refine qB1 11 128 (bA 26 4095) ?_;refine qB1 12 129 (bA 26 8191) ?_;refine gZ (i:=13) (N:=some 130) (bA 26 16383) rfl rfl tX (by decide) (fun K hK=>?_);refine pX (by rfl) (v:=.slice (some ⟨w1.heap.size,0,none⟩) 2 2) (w1:=w1.alloc (.cells #[.int .i64 2,.int .i64 1] 88 (0,0))) tG ?_;have hx:=fH (Below.refl w1.heap.size w1) (.cells #[.int .i64 2,.int .i64 1] 88 (0,0));replace HX:=HX.add (Nat.le_refl _) hx (uj w1 _);replace jm:=aj.mk (Kd.ak jm.out hx);replace mG:=aj.mk (Kd.ak mG.out hx);replace tQ:=aj.mk (Kd.ak tQ.out hx);replace vN:=aj.mk (Kd.ak vN.out hx);clear hx;refine hK.out _ _ ⟨(HX.g2 7 rfl).1,(HX.g2 7 rfl).2,(HX.g2 5 rfl).1,(HX.g2 5 rfl).2⟩ (fun hHeld=>?_);clear hK K
 generalize w1.alloc (.cells #[.int .i64 2,.int .i64 1] 88 (0,0))=w3 at *
 generalize w1.heap.size=gb2 at *
 refine dn (a':=?_) ?_ ?_;rotate_left
 ·show Act.put _ (some 130) _=_
  simp only [bS,Act.put,sL,ay,aA]
  rfl
 refine gZ (i:=14) (N:=some 131) (bA 26 32767) rfl rfl tX (by decide) (fun K hK=>?_);refine gK Tryz.func38 tX rfl #[.slice Ak2 RZ.length ck2,.slice (some ⟨gb2,0,none⟩) 2 2] (by rfl) rfl rfl (by (try simp only [List.map_toArray,List.map_cons,List.map_nil]);first|done|rfl) ?_;refine (YB _ _ _ _ mG.out hlk2 (HX.gb 0 rfl)).mono ?_;rintro e w1 ⟨rfl,hx⟩;refine ⟨_,rfl,?_⟩;replace HX:=HX.step hx;replace jm:=aj.mk (Kd.ak jm.out hx);replace mG:=aj.mk (Kd.ak mG.out hx);replace tQ:=aj.mk (Kd.ak tQ.out hx);replace vN:=aj.mk (Kd.ak vN.out hx);clear hx;refine hK.out _ _ ⟨(HX.g2 7 rfl).1,(HX.g2 7 rfl).2,(HX.g2 5 rfl).1,(HX.g2 5 rfl).2⟩ (fun hHeld=>?_);clear hK K;refine dn (a':=?_) ?_ ?_;rotate_left
 ·show Act.put _ (some 131) _=_
  simp only [bS,Act.put,sL,ay,aA]
  rfl
 refine qB1 15 132 (bA 26 65535) ?_;refine qB1 16 133 (bA 26 131071) ?_;refine qB1 17 134 (bA 26 262143) ?_;refine qzF 18 135 (bA 26 524287) hHeld ?_;refine gZ (i:=19) (N:=some 136) (bA 26 1048575) rfl rfl tX (by decide) (fun K hK=>?_);refine gK Tryz.func67 tX rfl #[.int .i64 2,.int .i64 3] (by rfl) rfl rfl (by (try simp only [List.map_toArray,List.map_cons,List.map_nil]);first|done|rfl) ?_;refine (pK 2 3 _).mono ?_;rintro e w1 ⟨rfl,hx⟩;refine ⟨_,rfl,?_⟩;replace HX:=HX.step hx;replace jm:=aj.mk (Kd.ak jm.out hx);replace mG:=aj.mk (Kd.ak mG.out hx);replace tQ:=aj.mk (Kd.ak tQ.out hx);replace vN:=aj.mk (Kd.ak vN.out hx);clear hx;refine hK.out _ _ ⟨(HX.g2 7 rfl).1,(HX.g2 7 rfl).2,(HX.g2 5 rfl).1,(HX.g2 5 rfl).2⟩ (fun hHeld=>?_);clear hK K;refine dn (a':=?_) ?_ ?_;rotate_left
 ·show Act.put _ (some 136) _=_
  simp only [bS,Act.put,sL,ay,aA]
  rfl
 refine qB1 20 137 (bA 26 2097151) ?_;refine qB1 21 138 (bA 26 4194303) ?_;refine qB1 22 139 (bA 26 8388607) ?_;refine qB1 23 140 (bA 26 16777215) ?_;refine qB1 24 141 (bA 26 33554431) ?_;refine qB1 25 142 (bA 26 67108863) ?_;refine lK tX ?_
 go_wp2_with (first|fail)
 have hxd:=fC (Below.refl w1.heap.size w1);refine kK (n:=23) (S:=fun w'=>w'.cell? ⟨g14,0,none⟩=some (.int .i64 2)∧w'.cell? ⟨g14,1,none⟩=some (.int .i64 3)) (ds:=[]) #[false,false,false,false,false,false,false,false,false,false,false,false,false,false,false,false,false,false,false,false,false,false,false] tX rfl rfl ⟨(HX.g2 2 rfl).1,(HX.g2 2 rfl).2⟩ (fun hHeld=>?_);replace HX:=HX.step hxd;replace jm:=aj.mk (Kd.ak jm.out hxd);replace mG:=aj.mk (Kd.ak mG.out hxd);replace tQ:=aj.mk (Kd.ak tQ.out hxd);replace vN:=aj.mk (Kd.ak vN.out hxd);clear hxd
 generalize w1.drew=w2 at *
 refine qB1 0 143 (bA 23 1) ?_;have w1E:∃ x,x=w2:=⟨_,rfl⟩;obtain ⟨w1,rfl⟩:=w1E;refine gZ (i:=1) (N:=some 144) (bA 23 3) rfl rfl tX (by decide) (fun K hK=>?_);refine pX (by rfl) (v:=.slice (some ⟨w1.heap.size,0,none⟩) 3 3) (w1:=w1.alloc (.cells #[.int .i64 0,.int .i64 1,.int .i64 1] 3 (0,0))) tG ?_;have hx:=fH (Below.refl w1.heap.size w1) (.cells #[.int .i64 0,.int .i64 1,.int .i64 1] 3 (0,0));replace HX:=HX.add (Nat.le_refl _) hx (uj w1 _);replace jm:=aj.mk (Kd.ak jm.out hx);replace mG:=aj.mk (Kd.ak mG.out hx);replace tQ:=aj.mk (Kd.ak tQ.out hx);replace vN:=aj.mk (Kd.ak vN.out hx);clear hx;refine hK.out _ _ ⟨(HX.g2 3 rfl).1,(HX.g2 3 rfl).2⟩ (fun hHeld=>?_);clear hK K
 generalize w1.alloc (.cells #[.int .i64 0,.int .i64 1,.int .i64 1] 3 (0,0))=w3 at *
 generalize w1.heap.size=gb3 at *
 refine dn (a':=?_) ?_ ?_;rotate_left
 ·show Act.put _ (some 144) _=_
  simp only [bS,Act.put,sL,ay,aA]
  rfl
 refine gZ (i:=2) (N:=some 145) (bA 23 7) rfl rfl tX (by decide) (fun K hK=>?_);refine gK Tryz.func65 tX rfl #[.slice Ak3 R3.length ck3,.slice (some ⟨gb3,0,none⟩) 3 3] (by rfl) rfl rfl (by (try simp only [List.map_toArray,List.map_cons,List.map_nil]);first|done|rfl) ?_;refine (YC _ _ _ _ tQ.out qkM (HX.gb 0 rfl)).mono ?_;rintro e w1 ⟨rfl,hx⟩;refine ⟨_,rfl,?_⟩;replace HX:=HX.step hx;replace jm:=aj.mk (Kd.ak jm.out hx);replace mG:=aj.mk (Kd.ak mG.out hx);replace tQ:=aj.mk (Kd.ak tQ.out hx);replace vN:=aj.mk (Kd.ak vN.out hx);clear hx;refine hK.out _ _ ⟨(HX.g2 3 rfl).1,(HX.g2 3 rfl).2⟩ (fun hHeld=>?_);clear hK K;refine dn (a':=?_) ?_ ?_;rotate_left
 ·show Act.put _ (some 145) _=_
  simp only [bS,Act.put,sL,ay,aA]
  rfl
 refine qB1 3 146 (bA 23 15) ?_;refine qB1 4 147 (bA 23 31) ?_;refine gZ (i:=5) (N:=some 148) (bA 23 63) rfl rfl tX (by decide) (fun K hK=>?_);refine gK Tryz.func104 tX rfl #[] (by rfl) rfl rfl (by (try simp only [List.map_toArray,List.map_cons,List.map_nil]);first|done|rfl) ?_;refine (yK _).mono ?_;rintro e w1 ⟨As9,cs9,rfl,qkT,hC,hx⟩;refine ⟨_,rfl,?_⟩;replace HX:=HX.step hx;replace jm:=aj.mk (Kd.ak jm.out hx);replace mG:=aj.mk (Kd.ak mG.out hx);replace tQ:=aj.mk (Kd.ak tQ.out hx);replace vN:=aj.mk (Kd.ak vN.out hx);clear hx;have Hs9:=aj.mk hC;clear hC;refine hK.out _ _ ⟨(HX.g2 3 rfl).1,(HX.g2 3 rfl).2⟩ (fun hHeld=>?_);clear hK K;refine dn (a':=?_) ?_ ?_;rotate_left
 ·show Act.put _ (some 148) _=_
  simp only [bS,Act.put,sL,ay,aA]
  rfl
 have hfi:∀ W,(Instr.field 67 (.agg #[.int .i64 2,.int .i64 3,.int .i64 1,.slice As9 exS.length cs9]) 2).run Tryz.prog W=.ok (.slice As9 exS.length cs9) W:=fun W=>by kernel_rfl
 refine qB1 6 149 (bA 23 127) ?_;refine gZ (i:=7) (N:=some 150) (bA 23 255) rfl rfl tX (by decide) (fun K hK=>?_);refine gK Tryz.func32 tX rfl #[.slice Ak4 exS.length ck4,.slice As9 exS.length cs9] (by rfl) rfl rfl (by (try simp only [List.map_toArray,List.map_cons,List.map_nil]);first|done|rfl) ?_;refine (YD _ _ _ _ _ vN.out qkO Hs9.out qkT).mono ?_;rintro e w1 ⟨rfl,hx⟩;refine ⟨_,rfl,?_⟩;replace HX:=HX.step hx;replace jm:=aj.mk (Kd.ak jm.out hx);replace mG:=aj.mk (Kd.ak mG.out hx);replace tQ:=aj.mk (Kd.ak tQ.out hx);replace vN:=aj.mk (Kd.ak vN.out hx);replace Hs9:=aj.mk (Kd.ak Hs9.out hx);clear hx;refine hK.out _ _ ⟨(HX.g2 3 rfl).1,(HX.g2 3 rfl).2⟩ (fun hHeld=>?_);clear hK K;refine dn (a':=?_) ?_ ?_;rotate_left
 ·show Act.put _ (some 150) _=_
  simp only [bS,Act.put,sL,ay,aA]
  rfl
 refine qB1 8 151 (bA 23 511) ?_;refine qB1 9 152 (bA 23 1023) ?_;refine qzF 10 153 (bA 23 2047) hHeld ?_;refine gZ (i:=11) (N:=some 154) (bA 23 4095) rfl rfl tX (by decide) (fun K hK=>?_);refine gK Tryz.func67 tX rfl #[.int .i64 2,.int .i64 3] (by rfl) rfl rfl (by (try simp only [List.map_toArray,List.map_cons,List.map_nil]);first|done|rfl) ?_;refine (pK 2 3 _).mono ?_;rintro e w1 ⟨rfl,hx⟩;refine ⟨_,rfl,?_⟩;replace HX:=HX.step hx;replace jm:=aj.mk (Kd.ak jm.out hx);replace mG:=aj.mk (Kd.ak mG.out hx);replace tQ:=aj.mk (Kd.ak tQ.out hx);replace vN:=aj.mk (Kd.ak vN.out hx);replace Hs9:=aj.mk (Kd.ak Hs9.out hx);clear hx;refine hK.out _ _ ⟨(HX.g2 3 rfl).1,(HX.g2 3 rfl).2⟩ (fun hHeld=>?_);clear hK K;refine dn (a':=?_) ?_ ?_;rotate_left
 ·show Act.put _ (some 154) _=_
  simp only [bS,Act.put,sL,ay,aA]
  rfl
 have htx:I5=⟨#[104,111,117,115,101,32,50,32,48,10,100,121,101,32,52,48,32,50,32,51,32,53,32,53,32,56,32,49,48,10,100,121,101,32,50,48,32,49,32,49,32,50,32,50,32,52,32,52,10,101,110,100,32,48,53,54,10]⟩:=rfl;refine qB1 12 155 (bA 23 8191) ?_;refine qB1 13 156 (bA 23 16383) ?_;refine qB1 14 157 (bA 23 32767) ?_;refine qB1 15 158 (bA 23 65535) ?_;refine qB1 16 159 (bA 23 131071) ?_;refine qB1 17 160 (bA 23 262143) ?_;refine qB1 18 161 (bA 23 524287) ?_;refine qB1 19 162 (bA 23 1048575) ?_;refine qB1 20 163 (bA 23 2097151) ?_;refine qB1 21 164 (bA 23 4194303) ?_;refine qB1 22 0 (bA 23 8388607) ?_;refine lK tX ?_
 go_wp2_with (first|fail)
 go_ret
 exact ⟨rfl,HX.below⟩
end Go.Proofs.YtnpfbjnjdngkhaaGreatDoor.P
namespace Go.Proofs.YtnpfbjnjdngkhaaGreatDoor.P
open Go.RowKit Go.Proofs.YtnpfbjnjdngkhaaGreatDoorW.aQ Go.Proofs.YtnpfbjnjdngkhaaGreatDoorW.bO Go.Proofs.YtnpfbjnjdngkhaaGreatDoorW.bT
def kR.f (k:Nat):Option Bool:=some true
theorem kR.mono (k:Nat):Lm (kR.f k) (kR.f (k+1)):=fun r h=>h
theorem kR.calls (k:Nat) (r:Bool) (w:World) (h:kR.f k=some r):Calls Tryz.prog 28 #[] w fun e w'=>e=.returned (.bool r)∧Below w.heap.size w w':=by
 injection h with h
 subst h;exact Lh w
end Go.Proofs.YtnpfbjnjdngkhaaGreatDoor.P
namespace Go.Proofs.YtnpfbjnjdngkhaaGreatDoor.P
open Go.RowKit Go.Proofs.YtnpfbjnjdngkhaaGreatDoorW.aQ Go.Proofs.YtnpfbjnjdngkhaaGreatDoorW.bO Go.Proofs.YtnpfbjnjdngkhaaGreatDoorW.bT
attribute [local go_sem] eP eT fU fV dS dU eU eX
mutual
def bR.l0:Nat->Int->List bI->Option Bool
 | 0,_,_=>none
 | k+1,x3,uH=>if x3<(uH.length:Int) then (bR.j1 k x3 (decide (x3<6)) uH) else (bR.j1 k x3 false uH)
def bR.j1:Nat->Int->Bool->List bI->Option Bool
 | 0,_,_,_=>none
 | k+1,x3,Gb,uH=>if Gb=true then (if 0<=x3 then (if x3<(uH.length:Int) then (if (((aX uH x3).f0).length:Int)>5 then (some false) else (bR.l0 k (wrap64 (x3+1)) uH)) else (none)) else (none)) else (some (decide ((uH.length:Int)<=5)))
end
def bR.f (k:Nat) (av:List bI):Option Bool:=bR.l0 k 0 av
theorem bR.calls (k:Nat) (bC:Option Addr) (aZ:Nat) (av:List bI) (r:Bool) (w:World) (dw:Kd.C iG w bC av.length av) (dG:av.length<=aZ) (h:bR.f k av=some r) :
  Calls Tryz.prog 27 #[.agg #[.slice bC av.length aZ]] w fun e w'=>e=.returned (.bool r)∧Below w.heap.size w w':=by
 have qb:=Tryz.underlying24;have dM:=aj.mk dw;have fu:=aj.mk dG;clear dw dG;have HB:=aj.mk (Below.refl w.heap.size w);have H:(bR.l0 k 0 av)=some r:=h;clear h;have H':=aj.mk H;clear H
 go_enter Tryz.func27,Tryz.ntmps27
 go_wp2_with (first|((with_reducible refine au (N:=1) rfl ?_);refine fA 1 #[.slice bC av.length aZ] 24 HB ?_;clear HB;intro Z8 w2 hg wV qnQ HB hb;clear hb hg))
 go_loopg [3] k (fun kq v3 w'=>∃ (dH:Int),v3=.int .i64 dH∧aj (bR.l0 kq dH av=some r)∧aj (kq<=k)∧aj (w'.heap[Z8]?=some (.cells #[(.slice bC av.length aZ)] 24 (0,0)))∧aj (Below w.heap.size w w'))
 case atStart=>exact ⟨(0),tS,H',⟨Nat.le_refl _⟩,⟨(qB2 wV)⟩,⟨tB⟩⟩
 case round =>
  clear H'
  try clear c2
  try clear p2
  obtain ⟨dH,rfl,HA,qg,wV,HB⟩:=hrel
  cases gk with
  | zero=>exact absurd HA.out (by simp [bR.l0])
  | succ k1 =>
   have H:=HA.out;clear HA;simp only [bR.l0] at H;have R9:=aj.mk H;clear H
   go_upto_region 2 with (fail)
   go_cut [12] (fun v12 wc=>∃ (kq:Nat) (xC:Bool),v12=.bool xC∧aj (bR.j1 kq dH xC av=some r)∧aj (kq<=k1)∧aj (wc.heap[Z8]?=some (.cells #[(.slice bC av.length aZ)] 24 (0,0)))∧aj (Below w.heap.size w wc))
   case first =>
    have H:=R9.out;clear R9
    by_cases c4:dH<(av.length:Int)
    ·rw [if_pos c4] at H
     have pR:decide (dH<(av.length:Int))=true:=decide_eq_true c4;clear c4
     (first|rw [pR]|(simp only [ay,aA];rw [pR])|skip)
     have H':=aj.mk H;clear H;have Bg:=bc1 wV;have Bh:=bf wV 0
     go_wp2
     go_meet
     case rel=>exact ⟨_,(decide (dH<6)),tS,H',⟨by have:=qg.out;first|omega|exact Nat.le_refl _⟩,⟨(qB2 wV)⟩,⟨tB⟩⟩
    ·rw [if_neg c4] at H
     have pR:decide (dH<(av.length:Int))=false:=decide_eq_false c4;clear c4
     (first|rw [pR]|(simp only [ay,aA];rw [pR])|skip)
     have H':=aj.mk H;clear H;have Hu:=bc1 wV;have Hw:=bf wV 0
     go_wp2
     go_meet
     case rel=>exact ⟨_,(false),tS,H',⟨by have:=qg.out;first|omega|exact Nat.le_refl _⟩,⟨(qB2 wV)⟩,⟨tB⟩⟩
   case rest =>
    clear R9
    try clear c2
    try clear p2
    try clear c4
    try clear pR
    try clear Bg
    try clear Hu
    try clear Bh
    try clear Hw
    try clear p2
    obtain ⟨kq,xC,rfl,HA,HJ2,wV,HB⟩:=hcut
    cases kq with
    | zero=>exact absurd HA.out (by simp [bR.j1])
    | succ kj2 =>
     have H:=HA.out;clear HA;simp only [bR.j1] at H
     by_cases c7:xC=true
     ·subst c7
      rw [if_pos rfl] at H
      by_cases c8:0<=dH
      ·rw [if_pos c8] at H
       have Hz:decide (0<=dH)=true:=decide_eq_true c8;clear c8
       by_cases c9:dH<(av.length:Int)
       ·rw [if_pos c9] at H
        have Q9:decide (dH<(av.length:Int))=true:=decide_eq_true c9;clear c9
        by_cases c10:(((aX av dH).f0).length:Int)>5
        ·rw [if_pos c10] at H
         have OJ:decide (5<(((aX av dH).f0).length:Int))=true:=decide_eq_true c10;have Tk:decide (5<((aX av dH).f0).length)=true:=decide_eq_true (by omega);clear c10;obtain rfl:=Option.some.inj H;have yt:=bc1 wV;have yu:=bf wV 0;have NQ:0<=(dH:Int):=of_decide_eq_true tA;have NS:dH<(av.length:Int):=of_decide_eq_true tA;obtain ⟨qfm,qb1,qb2,qb3,AJ,AL,AO,AP⟩:=jd dM.out dH NQ NS
         cases qb3
         replace AJ:=dz HB AJ;replace AL:=dz HB AL;have YE:=aj.mk AP;have YF:=aj.mk AO;clear AP AO;replace NQ:=eq_true NQ;replace NS:=eq_true NS
         go_wp2
         go_ret
         exact ⟨tF,tB⟩
        ·rw [if_neg c10] at H
         have OJ:decide (5<(((aX av dH).f0).length:Int))=false:=decide_eq_false c10;have Tk:decide (5<((aX av dH).f0).length)=false:=decide_eq_false (by omega);clear c10;have H':=aj.mk H;clear H;have yC:=bc1 wV;have yD:=bf wV 0;have NQ:0<=(dH:Int):=of_decide_eq_true tA;have NS:dH<(av.length:Int):=of_decide_eq_true tA;obtain ⟨qfm,qb1,qb2,qb3,AJ,AL,AO,AP⟩:=jd dM.out dH NQ NS
         cases qb3
         replace AJ:=dz HB AJ;replace AL:=dz HB AL;have YE:=aj.mk AP;have YF:=aj.mk AO;clear AP AO;replace NQ:=eq_true NQ;replace NS:=eq_true NS
         go_wp2
         go_roundg kj2
         case measure=>have:=qg.out;have:=HJ2.out;omega
         case rel=>exact ⟨(wrap64 (dH+1)),tS,H',⟨by have:=qg.out;have:=HJ2.out;omega⟩,⟨(qB2 wV)⟩,⟨tB⟩⟩
       ·rw [if_neg c9] at H
        exact absurd H (by simp)
      ·rw [if_neg c8] at H
       exact absurd H (by simp)
     ·replace c7:=Bool.eq_false_iff.mpr c7
      subst c7
      have H1:(some (decide ((av.length:Int)<=5)))=some r:=by rw [if_neg (show ¬ (false=true) by decide)] at H;exact H
      clear H;have H:=H1;clear H1;obtain rfl:=Option.some.inj H;have vS:=bc1 wV;have vT:=bf wV 0
      go_wp2
      go_ret
      exact ⟨tF,tB⟩
end Go.Proofs.YtnpfbjnjdngkhaaGreatDoor.P
namespace Go.Proofs.YtnpfbjnjdngkhaaGreatDoor.P
open Go.RowKit Go.Proofs.YtnpfbjnjdngkhaaGreatDoorW.aQ Go.Proofs.YtnpfbjnjdngkhaaGreatDoorW.bO Go.Proofs.YtnpfbjnjdngkhaaGreatDoorW.bT
open Go.WideShapes
section
variable {H:Type} (enc:TypeId × Value->H) (P:Program) (W:World)
def Op {α:Type} (d:Kd α) (t:TypeId) (G:α->Prop):Prop:=∀ (fuel:Nat) (cs:List Value) (x:DataW H × List MemPlace),DataW.trod enc P W 0 (fun _=>true) true fuel t cs=some x->∃ v,d.K W v cs∧G v
def OpF {α:Type} (d:Kd α) (fs:List Field) (off:Nat) (G:α->Prop):Prop:=∀ (fuel:Nat) (cs:List Value),cs.length=off+d.sz->(∀ f∈fs,∃ x,DataW.trod enc P W 0 (fun _=>true) true fuel f.type ((cs.drop f.offset).take (P.cellsOf f.type))=some x)->∃ v,d.K W v (cs.drop off)∧G v
variable {enc} {P} {W}
theorem qb4 {k:IntKind} {t:TypeId} (ht:P.underlying t=some (.int k)):Op enc P W (Kd.int k) t fun n=>(Lit.int k n).wf=true:=fun fuel cs x h=>by
 obtain ⟨n,rfl,_,hw⟩:=DataW.trod_int ht h;exact ⟨n,rfl,hw⟩
theorem QB {α:Type} {p:Nat->α->Prop}:∀ n,(∀ i,i<n->∃ v,p i v)->∃ l:List α,l.length=n∧∀ i v,l[i]?=some v->p i v
 | 0,_=>⟨[],rfl,fun i v h=>by simp at h⟩
 | n+1,h=>by
  obtain ⟨l,hl,hp⟩:=QB n fun i hi=>h i (by omega)
  obtain ⟨v,hv⟩:=h n (by omega);refine ⟨l++[v],by simp [hl],fun i u hu=>?_⟩
  by_cases hi:i<l.length
  ·rw [List.getElem?_append_left hi] at hu
   exact hp i u hu
  ·rw [List.getElem?_append_right (by omega)] at hu
   have h0:i - l.length=0:=by
    by_cases h1:i - l.length=0
    ·exact h1
    ·rw [List.getElem?_eq_none (by simp;omega)] at hu
     cases hu
   rw [h0] at hu
   obtain rfl:i=n:=by omega
   simp at hu;exact hu ▸ hv
theorem Vs {α:Type} {d:Kd α} {t e:TypeId} {G:α->Prop} (ht:P.underlying t=some (.slice e)) (hs:P.cellsOf e=d.sz) (he:Op enc P W d e G) {fuel:Nat} {cs:List Value} {x:DataW H × List MemPlace}
  (h:DataW.trod enc P W 0 (fun _=>true) true fuel t cs=some x):∃ A c,∃ l:List α,cs=[.slice A l.length c]∧l.length<=c∧d.C W A l.length l∧∀ v∈l,G v:=by
 rcases Go.Deep.open_slice ht h with ⟨rfl,_⟩|⟨a,len,cap,m,n,D,Pl,rfl,_,hl,hm,hmm,_,hel⟩
 ·exact ⟨none,0,[],rfl,Nat.le_refl _,⟨rfl,Nat.zero_le _,fun h0=>absurd h0 (by simp)⟩,by simp⟩
 ·obtain ⟨l,hll,hlp⟩:=QB (p:=fun i (v:α)=>∃ c,W.cells? 0 (a.add (i*d.sz)) d.sz=some c∧d.K W v c∧G v) len fun i hi=>by
   obtain ⟨c,h1,h2⟩:=hel i (by simp at hmm;omega);obtain ⟨v,hv,hg⟩:=he n c _ h2;rw [hs] at h1;exact ⟨v,c,h1,hv,hg⟩
  subst hll;refine ⟨some a,cap,l,rfl,hl,⟨rfl,Nat.le_trans hl (Nat.le_trans hm (by decide)),fun _=>⟨a,rfl,fun j p hp=>?_⟩⟩,fun v hv=>?_⟩
  ·obtain ⟨c,h1,h2,_⟩:=hlp j p hp
   obtain ⟨_,h3,h4⟩:=World.cells?_some h1;refine ⟨c,h3,h2,fun i u hu=>?_⟩
   have hi:i<d.sz:=by
    rw [← h3];exact (List.getElem?_eq_some_iff.1 hu).1
   have:=h4 i hi;rw [hu,Go.Deep.add_add] at this;exact this
  ·obtain ⟨i,hi,rfl⟩:=List.mem_iff_getElem.1 hv
   obtain ⟨c,_,_,hg⟩:=hlp i _ (List.getElem?_eq_getElem hi);exact hg
theorem xW {α:Type} {d:Kd α} {t e:TypeId} {G:α->Prop} (q:Nat) (ht:P.underlying t=some (.slice e)) (hs:P.cellsOf e=d.sz) (he:Op enc P W d e G):Op enc P W (Kd.slice q d) t fun l=>∀ v∈l,G v:=fun fuel cs x h=>by
 obtain ⟨A,c,l,rfl,h1,h2,h3⟩:=Vs ht hs he h;exact ⟨l,⟨A,c,rfl,h1,h2⟩,h3⟩
theorem rO {α:Type} {d:Kd α} {f:Field} {G:α->Prop} (he:Op enc P W d f.type G) (hs:P.cellsOf f.type=d.sz):OpF enc P W d [f] f.offset G:=fun fuel cs hc h=>by
 obtain ⟨x,hx⟩:=h f (List.mem_singleton.2 rfl);rw [List.take_of_length_le (by rw [List.length_drop];omega)] at hx;exact he _ _ _ hx
theorem mW {α β:Type} {d:Kd α} {e:Kd β} {f:Field} {fs:List Field} {G:α->Prop} {K:β->Prop} (h0:Op enc P W d f.type G) (hs:P.cellsOf f.type=d.sz) (h1:OpF enc P W e fs (f.offset+d.sz) K) :
  OpF enc P W (Kd.pair d e) (f::fs) f.offset fun v=>G v.1∧K v.2:=fun fuel cs hc h=>by
 have hz:(Kd.pair d e).sz=d.sz+e.sz:=rfl;obtain ⟨x,hx⟩:=h f (List.mem_cons_self ..);obtain ⟨v,hv,hg⟩:=h0 _ _ _ hx
 obtain ⟨u,hu,hk⟩:=h1 fuel cs (by omega) fun g hg=>h g (List.mem_cons_of_mem _ hg)
 refine ⟨(v,u),⟨_,_,?_,hv,hu⟩,hg,hk⟩;rw [hs,← List.drop_drop,List.take_append_drop]
theorem nu {α:Type} {d:Kd α} {t:TypeId} {fs:Array Field} {G:α->Prop} (ht:P.underlying t=some (.struct fs)) (hs:P.cellsOf t=d.sz) (h:OpF enc P W d fs.toList 0 G):Op enc P W d t G:=fun fuel cs x hx=>by
 obtain ⟨xs,n,rfl,_,hl,hn,hf⟩:=DataW.trod_struct ht hx
 obtain ⟨v,hv,hg⟩:=h n cs (by omega) fun f hm=>by
  obtain ⟨i,hi,rfl⟩:=List.mem_iff_getElem.1 hm
  have h2:i<fs.size:=by simpa using hi
  have:=hf i fs[i] (by simp [h2]);rw [List.getElem?_eq_getElem (by omega)] at this;exact ⟨_,by simpa using this⟩
 exact ⟨v,by simpa using hv,hg⟩
theorem E8 {α β:Type} {d:Kd α} {t:TypeId} {f:β->α} (g:α->β) (hf:∀ a,f (g a)=a) {G:α->Prop} (h:Op enc P W d t G):Op enc P W (Kd.iso d f) t fun v=>G (f v):=fun fuel cs x hx=>by
 obtain ⟨v,hv,hg⟩:=h fuel cs x hx;exact ⟨g v,by show d.K W (f (g v)) cs;rw [hf];exact hv,by show G (f (g v));rw [hf];exact hg⟩
theorem Op.imp {α:Type} {d:Kd α} {t:TypeId} {G K:α->Prop} (h:Op enc P W d t G) (hi:∀ v,G v->K v):Op enc P W d t K:=fun fuel cs x hx=>by
 obtain ⟨v,hv,hg⟩:=h fuel cs x hx;exact ⟨v,hv,hi v hg⟩
theorem DT {α:Type} {d:Kd α} {t e:TypeId} {G:α->Prop} {v:Value} {y:DataW H} {ps:List MemPlace} {base:Nat} (ht:P.underlying t=some (.slice e)) (hs:P.cellsOf e=d.sz) (he:Op enc P W d e G)
  (hv:Value.okWide P W .any base t v) (h:DataW.Trod enc P W 0 (fun _=>true) true t v y ps):∃ A c,∃ l:List α,v=.slice A l.length c∧l.length<=c∧d.C W A l.length l∧∀ v∈l,G v:=by
 obtain ⟨a,len,cap,rfl⟩:=okWide_slice ht hv;obtain ⟨fuel,hf⟩:=h;obtain ⟨A,c,l,e1,h1,h2,h3⟩:=Vs ht hs he hf;simp [Value.cells] at e1;obtain ⟨rfl,rfl,rfl⟩:=e1;exact ⟨_,_,l,rfl,h1,h2,h3⟩
theorem tT {α:Type} {d:Kd α} {t:TypeId} {fs:Array Field} {G:α->Prop} {v:Value} {y:DataW H} {ps:List MemPlace} {base:Nat} (ht:P.underlying t=some (.struct fs)) (ho:Op enc P W d t G)
  (hv:Value.okWide P W .any base t v) (h:DataW.Trod enc P W 0 (fun _=>true) true t v y ps):∃ cs:List Value,∃ x,v=.agg cs.toArray∧d.K W x cs∧G x:=by
 obtain ⟨cs,rfl,_⟩:=okWide_struct ht hv;obtain ⟨fuel,hf⟩:=h;obtain ⟨x,hx,hg⟩:=ho _ _ _ hf;exact ⟨cs.toList,x,by simp,hx,hg⟩
end
end Go.Proofs.YtnpfbjnjdngkhaaGreatDoor.P
namespace Go.Proofs.YtnpfbjnjdngkhaaGreatDoor.P
open Go.RowKit Go.Proofs.YtnpfbjnjdngkhaaGreatDoorW.aQ Go.Proofs.YtnpfbjnjdngkhaaGreatDoorW.bO Go.Proofs.YtnpfbjnjdngkhaaGreatDoorW.bT
open Go.WideShapes Go.ChangeShapes Go.ChangeAt
section
variable {H:Type} {enc:TypeId × Value->H} {W:World}
theorem Vt:Op enc Tryz.prog W (Kd.int .i64) 3 fun _=>True:=(qb4 Tryz.underlying3).imp fun _ _=>trivial
theorem Vu:Op enc Tryz.prog W jW 37 fun _=>True :=
 (E8 (f:=fun x:bQ=>(x.f0,x.f1)) (fun p=>⟨p.1,p.2⟩) (fun _=>rfl) (nu Tryz.underlying37 (by kernel_rfl) (mW Vt (by kernel_rfl) (rO Vt (by kernel_rfl))))).imp fun _ _=>trivial
theorem Z9:Op enc Tryz.prog W eD 154 fun _=>True :=
 (E8 (f:=fun x:bB=>(x.f0,x.f1,x.f2)) (fun p=>⟨p.1,p.2.1,p.2.2⟩) (fun _=>rfl) (nu Tryz.underlying154 (by kernel_rfl) (mW Vt (by kernel_rfl) (mW Vt (by kernel_rfl) (rO Vu (by kernel_rfl)))))).imp fun _ _=>trivial
theorem qb5:Op enc Tryz.prog W (Kd.slice 37 jW) 28 fun _=>True:=(xW 37 Tryz.underlying28 (by kernel_rfl) Vu).imp fun _ _=>trivial
theorem qfn:Op enc Tryz.prog W iG 102 fun _=>True :=
 (E8 (f:=fun x:bI=>(x.f0,x.f1)) (fun p=>⟨p.1,p.2⟩) (fun _=>rfl) (nu Tryz.underlying102 (by kernel_rfl) (mW qb5 (by kernel_rfl) (rO Vt (by kernel_rfl))))).imp fun _ _=>trivial
theorem qkU:Op enc Tryz.prog W (Kd.slice 154 eD) 25 fun _=>True:=(xW 154 Tryz.underlying25 (by kernel_rfl) Z9).imp fun _ _=>trivial
theorem qfo:Op enc Tryz.prog W kS 107 fun _=>True :=
 (E8 (f:=fun x:dD=>(x.f0,x.f1,x.f2)) (fun p=>⟨p.1,p.2.1,p.2.2⟩) (fun _=>rfl) (nu Tryz.underlying107 (by kernel_rfl) (mW qkU (by kernel_rfl) (mW Vt (by kernel_rfl) (rO Vt (by kernel_rfl)))))).imp fun _ _=>trivial
theorem qfp:Op enc Tryz.prog W (Kd.slice 3 (Kd.int .i64)) 47 fun _=>True:=(xW 3 Tryz.underlying47 (by kernel_rfl) Vt).imp fun _ _=>trivial
theorem qfq:Op enc Tryz.prog W Bf 49 fun _=>True :=
 (E8 (f:=fun x:nJ=>x.f0) (fun p=>⟨p⟩) (fun _=>rfl) (nu Tryz.underlying49 (by kernel_rfl) (rO qfp (by kernel_rfl)))).imp fun _ _=>trivial
theorem qkV:Op enc Tryz.prog W (Kd.slice 102 iG) 22 fun _=>True:=(xW 102 Tryz.underlying22 (by kernel_rfl) qfn).imp fun _ _=>trivial
theorem qkW:Op enc Tryz.prog W (Kd.slice 49 Bf) 35 fun _=>True:=(xW 49 Tryz.underlying35 (by kernel_rfl) qfq).imp fun _ _=>trivial
variable {v:Value} {y:DataW H} {ps:List MemPlace} {base:Nat}
theorem qnR (hv:Value.okWide Tryz.prog W .any base 24 v) (h:DataW.Trod enc Tryz.prog W 0 (fun _=>true) true 24 v y ps):∃ A c,∃ l:List bI,v=.agg #[.slice A l.length c]∧l.length<=c∧Kd.C iG W A l.length l:=by
 obtain ⟨cs,x,rfl,⟨A,c,rfl,h1,h2⟩,_⟩:=tT Tryz.underlying24 (nu Tryz.underlying24 (by kernel_rfl) (rO qkV (by kernel_rfl))) hv h;exact ⟨A,c,x,rfl,h1,h2⟩
theorem qnS (hv:Value.okWide Tryz.prog W .any base 49 v) (h:DataW.Trod enc Tryz.prog W 0 (fun _=>true) true 49 v y ps):∃ A c,∃ l:List Int,v=.agg #[.slice A l.length c]∧l.length<=c∧Kd.C (Kd.int .i64) W A l.length l:=by
 obtain ⟨cs,x,rfl,⟨A,c,rfl,h1,h2⟩,_⟩:=tT Tryz.underlying49 (nu Tryz.underlying49 (by kernel_rfl) (rO qfp (by kernel_rfl))) hv h;exact ⟨A,c,x,rfl,h1,h2⟩
theorem qnT (hv:Value.okWide Tryz.prog W .any base 37 v) (h:DataW.Trod enc Tryz.prog W 0 (fun _=>true) true 37 v y ps):∃ a b,v=.agg #[.int .i64 a,.int .i64 b]:=by
 obtain ⟨cs,x,rfl,hx,_⟩:=tT Tryz.underlying37 Vu hv h;obtain rfl:=oW hx;exact ⟨_,_,rfl⟩
theorem qnU (hv:Value.okWide Tryz.prog W .any base 67 v) (h:DataW.Trod enc Tryz.prog W 0 (fun _=>true) true 67 v y ps):∃ a b t A c,∃ l:List bQ,v=.agg #[.int .i64 a,.int .i64 b,.int .i64 t,.slice A l.length c]∧l.length<=c∧Kd.C jW W A l.length l:=by
 obtain ⟨cs,x,rfl,⟨c0,c1,rfl,h0,c2,c3,rfl,h1,A,c,rfl,h2,h3⟩,_⟩:=tT Tryz.underlying67 (nu Tryz.underlying67 (by kernel_rfl) (mW Vu (by kernel_rfl) (mW Vt (by kernel_rfl) (rO qb5 (by kernel_rfl))))) hv h;obtain rfl:=oW h0;obtain rfl:c2=[.int .i64 x.2.1]:=h1;exact ⟨_,_,_,A,c,_,rfl,h2,h3⟩
theorem qnV (hv:Value.okWide Tryz.prog W .any base 58 v) (h:DataW.Trod enc Tryz.prog W 0 (fun _=>true) true 58 v y ps):∃ A c,∃ l:List nJ,∃ a b B d,∃ m:List bQ,∃ n,v=.agg #[.slice A l.length c,.int .i64 a,.int .i64 b,.slice B m.length d,.int .i64 n]∧l.length<=c∧Kd.C Bf W A l.length l∧m.length<=d∧Kd.C jW W B m.length m:=by
 obtain ⟨cs,x,rfl,⟨c0,c1,rfl,⟨A,c,rfl,i0,i1⟩,c2,c3,rfl,h1,c4,c5,rfl,⟨B,d,rfl,h2,h3⟩,h4⟩,_⟩:=tT Tryz.underlying58 (nu Tryz.underlying58 (by kernel_rfl) (mW qkW (by kernel_rfl) (mW Vu (by kernel_rfl) (mW qb5 (by kernel_rfl) (rO Vt (by kernel_rfl)))))) hv h;obtain rfl:=oW h1;obtain rfl:c5=[.int .i64 x.2.2.2]:=h4;exact ⟨A,c,_,_,_,B,d,_,_,rfl,i0,i1,h2,h3⟩
theorem arg3 (hv:Value.okWide Tryz.prog W .any base 3 v) (h:DataW.Trod enc Tryz.prog W 0 (fun _=>true) true 3 v y ps):∃ n,v=.int .i64 n∧(Lit.int .i64 n).wf=true:=by
 obtain ⟨n,rfl,_,_,w⟩:=open_int Tryz.underlying3 hv h;exact ⟨n,rfl,w⟩
theorem qnW (hv:Value.okWide Tryz.prog W .any base 25 v) (h:DataW.Trod enc Tryz.prog W 0 (fun _=>true) true 25 v y ps):∃ A c,∃ l:List bB,v=.slice A l.length c∧l.length<=c∧Kd.C eD W A l.length l:=by
 obtain ⟨A,c,l,e,h1,h2,_⟩:=DT Tryz.underlying25 (by kernel_rfl) Z9 hv h;exact ⟨A,c,l,e,h1,h2⟩
theorem qnX (hv:Value.okWide Tryz.prog W .any base 35 v) (h:DataW.Trod enc Tryz.prog W 0 (fun _=>true) true 35 v y ps):∃ A c,∃ l:List nJ,v=.slice A l.length c∧l.length<=c∧Kd.C Bf W A l.length l:=by
 obtain ⟨A,c,l,e,h1,h2,_⟩:=DT Tryz.underlying35 (by kernel_rfl) qfq hv h;exact ⟨A,c,l,e,h1,h2⟩
theorem qnY (hv:Value.okWide Tryz.prog W .any base 47 v) (h:DataW.Trod enc Tryz.prog W 0 (fun _=>true) true 47 v y ps):∃ A c,∃ l:List Int,v=.slice A l.length c∧l.length<=c∧Kd.C (Kd.int .i64) W A l.length l:=by
 obtain ⟨A,c,l,e,h1,h2,_⟩:=DT Tryz.underlying47 (by kernel_rfl) Vt hv h;exact ⟨A,c,l,e,h1,h2⟩
theorem qnZ (hv:Value.okWide Tryz.prog W .any base 59 v) (h:DataW.Trod enc Tryz.prog W 0 (fun _=>true) true 59 v y ps):∃ A c,∃ l:List dD,v=.slice A l.length c∧l.length<=c∧Kd.C kS W A l.length l:=by
 obtain ⟨A,c,l,e,h1,h2,_⟩:=DT Tryz.underlying59 (by kernel_rfl) qfo hv h;exact ⟨A,c,l,e,h1,h2⟩
end
theorem qqe:ownKnob Tryz.prog.godebug=none:=by kernel_rfl
theorem laidOut:laidOutB Tryz.prog=true:=by kernel_rfl
def qfr:List (String × DataW Unit):=[("math/bits.deBruijn32tab",Rows.laid_math_bits_deBruijn32tab),("math/bits.deBruijn64tab",Rows.laid_math_bits_deBruijn64tab),("internal/strconv.uint64pow10",Rows.laid_internal_strconv_uint64pow10)]
theorem qfs (os:Os) (args:Array Value):laidMetH Tryz.prog qfr ((World.doorLaid Tryz.prog 34 os).forCall (fun _ _=>0) ⟨#[],args,[]⟩).memory :=
 laidMetH_of_parts3 (fuel:=8) (laidMet_of_run' 8 (by kernel_rfl) (by kernel_rfl)) (by kernel_rfl) (by kernel_rfl)
theorem qb6 (os:Os):(World.doorLaid Tryz.prog 34 os).Shaped Tryz.prog:=World.shaped_of_RefB (by kernel_rfl) (by kernel_rfl)
end Go.Proofs.YtnpfbjnjdngkhaaGreatDoor.P
