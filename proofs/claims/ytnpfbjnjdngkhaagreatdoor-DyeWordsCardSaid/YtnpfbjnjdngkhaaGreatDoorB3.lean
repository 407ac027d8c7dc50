import Derived.Shelf.Strconv.Itoa3
import Derived.Shelf.Strings.OnBuilder
import Derived.Test.YtnpfbjnjdngkhaaGreatDoorProg
import Derived.Test.YtnpfbjnjdngkhaaGreatDoorB2
set_option maxHeartbeats 8000000
set_option maxRecDepth 100000
set_option linter.unusedVariables false
set_option linter.unusedSimpArgs false
set_option linter.unusedSectionVars false
namespace Go.Proofs.YtnpfbjnjdngkhaaGreatDoor.P
open Go.RowKit Go.Proofs.YtnpfbjnjdngkhaaGreatDoorW.aQ Go.Proofs.YtnpfbjnjdngkhaaGreatDoorW.bO Go.Proofs.YtnpfbjnjdngkhaaGreatDoorW.bT
attribute [local go_sem] eP eT fU fV dS dU eU eX
def Rp:List Int->Int
 | []=>0
 | [x]=>x
 | x::l=>min x (Rp l)
def Rq:List Int->Int
 | []=>0
 | [x]=>x
 | x::l=>max x (Rq l)
theorem KC:∀ {l:List Int},l≠[]->Rp l∈l∧∀ x∈l,Rp l<=x
 | [],h=>absurd rfl h
 | [x],_=>by simp [Rp]
 | x::y::l,_=>by
  have ih:=KC (l:=y::l) (by simp)
  show min x (Rp (y::l))∈_∧∀ z∈_,min x (Rp (y::l))<=z
  refine ⟨?_,fun z hz=>?_⟩
  ·rcases Int.le_total x (Rp (y::l)) with h|h
   ·rw [Int.min_eq_left h];exact List.mem_cons_self ..
   ·rw [Int.min_eq_right h];exact List.mem_cons_of_mem _ ih.1
  ·rcases List.mem_cons.1 hz with rfl|hz
   ·omega
   ·have:=ih.2 z hz;omega
theorem KE:∀ {l:List Int},l≠[]->Rq l∈l∧∀ x∈l,x<=Rq l
 | [],h=>absurd rfl h
 | [x],_=>by simp [Rq]
 | x::y::l,_=>by
  have ih:=KE (l:=y::l) (by simp)
  show max x (Rq (y::l))∈_∧∀ z∈_,z<=max x (Rq (y::l))
  refine ⟨?_,fun z hz=>?_⟩
  ·rcases Int.le_total x (Rq (y::l)) with h|h
   ·rw [Int.max_eq_right h];exact List.mem_cons_of_mem _ ih.1
   ·rw [Int.max_eq_left h];exact List.mem_cons_self ..
  ·rcases List.mem_cons.1 hz with rfl|hz
   ·omega
   ·have:=ih.2 z hz;omega
theorem Ip:∀ {ls:List bQ},(∀ s∈ls,s.f0<=s.f1)->lD ls≠[]
 | [],_=>by simp [lD]
 | s::r,h=>by
  have h1:=Ip (fun y hy=>h y (List.mem_cons_of_mem _ hy));rw [lD,zQ (h s (List.mem_cons_self ..)),List.flatMap_cons];intro e;rw [List.append_eq_nil_iff,List.map_eq_nil_iff] at e;exact h1 e.1
theorem EI {h:List bI} {l:List bB} {n:Nat} {d:Int} {takes:List Int} (hb:iq n l=true):ku h l d takes≠[]:=by
 unfold ku
 rw [Ne,List.map_eq_nil_iff]
 refine Ip fun s hs=>?_
 obtain ⟨b,hb2,rfl⟩:=List.mem_map.1 hs;exact zf hb (List.mem_filter.1 hb2).1
theorem Ur {h:List bI} {a b:List bB} {n:Nat} {d wt:Int} (hh:iN h=true) (ha:iq n a=true) (hb:iq n b=true) (hd:0<=d∧d<h.length):F6 h a b d wt≠[]:=by
 have h1:=Ip (ls:=(aX h d).f0) fun s hs=>ze hh (oH hd) hs
 obtain ⟨t,ht⟩:=List.exists_mem_of_ne_nil _ h1;obtain ⟨p,hp⟩:=List.exists_mem_of_ne_nil _ (EI (h:=h) (d:=d) (takes:=t) ha);obtain ⟨q,hq⟩:=List.exists_mem_of_ne_nil _ (EI (h:=h) (d:=d) (takes:=t) hb);exact List.ne_nil_of_mem (List.mem_flatMap.2 ⟨t,ht,List.mem_flatMap.2 ⟨p,hp,List.mem_map.2 ⟨q,hq,rfl⟩⟩⟩)
theorem Ga {h:List bI} {a b:List bB} {n:Nat} (hh:iN h=true) (ha:iq n a=true) (hb:iq n b=true):∀ (ws:List Int) (d:Int) (out:List Int),0<=d->d+ws.length<=h.length->out≠[]->ql h a b ws d out≠[]
 | [],_,out,_,_,ho=>ho
 | wt::ws,d,out,h0,h1,ho=>by
  rw [List.length_cons] at h1;refine Ga hh ha hb ws (d+1) _ (by omega) (by omega) ?_;obtain ⟨p,hp⟩:=List.exists_mem_of_ne_nil _ ho;obtain ⟨q,hq⟩:=List.exists_mem_of_ne_nil _ (Ur (wt:=wt) (d:=d) hh ha hb ⟨h0,by omega⟩);exact List.ne_nil_of_mem (List.mem_flatMap.2 ⟨p,hp,List.mem_map.2 ⟨q,hq,rfl⟩⟩)
theorem Ac {h:List bI} {a b:List bB} {n:Nat} (hh:uw h) (ha:nW n a) (hb:nW n b):∀ (ws:List Int) (d:Int) (out:List Int) (B:Int),0<=d->d+ws.length<=h.length->(∀ x∈ws,-9<=x∧x<=9)->(∀ x∈out,-B<=x∧x<=B)->∀ x∈ql h a b ws d out,-(B+900*ws.length)<=x∧x<=B+900*ws.length
 | [],_,out,B,_,_,_,ho=>by simpa [ql] using ho
 | wt::ws,d,out,B,h0,h1,hw,ho=>by
  rw [List.length_cons] at h1 ⊢;intro x hx
  have:=Ac hh ha hb ws (d+1) _ (B+900) (by omega) (by omega) (fun y hy=>hw y (List.mem_cons_of_mem _ hy)) (fun y hy=>by
   obtain ⟨p,hp,hy⟩:=List.mem_flatMap.1 hy;obtain ⟨q,hq,rfl⟩:=List.mem_map.1 hy;have e1:=ho p hp;have e2:=Kk hh ⟨h0,by omega⟩ ha hb (hw wt (List.mem_cons_self ..)) q hq
   omega) x hx
  omega
def mQ (h:List bI) (ws:List Int) (a b:List bB):List Int:=ql h a b ws 0 [0]
theorem EJ {h:List bI} {ws:List Int} {a b:List bB} (hh:iN h=true) (hw:oJ h.length ws=true) (ha:iq h.length a=true) (hb:iq h.length b=true):mQ h ws a b≠[]∧∀ x∈mQ h ws a b,-2700<=x∧x<=2700:=by
 have hl:=(rH hw).len;refine ⟨Ga hh ha hb ws 0 [0] (by omega) (by omega) (by simp),fun x hx=>?_⟩;have:=Ac (qH hh) (qI ha) (qI hb) ws 0 [0] 0 (by omega) (by omega) (rH hw).wt (by simp) x hx;have:=(qH hh).len
 omega
def vF.f (h:List bI) (ws:List Int) (a b:List bB):Option (Int × Int × Int) :=
 some (if iN h&&(oJ h.length ws&&(iq h.length a&&iq h.length b)) then (Rp (mQ h ws a b),Rq (mQ h ws a b),0) else (0,0,2))
theorem vF.calls (bC:Option Addr) (aZ:Nat) (av:List bI) (fP:Option Addr) (fK:Nat) (bF:List Int) (A2:Option Addr) (c2:Nat) (l2:List bB) (A3:Option Addr) (c3:Nat) (l3:List bB) (r1:Int) (r2:Int) (r3:Int) (w:World) (dw:Kd.C iG w bC av.length av) (dG:av.length<=aZ) (jU:Kd.C (Kd.int .i64) w fP bF.length bF) (mM:bF.length<=fK) (hr2:Kd.C eD w A2 l2.length l2) (hc2:l2.length<=c2) (hr3:Kd.C eD w A3 l3.length l3) (hc3:l3.length<=c3) (h:vF.f av bF l2 l3=some (r1,r2,r3)) :
  Calls Tryz.prog 72 #[.agg #[.slice bC av.length aZ],.agg #[.slice fP bF.length fK],.slice A2 l2.length c2,.slice A3 l3.length c3] w fun e w'=>e=.returned (.tuple #[.agg #[.int .i64 r1,.int .i64 r2],.int .i64 r3])∧Below w.heap.size w w':=by
 have HX:=Bx.nil w
 have K1:=fun w1 (hb:Below w.heap.size w w1)=>c105 bC aZ av w1 (Kd.ak dw hb) dG
 have K2:=fun w1 (hb:Below w.heap.size w w1)=>c116 bC aZ av w1 (Kd.ak dw hb) dG fP fK bF (Kd.ak jU hb) mM
 have K3:=fun w1 (hb:Below w.heap.size w w1)=>qbi bC aZ av w1 (Kd.ak dw hb) dG A2 c2 l2 (Kd.ak hr2 hb) hc2
 have K4:=fun w1 (hb:Below w.heap.size w w1)=>qbi bC aZ av w1 (Kd.ak dw hb) dG A3 c3 l3 (Kd.ak hr3 hb) hc3
 have HR:=aj.mk (And.intro dw (And.intro jU (And.intro hr2 hr3)))
 unfold vF.f at h
 obtain ⟨b1,hb1⟩:∃ b,b=iN av:=⟨_,rfl⟩;obtain ⟨b2,hb2⟩:∃ b,b=oJ av.length bF:=⟨_,rfl⟩;obtain ⟨b3,hb3⟩:∃ b,b=iq av.length l2:=⟨_,rfl⟩;obtain ⟨b4,hb4⟩:∃ b,b=iq av.length l3:=⟨_,rfl⟩;have HG:=aj.mk (And.intro hb1 (And.intro hb2 (And.intro hb3 hb4)));rw [← hb1,← hb2,← hb3,← hb4] at h;rw [← hb1] at K1;rw [← hb2] at K2;rw [← hb3] at K3;rw [← hb4] at K4;clear hb1 hb2 hb3 hb4 dw jU hr2 hr3;have qb:=Tryz.underlying24;have GQ:=Tryz.underlying49;have wR:=Tryz.underlying149;have jY:=Tryz.underlying37
 have hc:(b1=false∨b1=true∧b2=false∨b1=true∧b2=true∧b3=false∨b1=true∧b2=true∧b3=true∧b4=false)∨(b1=true∧b2=true∧b3=true∧b4=true):=by
  cases b1<;>cases b2<;>cases b3<;>cases b4<;>simp
 rcases hc with hc|hc
 ·obtain ⟨rfl,rfl,rfl⟩:r1=0∧r2=0∧r3=2:=by
   rcases hc with rfl|⟨rfl,rfl⟩|⟨rfl,rfl,rfl⟩|⟨rfl,rfl,rfl,rfl⟩<;>(simp at h;exact ⟨h.1.symm,h.2.1.symm,h.2.2.symm⟩)
  clear h HG
  rcases hc with rfl|⟨rfl,rfl⟩|⟨rfl,rfl,rfl⟩|⟨rfl,rfl,rfl,rfl⟩
  all_goals
   go_enter Tryz.func72,Tryz.ntmps72
   go_wp2_with (first|((with_reducible refine au (N:=4) rfl ?_);refine newX rfl rfl HX (cs:=#[.slice bC av.length aZ]) (t:=24) tG ?_;clear HX;intro g4 w4 HX hx hz;clear hx hz)|((with_reducible refine au (N:=5) rfl ?_);refine newX rfl rfl HX (cs:=#[.slice fP bF.length fK]) (t:=49) tG ?_;clear HX;intro g5 w5 HX hx hz;clear hx hz)|((with_reducible refine au (N:=8) rfl ?_);refine newX rfl rfl HX (cs:=#[.int .i64 0,.int .i64 0]) (t:=37) tG ?_;clear HX;intro g8 w8 HX hx hz;clear hx hz;have ch:=HX.g1 2 rfl;have cl:=HX.g1 1 rfl)|(go_at_call 105;((with_reducible refine (K1 _ HX.below).mono ?_);rintro e w1 ⟨rfl,hx⟩;replace HX:=HX.step hx;clear hx ch cl;have ch:=HX.g1 2 rfl;have cl:=HX.g1 1 rfl))|(go_at_call 116;(with_reducible refine (K2 _ HX.below).mono ?_);rintro e w1 ⟨rfl,hx⟩;replace HX:=HX.step hx;clear hx ch cl;have ch:=HX.g1 2 rfl;have cl:=HX.g1 1 rfl)|(go_at_call 106;(with_reducible first|refine (K3 _ HX.below).mono ?_|refine (K4 _ HX.below).mono ?_);rintro e w1 ⟨rfl,hx⟩;replace HX:=HX.step hx;clear hx ch cl;have ch:=HX.g1 2 rfl;have cl:=HX.g1 1 rfl)|((with_reducible refine aY (t:=37) (p:=8) rfl ?_);refine jZ rfl rfl rfl HX 0 rfl (.agg #[.int .i64 0,.int .i64 0]) [.int .i64 0,.int .i64 0] #[.int .i64 0,.int .i64 0] rfl rfl rfl tX (Nat.le_refl _) (by simp [Value.oneCell']) rfl ?_;clear HX;intro w9 HX hx;clear hx))
  all_goals
   refine bodyPost_ret (kW rfl _ _ g8 37 #[.int .i64 0,.int .i64 0] (0,0) _ rfl (HX.gb 0 rfl) Tryz.underlying37 rfl tX) rfl ?_;exact ⟨rfl,HX.below⟩
 ·obtain ⟨rfl,rfl,rfl,rfl⟩:=hc
  obtain ⟨rfl,rfl,rfl⟩:r1=Rp (mQ av bF l2 l3)∧r2=Rq (mQ av bF l2 l3)∧r3=0:=by simp at h;exact ⟨h.1.symm,h.2.1.symm,h.2.2.symm⟩
  have HD:=aj.mk (EJ HG.out.1.symm HG.out.2.1.symm HG.out.2.2.1.symm HG.out.2.2.2.symm);clear h
  go_enter Tryz.func72,Tryz.ntmps72
  go_wp2_with (first|((with_reducible refine au (N:=4) rfl ?_);refine newX rfl rfl HX (cs:=#[.slice bC av.length aZ]) (t:=24) tG ?_;clear HX;intro g4 w4 HX hx hz;clear hx hz)|((with_reducible refine au (N:=5) rfl ?_);refine newX rfl rfl HX (cs:=#[.slice fP bF.length fK]) (t:=49) tG ?_;clear HX;intro g5 w5 HX hx hz;clear hx hz)|((with_reducible refine au (N:=8) rfl ?_);refine newX rfl rfl HX (cs:=#[.int .i64 0,.int .i64 0]) (t:=37) tG ?_;clear HX;intro g8 w8 HX hx hz;clear hx hz;have ch:=HX.g1 2 rfl;have cl:=HX.g1 1 rfl)|(go_at_call 105;((with_reducible refine (K1 _ HX.below).mono ?_);rintro e w1 ⟨rfl,hx⟩;replace HX:=HX.step hx;clear hx ch cl;have ch:=HX.g1 2 rfl;have cl:=HX.g1 1 rfl))|(go_at_call 116;(with_reducible refine (K2 _ HX.below).mono ?_);rintro e w1 ⟨rfl,hx⟩;replace HX:=HX.step hx;clear hx ch cl;have ch:=HX.g1 2 rfl;have cl:=HX.g1 1 rfl)|(go_at_call 106;(with_reducible first|refine (K3 _ HX.below).mono ?_|refine (K4 _ HX.below).mono ?_);rintro e w1 ⟨rfl,hx⟩;replace HX:=HX.step hx;clear hx ch cl;have ch:=HX.g1 2 rfl;have cl:=HX.g1 1 rfl)|(go_at_call 156;(with_reducible refine (Ck bC aZ av fP fK bF A2 c2 l2 A3 c3 l3 _ (Kd.ak HR.out.1 HX.below) dG (Kd.ak HR.out.2.1 HX.below) mM (Kd.ak HR.out.2.2.1 HX.below) hc2 (Kd.ak HR.out.2.2.2 HX.below) hc3 (qH HG.out.1.symm) (rH HG.out.2.1.symm) (qI HG.out.2.2.1.symm) (qI HG.out.2.2.2.symm)).mono ?_);rintro e w2 ⟨bm,n,rfl,hS,hbm,hx⟩;have HS:aj (j6 w2 bm n (mQ av bF l2 l3)):=⟨hS⟩;replace HX:=HX.step hx;clear hx hS hbm ch cl)|(go_at_call 155;(with_reducible refine (Na bm n (mQ av bF l2 l3) _ _ _ HS.out (KC HD.out.1) (KE HD.out.1) (fun x hx=>uO (by have:=HD.out.2 x hx;omega) (by have:=HD.out.2 x hx;omega))).mono ?_);rintro e w3 ⟨rfl,hx⟩;replace HX:=HX.step hx;clear hx HS)|((with_reducible refine aY (t:=37) (p:=8) rfl ?_);refine jZ rfl rfl rfl HX 0 rfl (.agg #[.int .i64 (Rp (mQ av bF l2 l3)),.int .i64 (Rq (mQ av bF l2 l3))]) [.int .i64 (Rp (mQ av bF l2 l3)),.int .i64 (Rq (mQ av bF l2 l3))] #[.int .i64 (Rp (mQ av bF l2 l3)),.int .i64 (Rq (mQ av bF l2 l3))] rfl rfl rfl tX (Nat.le_refl _) (by simp [Value.oneCell']) rfl ?_;clear HX;intro w9 HX hx;clear hx))
  refine bodyPost_ret (kW rfl _ _ g8 37 #[.int .i64 (Rp (mQ av bF l2 l3)),.int .i64 (Rq (mQ av bF l2 l3))] (0,0) _ rfl (HX.gb 0 rfl) Tryz.underlying37 rfl tX) rfl ?_;exact ⟨rfl,HX.below⟩
def xB.f (a0:Bool) (a1:Bool):Option Int:=if a1=true then (if a0=true then (some 2) else (some 1)) else (some 3)
theorem xB.calls (a0:Bool) (a1:Bool) (r:Int) (w:World) (h:xB.f a0 a1=some r) :
  Calls Tryz.prog 154 #[.bool a0,.bool a1] w fun e w'=>e=.returned (.int .i64 r)∧gU w w':=by
 have H:(if a1=true then (if a0=true then (some 2) else (some 1)) else (some 3))=some r:=h;clear h
 by_cases c3:a1=true
 ·subst c3
  rw [if_pos rfl] at H
  by_cases c4:a0=true
  ·subst c4
   rw [if_pos rfl] at H;obtain rfl:=Option.some.inj H
   go_enter Tryz.func154,Tryz.ntmps154
   go_wp2
   go_ret
   exact ⟨tS,tD⟩
  ·replace c4:=Bool.eq_false_iff.mpr c4
   subst c4
   have H1:(some 1)=some r:=by rw [if_neg (show ¬ (false=true) by decide)] at H;exact H
   clear H;have H:=H1;clear H1;obtain rfl:=Option.some.inj H
   go_enter Tryz.func154,Tryz.ntmps154
   go_wp2
   go_ret
   exact ⟨tS,tD⟩
 ·replace c3:=Bool.eq_false_iff.mpr c3
  subst c3
  have H1:(some 3)=some r:=by rw [if_neg (show ¬ (false=true) by decide)] at H;exact H
  clear H;have H:=H1;clear H1;obtain rfl:=Option.some.inj H
  go_enter Tryz.func154,Tryz.ntmps154
  go_wp2
  go_ret
  exact ⟨tS,tD⟩
def Rs (x:Int):Int:=max x (-x)
theorem PK (x:Int):Rs x=if x < -x then -x else x:=by unfold Rs;split<;>omega
def KF (so no:Bool):Int:=if no then (if so then 2 else 1) else 3
theorem Us (so no:Bool):xB.f so no=some (KF so no):=by cases so<;>cases no<;>rfl
def uQ (h:List bI) (ws:List Int) (a b:List bB) (e0 e1:Int):Int:=KF ((mQ h ws a b).any fun n=>decide (Rs n<=e1)) ((mQ h ws a b).any fun n=>decide (e0<Rs n))
def KG (h:List bI) (ws:List Int) (a b:List bB):Bool:=iN h&&(oJ h.length ws&&(iq h.length a&&iq h.length b))
def ji.f (h:List bI) (ws:List Int) (a b:List bB) (e0 e1:Int):Option Int:=if KG h ws a b then some (uQ h ws a b e0 e1) else none
theorem PL {S V:List Int} {p:Int->Bool} (h1:∀ x∈V,x∈S) (h2:∀ x∈S,x∈V):V.any p=S.any p:=by
 rw [Bool.eq_iff_iff,List.any_eq_true,List.any_eq_true];exact ⟨fun ⟨x,hx,e⟩=>⟨x,h1 x hx,e⟩,fun ⟨x,hx,e⟩=>⟨x,h2 x hx,e⟩⟩
theorem ji.calls (bC:Option Addr) (aZ:Nat) (av:List bI) (nP:Option Addr) (mY:Nat) (gu:List Int) (A1:Option Addr) (c1:Nat) (l1:List bB) (A2:Option Addr) (c2:Nat) (l2:List bB) (Rt:Int) (Ru:Int) (r:Int) (w:World) (dw:Kd.C iG w bC av.length av) (dG:av.length<=aZ) (sV:Kd.C (Kd.int .i64) w nP gu.length gu) (vw:gu.length<=mY) (hr1:Kd.C eD w A1 l1.length l1) (hc1:l1.length<=c1) (hr2:Kd.C eD w A2 l2.length l2) (hc2:l2.length<=c2) (h:ji.f av gu l1 l2 Rt Ru=some r) :
    Calls Tryz.prog 118 #[.agg #[.slice bC av.length aZ,.slice nP gu.length mY],.slice A1 l1.length c1,.slice A2 l2.length c2,.agg #[.int .i64 Rt,.int .i64 Ru]] w fun e w'=>e=.returned (.int .i64 r)∧Below w.heap.size w w':=by
  have HX:=Bx.nil w;have HR:=aj.mk (And.intro dw (And.intro sV (And.intro hr1 hr2)))
  unfold ji.f at h
  by_cases hg:KG av gu l1 l2=true
  rotate_left
  · rw [if_neg hg] at h;cases h
  rw [if_pos hg] at h;obtain rfl:=Option.some.inj h
  unfold KG at hg
  simp only [Bool.and_eq_true] at hg;have HG:=aj.mk hg;have HD:=aj.mk (EJ hg.1 hg.2.1 hg.2.2.1 hg.2.2.2);clear h hg dw sV hr1 hr2;have jY:=Tryz.underlying37;have wR:=Tryz.underlying149
  go_enter Tryz.func118,Tryz.ntmps118
  go_wp2_with (first|((with_reducible refine au (N:=4) rfl ?_);refine newX rfl rfl HX (cs:=#[.slice bC av.length aZ,.slice nP gu.length mY]) (t:=149) tG ?_;clear HX;intro g4 w4 HX hx hz;clear hx hz)|((with_reducible refine au (N:=7) rfl ?_);refine newX rfl rfl HX (cs:=#[.int .i64 Rt,.int .i64 Ru]) (t:=37) tG ?_;clear HX;intro g7 w7 HX hx hz;clear hx hz;have ch:=HX.g2 1 rfl;obtain ⟨FC,J8⟩:=ch)|(go_at_call 156;(with_reducible refine (Ck bC aZ av nP mY gu A1 c1 l1 A2 c2 l2 _ (Kd.ak HR.out.1 HX.below) dG (Kd.ak HR.out.2.1 HX.below) vw (Kd.ak HR.out.2.2.1 HX.below) hc1 (Kd.ak HR.out.2.2.2 HX.below) hc2 (qH HG.out.1) (rH HG.out.2.1) (qI HG.out.2.2.1) (qI HG.out.2.2.2)).mono ?_);rintro e w2 ⟨bm,n,rfl,hS,hbm,hx⟩;have HS:aj (j6 w2 bm n (mQ av gu l1 l2)):=⟨hS⟩;replace HX:=HX.step hx;clear hx hS hbm FC J8)|((with_reducible refine au (N:=17) rfl ?_);refine vU rfl _ rfl rfl HS.out ?_;intro wc r cnt hrr KA hx;have wW:=aj.mk KA;have MR:=aj.mk (show w.heap.size<=r from by have:=HX.below.size;omega);replace HX:=HX.step hx;clear KA hrr hx HS))
  go_frame
  go_loopw [9,10] (fun v9 v10 W=>∃ (V:List Int) (b1 b2:Bool) (cnt:Nat),v9=.bool b1∧v10=.bool b2∧aj (b1=(V.any fun n=>decide (Rs n<=Ru))∧b2=V.any fun n=>decide (Rt<Rs n))∧aj (∀ x∈V,x∈mQ av gu l1 l2)∧aj (iA W bm r n (mQ av gu l1 l2) V cnt)∧Bx [(g7,.cells #[.int .i64 Rt,.int .i64 Ru] 37 (0,0)),(g4,.cells #[.slice bC av.length aZ,.slice nP gu.length mY] 149 (0,0))] w W) (fun _ _ W=>W.rangeLeft bm r)
  case atStart=>exact ⟨[],false,false,cnt,rfl,rfl,⟨rfl,rfl⟩,⟨by simp⟩,wW,HX⟩
  case round =>
    clear wW HX;obtain ⟨V,b1,b2,cnt2,rfl,rfl,HI,HV,wW,HX⟩:=hrel
    have HQ:=aj.mk (show (∀ x,Pm x->x∈mQ av gu l1 l2->x∈V)->uQ av gu l1 l2 Rt Ru=KF b1 b2 from fun hd=>by
      have hd2:∀ x∈mQ av gu l1 l2,x∈V:=fun x hx=>hd x (uO (by have:=HD.out.2 x hx;omega) (by have:=HD.out.2 x hx;omega)) hx
      unfold uQ
      rw [HI.out.1,HI.out.2,PL HV.out hd2,PL HV.out hd2])
    cases b1<;>cases b2
    all_goals
      go_wp2_with (first|(at_next;refine vB rfl _ rfl rfl wW.out (fun hd=>?_) (fun x c wn cnt3 hxw XA hxV PI hlt hgn hsz hen=>?_);all_goals (first|(have HE:=aj.mk (HQ.out hd);clear hd)|(have HXS:=aj.mk (And.intro XA hlt);have HLE:=aj.mk wW.out.left;have hb:=HD.out.2 x XA;have hb1:=hb.1;have hb2:=hb.2;have NB:=aj.mk (wW.out.o7 (g:=g7) ⟨HX.gb 0 rfl⟩);have NB4:=aj.mk (wW.out.o7 (g:=g4) ⟨HX.gb 1 rfl⟩);have uy:=HX.grow ⟨MR.out⟩ hgn (by simp [NB.out.2,NB4.out.2]);clear HX wW;have HX:=uy;have wW:=aj.mk PI;obtain ⟨FC,J8⟩:=HX.g2 0 rfl;clear uy hb hxw XA hxV PI hlt hgn hsz)))|(go_at_call 154;refine (oZ (xB.calls _ _ _ _ (Us _ _))).mono ?_;rintro e w5 ⟨rfl,hx⟩;replace HX:=HX.step hx;clear hx))
    all_goals first
      | (go_ret
         exact ⟨by rw [HE.out];rfl,HX.below⟩)
      | exact ⟨⟨V++[x],_,_,cnt3,rfl,rfl,⟨by rw [List.any_append,← HI.out.1];simp [PK],by rw [List.any_append,← HI.out.2];simp [PK]⟩,⟨fun y hy=>by rcases List.mem_append.1 hy with hy|hy;exact HV.out y hy;rw [List.mem_singleton.1 hy];exact HXS.out.1⟩,wW,HX⟩,by rw [wW.out.left,HLE.out];exact HXS.out.2⟩
mutual
def dI.j0:Nat->List nJ->List bB->List bB->Bool->List bI->Int->Int->Option (List Int × Int)
 | 0,_,_,_,_,_,_,_=>none
 | k+1,x1,x2,x3,x45,Dw,Dy,Dz=>if x45=true then (some (([]:List Int),2)) else (dI.l0 k x2 x3 ([]:List Int) x1 (x1.length:Int) 0 Dw Dy Dz)
def dI.l0:Nat->List bB->List bB->List Int->List nJ->Int->Int->List bI->Int->Int->Option (List Int × Int)
 | 0,_,_,_,_,_,_,_,_,_=>none
 | k+1,x2,x3,Gb,x46,x47,x48,Dw,Dy,Dz=>if x48<x47 then (if 0<=x48 then (if x48<(x46.length:Int) then ((ji.f Dw ((nK x46 x48).f0) x2 x3 Dy Dz).bind fun t186=>(if Gb.length<17592186044416 then (dI.l0 k x2 x3 (Gb++[t186]) x46 x47 (wrap64 (x48+1)) Dw Dy Dz) else (none))) else (none)) else (none)) else (some (Gb,0))
end
def dI.f (k:Nat) (av:List bI) (l1:List nJ) (l2:List bB) (l3:List bB) (lV:Int) (lW:Int):Option (List Int × Int):=(eG.f av).bind fun t178=>(if t178=true then ((dW.f (l1.length:Int) 1 3).bind fun t179=>(if t179=true then ((oG.f l1 av).bind fun t180=>(if t180=true then (dI.j0 k l1 l2 l3 true av lV lW) else ((eZ.f av l2).bind fun t181=>(if t181=true then ((eZ.f av l3).bind fun t182=>(if t182=true then ((gJ.f lV lW).bind fun t183=>(dI.j0 k l1 l2 l3 (!t183) av lV lW)) else (dI.j0 k l1 l2 l3 true av lV lW))) else (dI.j0 k l1 l2 l3 true av lV lW))))) else (dI.j0 k l1 l2 l3 true av lV lW))) else (dI.j0 k l1 l2 l3 true av lV lW))
theorem dI.calls (k:Nat) (bC:Option Addr) (aZ:Nat) (av:List bI) (A1:Option Addr) (c1:Nat) (l1:List nJ) (A2:Option Addr) (c2:Nat) (l2:List bB) (A3:Option Addr) (c3:Nat) (l3:List bB) (lV:Int) (lW:Int) (r1:List Int) (r2:Int) (w:World) (dw:Kd.C iG w bC av.length av) (dG:av.length<=aZ) (hr1:Kd.C Bf w A1 l1.length l1) (hc1:l1.length<=c1) (hr2:Kd.C eD w A2 l2.length l2) (hc2:l2.length<=c2) (hr3:Kd.C eD w A3 l3.length l3) (hc3:l3.length<=c3) (h:dI.f k av l1 l2 l3 lV lW=some (r1,r2)) :
  Calls Tryz.prog 35 #[.agg #[.slice bC av.length aZ],.slice A1 l1.length c1,.slice A2 l2.length c2,.slice A3 l3.length c3,.agg #[.int .i64 lV,.int .i64 lW]] w fun e w'=>∃ lM:Value,e=.returned (.tuple #[lM,.int .i64 r2])∧Kd.R (Kd.int .i64) 88 w' w.heap.size (fun _=>True) lM r1∧Below w.heap.size w w':=by
 have qb:=Tryz.underlying24;have jY:=Tryz.underlying37;have GQ:=Tryz.underlying49;have wR:=Tryz.underlying149;have dM:=aj.mk dw;have fu:=aj.mk dG;clear dw dG;have HR1:=aj.mk hr1;have yE:=aj.mk hc1;clear hr1 hc1;have HR2:=aj.mk hr2;have HC2:=aj.mk hc2;clear hr2 hc2;have HR3:=aj.mk hr3;have R9:=aj.mk hc3;clear hr3 hc3;have HB:=aj.mk (Below.refl w.heap.size w);have H:((eG.f av).bind fun t178=>(if t178=true then ((dW.f (l1.length:Int) 1 3).bind fun t179=>(if t179=true then ((oG.f l1 av).bind fun t180=>(if t180=true then (dI.j0 k l1 l2 l3 true av lV lW) else ((eZ.f av l2).bind fun t181=>(if t181=true then ((eZ.f av l3).bind fun t182=>(if t182=true then ((gJ.f lV lW).bind fun t183=>(dI.j0 k l1 l2 l3 (!t183) av lV lW)) else (dI.j0 k l1 l2 l3 true av lV lW))) else (dI.j0 k l1 l2 l3 true av lV lW))))) else (dI.j0 k l1 l2 l3 true av lV lW))) else (dI.j0 k l1 l2 l3 true av lV lW)))=some (r1,r2):=h;clear h;have HC6:=aj.mk H;clear H
 go_enter Tryz.func35,Tryz.ntmps35
 go_upto_region 1 with (first|((with_reducible refine au (N:=5) rfl ?_);(try (refine fI (by rfl) ?_;dsimp only));refine fA 5 #[.slice bC av.length aZ] 24 HB ?_;clear HB;intro PN w7 hg eu qmf HB hb;clear hb hg)|((with_reducible refine au (N:=9) rfl ?_);(try (refine fI (by rfl) ?_;dsimp only));refine fA 9 #[.int .i64 lV,.int .i64 lW] 37 HB ?_;clear HB;intro PO w8 hg gQ qmg HB hb;have qm:=Fh eu hg;have qo:=Fj eu hg;replace eu:=bW eu hb;clear hb hg))
 (try simp only [Act.put,sL])
 go_cut [45] (fun v45 wc=>∃ (kq:Nat) (PS:Bool),v45=.bool PS∧aj (dI.j0 kq l1 l2 l3 PS av lV lW=some (r1,r2))∧aj (kq<=k)∧aj (wc.heap[PN]?=some (.cells #[(.slice bC av.length aZ)] 24 (0,0)))∧aj (wc.heap[PO]?=some (.cells #[.int .i64 lV,.int .i64 lW] 37 (0,0)))∧aj (Below w.heap.size w wc))
 case first =>
  have H:=HC6.out;clear HC6;obtain ⟨t178,A9,H⟩:=nU H
  by_cases c10:t178=true
  ·subst c10
   rw [if_pos rfl] at H;obtain ⟨t179,A11,H⟩:=nU H
   by_cases c12:t179=true
   ·subst c12
    rw [if_pos rfl] at H;obtain ⟨t180,A13,H⟩:=nU H
    by_cases c14:t180=true
    ·subst c14
     rw [if_pos rfl] at H;have H':=aj.mk H;clear H;have qmh:=qm.out;have qmi:=qo.out;have Ae:=bc1 eu;have Af:=bf eu 0
     go_wp2_with (first|((with_reducible refine aG (f:=105) rfl ?_);refine bX (some 16) rfl rfl Tryz.func105 tX rfl #[.agg #[.slice bC av.length aZ]] rfl tM ?_;(with_reducible refine (eG.calls _ _ av true _ ?bK ?bL A9.out).mono ?_);(case bK=>exact cS dM);(case bL=>exact fu.out);rintro e w17 ⟨rfl,hb⟩;refine ⟨_,rfl,?_⟩;replace eu:=bW eu hb;replace gQ:=bW gQ hb;replace HB:=dL HB hb;(try clear hb))|(go_at_call 113;(with_reducible refine (dW.calls (l1.length:Int) 1 3 true _ A11.out).mono ?_);rintro e w' ⟨rfl,⟨nd,rfl⟩⟩)|(go_at_call 114;(with_reducible refine (oG.calls (fP:=bC) (fK:=aZ) _ _ l1 av true _ ?bK ?bL ?fM ?fO ?jI A13.out).mono ?_);(case bK=>exact cS HR1);(case bL=>exact yE.out);(case fM=>exact cS dM);(case fO=>exact fu.out);(case jI=>exact (qB2 eu));rintro e VN ⟨rfl,hb⟩;replace eu:=bW eu hb;replace gQ:=bW gQ hb;replace HB:=dL HB hb;(try clear hb)))
     go_meet
     case rel=>exact ⟨_,(true),tS,H',⟨by first|omega|exact Nat.le_refl _⟩,⟨(qB2 eu)⟩,⟨(qB2 gQ)⟩,⟨tB⟩⟩
    ·replace c14:=Bool.eq_false_iff.mpr c14
     subst c14
     have H1:((eZ.f av l2).bind fun t181=>(if t181=true then ((eZ.f av l3).bind fun t182=>(if t182=true then ((gJ.f lV lW).bind fun t183=>(dI.j0 k l1 l2 l3 (!t183) av lV lW)) else (dI.j0 k l1 l2 l3 true av lV lW))) else (dI.j0 k l1 l2 l3 true av lV lW)))=some (r1,r2):=by rw [if_neg (show ¬ (false=true) by decide)] at H;exact H
     clear H;have H:=H1;clear H1;obtain ⟨t181,A19,H⟩:=nU H
     by_cases c20:t181=true
     ·subst c20
      rw [if_pos rfl] at H;obtain ⟨t182,A21,H⟩:=nU H
      by_cases Zv:t182=true
      ·subst Zv
       rw [if_pos rfl] at H;obtain ⟨t183,A23,H⟩:=nU H;have H':=aj.mk H;clear H;have qeg:=qm.out;have qeh:=qo.out;have DC:=bc1 eu;have DF:=bf eu 0
       go_wp2_with (first|((with_reducible refine aG (f:=105) rfl ?_);refine bX (some 16) rfl rfl Tryz.func105 tX rfl #[.agg #[.slice bC av.length aZ]] rfl tM ?_;(with_reducible refine (eG.calls _ _ av true _ ?bK ?bL A9.out).mono ?_);(case bK=>exact cS dM);(case bL=>exact fu.out);rintro e w26 ⟨rfl,hb⟩;refine ⟨_,rfl,?_⟩;replace eu:=bW eu hb;replace gQ:=bW gQ hb;replace HB:=dL HB hb;(try clear hb))|(go_at_call 113;(with_reducible refine (dW.calls (l1.length:Int) 1 3 true _ A11.out).mono ?_);rintro e w' ⟨rfl,⟨nd,rfl⟩⟩)|(go_at_call 114;(with_reducible refine (oG.calls (fP:=bC) (fK:=aZ) _ _ l1 av false _ ?bK ?bL ?fM ?fO ?jI A13.out).mono ?_);(case bK=>exact cS HR1);(case bL=>exact yE.out);(case fM=>exact cS dM);(case fO=>exact fu.out);(case jI=>exact (qB2 eu));rintro e w27 ⟨rfl,hb⟩;replace eu:=bW eu hb;replace gQ:=bW gQ hb;replace HB:=dL HB hb;(try clear hb);have Iq:=bc1 eu;have Ir:=bf eu 0)|(go_at_call 106;(with_reducible refine (eZ.calls _ _ av _ _ l2 true _ ?bK ?bL ?fM ?fO A19.out).mono ?_);(case bK=>exact cS dM);(case bL=>exact fu.out);(case fM=>exact cS HR2);(case fO=>exact HC2.out);rintro e w29 ⟨rfl,hb⟩;replace eu:=bW eu hb;replace gQ:=bW gQ hb;replace HB:=dL HB hb;(try clear hb);have Du:=bc1 eu;have Dv:=bf eu 0)|(go_at_call 106;(with_reducible refine (eZ.calls _ _ av _ _ l3 true _ ?bK ?bL ?fM ?fO A21.out).mono ?_);(case bK=>exact cS dM);(case bL=>exact fu.out);(case fM=>exact cS HR3);(case fO=>exact R9.out);rintro e w31 ⟨rfl,hb⟩;replace eu:=bW eu hb;replace gQ:=bW gQ hb;replace HB:=dL HB hb;(try clear hb);obtain ⟨Ih,Ii⟩:=bc2 gQ;have Ij:=bf gQ 0;have Ik:=bf gQ 1)|(go_at_call 117;(with_reducible refine (gJ.calls lV lW t183 _ A23.out).mono ?_);rintro e w33 ⟨rfl,hb⟩;replace eu:=bW eu hb;replace gQ:=bW gQ hb;replace HB:=dL HB hb;(try clear hb)))
       go_meet
       case rel=>exact ⟨_,(!t183),tS,H',⟨by first|omega|exact Nat.le_refl _⟩,⟨(qB2 eu)⟩,⟨(qB2 gQ)⟩,⟨tB⟩⟩
      ·replace Zv:=Bool.eq_false_iff.mpr Zv
       subst Zv
       have H1:(dI.j0 k l1 l2 l3 true av lV lW)=some (r1,r2):=by rw [if_neg (show ¬ (false=true) by decide)] at H;exact H
       clear H;have H:=H1;clear H1;have H':=aj.mk H;clear H;have qmj:=qm.out;have qmk:=qo.out;have PU:=bc1 eu;have PV:=bf eu 0
       go_wp2_with (first|((with_reducible refine aG (f:=105) rfl ?_);refine bX (some 16) rfl rfl Tryz.func105 tX rfl #[.agg #[.slice bC av.length aZ]] rfl tM ?_;(with_reducible refine (eG.calls _ _ av true _ ?bK ?bL A9.out).mono ?_);(case bK=>exact cS dM);(case bL=>exact fu.out);rintro e w36 ⟨rfl,hb⟩;refine ⟨_,rfl,?_⟩;replace eu:=bW eu hb;replace gQ:=bW gQ hb;replace HB:=dL HB hb;(try clear hb))|(go_at_call 113;(with_reducible refine (dW.calls (l1.length:Int) 1 3 true _ A11.out).mono ?_);rintro e w' ⟨rfl,⟨nd,rfl⟩⟩)|(go_at_call 114;(with_reducible refine (oG.calls (fP:=bC) (fK:=aZ) _ _ l1 av false _ ?bK ?bL ?fM ?fO ?jI A13.out).mono ?_);(case bK=>exact cS HR1);(case bL=>exact yE.out);(case fM=>exact cS dM);(case fO=>exact fu.out);(case jI=>exact (qB2 eu));rintro e w37 ⟨rfl,hb⟩;replace eu:=bW eu hb;replace gQ:=bW gQ hb;replace HB:=dL HB hb;(try clear hb);have PW:=bc1 eu;have PX:=bf eu 0)|(go_at_call 106;(with_reducible refine (eZ.calls _ _ av _ _ l2 true _ ?bK ?bL ?fM ?fO A19.out).mono ?_);(case bK=>exact cS dM);(case bL=>exact fu.out);(case fM=>exact cS HR2);(case fO=>exact HC2.out);rintro e w39 ⟨rfl,hb⟩;replace eu:=bW eu hb;replace gQ:=bW gQ hb;replace HB:=dL HB hb;(try clear hb);have Il:=bc1 eu;have Im:=bf eu 0)|(go_at_call 106;(with_reducible refine (eZ.calls _ _ av _ _ l3 false _ ?bK ?bL ?fM ?fO A21.out).mono ?_);(case bK=>exact cS dM);(case bL=>exact fu.out);(case fM=>exact cS HR3);(case fO=>exact R9.out);rintro e w41 ⟨rfl,hb⟩;replace eu:=bW eu hb;replace gQ:=bW gQ hb;replace HB:=dL HB hb;(try clear hb)))
       go_meet
       case rel=>exact ⟨_,(true),tS,H',⟨by first|omega|exact Nat.le_refl _⟩,⟨(qB2 eu)⟩,⟨(qB2 gQ)⟩,⟨tB⟩⟩
     ·replace c20:=Bool.eq_false_iff.mpr c20
      subst c20
      have H1:(dI.j0 k l1 l2 l3 true av lV lW)=some (r1,r2):=by rw [if_neg (show ¬ (false=true) by decide)] at H;exact H
      clear H;have H:=H1;clear H1;have H':=aj.mk H;clear H;have qml:=qm.out;have qmm:=qo.out;have PY:=bc1 eu;have PZ:=bf eu 0
      go_wp2_with (first|((with_reducible refine aG (f:=105) rfl ?_);refine bX (some 16) rfl rfl Tryz.func105 tX rfl #[.agg #[.slice bC av.length aZ]] rfl tM ?_;(with_reducible refine (eG.calls _ _ av true _ ?bK ?bL A9.out).mono ?_);(case bK=>exact cS dM);(case bL=>exact fu.out);rintro e w44 ⟨rfl,hb⟩;refine ⟨_,rfl,?_⟩;replace eu:=bW eu hb;replace gQ:=bW gQ hb;replace HB:=dL HB hb;(try clear hb))|(go_at_call 113;(with_reducible refine (dW.calls (l1.length:Int) 1 3 true _ A11.out).mono ?_);rintro e w' ⟨rfl,⟨nd,rfl⟩⟩)|(go_at_call 114;(with_reducible refine (oG.calls (fP:=bC) (fK:=aZ) _ _ l1 av false _ ?bK ?bL ?fM ?fO ?jI A13.out).mono ?_);(case bK=>exact cS HR1);(case bL=>exact yE.out);(case fM=>exact cS dM);(case fO=>exact fu.out);(case jI=>exact (qB2 eu));rintro e w45 ⟨rfl,hb⟩;replace eu:=bW eu hb;replace gQ:=bW gQ hb;replace HB:=dL HB hb;(try clear hb);have P5:=bc1 eu;have P6:=bf eu 0)|(go_at_call 106;(with_reducible refine (eZ.calls _ _ av _ _ l2 false _ ?bK ?bL ?fM ?fO A19.out).mono ?_);(case bK=>exact cS dM);(case bL=>exact fu.out);(case fM=>exact cS HR2);(case fO=>exact HC2.out);rintro e w47 ⟨rfl,hb⟩;replace eu:=bW eu hb;replace gQ:=bW gQ hb;replace HB:=dL HB hb;(try clear hb)))
      go_meet
      case rel=>exact ⟨_,(true),tS,H',⟨by first|omega|exact Nat.le_refl _⟩,⟨(qB2 eu)⟩,⟨(qB2 gQ)⟩,⟨tB⟩⟩
   ·replace c12:=Bool.eq_false_iff.mpr c12
    subst c12
    have H1:(dI.j0 k l1 l2 l3 true av lV lW)=some (r1,r2):=by rw [if_neg (show ¬ (false=true) by decide)] at H;exact H
    clear H;have H:=H1;clear H1;have H':=aj.mk H;clear H;have qmn:=qm.out;have qmo:=qo.out;have P7:=bc1 eu;have P8:=bf eu 0
    go_wp2_with (first|((with_reducible refine aG (f:=105) rfl ?_);refine bX (some 16) rfl rfl Tryz.func105 tX rfl #[.agg #[.slice bC av.length aZ]] rfl tM ?_;(with_reducible refine (eG.calls _ _ av true _ ?bK ?bL A9.out).mono ?_);(case bK=>exact cS dM);(case bL=>exact fu.out);rintro e w50 ⟨rfl,hb⟩;refine ⟨_,rfl,?_⟩;replace eu:=bW eu hb;replace gQ:=bW gQ hb;replace HB:=dL HB hb;(try clear hb))|(go_at_call 113;(with_reducible refine (dW.calls (l1.length:Int) 1 3 false _ A11.out).mono ?_);rintro e w' ⟨rfl,⟨nd,rfl⟩⟩))
    go_meet
    case rel=>exact ⟨_,(true),tS,H',⟨by first|omega|exact Nat.le_refl _⟩,⟨(qB2 eu)⟩,⟨(qB2 gQ)⟩,⟨tB⟩⟩
  ·replace c10:=Bool.eq_false_iff.mpr c10
   subst c10
   have H1:(dI.j0 k l1 l2 l3 true av lV lW)=some (r1,r2):=by rw [if_neg (show ¬ (false=true) by decide)] at H;exact H
   clear H;have H:=H1;clear H1;have H':=aj.mk H;clear H;have qmp:=qm.out;have qmq:=qo.out;have P9:=bc1 eu;have Qa:=bf eu 0
   go_wp2_with (first|((with_reducible refine aG (f:=105) rfl ?_);refine bX (some 16) rfl rfl Tryz.func105 tX rfl #[.agg #[.slice bC av.length aZ]] rfl tM ?_;(with_reducible refine (eG.calls _ _ av false _ ?bK ?bL A9.out).mono ?_);(case bK=>exact cS dM);(case bL=>exact fu.out);rintro e w53 ⟨rfl,hb⟩;refine ⟨_,rfl,?_⟩;replace eu:=bW eu hb;replace gQ:=bW gQ hb;replace HB:=dL HB hb;(try clear hb)))
   go_meet
   case rel=>exact ⟨_,(true),tS,H',⟨by first|omega|exact Nat.le_refl _⟩,⟨(qB2 eu)⟩,⟨(qB2 gQ)⟩,⟨tB⟩⟩
 case rest =>
  clear HC6
  try clear c1
  try clear c2
  try clear p2
  try clear c3
  try clear c4
  try clear c5
  try clear c10
  try clear c12
  try clear c14
  try clear c15
  try clear c20
  try clear Zv
  try clear c24
  try clear c34
  try clear c35
  try clear c42
  try clear c48
  try clear c51
  try clear Ae
  try clear DC
  try clear Iq
  try clear Du
  try clear Ih
  try clear Ii
  try clear PU
  try clear PW
  try clear Il
  try clear PY
  try clear P5
  try clear P7
  try clear P9
  try clear Af
  try clear DF
  try clear Ir
  try clear Dv
  try clear Ij
  try clear Ik
  try clear PV
  try clear PX
  try clear Im
  try clear PZ
  try clear P6
  try clear P8
  try clear Qa
  obtain ⟨kq,PS,rfl,HA,HJ5,eu,gQ,HB⟩:=hcut
  cases kq with
  | zero=>exact absurd HA.out (by simp [dI.j0])
  | succ kj5 =>
   have H:=HA.out;clear HA;simp only [dI.j0] at H
   by_cases c54:PS=true
   ·subst c54
    rw [if_pos rfl] at H;simp only [Option.some.injEq,Prod.mk.injEq] at H;obtain ⟨rfl,rfl⟩:=H
    go_wp2
    go_ret2
    exact ⟨_,tF,by first|exact Kd.mI _ _ _ _ _|exact Kd.wN _ _ _ _ _|exact Kd.wP _ _ _ _ _|exact Kd.wK _ _ _ _ _|exact Kd.wM _ _ _ _ _,tB⟩
   ·replace c54:=Bool.eq_false_iff.mpr c54
    subst c54
    have H1:(dI.l0 kj5 l2 l3 ([]:List Int) l1 (l1.length:Int) 0 av lV lW)=some (r1,r2):=by rw [if_neg (show ¬ (false=true) by decide)] at H;exact H
    clear H;have H:=H1;clear H1;have H':=aj.mk H;clear H
    go_wp2
    go_loopg [12,48] kj5 (fun kq v12 v48 w'=>∃ (xC:List Int) (oL:Int),v48=.int .i64 oL∧aj (dI.l0 kq l2 l3 xC l1 (l1.length:Int) oL av lV lW=some (r1,r2))∧aj (kq<=kj5)∧aj (Kd.R (Kd.int .i64) 88 w' w.heap.size (fun _=>True) v12 xC)∧aj (w'.heap[PN]?=some (.cells #[(.slice bC av.length aZ)] 24 (0,0)))∧aj (w'.heap[PO]?=some (.cells #[.int .i64 lV,.int .i64 lW] 37 (0,0)))∧aj (Below w.heap.size w w'))
    case atStart=>exact ⟨(([]:List Int)),(0),tS,H',⟨Nat.le_refl _⟩,⟨by first|exact Kd.mI _ _ _ _ _|exact Kd.wN _ _ _ _ _|exact Kd.wP _ _ _ _ _|exact Kd.wK _ _ _ _ _|exact Kd.wM _ _ _ _ _⟩,⟨(qB2 eu)⟩,⟨(qB2 gQ)⟩,⟨tB⟩⟩
    case round =>
     clear H'
     try clear c1
     try clear c2
     try clear p2
     try clear c3
     try clear c4
     try clear c5
     try clear c10
     try clear c12
     try clear c14
     try clear c15
     try clear c20
     try clear Zv
     try clear c24
     try clear c34
     try clear c35
     try clear c42
     try clear c48
     try clear c51
     try clear c54
     try clear Ae
     try clear DC
     try clear Iq
     try clear Du
     try clear Ih
     try clear Ii
     try clear PU
     try clear PW
     try clear Il
     try clear PY
     try clear P5
     try clear P7
     try clear P9
     try clear Af
     try clear DF
     try clear Ir
     try clear Dv
     try clear Ij
     try clear Ik
     try clear PV
     try clear PX
     try clear Im
     try clear PZ
     try clear P6
     try clear P8
     try clear Qa
     try clear p2
     obtain ⟨xC,oL,rfl,HA,VO,Cm,eu,gQ,HB⟩:=hrel
     cases gk with
     | zero=>exact absurd HA.out (by simp [dI.l0])
     | succ k2 =>
      have H:=HA.out;clear HA;simp only [dI.l0] at H
      by_cases c55:oL<(l1.length:Int)
      ·rw [if_pos c55] at H
       have qej:decide (oL<(l1.length:Int))=true:=decide_eq_true c55;clear c55
       by_cases c56:0<=oL
       ·rw [if_pos c56] at H
        have qms:decide (0<=oL)=true:=decide_eq_true c56;clear c56
        by_cases c57:oL<(l1.length:Int)
        ·rw [if_pos c57] at H
         have qmt:decide (oL<(l1.length:Int))=true:=decide_eq_true c57;clear c57;obtain ⟨t186,A58,H⟩:=nU H
         by_cases c59:xC.length<17592186044416
         ·rw [if_pos c59] at H
          have qek:=aj.mk c59;clear c59;obtain ⟨qel,KH⟩:∃ y_:List Int,y_=(xC++[t186]):=⟨_,rfl⟩
          replace H:(dI.l0 k2 l2 l3 qel l1 (l1.length:Int) (wrap64 (oL+1)) av lV lW)=some (r1,r2):=by first|(rw [KH];with_reducible exact H)|(have jr:=(Option.bind_some _ _).symm.trans H;rw [KH];with_reducible exact jr)|(have jr:=(Option.bind_some _ _).symm.trans H;with_reducible exact jr)|with_reducible exact H|(rw [KH];exact H)|exact H
          have qem:=aj.mk KH;clear KH;have H':=aj.mk H;clear H;have qbq:0<=(oL:Int):=of_decide_eq_true tA;have qbr:oL<(l1.length:Int):=of_decide_eq_true tA;obtain ⟨qmu,Iu,Iw,qjR,Qb,Qc,Qd⟩:=LY HR1.out oL qbq qbr
          cases qjR
          replace Qb:=dz HB Qb;have XD:=aj.mk Qd;have XE:=aj.mk Qc;clear Qd Qc;replace qbq:=eq_true qbq;replace qbr:=eq_true qbr
          go_wp2_with (first|((with_reducible refine au (N:=14) rfl ?_);(try (refine fI (by rfl) ?_;dsimp only));refine fA 14 #[.slice none 0 0] 49 HB ?_;clear HB;intro Ut w60 hg EK qmv HB hb;replace Cm:=tZ Cm hb;have Gc:=Fh eu hg;have Rv:=Fj eu hg;replace eu:=bW eu hb;have Gd:=Fh gQ hg;have Rw:=Fj gQ hg;replace gQ:=bW gQ hb;clear hb hg;have qmw:=Rv.out;have qmx:=Gc.out;have qmy:=Rw.out;have qmz:=Gd.out;have qhE:=bc1 EK;have qhF:=bf EK 0;have qmA:=qm.out;have qmB:=qo.out;have qhG:=bc1 eu;have qhH:=bf eu 0;obtain ⟨qhI,qhJ⟩:=bc2 gQ;have qhK:=bf gQ 0;have qhL:=bf gQ 1)|((with_reducible refine aG (f:=118) rfl ?_);refine bX (some 59) rfl rfl Tryz.func118 tX rfl #[.agg #[.slice bC av.length aZ,.slice Iu ((nK l1 oL).f0).length Iw],.slice A2 l2.length c2,.slice A3 l3.length c3,.agg #[.int .i64 lV,.int .i64 lW]] rfl tM ?_;(with_reducible refine (ji.calls _ _ av _ _ ((nK l1 oL).f0) _ _ l2 _ _ l3 lV lW t186 _ ?bK ?bL ?fM ?fO ?jI ?zL ?J3 ?J4 A58.out).mono ?_);(case bK=>exact Kd.ak dM.out tB);(case bL=>exact fu.out);(case fM=>exact Kd.ak XD.out tB);(case fO=>exact XE.out);(case jI=>exact Kd.ak HR2.out tB);(case zL=>exact HC2.out);(case J3=>exact Kd.ak HR3.out tB);(case J4=>exact R9.out);rintro e w67 ⟨rfl,hb⟩;refine ⟨_,rfl,?_⟩;replace Cm:=aj.mk (Kd.jS (by (with_reducible repeat (first|apply Kd.kY|apply Kd.kZ|apply Kd.mJ));exact (Kd.gq (Kd.jC (p:=⟨Ut,0,none⟩) (Kd.iZ Cm.out EK.out (by decide)) (fun _ hk=>hk.2) (.slice Iu ((nK l1 oL).f0).length Iw)) (fun _ h_=>h_.1))) hb);replace eu:=aj.mk (aD (g:=PN) (o:=.cells #[.slice bC av.length aZ] 24 (0,0)) (by (with_reducible repeat (first|refine aJ ?_ _|refine aN ?_|refine aI ?_ _));refine ko ?_ Gc.out _;(with_reducible repeat (first|refine aJ ?_ _|refine aN ?_|refine aI ?_ _));exact eu.out) hb);replace gQ:=aj.mk (aD (g:=PO) (o:=.cells #[.int .i64 lV,.int .i64 lW] 37 (0,0)) (by (with_reducible repeat (first|refine aJ ?_ _|refine aN ?_|refine aI ?_ _));refine ko ?_ Gd.out _;(with_reducible repeat (first|refine aJ ?_ _|refine aN ?_|refine aI ?_ _));exact gQ.out) hb);replace EK:=aj.mk (aD (g:=Ut) (o:=.cells #[.slice Iu ((nK l1 oL).f0).length Iw] 49 (0,0)) (by (with_reducible repeat (first|refine aJ ?_ _|refine aN ?_|refine aI ?_ _));refine dO (cs:=#[.slice none 0 0]) ?_ 0 _ rfl;(with_reducible repeat (first|refine aJ ?_ _|refine aN ?_|refine aI ?_ _));exact EK.out) hb);replace HB:=dL HB hb;(try clear hb))|((with_reducible refine eY (b:=.append) (xs:=#[.tmp 52,.tmp 60]) rfl ?_);(try (refine fI (by rfl) ?_;dsimp only));at_builtin;refine Kd.sO (Kd.int .i64) (w0:=w) w.heap.size rfl (.tmp 52) (.tmp 60) 39 88 (.int .i64 0) 8 rfl Tryz.underlying39 qav rfl (by decide) (by omega) u12 xC t186 [.int .i64 t186] (fun _=>True) (fun _=>False) rfl rfl ?aP (fun _ hk=>hk.elim) ?aF ?aO ?aB ?aS ?aL ?_;(case aP=>exact rfl);(case aB=>exact tB);(case aF=>exact (fun _ _=>trivial));(case aO=>exact (qCo Cm));(case aS=>exact (bD tB));(case aL=>have:=qek.out;omega);intro qpk w68 ho hb hg hat;rw [← qem.out] at ho;replace eu:=aj.mk (jF (g:=PN) (o:=.cells #[.slice bC av.length aZ] 24 (0,0)) (qB2 eu) hg (Kd.DZ Cm.out eu.out (by decide)));replace gQ:=aj.mk (jF (g:=PO) (o:=.cells #[.int .i64 lV,.int .i64 lW] 37 (0,0)) (qB2 gQ) hg (Kd.DZ Cm.out gQ.out (by decide)));replace EK:=aj.mk (jF (g:=Ut) (o:=.cells #[.slice Iu ((nK l1 oL).f0).length Iw] 49 (0,0)) (qB2 EK) hg (Kd.DZ Cm.out EK.out (by decide)));replace HB:=aj.mk (hb);have qmC:=aj.mk (ho);clear Cm;clear ho hb hg hat))
          go_roundg k2
          case measure=>have:=HJ5.out;have:=VO.out;omega
          case rel=>exact ⟨(qel),(wrap64 (oL+1)),tS,H',⟨by have:=HJ5.out;have:=VO.out;omega⟩,⟨(qCo qmC)⟩,⟨(qB2 eu)⟩,⟨(qB2 gQ)⟩,⟨tB⟩⟩
         ·rw [if_neg c59] at H
          exact absurd H (by simp)
        ·rw [if_neg c57] at H
         exact absurd H (by simp)
       ·rw [if_neg c56] at H
        exact absurd H (by simp)
      ·rw [if_neg c55] at H
       have qej:decide (oL<(l1.length:Int))=false:=decide_eq_false c55;clear c55;simp only [Option.some.injEq,Prod.mk.injEq] at H;obtain ⟨rfl,rfl⟩:=H
       go_wp2
       go_ret2
       exact ⟨_,tF,(qCo Cm),tB⟩
def lF.f (a0:Int) (xD:Int) (gT:Int):Option Bool:=(dW.f a0 xD gT).bind fun t242=>(some t242)
theorem lF.calls (a0:Int) (xD:Int) (gT:Int) (r:Bool) (w:World) (h:lF.f a0 xD gT=some r) :
  Calls Tryz.prog 140 #[.int .i64 a0,.agg #[.int .i64 xD,.int .i64 gT]] w fun e w'=>e=.returned (.bool r)∧Below w.heap.size w w':=by
 have jY:=Tryz.underlying37;have HB:=aj.mk (Below.refl w.heap.size w);have H:((dW.f a0 xD gT).bind fun t242=>(some t242))=some r:=h;clear h;obtain ⟨t242,A3,H⟩:=nU H;obtain rfl:=Option.some.inj H
 go_enter Tryz.func140,Tryz.ntmps140
 go_wp2_with (first|((with_reducible refine au (N:=3) rfl ?_);refine fA 3 #[.int .i64 xD,.int .i64 gT] 37 HB ?_;clear HB;intro qmD w4 hg Uu qmE HB hb;clear hb hg;obtain ⟨Bg,qax⟩:=bc2 Uu;have Bh:=bf Uu 0;have qay:=bf Uu 1)|((with_reducible refine aG (f:=113) rfl ?_);refine bX (some 10) rfl rfl Tryz.func113 tX rfl #[.int .i64 a0,.int .i64 xD,.int .i64 gT] rfl tM ?_;(with_reducible refine (dW.calls a0 xD gT t242 _ A3.out).mono ?_);rintro e w' ⟨rfl,⟨nd,rfl⟩⟩;refine ⟨_,rfl,?_⟩))
 go_ret
 exact ⟨tF,tB⟩
theorem Uv (x lo hi:Int):lF.f x lo hi=some (oN x lo hi):=by unfold lF.f;rw [Eu];rfl
def xE (a:List Int) (b:List bQ):Bool:=decide (a.length=b.length)&&(a.zip b).all (fun p=>oN p.1 p.2.f0 p.2.f1)
theorem KI (a:List Int) (b:List bQ) (hl:a.length=b.length) (h:∀ i:Int,0<=i->i<a.length->oN (rd a i) (bH b i).f0 (bH b i).f1=true):xE a b=true:=by
 unfold xE
 rw [decide_eq_true hl,Bool.true_and,List.all_eq_true];intro p hp;obtain ⟨i,hi,rfl⟩:=List.mem_iff_getElem.1 hp;rw [List.length_zip] at hi;have:=h i (by omega) (by omega);simp only [rd,bH,Int.toNat_natCast,List.getD_eq_getElem?_getD] at this;rw [List.getElem?_eq_getElem (by omega),List.getElem?_eq_getElem (by omega)] at this
 simpa using this
theorem Iy (a:List Int) (b:List bQ) (hl:a.length=b.length) (i:Int) (h0:0<=i) (h1:i<a.length) (h:oN (rd a i) (bH b i).f0 (bH b i).f1=false):xE a b=false:=by
 unfold xE
 rw [decide_eq_true hl,Bool.true_and,List.all_eq_false]
 have hz:i.toNat<(a.zip b).length:=by rw [List.length_zip];omega
 refine ⟨(a.zip b)[i.toNat],List.getElem_mem hz,?_⟩;simp only [rd,bH,List.getD_eq_getElem?_getD] at h;rw [List.getElem?_eq_getElem (by omega),List.getElem?_eq_getElem (by omega)] at h
 simpa using h
theorem Rx (a:List Int) (b:List bQ) (hl:¬ a.length=b.length):xE a b=false:=by
 unfold xE
 rw [decide_eq_false hl,Bool.false_and]
theorem qen (A:Option Addr) (c:Nat) (l:List Int) (A1:Option Addr) (c1:Nat) (l1:List bQ) (w:World) (hr:Kd.C (Kd.int .i64) w A l.length l) (hr1:Kd.C jW w A1 l1.length l1) :
  Calls Tryz.prog 139 #[.slice A l.length c,.slice A1 l1.length c1,.func (.func 140) #[] #[]] w fun e w'=>e=.returned (.bool (xE l l1))∧Below w.heap.size w w':=by
 have hm:l.length<=9223372036854775807:=hr.2.1;have HR:=aj.mk hr;have HR1:=aj.mk hr1;have HB:=aj.mk (Below.refl w.heap.size w);clear hr hr1;have he:∀ args w,(callFunc 140 args).run Tryz.prog w=.ok (.enter 140 args) w:=enters_of Tryz.func140 tX rfl
 by_cases hl:l.length=l1.length
 ·have HL:=aj.mk hl
  have hq:((l.length:Int) != (l1.length:Int))=false:=by rw [hl];simp
  clear hl
  go_enter Tryz.func139,Tryz.ntmps139
  go_wp2_with fail
  clear HB
  go_loopw [7,8,9,17] (fun _ _ _ i W=>∃ k:Int,0<=k∧k<=l.length∧i=.int .i64 k∧aj (∀ i:Int,0<=i->i<k->oN (rd l i) (bH l1 i).f0 (bH l1 i).f1=true)∧aj (Below w.heap.size w W)) (fun _ _ _ i _=>l.length - (intOf i).toNat)
  case atStart=>exact ⟨0,by omega,by omega,rfl,⟨fun i _ h=>absurd h (by omega)⟩,⟨Below.refl _ _⟩⟩
  case round =>
   obtain ⟨k,hk0,hk,rfl,hn,HB⟩:=hrel
   by_cases hlt:k<l.length
   ·have hlt1:k<l1.length:=by have:=HL.out;omega
    obtain ⟨ad,rfl,hy0⟩:=Kd.iE HR.out k hk0 hlt;replace hy0:=dz HB hy0;obtain ⟨ad1,rfl,hx0,hx1⟩:=nI HR1.out k hk0 hlt1;replace hx0:=dz HB hx0;replace hx1:=dz HB hx1;have hu:=Tryz.underlying37
    go_wp2_with (first|((with_reducible refine au (N:=9) rfl ?_);refine jR rfl rfl (cs:=#[.int .i64 0,.int .i64 0]) (t:=37) tG HB ?_;clear HB;intro gx w3 HX GX HB hx;replace hx0:=(hx.cell (World.block_lt_of_cell? _ _ hx0)).trans hx0;replace hx1:=(hx.cell (World.block_lt_of_cell? _ _ hx1)).trans hx1;clear hx)|((with_reducible refine aY (t:=37) (p:=9) rfl ?_);refine iP rfl rfl rfl HX GX HB (.agg #[.int .i64 (bH l1 k).f0,.int .i64 (bH l1 k).f1]) [.int .i64 (bH l1 k).f0,.int .i64 (bH l1 k).f1] #[.int .i64 (bH l1 k).f0,.int .i64 (bH l1 k).f1] rfl rfl rfl tX (Nat.le_refl _) (by simp [Value.oneCell']) rfl ?_;clear HB HX;intro w4 HX HB hx;obtain ⟨d0,d1⟩:=qM HX.out;clear hx))
    refine (lF.calls _ _ _ _ _ (Uv _ _ _)).mono ?_;rintro e w5 ⟨rfl,hx⟩;replace HB:=eH HB hx;clear hx HX GX
    cases hp:oN (rd l k) (bH l1 k).f0 (bH l1 k).f1 with
    | true =>
     have HP:=aj.mk hp;clear hp
     go_wp2_with fail
     go_roundw
     case rel=>exact ⟨k+1,by omega,by omega,by go_num,⟨fun i h0 h=>by
      by_cases e:i<k
      ·exact hn.out i h0 e
      ·obtain rfl:i=k:=by omega
       exact HP.out⟩,HB⟩
     case measure=>simp [intOf];omega
    | false =>
     have HP:=aj.mk hp;clear hp
     go_wp2_with fail
     go_ret
     exact ⟨nO (Iy l l1 HL.out k hk0 hlt HP.out).symm,HB.out⟩
   ·have hg:¬ k<l.length:=hlt
    go_wp2_with fail
    go_ret
    exact ⟨nO (KI l l1 HL.out (fun i h0 h1=>hn.out i h0 (by omega))).symm,HB.out⟩
 ·have HL:=aj.mk hl
  go_enter Tryz.func139,Tryz.ntmps139
  have hq:((l.length:Int) != (l1.length:Int))=true:=by simp;omega
  clear hl
  go_wp2_with fail
  go_ret
  exact ⟨nO (Rx l l1 HL.out).symm,HB.out⟩
def qp.f (l0:List Int) (l1:List bQ):Option Bool:=some (xE l0 l1)
theorem qp.calls (A0:Option Addr) (c0:Nat) (l0:List Int) (A1:Option Addr) (c1:Nat) (l1:List bQ) (r:Bool) (w:World) (hr0:Kd.C (Kd.int .i64) w A0 l0.length l0) (hc0:l0.length<=c0) (hr1:Kd.C jW w A1 l1.length l1) (hc1:l1.length<=c1) (h:qp.f l0 l1=some r) :
  Calls Tryz.prog 139 #[.slice A0 l0.length c0,.slice A1 l1.length c1,.func (.func 140) #[] #[]] w fun e w'=>e=.returned (.bool r)∧Below w.heap.size w w':=by
 obtain rfl:=Option.some.inj h;exact qen A0 c0 l0 A1 c1 l1 w hr0 hr1
def KL (Bu eye n x y:Int):Bool:=decide (max (wrap64 (x - y)) (wrap64 (y - x))<=wrap64 (eye+wrap64 (n*Bu)))
def vG (Bu eye:Int):List Int->Int->List Int->List Int->List Int
 | [],_,_,out=>out
 | x::l,n,fs,out=>if om (KL Bu eye n x) fs<0 then vG Bu eye l (n+1) (fs++[x]) (out++[(fs.length:Int)]) else vG Bu eye l (n+1) fs (out++[om (KL Bu eye n x) fs])
def lG.f (a0:Int) (l1:List Int) (a2:Int):Option (List Int):=if l1.length<=1000000 then some (vG a0 a2 l1 0 [] []) else none
theorem lG.TJ {t e:Int} {l r:List Int} (h:lG.f t l e=some r):r=vG t e l 0 [] []∧l.length<=1000000:=by
 unfold lG.f at h
 split at h
 ·exact ⟨(Option.some.inj h).symm,‹_›⟩
 ·cases h
theorem qjS (gx ge gn gt:Nat) (x eye n t y:Int) (w:World) (hx:w.heap[gx]?=some (.cells #[.int .i64 x] 3 (0,0))) (he:w.heap[ge]?=some (.cells #[.int .i64 eye] 3 (0,0))) (hn:w.heap[gn]?=some (.cells #[.int .i64 n] 3 (0,0))) (ht:w.heap[gt]?=some (.cells #[.int .i64 t] 3 (0,0))) :
  Calls Tryz.prog 188 #[.int .i64 y,.pointer (some ⟨gx,0,none⟩),.pointer (some ⟨ge,0,none⟩),.pointer (some ⟨gn,0,none⟩),.pointer (some ⟨gt,0,none⟩)] w fun e w'=>e=.returned (.bool (KL t eye n x y))∧Below w.heap.size w w':=by
 replace hx:=fG hx;replace he:=fG he;replace hn:=fG hn;replace ht:=fG ht;have HB:=aj.mk (Below.refl w.heap.size w)
 go_enter Tryz.func188,Tryz.ntmps188
 go_wp2_with fail
 all_goals
  go_ret
  exact ⟨nO (decide_eq_decide.2 (by omega)),HB.out⟩
theorem lG.calls (a0:Int) (A1:Option Addr) (c1:Nat) (l1:List Int) (a2:Int) (r:List Int) (w:World) (hr1:Kd.C (Kd.int .i64) w A1 l1.length l1) (hc1:l1.length<=c1) (h:lG.f a0 l1 a2=some r) :
  Calls Tryz.prog 141 #[.int .i64 a0,.slice A1 l1.length c1,.int .i64 a2] w fun e w'=>∃ lM:Value,e=.returned (lM)∧Kd.R (Kd.int .i64) 3 w' w.heap.size (fun _=>True) lM r∧Below w.heap.size w w':=by
 obtain ⟨rfl,hl⟩:=lG.TJ h;have HR:=aj.mk hr1;have HL:=aj.mk hl;have HB:=aj.mk (Below.refl w.heap.size w);have hm:l1.length<=9223372036854775807:=hr1.2.1;clear hl h hr1
 go_enter Tryz.func141,Tryz.ntmps141
 go_wp2_with (first|((with_reducible refine au (N:=3) rfl ?_);refine jR rfl rfl (cs:=#[.int .i64 a0]) (t:=3) tG HB ?_;clear HB;intro gt w3 HT GT HB hx;clear hx)|((with_reducible refine au (N:=5) rfl ?_);refine jR rfl rfl (cs:=#[.int .i64 a2]) (t:=3) tG HB ?_;clear HB;intro ge w4 HE GE HB hx;replace HT:=dQ HT hx;clear hx))
 go_loopw [7,8,9,10,11,14] (fun v7 v8 _ _ _ i W=>∃ (k:Int) (fs out:List Int),0<=k∧k<=l1.length∧i=.int .i64 k∧aj (fs.length<=k∧out.length=k∧vG a0 a2 (l1.drop k.toNat) k fs out=vG a0 a2 l1 0 [] [])∧aj (Kd.R (Kd.int .i64) 3 W w.heap.size (fun _=>True) v7 out)∧aj (Kd.R (Kd.int .i64) 3 W w.heap.size (fun _=>True) v8 fs)∧aj (uh v7 v8)∧aj (some gt≠v7.ownBlock)∧aj (some gt≠v8.ownBlock)∧aj (some ge≠v7.ownBlock)∧aj (some ge≠v8.ownBlock)∧aj (W.heap[gt]?=some (.cells #[.int .i64 a0] 3 (0,0)))∧aj (W.heap[ge]?=some (.cells #[.int .i64 a2] 3 (0,0)))∧aj (Below w.heap.size w W)) (fun _ _ _ _ _ i _=>l1.length - (intOf i).toNat)
 case atStart=>exact ⟨0,[],[],by omega,by omega,rfl,⟨by simp,by simp,rfl⟩,⟨Kd.mI _ _ _ _ _⟩,⟨Kd.mI _ _ _ _ _⟩,qaL _,OG _,OG _,OG _,OG _,HT,HE,HB⟩
 case round =>
  clear HT HE HB;obtain ⟨k,fs,out,hk0,hk,rfl,HI,DI,CO,HN,N1,N2,N3,N4,HT,HE,HB⟩:=hrel
  by_cases hlt:k<l1.length
  ·obtain ⟨ad,rfl,hy0⟩:=Kd.iE HR.out k hk0 hlt
   replace hy0:=dz HB hy0;obtain ⟨A8,c8,rfl,hl8,_⟩:=Kd.fE CO.out
   go_wp2_with (first|((with_reducible refine au (N:=9) rfl ?_);refine jg rfl rfl (cs:=#[.int .i64 0]) (t:=3) tG HB ?_;clear HB;intro gn wxn Hn Gn HB hx hz;have Dn:=aj.mk (show gt≠gn∧ge≠gn from ⟨fun e=>by have:=bZ HT.out;omega,fun e=>by have:=bZ HE.out;omega⟩);replace HT:=dQ HT hx;replace HE:=dQ HE hx;have Mn7:=wQ DI hz;have Mn8:=wQ CO hz;replace DI:=qN DI hx;replace CO:=qN CO hx;replace hy0:=(hx.cell (World.block_lt_of_cell? _ _ hy0)).trans hy0;clear hx hz)|((with_reducible refine au (N:=10) rfl ?_);refine jg rfl rfl (cs:=#[.int .i64 0]) (t:=3) tG HB ?_;clear HB;intro gx wxx Hx Gx HB hx hz;have Dx:=aj.mk (show gt≠gx∧ge≠gx from ⟨fun e=>by have:=bZ HT.out;omega,fun e=>by have:=bZ HE.out;omega⟩);have Dnx:=aj.mk (show gn≠gx from fun e=>by have:=bZ Hn.out;omega);replace Hn:=dQ Hn hx;replace HT:=dQ HT hx;replace HE:=dQ HE hx;have Mx7:=wQ DI hz;have Mx8:=wQ CO hz;replace DI:=qN DI hx;replace CO:=qN CO hx;replace hy0:=(hx.cell (World.block_lt_of_cell? _ _ hy0)).trans hy0;clear hx hz)|((with_reducible refine aY (t:=3) (p:=9) rfl ?_);refine iP rfl rfl rfl Hn Gn HB (.int .i64 k) [.int .i64 k] #[.int .i64 k] rfl rfl rfl tX (Nat.le_refl _) (by simp [Value.oneCell']) rfl ?_;clear HB Hn;intro wzn Hn HB hx;replace HT:=gM HT hx Dn.out.1;replace HE:=gM HE hx Dn.out.2;replace DI:=Et DI rfl hx Mn7.out;replace CO:=Et CO rfl hx Mn8.out;replace Hx:=gM Hx hx Dnx.out.symm;clear hx)|((with_reducible refine aY (t:=3) (p:=10) rfl ?_);refine iP rfl rfl rfl Hx Gx HB (.int .i64 (rd l1 k)) [.int .i64 (rd l1 k)] #[.int .i64 (rd l1 k)] rfl rfl rfl tX (Nat.le_refl _) (by simp [Value.oneCell']) rfl ?_;clear HB Hx;intro wzx Hx HB hx;replace HT:=gM HT hx Dx.out.1;replace HE:=gM HE hx Dx.out.2;replace DI:=Et DI rfl hx Mx7.out;replace CO:=Et CO rfl hx Mx8.out;replace Hn:=gM Hn hx Dnx.out;clear hx))
   obtain ⟨j,hj⟩:∃ j,j=om (KL a0 a2 k (rd l1 k)) fs:=⟨_,rfl⟩;have HJ:=aj.mk hj
   have HC:=aj.mk (qdi (KL a0 a2 k (rd l1 k)) 188 #[.pointer (some ⟨gx,0,none⟩),.pointer (some ⟨ge,0,none⟩),.pointer (some ⟨gn,0,none⟩),.pointer (some ⟨gt,0,none⟩)] A8 c8 fs wzx (Kd.eB CO.out).2.2 (enters_of Tryz.func188 tX rfl) (fun x hx=>⟨fun W cs hb hK=>by
    obtain rfl:=hK
    exact qjS gx ge gn gt _ _ _ _ _ W (aD Hx.out hb) (aD HE.out hb) (aD Hn.out hb) (aD HT.out hb)⟩))
   rw [← hj] at HC;clear hj
   have hj1 : -1<=j:=by rw [HJ.out];exact (yV _ _).1
   have hj2:j<=fs.length:=by rw [HJ.out];exact (yV _ _).2
   refine HC.out.mono ?_;rintro e wc ⟨rfl,hx⟩;replace HB:=eH HB hx;replace HT:=dQ HT hx;replace HE:=dQ HE hx;replace Hx:=dQ Hx hx;replace DI:=qN DI hx;replace CO:=qN CO hx;have hcx:=fG Hx.out;clear hx HC Hn Gn Gx Dn Dx Dnx Mn7 Mn8 hy0
   have HS:=aj.mk (show l1.drop k.toNat=rd l1 k::l1.drop (k+1).toNat by
    rw [show (k+1).toNat=k.toNat+1 by omega,rd,List.getD_eq_getElem?_getD,List.getElem?_eq_getElem (by omega)]
    exact List.drop_eq_getElem_cons (by omega))
   by_cases hneg:j<0
   ·have hq:decide (j<0)=true:=decide_eq_true hneg
    have HQ:=aj.mk hneg;clear hneg;have HX:=Hx
    go_wp2_with (first|((with_reducible refine eY (b:=.append) (xs:=#[.tmp 26,.tmp 28]) rfl ?_);at_builtin;refine oD (Kd.int .i64) rfl (.tmp 26) (.tmp 28) 47 3 (.int .i64 0) 8 rfl Tryz.underlying47 info3 rfl (by decide) (by omega) (.slice A8 fs.length c8) fs (rd l1 k) [.int .i64 (rd l1 k)] rfl rfl rfl CO HB (by have:=HI.out;have:=HL.out;omega) (by decide) ?_;clear HB;intro u8 wu8 HU HB hx hat;have Uw:=Tg HN;replace HN:=Tg (MN Uw hat DI);have N2b:=FW N2 HT hat;have N4b:=FW N4 HE hat;replace HT:=Ee HT hx N2;replace HE:=Ee HE hx N4;replace DI:=Tf DI rfl hx Uw;clear CO N2 N4 Uw;have CO:=HU;have N2:=N2b;have N4:=N4b;clear HU N2b N4b hx hat)|((with_reducible refine eY (b:=.append) (xs:=#[.tmp 30,.tmp 32]) rfl ?_);at_builtin;refine oD (Kd.int .i64) rfl (.tmp 30) (.tmp 32) 47 3 (.int .i64 0) 8 rfl Tryz.underlying47 info3 rfl (by decide) (by omega) _ out ((fs.length:Int)) [.int .i64 ((fs.length:Int))] rfl rfl rfl DI HB (by have:=HI.out;have:=HL.out;omega) (by decide) ?_;clear HB;intro u7 wu7 HU HB hx hat;have Uw:=HN;replace HN:=MN Uw hat CO;have N1b:=FW N1 HT hat;have N3b:=FW N3 HE hat;replace HT:=Ee HT hx N1;replace HE:=Ee HE hx N3;replace CO:=Tf CO rfl hx Uw;clear DI N1 N3 Uw;have DI:=HU;have N1:=N1b;have N3:=N3b;clear HU N1b N3b hx hat))
    go_roundw
    case rel=>exact ⟨k+1,fs++[rd l1 k],out++[(fs.length:Int)],by omega,by omega,by go_num,⟨by simp;have:=HI.out;omega,by simp;have:=HI.out;omega,by
     rw [← HI.out.2.2,HS.out,vG,if_pos (by have:=HQ.out;rw [← HJ.out];omega)]⟩,DI,CO,HN,N1,N2,N3,N4,HT,HE,HB⟩
    case measure=>simp [intOf];omega
   ·have hq:decide (j<0)=false:=decide_eq_false hneg
    have HQ:=aj.mk hneg;clear hneg
    go_wp2_with (first|((with_reducible refine eY (b:=.append) (xs:=#[.tmp 30,.tmp 32]) rfl ?_);at_builtin;refine oD (Kd.int .i64) rfl (.tmp 30) (.tmp 32) 47 3 (.int .i64 0) 8 rfl Tryz.underlying47 info3 rfl (by decide) (by omega) _ out (j) [.int .i64 (j)] rfl rfl rfl DI HB (by have:=HI.out;have:=HL.out;omega) (by decide) ?_;clear HB;intro u7 wu7 HU HB hx hat;have Uw:=HN;replace HN:=MN Uw hat CO;have N1b:=FW N1 HT hat;have N3b:=FW N3 HE hat;replace HT:=Ee HT hx N1;replace HE:=Ee HE hx N3;replace CO:=Tf CO rfl hx Uw;clear DI N1 N3 Uw;have DI:=HU;have N1:=N1b;have N3:=N3b;clear HU N1b N3b hx hat))
    go_roundw
    case rel=>exact ⟨k+1,fs,out++[j],by omega,by omega,by go_num,⟨by have:=HI.out;omega,by simp;have:=HI.out;omega,by
     rw [← HI.out.2.2,HS.out,vG,if_neg (by have:=HQ.out;rw [← HJ.out];omega),← HJ.out]⟩,DI,CO,HN,N1,N2,N3,N4,HT,HE,HB⟩
    case measure=>simp [intOf];omega
  ·have hg:¬ k<l1.length:=hlt
   go_wp2_with fail
   go_ret
   exact ⟨_,rfl,by
    have:=HI.out.2.2;rw [List.drop_eq_nil_of_le (by omega),vG] at this
    rw [← this];exact DI.out,HB.out⟩
def DJ.f (bq:Int) (aU:Int) (dN:Int) (cu:List bQ) (l1:List Int) (a2:Int):Option (List Int × Int):=(iK.f bq aU dN cu).bind fun t244=>(if t244=true then ((qp.f l1 cu).bind fun t245=>(if t245=true then ((lF.f a2 bq aU).bind fun t246=>(if t246=true then ((lG.f dN l1 a2).bind fun t247=>(some (t247,0))) else (some (([]:List Int),2)))) else (some (([]:List Int),2)))) else (some (([]:List Int),2)))
theorem DJ.calls (bq:Int) (aU:Int) (dN:Int) (jh:Option Addr) (jv:Nat) (cu:List bQ) (A1:Option Addr) (c1:Nat) (l1:List Int) (a2:Int) (r1:List Int) (r2:Int) (w:World) (o9:Kd.C jW w jh cu.length cu) (xw:cu.length<=jv) (hr1:Kd.C (Kd.int .i64) w A1 l1.length l1) (hc1:l1.length<=c1) (h:DJ.f bq aU dN cu l1 a2=some (r1,r2)) :
  Calls Tryz.prog 53 #[.agg #[.int .i64 bq,.int .i64 aU,.int .i64 dN,.slice jh cu.length jv],.slice A1 l1.length c1,.int .i64 a2] w fun e w'=>∃ lM:Value,e=.returned (.tuple #[lM,.int .i64 r2])∧Kd.R (Kd.int .i64) 3 w' w.heap.size (fun _=>True) lM r1∧Below w.heap.size w w':=by
 have ME:=Tryz.underlying67;have jY:=Tryz.underlying37;have zX:=aj.mk o9;have zY:=aj.mk xw;clear o9 xw;have HR1:=aj.mk hr1;have yE:=aj.mk hc1;clear hr1 hc1;have HB:=aj.mk (Below.refl w.heap.size w);have H:((iK.f bq aU dN cu).bind fun t244=>(if t244=true then ((qp.f l1 cu).bind fun t245=>(if t245=true then ((lF.f a2 bq aU).bind fun t246=>(if t246=true then ((lG.f dN l1 a2).bind fun t247=>(some (t247,0))) else (some (([]:List Int),2)))) else (some (([]:List Int),2)))) else (some (([]:List Int),2))))=some (r1,r2):=h;clear h;obtain ⟨t244,A4,H⟩:=nU H
 by_cases c5:t244=true
 ·subst c5
  rw [if_pos rfl] at H;obtain ⟨t245,A6,H⟩:=nU H
  by_cases c7:t245=true
  ·subst c7
   rw [if_pos rfl] at H;obtain ⟨t246,A8,H⟩:=nU H
   by_cases c9:t246=true
   ·subst c9
    rw [if_pos rfl] at H;obtain ⟨t247,Lp,H⟩:=nU H;simp only [Option.some.injEq,Prod.mk.injEq] at H;obtain ⟨rfl,rfl⟩:=H
    go_enter Tryz.func53,Tryz.ntmps53
    go_wp2_with (first|((with_reducible refine au (N:=3) rfl ?_);refine fA 3 #[.int .i64 bq,.int .i64 aU,.int .i64 dN,.slice jh cu.length jv] 67 HB ?_;clear HB;intro Ux Jc hg dV Uy HB hb;clear hb hg;obtain ⟨yC,OD,Xk,Xl⟩:=Fg dV;have yD:=bf dV 0;have OE:=bf dV 1;have Xm:=bf dV 2;have Xn:=bf dV 3)|((with_reducible refine aG (f:=138) rfl ?_);refine bX (some 9) rfl rfl Tryz.func138 tX rfl #[.agg #[.int .i64 bq,.int .i64 aU,.int .i64 dN,.slice jh cu.length jv]] rfl tM ?_;(with_reducible refine (iK.calls bq aU dN _ _ cu true _ ?bK ?bL A4.out).mono ?_);(case bK=>exact cS zX);(case bL=>exact zY.out);rintro e w13 ⟨rfl,hb⟩;refine ⟨_,rfl,?_⟩;replace dV:=bW dV hb;replace HB:=dL HB hb;(try clear hb);obtain ⟨Pj,XF,qhM,qhN⟩:=Fg dV;have Pk:=bf dV 0;have XG:=bf dV 1;have qhO:=bf dV 2;have qhP:=bf dV 3)|(go_at_call 139;(with_reducible refine (qp.calls _ _ l1 _ _ cu true _ ?bK ?bL ?fM ?fO A6.out).mono ?_);(case bK=>exact cS HR1);(case bL=>exact yE.out);(case fM=>exact cS zX);(case fO=>exact zY.out);rintro e Mf ⟨rfl,hb⟩;replace dV:=bW dV hb;replace HB:=dL HB hb;(try clear hb);obtain ⟨Ae,XH,XI,qhQ⟩:=Fg dV;have Af:=bf dV 0;have XJ:=bf dV 1;have XK:=bf dV 2;have qhR:=bf dV 3)|(go_at_call 140;(with_reducible refine (lF.calls a2 bq aU true _ A8.out).mono ?_);rintro e w17 ⟨rfl,hb⟩;replace dV:=bW dV hb;replace HB:=dL HB hb;(try clear hb);obtain ⟨Qe,qhS,qhT,qhU⟩:=Fg dV;have Qf:=bf dV 0;have qhV:=bf dV 1;have qhW:=bf dV 2;have qhX:=bf dV 3)|((with_reducible refine aG (f:=141) rfl ?_);refine bX (some 29) rfl rfl Tryz.func141 tX rfl #[.int .i64 dN,.slice A1 l1.length c1,.int .i64 a2] rfl tM ?_;(with_reducible refine (lG.calls dN _ _ l1 a2 t247 _ ?bK ?bL Lp.out).mono ?_);(case bK=>exact cS HR1);(case bL=>exact yE.out);rintro e w19 ⟨qpp,rfl,ho0,hb⟩;refine ⟨_,rfl,?_⟩;have qmJ:=aj.mk (Kd.dZ ho0 (bD tB));replace dV:=bW dV hb;replace HB:=dL HB hb;(try clear hb);(try clear ho0)))
    go_ret2
    exact ⟨_,tF,(qCo qmJ),tB⟩
   ·replace c9:=Bool.eq_false_iff.mpr c9
    subst c9
    have H1:(some (([]:List Int),2))=some (r1,r2):=by rw [if_neg (show ¬ (false=true) by decide)] at H;exact H
    clear H;have H:=H1;clear H1;simp only [Option.some.injEq,Prod.mk.injEq] at H;obtain ⟨rfl,rfl⟩:=H
    go_enter Tryz.func53,Tryz.ntmps53
    go_wp2_with (first|((with_reducible refine au (N:=3) rfl ?_);refine fA 3 #[.int .i64 bq,.int .i64 aU,.int .i64 dN,.slice jh cu.length jv] 67 HB ?_;clear HB;intro Ux w20 hg dV Uy HB hb;clear hb hg;obtain ⟨Px,Xo,Xp,Xq⟩:=Fg dV;have Py:=bf dV 0;have Xr:=bf dV 1;have Xt:=bf dV 2;have Xu:=bf dV 3)|((with_reducible refine aG (f:=138) rfl ?_);refine bX (some 9) rfl rfl Tryz.func138 tX rfl #[.agg #[.int .i64 bq,.int .i64 aU,.int .i64 dN,.slice jh cu.length jv]] rfl tM ?_;(with_reducible refine (iK.calls bq aU dN _ _ cu true _ ?bK ?bL A4.out).mono ?_);(case bK=>exact cS zX);(case bL=>exact zY.out);rintro e w22 ⟨rfl,hb⟩;refine ⟨_,rfl,?_⟩;replace dV:=bW dV hb;replace HB:=dL HB hb;(try clear hb);obtain ⟨C9,H6,OL,OM⟩:=Fg dV;have Da:=bf dV 0;have Ia:=bf dV 1;have OO:=bf dV 2;have OP:=bf dV 3)|(go_at_call 139;(with_reducible refine (qp.calls _ _ l1 _ _ cu true _ ?bK ?bL ?fM ?fO A6.out).mono ?_);(case bK=>exact cS HR1);(case bL=>exact yE.out);(case fM=>exact cS zX);(case fO=>exact zY.out);rintro e w24 ⟨rfl,hb⟩;replace dV:=bW dV hb;replace HB:=dL HB hb;(try clear hb);obtain ⟨DC,XL,qhY,qhZ⟩:=Fg dV;have DF:=bf dV 0;have XM:=bf dV 1;have qh0:=bf dV 2;have qh1:=bf dV 3)|(go_at_call 140;(with_reducible refine (lF.calls a2 bq aU false _ A8.out).mono ?_);rintro e w26 ⟨rfl,hb⟩;replace dV:=bW dV hb;replace HB:=dL HB hb;(try clear hb)))
    go_ret2
    exact ⟨_,tF,by first|exact Kd.mI _ _ _ _ _|exact Kd.wN _ _ _ _ _|exact Kd.wP _ _ _ _ _|exact Kd.wK _ _ _ _ _|exact Kd.wM _ _ _ _ _,tB⟩
  ·replace c7:=Bool.eq_false_iff.mpr c7
   subst c7
   have H1:(some (([]:List Int),2))=some (r1,r2):=by rw [if_neg (show ¬ (false=true) by decide)] at H;exact H
   clear H;have H:=H1;clear H1;simp only [Option.some.injEq,Prod.mk.injEq] at H;obtain ⟨rfl,rfl⟩:=H
   go_enter Tryz.func53,Tryz.ntmps53
   go_wp2_with (first|((with_reducible refine au (N:=3) rfl ?_);refine fA 3 #[.int .i64 bq,.int .i64 aU,.int .i64 dN,.slice jh cu.length jv] 67 HB ?_;clear HB;intro Ux w27 hg dV Uy HB hb;clear hb hg;obtain ⟨Iq,qh2,qh3,qh4⟩:=Fg dV;have Ir:=bf dV 0;have qh5:=bf dV 1;have qh6:=bf dV 2;have qh7:=bf dV 3)|((with_reducible refine aG (f:=138) rfl ?_);refine bX (some 9) rfl rfl Tryz.func138 tX rfl #[.agg #[.int .i64 bq,.int .i64 aU,.int .i64 dN,.slice jh cu.length jv]] rfl tM ?_;(with_reducible refine (iK.calls bq aU dN _ _ cu true _ ?bK ?bL A4.out).mono ?_);(case bK=>exact cS zX);(case bL=>exact zY.out);rintro e w29 ⟨rfl,hb⟩;refine ⟨_,rfl,?_⟩;replace dV:=bW dV hb;replace HB:=dL HB hb;(try clear hb);obtain ⟨Du,Xe,Xf,Xg⟩:=Fg dV;have Dv:=bf dV 0;have Xh:=bf dV 1;have Xi:=bf dV 2;have Xj:=bf dV 3)|(go_at_call 139;(with_reducible refine (qp.calls _ _ l1 _ _ cu false _ ?bK ?bL ?fM ?fO A6.out).mono ?_);(case bK=>exact cS HR1);(case bL=>exact yE.out);(case fM=>exact cS zX);(case fO=>exact zY.out);rintro e w31 ⟨rfl,hb⟩;replace dV:=bW dV hb;replace HB:=dL HB hb;(try clear hb)))
   go_ret2
   exact ⟨_,tF,by first|exact Kd.mI _ _ _ _ _|exact Kd.wN _ _ _ _ _|exact Kd.wP _ _ _ _ _|exact Kd.wK _ _ _ _ _|exact Kd.wM _ _ _ _ _,tB⟩
 ·replace c5:=Bool.eq_false_iff.mpr c5
  subst c5
  have H1:(some (([]:List Int),2))=some (r1,r2):=by rw [if_neg (show ¬ (false=true) by decide)] at H;exact H
  clear H;have H:=H1;clear H1;simp only [Option.some.injEq,Prod.mk.injEq] at H;obtain ⟨rfl,rfl⟩:=H
  go_enter Tryz.func53,Tryz.ntmps53
  go_wp2_with (first|((with_reducible refine au (N:=3) rfl ?_);refine fA 3 #[.int .i64 bq,.int .i64 aU,.int .i64 dN,.slice jh cu.length jv] 67 HB ?_;clear HB;intro Ux w32 hg dV Uy HB hb;clear hb hg;obtain ⟨qh8,qh9,qia,qib⟩:=Fg dV;have qic:=bf dV 0;have qid:=bf dV 1;have qie:=bf dV 2;have qif:=bf dV 3)|((with_reducible refine aG (f:=138) rfl ?_);refine bX (some 9) rfl rfl Tryz.func138 tX rfl #[.agg #[.int .i64 bq,.int .i64 aU,.int .i64 dN,.slice jh cu.length jv]] rfl tM ?_;(with_reducible refine (iK.calls bq aU dN _ _ cu false _ ?bK ?bL A4.out).mono ?_);(case bK=>exact cS zX);(case bL=>exact zY.out);rintro e w34 ⟨rfl,hb⟩;refine ⟨_,rfl,?_⟩;replace dV:=bW dV hb;replace HB:=dL HB hb;(try clear hb)))
  go_ret2
  exact ⟨_,tF,by first|exact Kd.mI _ _ _ _ _|exact Kd.wN _ _ _ _ _|exact Kd.wP _ _ _ _ _|exact Kd.wK _ _ _ _ _|exact Kd.wM _ _ _ _ _,tB⟩
end Go.Proofs.YtnpfbjnjdngkhaaGreatDoor.P
namespace Go.Proofs
open Go.Shelf
def Tryz.Iz:Go.Shelf.Ren:=⟨fun|171=>198|243=>222|246=>235|283=>244|284=>245|285=>246|286=>247|129=>254|317=>253|318=>255|319=>256|320=>257|337=>260|338=>261|n=>n,fun|3=>3|9=>9|2=>2|4=>4|171=>292|0=>0|53=>224|37=>97|5=>5|173=>294|212=>297|51=>222|20=>20|213=>298|46=>175|232=>304|233=>305|n=>n,fun|17=>1|18=>4|19=>5|n=>n⟩
theorem Tryz.Uz:Go.Proofs.LaysM.n171 Tryz.prog Tryz.Iz:={
 mixed:=by kernel_rfl
 f129:=Tryz.func254.trans (congrArg some (by kernel_rfl))
 f171:=Tryz.func198.trans (congrArg some (by kernel_rfl))
 f243:=Tryz.func222.trans (congrArg some (by kernel_rfl))
 f246:=Tryz.func235.trans (congrArg some (by kernel_rfl))
 f283:=Tryz.func244.trans (congrArg some (by kernel_rfl))
 f284:=Tryz.func245.trans (congrArg some (by kernel_rfl))
 f285:=Tryz.func246.trans (congrArg some (by kernel_rfl))
 f286:=Tryz.func247.trans (congrArg some (by kernel_rfl))
 f317:=Tryz.func253.trans (congrArg some (by kernel_rfl))
 f318:=Tryz.func255.trans (congrArg some (by kernel_rfl))
 f319:=Tryz.func256.trans (congrArg some (by kernel_rfl))
 f320:=Tryz.func257.trans (congrArg some (by kernel_rfl))
 f337:=Tryz.func260.trans (congrArg some (by kernel_rfl))
 f338:=Tryz.func261.trans (congrArg some (by kernel_rfl))
 t0:=Tryz.underlying0
 a0:=Tryz.isAgg0
 z0:=Tryz.sizeOf0
 v0:=Tryz.zeroValue0
 t2:=Tryz.underlying2
 a2:=Tryz.isAgg2
 z2:=Tryz.sizeOf2
 v2:=Tryz.zeroValue2
 t3:=Tryz.underlying3
 a3:=Tryz.isAgg3
 z3:=Tryz.sizeOf3
 v3:=Tryz.zeroValue3
 t4:=Tryz.underlying4
 a4:=Tryz.isAgg4
 z4:=Tryz.sizeOf4
 v4:=Tryz.zeroValue4
 t5:=Tryz.underlying5
 a5:=Tryz.isAgg5
 z5:=Tryz.sizeOf5
 v5:=Tryz.zeroValue5
 t9:=Tryz.underlying9
 a9:=Tryz.isAgg9
 z9:=Tryz.sizeOf9
 v9:=Tryz.zeroValue9
 t20:=Tryz.underlying20
 a20:=Tryz.isAgg20
 z20:=Tryz.sizeOf20
 v20:=Tryz.zeroValue20
 t37:=Tryz.underlying97
 a37:=Tryz.isAgg97
 z37:=Tryz.sizeOf97
 v37:=Tryz.zeroValue97
 t46:=Tryz.underlying175
 a46:=Tryz.isAgg175
 z46:=Tryz.sizeOf175
 v46:=Tryz.zeroValue175
 t51:=Tryz.underlying222
 a51:=Tryz.isAgg222
 z51:=Tryz.sizeOf222
 v51:=Tryz.zeroValue222
 t53:=Tryz.underlying224
 a53:=Tryz.isAgg224
 z53:=Tryz.sizeOf224
 v53:=Tryz.zeroValue224
 t171:=Tryz.underlying292
 a171:=Tryz.isAgg292
 z171:=Tryz.sizeOf292
 v171:=Tryz.zeroValue292
 t173:=Tryz.underlying294
 a173:=Tryz.isAgg294
 z173:=Tryz.sizeOf294
 v173:=Tryz.zeroValue294
 t212:=Tryz.underlying297
 a212:=Tryz.isAgg297
 z212:=Tryz.sizeOf297
 v212:=Tryz.zeroValue297
 t213:=Tryz.underlying298
 a213:=Tryz.isAgg298
 z213:=Tryz.sizeOf298
 t232:=Tryz.underlying304
 a232:=Tryz.isAgg304
 z232:=Tryz.sizeOf304
 v232:=Tryz.zeroValue304
 t233:=Tryz.underlying305
 a233:=Tryz.isAgg305
 z233:=Tryz.sizeOf305
 v233:=Tryz.zeroValue305
 g17:=by kernel_rfl
 g18:=by kernel_rfl
 g19:=by kernel_rfl
 i0:=by kernel_rfl
 i2:=by kernel_rfl
 i3:=by kernel_rfl
 i4:=by kernel_rfl
 i5:=by kernel_rfl
 i9:=by kernel_rfl
 i20:=by kernel_rfl
 i37:=by kernel_rfl
 i46:=by kernel_rfl
 i51:=by kernel_rfl
 i53:=by kernel_rfl
 i171:=by kernel_rfl
 i173:=by kernel_rfl
 i212:=by kernel_rfl
 i232:=by kernel_rfl
 i233:=by kernel_rfl
 m17:=by kernel_rfl
 m18:=by kernel_rfl
 m19:=by kernel_rfl }
def Tryz.Cn:Go.Shelf.Ren:=⟨fun|156=>197|165=>219|166=>220|169=>221|240=>233|241=>234|276=>242|277=>243|n=>n,fun|31=>190|9=>9|3=>3|4=>4|0=>0|20=>20|72=>267|76=>271|70=>265|37=>97|75=>270|127=>283|164=>289|5=>5|80=>273|n=>n,fun|n=>n⟩
theorem Tryz.XO:Go.Proofs.Lays.n156 Tryz.prog Tryz.Cn:={
 mixed:=by kernel_rfl
 f156:=Tryz.func197.trans (congrArg some (by kernel_rfl))
 f165:=Tryz.func219.trans (congrArg some (by kernel_rfl))
 f166:=Tryz.func220.trans (congrArg some (by kernel_rfl))
 f169:=Tryz.func221.trans (congrArg some (by kernel_rfl))
 f240:=Tryz.func233.trans (congrArg some (by kernel_rfl))
 f241:=Tryz.func234.trans (congrArg some (by kernel_rfl))
 f276:=Tryz.func242.trans (congrArg some (by kernel_rfl))
 f277:=Tryz.func243.trans (congrArg some (by kernel_rfl))
 t0:=Tryz.underlying0
 a0:=Tryz.isAgg0
 z0:=Tryz.sizeOf0
 v0:=Tryz.zeroValue0
 t3:=Tryz.underlying3
 a3:=Tryz.isAgg3
 z3:=Tryz.sizeOf3
 v3:=Tryz.zeroValue3
 t4:=Tryz.underlying4
 a4:=Tryz.isAgg4
 z4:=Tryz.sizeOf4
 v4:=Tryz.zeroValue4
 t9:=Tryz.underlying9
 a9:=Tryz.isAgg9
 z9:=Tryz.sizeOf9
 v9:=Tryz.zeroValue9
 t20:=Tryz.underlying20
 a20:=Tryz.isAgg20
 z20:=Tryz.sizeOf20
 v20:=Tryz.zeroValue20
 t31:=Tryz.underlying190
 a31:=Tryz.isAgg190
 z31:=Tryz.sizeOf190
 v31:=Tryz.zeroValue190
 t37:=Tryz.underlying97
 a37:=Tryz.isAgg97
 z37:=Tryz.sizeOf97
 v37:=Tryz.zeroValue97
 t70:=Tryz.underlying265
 a70:=Tryz.isAgg265
 z70:=Tryz.sizeOf265
 v70:=Tryz.zeroValue265
 t72:=Tryz.underlying267
 a72:=Tryz.isAgg267
 z72:=Tryz.sizeOf267
 v72:=Tryz.zeroValue267
 t75:=Tryz.underlying270
 a75:=Tryz.isAgg270
 z75:=Tryz.sizeOf270
 v75:=Tryz.zeroValue270
 t76:=Tryz.underlying271
 a76:=Tryz.isAgg271
 z76:=Tryz.sizeOf271
 v76:=Tryz.zeroValue271
 t127:=Tryz.underlying283
 a127:=Tryz.isAgg283
 z127:=Tryz.sizeOf283
 v127:=Tryz.zeroValue283
 t164:=Tryz.underlying289
 a164:=Tryz.isAgg289
 z164:=Tryz.sizeOf289
 v164:=Tryz.zeroValue289 }
theorem Tryz.Ag:Builder.Extra Tryz.prog Tryz.Cn:={
 sizeBuilder:=by kernel_rfl
 liesBuilder:=by kernel_rfl
 t5:=Tryz.underlying5
 a5:=Tryz.isAgg5
 z5:=Tryz.sizeOf5
 v5:=Tryz.zeroValue5
 infoByte:=by kernel_rfl
 cellsByte:=by kernel_rfl
 sizeByte:=by kernel_rfl
 neB5:=by decide }
open Go.RowKit in
theorem Tryz.strconv_Itoa_small (i:Nat) (hi:i<100) (w:World) :
    Calls Tryz.prog 198 #[.int .i64 i] w fun e w'=>e=.returned (.string ⟨(Lib.decDigits i).toArray⟩)∧w'=w:=Any.strconv_Itoa_small { Tryz.Uz with } i hi w
open Go.RowKit in
theorem Tryz.strings_Join (bk o c:Nat) (xs:List ByteArray) (sep:ByteArray) (w:World) (hcells:∀ (j:Nat) x,xs[j]?=some x->w.cell? ⟨bk,o+j,none⟩=some (.string x)) (hbk:bk<w.heap.size) (hN:xs.length<=140737488355328) (hcap:xs.length<=c) (hlen:(Lib.join (xs.map (·.data.toList)) sep.data.toList).length<=140737488355328) :
    Calls Tryz.prog 197 #[.slice (some ⟨bk,o,none⟩) xs.length c,.string sep] w fun e w'=>e=.returned (.string ⟨(Lib.join (xs.map (·.data.toList)) sep.data.toList).toArray⟩)∧Below w.heap.size w w':=Any.strings_Join Tryz.XO Tryz.Ag bk o c xs sep w hcells hbk hN hcap hlen
end Go.Proofs
namespace Go.Proofs.YtnpfbjnjdngkhaaGreatDoor.P
open Go.RowKit Go.Proofs.YtnpfbjnjdngkhaaGreatDoorW.aQ Go.Proofs.YtnpfbjnjdngkhaaGreatDoorW.bO Go.Proofs.YtnpfbjnjdngkhaaGreatDoorW.bT
attribute [local go_sem] eP eT fU fV dS dU eU eX
def qO.f (bq:Int) (aU:Int):Option (List Int):=some (([bq,aU]:List Int))
theorem qO.calls (bq:Int) (aU:Int) (r:List Int) (w:World) (h:qO.f bq aU=some r) :
  Calls Tryz.prog 277 #[.agg #[.int .i64 bq,.int .i64 aU]] w fun e w'=>∃ lM:Value,e=.returned (lM)∧Kd.R (Kd.int .i64) 3 w' w.heap.size (fun _=>True) lM r∧Below w.heap.size w w':=by
 have Zw:=Tryz.underlying234;have HB:=aj.mk (Below.refl w.heap.size w);have H:(some (([bq,aU]:List Int)))=some r:=h;clear h;obtain ⟨qjU,KM⟩:∃ y_:List Int,y_=(([bq,aU]:List Int)):=⟨_,rfl⟩
 replace H:(some qjU)=some r:=by first|(rw [KM];with_reducible exact H)|(have jr:=(Option.bind_some _ _).symm.trans H;rw [KM];with_reducible exact jr)|(have jr:=(Option.bind_some _ _).symm.trans H;with_reducible exact jr)|with_reducible exact H|(rw [KM];exact H)|exact H
 have Zx:=aj.mk KM;clear KM;obtain rfl:=Option.some.inj H
 go_enter Tryz.func277,Tryz.ntmps277
 go_wp2_with (first|((with_reducible refine au (N:=1) rfl ?_);refine fA 1 #[.int .i64 bq,.int .i64 aU] 234 HB ?_;clear HB;intro qmK w2 hg KN qmL HB hb;clear hb hg;obtain ⟨IB,IC⟩:=bc2 KN;have IE:=bf KN 0;have IG:=bf KN 1)|((with_reducible refine au (N:=7) rfl ?_);refine Kd.qD (Kd.int .i64) _ 3 ?hg (N:=7) ?hd (xs:=([bq,aU]:List Int)) (inner:=[.int .i64 bq,.int .i64 aU]) (ok:=fun _=>True) (nE:=fun _=>True) ?hr ?hp (fun _ hk=>hk) trivial (Below.refl _ _) (Nat.le_refl _) (by simp) ?_;(case hd=>rfl);(case hg=>rfl);(case hr=>first|(go_simp;done)|(go_simp;rfl));(case hp=>exact (dh.one (show Kd.M (Kd.int .i64) _ _ _ bq [.int .i64 bq] from rfl) (dh.one (show Kd.M (Kd.int .i64) _ _ _ aU [.int .i64 aU] from rfl) (dh.none _ _))));intro qpq w4 EL hb sS gV;clear sS gV;(first|rw [← Zx.out] at EL|(simp only [Int.reduceToNat] at EL;rw [← Zx.out] at EL));have qmM:=aj.mk (Kd.dZ EL (bD tB));replace KN:=bW KN hb;replace HB:=dL HB hb;clear hb EL))
 go_ret
 exact ⟨_,tF,(qCo qmM),tB⟩
def dF.l0:Nat->List Int->List bQ->Int->Int->Option (List Int)
 | 0,_,_,_,_=>none
 | k+1,x3,Gb,VQ,OH=>if OH<VQ then (if 0<=OH then (if OH<(Gb.length:Int) then ((some (([(bH Gb OH).f0,(bH Gb OH).f1]:List Int):List Int)).bind fun II=>(if x3.length+II.length<17592186044416 then (dF.l0 k (x3++II) Gb VQ (wrap64 (OH+1))) else (none))) else (none)) else (none)) else (some x3)
def dF.f (k:Nat) (av:List bQ) (aU:Int):Option (List Int):=dF.l0 k (([aU]:List Int)) av (av.length:Int) 0
theorem dF.calls (k:Nat) (bC:Option Addr) (aZ:Nat) (av:List bQ) (aU:Int) (r:List Int) (w:World) (dw:Kd.C jW w bC av.length av) (dG:av.length<=aZ) (h:dF.f k av aU=some r) :
  Calls Tryz.prog 278 #[.agg #[.slice bC av.length aZ,.int .i64 aU]] w fun e w'=>∃ lM:Value,e=.returned (lM)∧Kd.R (Kd.int .i64) 3 w' w.heap.size (fun _=>True) lM r∧Below w.heap.size w w':=by
 have Zy:=Tryz.underlying236;have jY:=Tryz.underlying37;have dM:=aj.mk dw;have fu:=aj.mk dG;clear dw dG;have HB:=aj.mk (Below.refl w.heap.size w);have H:(dF.l0 k (([aU]:List Int)) av (av.length:Int) 0)=some r:=h;clear h;obtain ⟨qeq,KO⟩:∃ y_:List Int,y_=(([aU]:List Int)):=⟨_,rfl⟩
 replace H:(dF.l0 k qeq av (av.length:Int) 0)=some r:=by first|(rw [KO];with_reducible exact H)|(have jr:=(Option.bind_some _ _).symm.trans H;rw [KO];with_reducible exact jr)|(have jr:=(Option.bind_some _ _).symm.trans H;with_reducible exact jr)|with_reducible exact H|(rw [KO];exact H)|exact H
 have Zz:=aj.mk KO;clear KO;have H':=aj.mk H;clear H
 go_enter Tryz.func278,Tryz.ntmps278
 go_wp2_with (first|((with_reducible refine au (N:=1) rfl ?_);refine fA 1 #[.slice bC av.length aZ,.int .i64 aU] 236 HB ?_;clear HB;intro UA w2 hg qJ qmN HB hb;clear hb hg;obtain ⟨IB,IC⟩:=bc2 qJ;have IE:=bf qJ 0;have IG:=bf qJ 1)|((with_reducible refine au (N:=9) rfl ?_);refine Kd.qD (Kd.int .i64) _ 3 ?hg (N:=9) ?hd (xs:=([aU]:List Int)) (inner:=[.int .i64 aU]) (ok:=fun _=>True) (nE:=fun _=>True) ?hr ?hp (fun _ hk=>hk) trivial (Below.refl _ _) (Nat.le_refl _) (by simp) ?_;(case hd=>rfl);(case hg=>rfl);(case hr=>first|(go_simp;done)|(go_simp;rfl));(case hp=>exact (dh.one (show Kd.M (Kd.int .i64) _ _ _ aU [.int .i64 aU] from rfl) (dh.none _ _)));intro qpr w4 EL hb sS gV;clear sS gV;(first|rw [← Zz.out] at EL|(simp only [Int.reduceToNat] at EL;rw [← Zz.out] at EL));have qmO:=aj.mk (Kd.dZ EL (bD tB));replace qJ:=bW qJ hb;replace HB:=dL HB hb;clear hb EL;obtain ⟨Hu,qbs⟩:=bc2 qJ;have Hw:=bf qJ 0;have qbt:=bf qJ 1))
 go_loopg [3,14] k (fun kq v3 v14 w'=>∃ (dH:List Int) (iW:Int),v14=.int .i64 iW∧aj (dF.l0 kq dH av (av.length:Int) iW=some r)∧aj (kq<=k)∧aj (Kd.R (Kd.int .i64) 3 w' w.heap.size (fun _=>True) v3 dH)∧aj (w'.heap[UA]?=some (.cells #[(.slice bC av.length aZ),.int .i64 aU] 236 (0,0)))∧aj (Below w.heap.size w w'))
 case atStart=>exact ⟨(qeq),(0),tS,H',⟨Nat.le_refl _⟩,⟨(qCo qmO)⟩,⟨(qB2 qJ)⟩,⟨tB⟩⟩
 case round =>
  clear H'
  try clear c2
  try clear p2
  try clear IB
  try clear IC
  try clear Hu
  try clear qbs
  try clear IE
  try clear IG
  try clear Hw
  try clear qbt
  obtain ⟨dH,iW,rfl,HA,qg,qj,qJ,HB⟩:=hrel
  cases gk with
  | zero=>exact absurd HA.out (by simp [dF.l0])
  | succ k1 =>
   have H:=HA.out;clear HA;simp only [dF.l0] at H
   by_cases c7:iW<(av.length:Int)
   ·rw [if_pos c7] at H
    have yL:decide (iW<(av.length:Int))=true:=decide_eq_true c7;clear c7
    by_cases c8:0<=iW
    ·rw [if_pos c8] at H
     have Hz:decide (0<=iW)=true:=decide_eq_true c8;clear c8
     by_cases c9:iW<(av.length:Int)
     ·rw [if_pos c9] at H
      have Q9:decide (iW<(av.length:Int))=true:=decide_eq_true c9;clear c9;obtain ⟨II,KP⟩:∃ y_:List Int,y_=(([(bH av iW).f0,(bH av iW).f1]:List Int)):=⟨_,rfl⟩
      replace H:(if dH.length+II.length<17592186044416 then (dF.l0 k1 (dH++II) av (av.length:Int) (wrap64 (iW+1))) else (none))=some r:=by first|(rw [KP];with_reducible exact H)|(have jr:=(Option.bind_some _ _).symm.trans H;rw [KP];with_reducible exact jr)|(have jr:=(Option.bind_some _ _).symm.trans H;with_reducible exact jr)|with_reducible exact H|(rw [KP];exact H)|exact H
      have ZA:=aj.mk KP;clear KP
      by_cases c10:dH.length+II.length<17592186044416
      ·rw [if_pos c10] at H
       have qer:=aj.mk c10;clear c10;obtain ⟨qes,KQ⟩:∃ y_:List Int,y_=(dH++II):=⟨_,rfl⟩
       replace H:(dF.l0 k1 qes av (av.length:Int) (wrap64 (iW+1)))=some r:=by first|(rw [KQ];with_reducible exact H)|(have jr:=(Option.bind_some _ _).symm.trans H;rw [KQ];with_reducible exact jr)|(have jr:=(Option.bind_some _ _).symm.trans H;with_reducible exact jr)|with_reducible exact H|(rw [KQ];exact H)|exact H
       have qet:=aj.mk KQ;clear KQ;have H':=aj.mk H;clear H;have qbu:0<=(iW:Int):=of_decide_eq_true tA;have qbw:iW<(av.length:Int):=of_decide_eq_true tA;obtain ⟨ZB,e285,Qg,Qh⟩:=nI dM.out iW qbu qbw
       cases e285
       replace Qg:=dz HB Qg;replace Qh:=dz HB Qh;replace qbu:=eq_true qbu;replace qbw:=eq_true qbw
       go_wp2_with (first|((with_reducible refine au (N:=5) rfl ?_);refine fA 5 #[.int .i64 0,.int .i64 0] 37 HB ?_;clear HB;intro Gf Jc hg Ah qmP HB hb;replace qj:=tZ qj hb;have Bv:=Fh qJ hg;have Ry:=Fj qJ hg;replace qJ:=bW qJ hb;clear hb hg;have qmQ:=Ry.out;have qmR:=Bv.out;obtain ⟨vS,Db⟩:=bc2 Ah;have vT:=bf Ah 0;have Dc:=bf Ah 1)|((with_reducible refine au (N:=23) rfl ?_);refine Kd.qD (Kd.int .i64) _ 3 ?hg (N:=23) ?hd (xs:=([(bH av iW).f0,(bH av iW).f1]:List Int)) (inner:=[.int .i64 ((bH av iW).f0),.int .i64 ((bH av iW).f1)]) (ok:=fun _=>True) (nE:=fun _=>True) ?hr ?hp (fun _ hk=>hk) trivial (Below.refl _ _) (Nat.le_refl _) (by simp) ?_;(case hd=>rfl);(case hg=>rfl);(case hr=>first|(go_simp;done)|(go_simp;rfl));(case hp=>exact (dh.one (show Kd.M (Kd.int .i64) _ _ _ ((bH av iW).f0) [.int .i64 ((bH av iW).f0)] from rfl) (dh.one (show Kd.M (Kd.int .i64) _ _ _ ((bH av iW).f1) [.int .i64 ((bH av iW).f1)] from rfl) (dh.none _ _))));intro qps R8 Rz hb sS gV;clear sS gV;(first|rw [← ZA.out] at Rz|(simp only [Int.reduceToNat] at Rz;rw [← ZA.out] at Rz));have UC:=aj.mk (Kd.dZ (Kd.wY Rz (Kd.vR (by (with_reducible repeat (first|apply Kd.kY|apply Kd.kZ|apply Kd.mJ));exact (Kd.gq (Kd.jC (p:=⟨Gf,1,none⟩) (Kd.jC (p:=⟨Gf,0,none⟩) (Kd.iZ qj.out Ah.out (by decide)) (fun _ hk=>hk.2) (.int .i64 ((bH av iW).f0))) (fun _ hk=>hk.2) (.int .i64 ((bH av iW).f1))) (fun _ h_=>h_.1))))) (bD tB));replace qj:=aj.mk (Kd.qE (by (with_reducible repeat (first|apply Kd.kY|apply Kd.kZ|apply Kd.mJ));exact (Kd.gq (Kd.jC (p:=⟨Gf,1,none⟩) (Kd.jC (p:=⟨Gf,0,none⟩) (Kd.iZ qj.out Ah.out (by decide)) (fun _ hk=>hk.2) (.int .i64 ((bH av iW).f0))) (fun _ hk=>hk.2) (.int .i64 ((bH av iW).f1))) (fun _ h_=>h_.1))) (Kd.iF Rz) hb);replace qJ:=aj.mk (aD (g:=UA) (o:=.cells #[.slice (some ZB) av.length aZ,.int .i64 aU] 236 (0,0)) (by (with_reducible repeat (first|refine aJ ?_ _|refine aN ?_|refine aI ?_ _));refine ko ?_ Bv.out _;(with_reducible repeat (first|refine aJ ?_ _|refine aN ?_|refine aI ?_ _));refine ko ?_ Bv.out _;(with_reducible repeat (first|refine aJ ?_ _|refine aN ?_|refine aI ?_ _));exact qJ.out) hb);replace Ah:=aj.mk (aD (g:=Gf) (o:=.cells #[.int .i64 ((bH av iW).f0),.int .i64 ((bH av iW).f1)] 37 (0,0)) (by (with_reducible repeat (first|refine aJ ?_ _|refine aN ?_|refine aI ?_ _));refine dO (cs:=#[.int .i64 ((bH av iW).f0),.int .i64 0]) ?_ 1 _ rfl;(with_reducible repeat (first|refine aJ ?_ _|refine aN ?_|refine aI ?_ _));refine dO (cs:=#[.int .i64 0,.int .i64 0]) ?_ 0 _ rfl;(with_reducible repeat (first|refine aJ ?_ _|refine aN ?_|refine aI ?_ _));exact Ah.out) hb);replace HB:=dL HB hb;clear hb Rz;obtain ⟨TA,TB,MU⟩:=Kd.jc UC.out;subst MU)|((with_reducible refine eY (b:=.append) (xs:=#[.tmp 18,.tmp 23]) rfl ?_);at_builtin;refine Kd.uM (Kd.int .i64) (w0:=w) w.heap.size rfl (.tmp 18) (.tmp 23) 47 3 (.int .i64 0) 8 rfl Tryz.underlying47 info3 rfl (by decide) (by omega) u3 dH II _ _ _ (fun k_=>some k_≠(.slice TA II.length TB:Value).ownBlock) (fun _=>False) rfl rfl ?aO ?aR (fun _ _ h=>h) (fun _ h=>h.elim) ?aF ?aB ?aS ?aL ?_;(case aR=>repeat (first|exact (Kd.eB UC.out).2.2|(with_reducible refine Kd.bM ?_ _)|(with_reducible refine Kd.bN ?_ _)|(with_reducible refine Kd.cO ?_)));(case aB=>exact tB);(case aF=>exact (fun k_ hk=>Kd.fresh' (Kd.vR (qCo UC)) k_ hk));(case aO=>exact (by (with_reducible repeat (first|apply Kd.kY|apply Kd.kZ|apply Kd.mJ));exact Kd.gq qj.out (fun _ hk=>hk.2)));(case aS=>exact (bD tB));(case aL=>have:=qer.out;omega);intro qpt w16 ho hb hg hat;rw [← qet.out] at ho;replace qJ:=aj.mk (jF (g:=UA) (o:=.cells #[.slice (some ZB) av.length aZ,.int .i64 aU] 236 (0,0)) (qB2 qJ) hg (Kd.DZ qj.out qJ.out (by decide)));replace Ah:=aj.mk (jF (g:=Gf) (o:=.cells #[.int .i64 ((bH av iW).f0),.int .i64 ((bH av iW).f1)] 37 (0,0)) (qB2 Ah) hg (Kd.DZ qj.out Ah.out (by decide)));replace UC:=aj.mk (Kd.VX (ok:=(fun _=>True)) (qCo UC) hg hat);replace HB:=aj.mk (hb);have qeu:=aj.mk (ho);clear qj;clear ho hb hg hat))
       go_roundg k1
       case measure=>have:=qg.out;omega
       case rel=>exact ⟨(qes),(wrap64 (iW+1)),tS,H',⟨by have:=qg.out;omega⟩,⟨by (with_reducible repeat (first|apply Kd.kY|apply Kd.kZ|apply Kd.mJ));exact Kd.gq qeu.out (fun _ hk=>trivial)⟩,⟨(qB2 qJ)⟩,⟨tB⟩⟩
      ·rw [if_neg c10] at H
       exact absurd H (by simp)
     ·rw [if_neg c9] at H
      exact absurd H (by simp)
    ·rw [if_neg c8] at H
     exact absurd H (by simp)
   ·rw [if_neg c7] at H
    have yL:decide (iW<(av.length:Int))=false:=decide_eq_false c7;clear c7;obtain rfl:=Option.some.inj H
    go_wp2
    go_ret
    exact ⟨_,tF,(qCo qj),tB⟩
def qP.f (av:List bB) (aU:Int) (dN:Int):Option (List Int):=some (([aU,dN,(av.length:Int)]:List Int))
theorem qP.calls (bC:Option Addr) (aZ:Nat) (av:List bB) (aU:Int) (dN:Int) (r:List Int) (w:World) (dw:Kd.C eD w bC av.length av) (dG:av.length<=aZ) (h:qP.f av aU dN=some r) :
  Calls Tryz.prog 279 #[.agg #[.slice bC av.length aZ,.int .i64 aU,.int .i64 dN]] w fun e w'=>∃ lM:Value,e=.returned (lM)∧Kd.R (Kd.int .i64) 3 w' w.heap.size (fun _=>True) lM r∧Below w.heap.size w w':=by
 have ZC:=Tryz.underlying238;have dM:=aj.mk dw;have fu:=aj.mk dG;clear dw dG;have HB:=aj.mk (Below.refl w.heap.size w);have H:(some (([aU,dN,(av.length:Int)]:List Int)))=some r:=h;clear h;obtain ⟨qjV,KR⟩:∃ y_:List Int,y_=(([aU,dN,(av.length:Int)]:List Int)):=⟨_,rfl⟩
 replace H:(some qjV)=some r:=by first|(rw [KR];with_reducible exact H)|(have jr:=(Option.bind_some _ _).symm.trans H;rw [KR];with_reducible exact jr)|(have jr:=(Option.bind_some _ _).symm.trans H;with_reducible exact jr)|with_reducible exact H|(rw [KR];exact H)|exact H
 have ZE:=aj.mk KR;clear KR;obtain rfl:=Option.some.inj H
 go_enter Tryz.func279,Tryz.ntmps279
 go_wp2_with (first|((with_reducible refine au (N:=1) rfl ?_);refine fA 1 #[.slice bC av.length aZ,.int .i64 aU,.int .i64 dN] 238 HB ?_;clear HB;intro qmS w2 hg Gg qmT HB hb;clear hb hg;obtain ⟨IB,IC,qbx⟩:=bc3 Gg;have IE:=bf Gg 0;have IG:=bf Gg 1;have qby:=bf Gg 2)|((with_reducible refine au (N:=13) rfl ?_);refine Kd.qD (Kd.int .i64) _ 3 ?hg (N:=13) ?hd (xs:=([aU,dN,(av.length:Int)]:List Int)) (inner:=[.int .i64 aU,.int .i64 dN,.int .i64 (av.length:Int)]) (ok:=fun _=>True) (nE:=fun _=>True) ?hr ?hp (fun _ hk=>hk) trivial (Below.refl _ _) (Nat.le_refl _) (by simp) ?_;(case hd=>rfl);(case hg=>rfl);(case hr=>first|(go_simp;done)|(go_simp;rfl));(case hp=>exact (dh.one (show Kd.M (Kd.int .i64) _ _ _ aU [.int .i64 aU] from rfl) (dh.one (show Kd.M (Kd.int .i64) _ _ _ dN [.int .i64 dN] from rfl) (dh.one (show Kd.M (Kd.int .i64) _ _ _ (av.length:Int) [.int .i64 (av.length:Int)] from rfl) (dh.none _ _)))));intro qpu w4 EL hb sS gV;clear sS gV;(first|rw [← ZE.out] at EL|(simp only [Int.reduceToNat] at EL;rw [← ZE.out] at EL));have qmU:=aj.mk (Kd.dZ EL (bD tB));replace Gg:=bW Gg hb;replace HB:=dL HB hb;clear hb EL))
 go_ret
 exact ⟨_,tF,(qCo qmU),tB⟩
def qw.f (bq:Int) (aU:Int) (dN:Int) (EM:Int):Option (List Int):=some (([bq,aU,dN,EM]:List Int))
theorem qw.calls (bq:Int) (aU:Int) (dN:Int) (EM:Int) (r:List Int) (w:World) (h:qw.f bq aU dN EM=some r) :
  Calls Tryz.prog 280 #[.agg #[.int .i64 bq,.int .i64 aU,.int .i64 dN,.int .i64 EM]] w fun e w'=>∃ lM:Value,e=.returned (lM)∧Kd.R (Kd.int .i64) 3 w' w.heap.size (fun _=>True) lM r∧Below w.heap.size w w':=by
 have ZF:=Tryz.underlying240;have HB:=aj.mk (Below.refl w.heap.size w);have H:(some (([bq,aU,dN,EM]:List Int)))=some r:=h;clear h;obtain ⟨qjW,KT⟩:∃ y_:List Int,y_=(([bq,aU,dN,EM]:List Int)):=⟨_,rfl⟩
 replace H:(some qjW)=some r:=by first|(rw [KT];with_reducible exact H)|(have jr:=(Option.bind_some _ _).symm.trans H;rw [KT];with_reducible exact jr)|(have jr:=(Option.bind_some _ _).symm.trans H;with_reducible exact jr)|with_reducible exact H|(rw [KT];exact H)|exact H
 have ZG:=aj.mk KT;clear KT;obtain rfl:=Option.some.inj H
 go_enter Tryz.func280,Tryz.ntmps280
 go_wp2_with (first|((with_reducible refine au (N:=1) rfl ?_);refine fA 1 #[.int .i64 bq,.int .i64 aU,.int .i64 dN,.int .i64 EM] 240 HB ?_;clear HB;intro qmV w2 hg EN qmW HB hb;clear hb hg;obtain ⟨IB,IC,qbx,qjX⟩:=Fg EN;have IE:=bf EN 0;have IG:=bf EN 1;have qby:=bf EN 2;have qjY:=bf EN 3)|((with_reducible refine au (N:=17) rfl ?_);refine Kd.qD (Kd.int .i64) _ 3 ?hg (N:=17) ?hd (xs:=([bq,aU,dN,EM]:List Int)) (inner:=[.int .i64 bq,.int .i64 aU,.int .i64 dN,.int .i64 EM]) (ok:=fun _=>True) (nE:=fun _=>True) ?hr ?hp (fun _ hk=>hk) trivial (Below.refl _ _) (Nat.le_refl _) (by simp) ?_;(case hd=>rfl);(case hg=>rfl);(case hr=>first|(go_simp;done)|(go_simp;rfl));(case hp=>exact (dh.one (show Kd.M (Kd.int .i64) _ _ _ bq [.int .i64 bq] from rfl) (dh.one (show Kd.M (Kd.int .i64) _ _ _ aU [.int .i64 aU] from rfl) (dh.one (show Kd.M (Kd.int .i64) _ _ _ dN [.int .i64 dN] from rfl) (dh.one (show Kd.M (Kd.int .i64) _ _ _ EM [.int .i64 EM] from rfl) (dh.none _ _))))));intro qpv w4 EL hb sS gV;clear sS gV;(first|rw [← ZG.out] at EL|(simp only [Int.reduceToNat] at EL;rw [← ZG.out] at EL));have qmX:=aj.mk (Kd.dZ EL (bD tB));replace EN:=bW EN hb;replace HB:=dL HB hb;clear hb EL))
 go_ret
 exact ⟨_,tF,(qCo qmX),tB⟩
end Go.Proofs.YtnpfbjnjdngkhaaGreatDoor.P
namespace Go.Proofs.YtnpfbjnjdngkhaaGreatDoor.P
open Go.RowKit Go.Proofs.YtnpfbjnjdngkhaaGreatDoorW.aQ Go.Proofs.YtnpfbjnjdngkhaaGreatDoorW.bO Go.Proofs.YtnpfbjnjdngkhaaGreatDoorW.bT
attribute [local go_sem] eP eT fU fV dS dU eU eX
attribute [local go_sem] Oper.semAt_some
def gF:ByteArray:=⟨#[104,111,117,115,101]⟩
def oo:ByteArray:=⟨#[100,121,101]⟩
def gY:ByteArray:=⟨#[115,116,111,99,107]⟩
def jK:ByteArray:=⟨#[98,97,116,104]⟩
theorem uz (w:World):Calls Tryz.prog 216 #[] w fun e w'=>e=.returned (.agg #[.string gF,.string oo,.string gY,.string jK])∧Below w.heap.size w w':=by
 have HX:=Bx.nil w;have qev:=Tryz.underlying259
 go_enter Tryz.func216,Tryz.ntmps216
 go_wp2_with (first|((with_reducible refine au (N:=0) rfl ?_);refine newX rfl rfl HX (cs:=#[.string ⟨#[]⟩,.string ⟨#[]⟩,.string ⟨#[]⟩,.string ⟨#[]⟩]) (t:=259) tG ?_;clear HX;intro g0 w0 HX hx hz;clear hx hz)|((with_reducible refine aY (t:=259) (p:=0) rfl ?_);refine jZ rfl rfl rfl HX 0 rfl (i:=0) (.agg #[.string gF,.string oo,.string gY,.string jK]) [.string gF,.string oo,.string gY,.string jK] #[.string gF,.string oo,.string gY,.string jK] rfl rfl rfl tX (by simp) (by simp [Value.oneCell']) rfl ?_;clear HX;intro w9 HX hx;clear hx;dsimp only [List.set] at HX))
 refine bodyPost_ret (results_cell_row rfl _ _ g0 259 #[.string gF,.string oo,.string gY,.string jK] (0,0) _ rfl (HX.gb 0 rfl) qev (by rfl) tX) rfl ?_;exact ⟨rfl,HX.below⟩
def iB (n:Int):ByteArray:=⟨(Lib.itoa n).toArray⟩
def iD (name:ByteArray) (ns:List Int):ByteArray:=ns.foldl (fun acc n=>acc++((⟨#[32]⟩:ByteArray)++iB n)) name
theorem mR (name:ByteArray) (ns:List Int) (n:Int):iD name (ns++[n])=iD name ns++((⟨#[32]⟩:ByteArray)++iB n):=by simp [iD]
def Writes (w:World) (ns:List Int):Prop:=∀ n∈ns,∀ W,Below w.heap.size w W->Calls Tryz.prog 198 #[.int .i64 n] W fun e w'=>e=.returned (.string (iB n))∧Below W.heap.size W w'
theorem XP (v:Value) (ns:List Int) (w:World) (hn:ns.length<=1000) (hI:Writes w ns) (hs:∀ m,m<=ns.length->(iD gF (ns.take m)).size<=100000)
  (hM:∀ W,Below w.heap.size w W->Calls Tryz.prog 277 #[v] W fun e w'=>∃ lM:Value,e=.returned (lM)∧Kd.R (Kd.int .i64) 3 w' W.heap.size (fun _=>True) lM ns∧Below W.heap.size W w') :
  Calls Tryz.prog 196 #[.iface 234 v] w fun e w'=>e=.returned (.string (iD gF ns))∧Below w.heap.size w w':=by
 have HB:=aj.mk (Below.refl w.heap.size w)
 have Nb:∀ W,(Instr.typeAssert (.iface 234 v) 263 236 true).run Tryz.prog W=.ok (.tuple #[.agg #[.slice none 0 0,.int .i64 0],.bool false]) W:=fun W=>by kernel_rfl
 have UD:∀ W,(Instr.typeAssert (.iface 234 v) 263 238 true).run Tryz.prog W=.ok (.tuple #[.agg #[.slice none 0 0,.int .i64 0,.int .i64 0],.bool false]) W:=fun W=>by kernel_rfl
 have qbz:∀ W,(Instr.typeAssert (.iface 234 v) 263 240 true).run Tryz.prog W=.ok (.tuple #[.agg #[.int .i64 0,.int .i64 0,.int .i64 0,.int .i64 0],.bool false]) W:=fun W=>by kernel_rfl
 have hme:∀ W,(method 419 234 v "nacre/dye.numbers").run Tryz.prog W=.ok (277,v) W:=fun W=>by kernel_rfl
 have hi0:∀ W,(Instr.index 259 (.agg #[.string gF,.string oo,.string gY,.string jK]) (.int .i64 0)).run Tryz.prog W=.ok (.string gF) W:=fun W=>by kernel_rfl
 have hi1:∀ W,(Instr.index 259 (.agg #[.string gF,.string oo,.string gY,.string jK]) (.int .i64 1)).run Tryz.prog W=.ok (.string oo) W:=fun W=>by kernel_rfl
 have hi2:∀ W,(Instr.index 259 (.agg #[.string gF,.string oo,.string gY,.string jK]) (.int .i64 2)).run Tryz.prog W=.ok (.string gY) W:=fun W=>by kernel_rfl
 have hi3:∀ W,(Instr.index 259 (.agg #[.string gF,.string oo,.string gY,.string jK]) (.int .i64 3)).run Tryz.prog W=.ok (.string jK) W:=fun W=>by kernel_rfl
 go_enter Tryz.func196,Tryz.ntmps196
 go_wp2_with (first|(go_at_call 216;refine (uz _).mono ?_;rintro e w1 ⟨rfl,hx⟩;replace HB:=eH HB hx;clear hx)|(go_at_call 277;refine (hM _ HB.out).mono ?_;rintro e w1 ⟨v0,rfl,hr,hx⟩;obtain ⟨A1,c1,rfl,hl1,hr⟩:=Kd.fE hr;have HR:=aj.mk hr;replace HB:=eH HB hx;clear hx hr hM))
 have HB1:=aj.mk (Below.refl w1.heap.size w1)
 have hn1:ns.length<=9223372036854775807:=by omega
 go_loopw [3,5,27] (fun v3 _ v27 W=>∃ i:Nat,i<=ns.length∧v27=.int .i64 i∧v3=.string (iD gF (ns.take i))∧aj (Below w1.heap.size w1 W)) (fun _ _ v27 _=>ns.length - (intOf v27).toNat)
 case atStart=>exact ⟨0,by omega,rfl,rfl,HB1⟩
 case round =>
  clear HB1;obtain ⟨i,hi,rfl,rfl,HB1⟩:=hrel
  by_cases hlt:i<ns.length
  ·obtain ⟨ad,rfl,d1⟩:=Kd.iE (Kd.ak HR.out HB1.out) i (by omega) (by omega)
   rw [Int.toNat_natCast,sZ hlt] at d1
   have htk:ns.take (i+1)=ns.take i++[ns[i]]:=by rw [List.take_succ_eq_append_getElem hlt]
   have HT:=aj.mk htk
   have hz:(iD gF (ns.take i)).size+(1+(iB ns[i]).size)<=100000:=by
    have h1:=hs (i+1) (by omega);rw [htk,mR,ByteArray.size_append,ByteArray.size_append] at h1;exact h1
   have hz1:¬ 9223372036854775807<1+(iB ns[i]).size:=by omega
   have hz2:¬ 9223372036854775807<(iD gF (ns.take i)).size+(1+(iB ns[i]).size):=by omega
   have HZ:=aj.mk hz;clear hz htk
   go_wp2_with (go_at_call 198;refine (hI _ (List.getElem_mem hlt) _ (aV HB.out HB1.out)).mono ?_;rintro e w2 ⟨rfl,hx⟩;replace HB1:=eH HB1 hx;clear hx d1)
   case roundEnd=>exact ⟨⟨i+1,by omega,by simp,by rw [HT.out,mR],HB1⟩,by simp [intOf];omega⟩
  ·go_wp2
   obtain rfl:i=ns.length:=by omega
   rw [List.take_length]
   go_ret
   exact ⟨rfl,aV HB.out HB1.out⟩
theorem XQ (v:Value) (ns:List Int) (w:World) (hn:ns.length<=1000) (hI:Writes w ns) (hs:∀ m,m<=ns.length->(iD oo (ns.take m)).size<=100000)
  (hM:∀ W,Below w.heap.size w W->Calls Tryz.prog 278 #[v] W fun e w'=>∃ lM:Value,e=.returned (lM)∧Kd.R (Kd.int .i64) 3 w' W.heap.size (fun _=>True) lM ns∧Below W.heap.size W w') :
  Calls Tryz.prog 196 #[.iface 236 v] w fun e w'=>e=.returned (.string (iD oo ns))∧Below w.heap.size w w':=by
 have HB:=aj.mk (Below.refl w.heap.size w)
 have Nb:∀ W,(Instr.typeAssert (.iface 236 v) 263 236 true).run Tryz.prog W=.ok (.tuple #[v,.bool true]) W:=fun W=>by kernel_rfl
 have hme:∀ W,(method 419 236 v "nacre/dye.numbers").run Tryz.prog W=.ok (278,v) W:=fun W=>by kernel_rfl
 have hi0:∀ W,(Instr.index 259 (.agg #[.string gF,.string oo,.string gY,.string jK]) (.int .i64 0)).run Tryz.prog W=.ok (.string gF) W:=fun W=>by kernel_rfl
 have hi1:∀ W,(Instr.index 259 (.agg #[.string gF,.string oo,.string gY,.string jK]) (.int .i64 1)).run Tryz.prog W=.ok (.string oo) W:=fun W=>by kernel_rfl
 have hi2:∀ W,(Instr.index 259 (.agg #[.string gF,.string oo,.string gY,.string jK]) (.int .i64 2)).run Tryz.prog W=.ok (.string gY) W:=fun W=>by kernel_rfl
 have hi3:∀ W,(Instr.index 259 (.agg #[.string gF,.string oo,.string gY,.string jK]) (.int .i64 3)).run Tryz.prog W=.ok (.string jK) W:=fun W=>by kernel_rfl
 go_enter Tryz.func196,Tryz.ntmps196
 go_wp2_with (first|(go_at_call 216;refine (uz _).mono ?_;rintro e w1 ⟨rfl,hx⟩;replace HB:=eH HB hx;clear hx)|(go_at_call 278;refine (hM _ HB.out).mono ?_;rintro e w1 ⟨v0,rfl,hr,hx⟩;obtain ⟨A1,c1,rfl,hl1,hr⟩:=Kd.fE hr;have HR:=aj.mk hr;replace HB:=eH HB hx;clear hx hr hM))
 have HB1:=aj.mk (Below.refl w1.heap.size w1)
 have hn1:ns.length<=9223372036854775807:=by omega
 go_loopw [3,5,27] (fun v3 _ v27 W=>∃ i:Nat,i<=ns.length∧v27=.int .i64 i∧v3=.string (iD oo (ns.take i))∧aj (Below w1.heap.size w1 W)) (fun _ _ v27 _=>ns.length - (intOf v27).toNat)
 case atStart=>exact ⟨0,by omega,rfl,rfl,HB1⟩
 case round =>
  clear HB1;obtain ⟨i,hi,rfl,rfl,HB1⟩:=hrel
  by_cases hlt:i<ns.length
  ·obtain ⟨ad,rfl,d1⟩:=Kd.iE (Kd.ak HR.out HB1.out) i (by omega) (by omega)
   rw [Int.toNat_natCast,sZ hlt] at d1
   have htk:ns.take (i+1)=ns.take i++[ns[i]]:=by rw [List.take_succ_eq_append_getElem hlt]
   have HT:=aj.mk htk
   have hz:(iD oo (ns.take i)).size+(1+(iB ns[i]).size)<=100000:=by
    have h1:=hs (i+1) (by omega);rw [htk,mR,ByteArray.size_append,ByteArray.size_append] at h1;exact h1
   have hz1:¬ 9223372036854775807<1+(iB ns[i]).size:=by omega
   have hz2:¬ 9223372036854775807<(iD oo (ns.take i)).size+(1+(iB ns[i]).size):=by omega
   have HZ:=aj.mk hz;clear hz htk
   go_wp2_with (go_at_call 198;refine (hI _ (List.getElem_mem hlt) _ (aV HB.out HB1.out)).mono ?_;rintro e w2 ⟨rfl,hx⟩;replace HB1:=eH HB1 hx;clear hx d1)
   case roundEnd=>exact ⟨⟨i+1,by omega,by simp,by rw [HT.out,mR],HB1⟩,by simp [intOf];omega⟩
  ·go_wp2
   obtain rfl:i=ns.length:=by omega
   rw [List.take_length]
   go_ret
   exact ⟨rfl,aV HB.out HB1.out⟩
theorem XR (v:Value) (ns:List Int) (w:World) (hn:ns.length<=1000) (hI:Writes w ns) (hs:∀ m,m<=ns.length->(iD gY (ns.take m)).size<=100000)
  (hM:∀ W,Below w.heap.size w W->Calls Tryz.prog 279 #[v] W fun e w'=>∃ lM:Value,e=.returned (lM)∧Kd.R (Kd.int .i64) 3 w' W.heap.size (fun _=>True) lM ns∧Below W.heap.size W w') :
  Calls Tryz.prog 196 #[.iface 238 v] w fun e w'=>e=.returned (.string (iD gY ns))∧Below w.heap.size w w':=by
 have HB:=aj.mk (Below.refl w.heap.size w)
 have Nb:∀ W,(Instr.typeAssert (.iface 238 v) 263 236 true).run Tryz.prog W=.ok (.tuple #[.agg #[.slice none 0 0,.int .i64 0],.bool false]) W:=fun W=>by kernel_rfl
 have UD:∀ W,(Instr.typeAssert (.iface 238 v) 263 238 true).run Tryz.prog W=.ok (.tuple #[v,.bool true]) W:=fun W=>by kernel_rfl
 have hme:∀ W,(method 419 238 v "nacre/dye.numbers").run Tryz.prog W=.ok (279,v) W:=fun W=>by kernel_rfl
 have hi0:∀ W,(Instr.index 259 (.agg #[.string gF,.string oo,.string gY,.string jK]) (.int .i64 0)).run Tryz.prog W=.ok (.string gF) W:=fun W=>by kernel_rfl
 have hi1:∀ W,(Instr.index 259 (.agg #[.string gF,.string oo,.string gY,.string jK]) (.int .i64 1)).run Tryz.prog W=.ok (.string oo) W:=fun W=>by kernel_rfl
 have hi2:∀ W,(Instr.index 259 (.agg #[.string gF,.string oo,.string gY,.string jK]) (.int .i64 2)).run Tryz.prog W=.ok (.string gY) W:=fun W=>by kernel_rfl
 have hi3:∀ W,(Instr.index 259 (.agg #[.string gF,.string oo,.string gY,.string jK]) (.int .i64 3)).run Tryz.prog W=.ok (.string jK) W:=fun W=>by kernel_rfl
 go_enter Tryz.func196,Tryz.ntmps196
 go_wp2_with (first|(go_at_call 216;refine (uz _).mono ?_;rintro e w1 ⟨rfl,hx⟩;replace HB:=eH HB hx;clear hx)|(go_at_call 279;refine (hM _ HB.out).mono ?_;rintro e w1 ⟨v0,rfl,hr,hx⟩;obtain ⟨A1,c1,rfl,hl1,hr⟩:=Kd.fE hr;have HR:=aj.mk hr;replace HB:=eH HB hx;clear hx hr hM))
 have HB1:=aj.mk (Below.refl w1.heap.size w1)
 have hn1:ns.length<=9223372036854775807:=by omega
 go_loopw [3,5,27] (fun v3 _ v27 W=>∃ i:Nat,i<=ns.length∧v27=.int .i64 i∧v3=.string (iD gY (ns.take i))∧aj (Below w1.heap.size w1 W)) (fun _ _ v27 _=>ns.length - (intOf v27).toNat)
 case atStart=>exact ⟨0,by omega,rfl,rfl,HB1⟩
 case round =>
  clear HB1;obtain ⟨i,hi,rfl,rfl,HB1⟩:=hrel
  by_cases hlt:i<ns.length
  ·obtain ⟨ad,rfl,d1⟩:=Kd.iE (Kd.ak HR.out HB1.out) i (by omega) (by omega)
   rw [Int.toNat_natCast,sZ hlt] at d1
   have htk:ns.take (i+1)=ns.take i++[ns[i]]:=by rw [List.take_succ_eq_append_getElem hlt]
   have HT:=aj.mk htk
   have hz:(iD gY (ns.take i)).size+(1+(iB ns[i]).size)<=100000:=by
    have h1:=hs (i+1) (by omega);rw [htk,mR,ByteArray.size_append,ByteArray.size_append] at h1;exact h1
   have hz1:¬ 9223372036854775807<1+(iB ns[i]).size:=by omega
   have hz2:¬ 9223372036854775807<(iD gY (ns.take i)).size+(1+(iB ns[i]).size):=by omega
   have HZ:=aj.mk hz;clear hz htk
   go_wp2_with (go_at_call 198;refine (hI _ (List.getElem_mem hlt) _ (aV HB.out HB1.out)).mono ?_;rintro e w2 ⟨rfl,hx⟩;replace HB1:=eH HB1 hx;clear hx d1)
   case roundEnd=>exact ⟨⟨i+1,by omega,by simp,by rw [HT.out,mR],HB1⟩,by simp [intOf];omega⟩
  ·go_wp2
   obtain rfl:i=ns.length:=by omega
   rw [List.take_length]
   go_ret
   exact ⟨rfl,aV HB.out HB1.out⟩
theorem XT (v:Value) (ns:List Int) (w:World) (hn:ns.length<=1000) (hI:Writes w ns) (hs:∀ m,m<=ns.length->(iD jK (ns.take m)).size<=100000)
  (hM:∀ W,Below w.heap.size w W->Calls Tryz.prog 280 #[v] W fun e w'=>∃ lM:Value,e=.returned (lM)∧Kd.R (Kd.int .i64) 3 w' W.heap.size (fun _=>True) lM ns∧Below W.heap.size W w') :
  Calls Tryz.prog 196 #[.iface 240 v] w fun e w'=>e=.returned (.string (iD jK ns))∧Below w.heap.size w w':=by
 have HB:=aj.mk (Below.refl w.heap.size w)
 have Nb:∀ W,(Instr.typeAssert (.iface 240 v) 263 236 true).run Tryz.prog W=.ok (.tuple #[.agg #[.slice none 0 0,.int .i64 0],.bool false]) W:=fun W=>by kernel_rfl
 have UD:∀ W,(Instr.typeAssert (.iface 240 v) 263 238 true).run Tryz.prog W=.ok (.tuple #[.agg #[.slice none 0 0,.int .i64 0,.int .i64 0],.bool false]) W:=fun W=>by kernel_rfl
 have qbz:∀ W,(Instr.typeAssert (.iface 240 v) 263 240 true).run Tryz.prog W=.ok (.tuple #[v,.bool true]) W:=fun W=>by kernel_rfl
 have hme:∀ W,(method 419 240 v "nacre/dye.numbers").run Tryz.prog W=.ok (280,v) W:=fun W=>by kernel_rfl
 have hi0:∀ W,(Instr.index 259 (.agg #[.string gF,.string oo,.string gY,.string jK]) (.int .i64 0)).run Tryz.prog W=.ok (.string gF) W:=fun W=>by kernel_rfl
 have hi1:∀ W,(Instr.index 259 (.agg #[.string gF,.string oo,.string gY,.string jK]) (.int .i64 1)).run Tryz.prog W=.ok (.string oo) W:=fun W=>by kernel_rfl
 have hi2:∀ W,(Instr.index 259 (.agg #[.string gF,.string oo,.string gY,.string jK]) (.int .i64 2)).run Tryz.prog W=.ok (.string gY) W:=fun W=>by kernel_rfl
 have hi3:∀ W,(Instr.index 259 (.agg #[.string gF,.string oo,.string gY,.string jK]) (.int .i64 3)).run Tryz.prog W=.ok (.string jK) W:=fun W=>by kernel_rfl
 go_enter Tryz.func196,Tryz.ntmps196
 go_wp2_with (first|(go_at_call 216;refine (uz _).mono ?_;rintro e w1 ⟨rfl,hx⟩;replace HB:=eH HB hx;clear hx)|(go_at_call 280;refine (hM _ HB.out).mono ?_;rintro e w1 ⟨v0,rfl,hr,hx⟩;obtain ⟨A1,c1,rfl,hl1,hr⟩:=Kd.fE hr;have HR:=aj.mk hr;replace HB:=eH HB hx;clear hx hr hM))
 have HB1:=aj.mk (Below.refl w1.heap.size w1)
 have hn1:ns.length<=9223372036854775807:=by omega
 go_loopw [3,5,27] (fun v3 _ v27 W=>∃ i:Nat,i<=ns.length∧v27=.int .i64 i∧v3=.string (iD jK (ns.take i))∧aj (Below w1.heap.size w1 W)) (fun _ _ v27 _=>ns.length - (intOf v27).toNat)
 case atStart=>exact ⟨0,by omega,rfl,rfl,HB1⟩
 case round =>
  clear HB1;obtain ⟨i,hi,rfl,rfl,HB1⟩:=hrel
  by_cases hlt:i<ns.length
  ·obtain ⟨ad,rfl,d1⟩:=Kd.iE (Kd.ak HR.out HB1.out) i (by omega) (by omega)
   rw [Int.toNat_natCast,sZ hlt] at d1
   have htk:ns.take (i+1)=ns.take i++[ns[i]]:=by rw [List.take_succ_eq_append_getElem hlt]
   have HT:=aj.mk htk
   have hz:(iD jK (ns.take i)).size+(1+(iB ns[i]).size)<=100000:=by
    have h1:=hs (i+1) (by omega);rw [htk,mR,ByteArray.size_append,ByteArray.size_append] at h1;exact h1
   have hz1:¬ 9223372036854775807<1+(iB ns[i]).size:=by omega
   have hz2:¬ 9223372036854775807<(iD jK (ns.take i)).size+(1+(iB ns[i]).size):=by omega
   have HZ:=aj.mk hz;clear hz htk
   go_wp2_with (go_at_call 198;refine (hI _ (List.getElem_mem hlt) _ (aV HB.out HB1.out)).mono ?_;rintro e w2 ⟨rfl,hx⟩;replace HB1:=eH HB1 hx;clear hx d1)
   case roundEnd=>exact ⟨⟨i+1,by omega,by simp,by rw [HT.out,mR],HB1⟩,by simp [intOf];omega⟩
  ·go_wp2
   obtain rfl:i=ns.length:=by omega
   rw [List.take_length]
   go_ret
   exact ⟨rfl,aV HB.out HB1.out⟩
end Go.Proofs.YtnpfbjnjdngkhaaGreatDoor.P
namespace Go.Proofs.YtnpfbjnjdngkhaaGreatDoor.P
open Go.RowKit Go.Proofs.YtnpfbjnjdngkhaaGreatDoorW.aQ Go.Proofs.YtnpfbjnjdngkhaaGreatDoorW.bO Go.Proofs.YtnpfbjnjdngkhaaGreatDoorW.bT
def Ai (d:bI):List Int:=d.f1::d.f0.flatMap fun s=>[s.f0,s.f1]
def pz (s:dD):List Int:=[s.f1,s.f2,(s.f0.length:Int)]
def xG (b:bB):List Int:=[b.f0,b.f1,b.f2.f0,b.f2.f1]
def vH (h:List bI) (st:List dD):List Int:=[(h.length:Int),(st.length:Int)]
def qA (d:bI):ByteArray:=iD oo (Ai d)
def pE (b:bB):ByteArray:=iD jK (xG b)
def lH (s:dD):List ByteArray:=iD gY (pz s)::s.f0.map pE
def qB (h:List bI) (st:List dD):List ByteArray:=iD gF (vH h st)::(h.map qA++st.flatMap lH)
def sumTo (l:ByteArray):Nat->Int
 | 0=>0
 | n+1=>sumTo l n+(l.data.toList.getD n 0).toNat*((n:Int)+1)
def qC (l:ByteArray):Int:=sumTo l l.size
def IJ (ls:List ByteArray):Int:=(ls.map qC).sum%113
def ZH (ls:List ByteArray):ByteArray:=⟨(Lib.join (ls.map (·.data.toList)) [10]).toArray⟩
def textOf (ls:List ByteArray):ByteArray:=ZH ls++⟨#[10,101,110,100,32]⟩++iB (IJ ls / 100)++iB (IJ ls / 10%10)++iB (IJ ls%10)++⟨#[10]⟩
def numsOf (h:List bI) (st:List dD):List Int:=vH h st++h.flatMap Ai++st.flatMap fun s=>pz s++s.f0.flatMap xG
structure Nc (h:List bI) (st:List dD):Prop where
 RA:h.length<=100∧∀ d∈h,d.f0.length<=100
 EO:st.length<=100∧∀ s∈st,s.f0.length<=100
 size:∀ n∈numsOf h st,(iB n).size<=20
theorem EP:∀ (ns:List Int) (acc:ByteArray),(∀ n∈ns,(iB n).size<=20)->(ns.foldl (fun acc n=>acc++((⟨#[32]⟩:ByteArray)++iB n)) acc).size<=acc.size+21*ns.length
 | [],acc,_=>by simp
 | n::ns,acc,h=>by
  have h1:=EP ns (acc++((⟨#[32]⟩:ByteArray)++iB n)) fun x hx=>h x (by simp [hx])
  have h2:=h n (by simp);rw [ByteArray.size_append,ByteArray.size_append] at h1;have:(⟨#[32]⟩:ByteArray).size=1:=rfl;rw [List.foldl_cons,List.length_cons]
  omega
theorem ER (name:ByteArray) (hn:name.size<=10) (ns:List Int) (h:∀ n∈ns,(iB n).size<=20):(iD name ns).size<=10+21*ns.length:=by
 have:=EP ns name h
 unfold iD
 omega
theorem vY (name:ByteArray) (hn:name.size<=10) (ns:List Int) (h:∀ n∈ns,(iB n).size<=20) (hl:ns.length<=900) (m:Nat) (_:m<=ns.length):(iD name (ns.take m)).size<=100000:=by
 have h1:=ER name hn (ns.take m) fun n hn=>h n (List.mem_of_mem_take hn)
 rw [List.length_take] at h1
 omega
theorem Gh (d:bI):(Ai d).length=1+2*d.f0.length:=by
 have:∀ l:List bQ,(l.flatMap fun s=>[s.f0,s.f1]).length=2*l.length:=by
  intro l
  induction l with
  | nil=>rfl
  | cons s l ih=>rw [List.flatMap_cons,List.length_append,ih];simp;omega
 unfold Ai
 rw [List.length_cons,this]
 omega
theorem XU (l:List bQ) (hl:l.length<=900):∀ (m k i:Nat) (acc:List Int),i+m=l.length->m<k->acc.length<=100000+2*i->dF.l0 k acc l (l.length:Int) (i:Int)=some (acc++(l.drop i).flatMap fun s=>[s.f0,s.f1]):=by
 intro m
 induction m with
 | zero =>
  intro k i acc him hk ha;obtain ⟨k,rfl⟩:∃ m,k=m+1:=⟨k - 1,by omega⟩;simp only [dF.l0];rw [if_neg (by omega),List.drop_eq_nil_of_le (by omega)];simp
 | succ m ih =>
  intro k i acc him hk ha;obtain ⟨k,rfl⟩:∃ m,k=m+1:=⟨k - 1,by omega⟩
  have hi:i<l.length:=by omega
  simp only [dF.l0]
  have hw:wrap64 ((i:Int)+1)=((i+1:Nat):Int):=by rw [Br (by omega) (by omega)];omega
  have hrd:bH l (i:Int)=l[i]:=by rw [bH,Int.toNat_natCast,List.getD_eq_getElem?_getD,List.getElem?_eq_getElem hi];rfl
  rw [if_pos (by omega),if_pos (by omega),if_pos (by omega),Option.bind_some,if_pos (by simp;omega),hw,ih k (i+1) _ (by omega) (by omega) (by simp;omega),hrd,List.drop_eq_getElem_cons hi];simp only [List.flatMap_cons,List.append_assoc,List.cons_append,List.nil_append]
theorem qbA (d:bI) (hl:d.f0.length<=900):dF.f 1000 d.f0 d.f1=some (Ai d):=by
 unfold dF.f
 exact XU d.f0 hl d.f0.length 1000 0 [d.f1] (by omega) (by omega) (by simp)
end Go.Proofs.YtnpfbjnjdngkhaaGreatDoor.P
namespace Go.Proofs.YtnpfbjnjdngkhaaGreatDoor.P
open Go.RowKit Go.Proofs.YtnpfbjnjdngkhaaGreatDoorW.aQ Go.Proofs.YtnpfbjnjdngkhaaGreatDoorW.bO Go.Proofs.YtnpfbjnjdngkhaaGreatDoorW.bT
attribute [local go_sem] eP eT fU fV dS dU eU eX
def xH.f (bq:Int) (aU:Int) (xD:Int) (gT:Int):Option (Int × Int):=some (wrap64 (bq+xD),wrap64 (aU+gT))
theorem xH.calls (bq:Int) (aU:Int) (xD:Int) (gT:Int) (r1:Int) (r2:Int) (w:World) (h:xH.f bq aU xD gT=some (r1,r2)) :
  Calls Tryz.prog 175 #[.agg #[.int .i64 bq,.int .i64 aU],.agg #[.int .i64 xD,.int .i64 gT]] w fun e w'=>e=.returned (.agg #[.int .i64 r1,.int .i64 r2])∧Below w.heap.size w w':=by
 have jY:=Tryz.underlying37;have HB:=aj.mk (Below.refl w.heap.size w);have H:(some (wrap64 (bq+xD),wrap64 (aU+gT)))=some (r1,r2):=h;clear h;simp only [Option.some.injEq,Prod.mk.injEq] at H;obtain ⟨rfl,rfl⟩:=H
 go_enter Tryz.func175,Tryz.ntmps175
 go_wp2_with (first|((with_reducible refine au (N:=2) rfl ?_);refine fA 2 #[.int .i64 bq,.int .i64 aU] 37 HB ?_;clear HB;intro qmY w3 hg xI qmZ HB hb;clear hb hg)|((with_reducible refine au (N:=3) rfl ?_);refine fA 3 #[.int .i64 xD,.int .i64 gT] 37 HB ?_;clear HB;intro qm0 w4 hg ES qm1 HB hb;have RB:=Fh xI hg;have RD:=Fj xI hg;replace xI:=bW xI hb;clear hb hg)|((with_reducible refine au (N:=4) rfl ?_);refine fA 4 #[.int .i64 0,.int .i64 0] 37 HB ?_;clear HB;intro qew w5 hg Qi qm2 HB hb;have RF:=Fh xI hg;have RG:=Fj xI hg;replace xI:=bW xI hb;have RH:=Fh ES hg;have RI:=Fj ES hg;replace ES:=bW ES hb;clear hb hg;have qex:=RB.out;have qey:=RD.out;have qdR:=RF.out;have qdS:=RG.out;obtain ⟨yY,Nf⟩:=bc2 xI;have yZ:=bf xI 0;have Ng:=bf xI 1;have qjw:=RH.out;have qjx:=RI.out;obtain ⟨yA,Hr⟩:=bc2 ES;have yB:=bf ES 0;have Ht:=bf ES 1;obtain ⟨yt,G6⟩:=bc2 Qi;have yu:=bf Qi 0;have G7:=bf Qi 1))
 refine bodyPost_ret (results_cell_row rfl _ _ qew 37 #[.int .i64 (wrap64 (bq+xD)),.int .i64 (wrap64 (aU+gT))] (0,0) _ rfl (by (with_reducible repeat (first|refine aJ ?_ _|refine aN ?_|refine aI ?_ _));refine dO (cs:=#[.int .i64 (wrap64 (bq+xD)),.int .i64 0]) ?_ 1 _ rfl;(with_reducible repeat (first|refine aJ ?_ _|refine aN ?_|refine aI ?_ _));refine dO (cs:=#[.int .i64 0,.int .i64 0]) ?_ 0 _ rfl;(with_reducible repeat (first|refine aJ ?_ _|refine aN ?_|refine aI ?_ _));exact Qi.out) Tryz.underlying37 rfl tX) rfl ?_;exact ⟨tF,tB⟩
def sH.f (bq:Int) (aU:Int) (a1:Int):Option (Int × Int):=some (mn (wrap64 (bq*a1)) (wrap64 (aU*a1)),mx (wrap64 (bq*a1)) (wrap64 (aU*a1)))
theorem Bx.drewN {L:List (Nat × Obj)} {w W:World} (h:Bx L w W) (n:Nat):Bx L w (W.drewN n):=h.step (kG (Below.refl _ _) n)
theorem sH.calls (bq:Int) (aU:Int) (a1:Int) (r1:Int) (r2:Int) (w:World) (h:sH.f bq aU a1=some (r1,r2)) :
  Calls Tryz.prog 176 #[.agg #[.int .i64 bq,.int .i64 aU],.int .i64 a1] w fun e w'=>e=.returned (.agg #[.int .i64 r1,.int .i64 r2])∧Below w.heap.size w w':=by
 have HX:=Bx.nil w;have jY:=Tryz.underlying37
 have h2:mn (wrap64 (bq*a1)) (wrap64 (aU*a1))=r1∧mx (wrap64 (bq*a1)) (wrap64 (aU*a1))=r2:=by unfold sH.f at h;injection h with h;injection h with e1 e2;exact ⟨e1,e2⟩
 have HE:=aj.mk h2;clear h h2
 go_enter Tryz.func176,Tryz.ntmps176
 go_wp2_with (first|((with_reducible refine au (N:=2) rfl ?_);refine newX rfl rfl HX (cs:=#[.int .i64 bq,.int .i64 aU]) (t:=37) tG ?_;clear HX;intro g2 w2 HX hx hz;clear hx hz)|((with_reducible refine au (N:=4) rfl ?_);refine newX rfl rfl HX (cs:=#[.int .i64 0,.int .i64 0]) (t:=37) tG ?_;clear HX;intro g4 w4 HX hx hz;clear hx hz;have ch:=HX.g2 1 rfl;obtain ⟨FC,J8⟩:=ch))
 go_quiet (fail)
 clear FC J8
 rename_i nq
 have uy:=HX.drewN nq;clear HX;have HX:=uy;clear uy;have HE2:=aj.mk (show mn (IntKind.i64.wrap (bq*a1)) (IntKind.i64.wrap (aU*a1))=r1∧mx (IntKind.i64.wrap (bq*a1)) (IntKind.i64.wrap (aU*a1))=r2 by rw [show IntKind.i64.wrap (bq*a1)=wrap64 (bq*a1) from by rw [IntKind.wrap_i64];unfold wrap64;omega,show IntKind.i64.wrap (aU*a1)=wrap64 (aU*a1) from by rw [IntKind.wrap_i64];unfold wrap64;omega];exact HE.out);clear HE
 revert HE2
 generalize IntKind.i64.wrap (bq*a1)=p
 generalize IntKind.i64.wrap (aU*a1)=q
 intro HE
 rcases Int.lt_trichotomy p q with hpq|hpq|hpq
 ·have HF:=aj.mk (show p=r1∧q=r2 from ⟨by rw [← HE.out.1];unfold mn;rw [if_neg (by omega)],by rw [← HE.out.2];unfold mx;rw [if_pos (by omega)]⟩)
  go_wp2_with ((with_reducible refine aY (t:=37) (p:=4) rfl ?_);refine jZ rfl rfl rfl HX 0 rfl (i:=0) (.agg #[.int .i64 p,.int .i64 q]) [.int .i64 p,.int .i64 q] #[.int .i64 p,.int .i64 q] rfl rfl rfl tX (by simp) (by simp [Value.oneCell']) rfl ?_;clear HX;intro w1 HX hx;clear hx;dsimp only [List.set] at HX)
  refine bodyPost_ret (results_cell_row rfl _ _ g4 37 #[.int .i64 p,.int .i64 q] (0,0) _ rfl (HX.gb 0 rfl) Tryz.underlying37 rfl tX) rfl ?_;exact ⟨by rw [← HF.out.1,← HF.out.2],HX.below⟩
 ·subst hpq
  have HF:=aj.mk (show p=r1∧p=r2 from ⟨by rw [← HE.out.1];unfold mn;rw [if_neg (by omega)],by rw [← HE.out.2];unfold mx;rw [if_neg (by omega)]⟩)
  go_wp2_with ((with_reducible refine aY (t:=37) (p:=4) rfl ?_);refine jZ rfl rfl rfl HX 0 rfl (i:=0) (.agg #[.int .i64 p,.int .i64 p]) [.int .i64 p,.int .i64 p] #[.int .i64 p,.int .i64 p] rfl rfl rfl tX (by simp) (by simp [Value.oneCell']) rfl ?_;clear HX;intro w1 HX hx;clear hx;dsimp only [List.set] at HX)
  refine bodyPost_ret (results_cell_row rfl _ _ g4 37 #[.int .i64 p,.int .i64 p] (0,0) _ rfl (HX.gb 0 rfl) Tryz.underlying37 rfl tX) rfl ?_;exact ⟨by rw [← HF.out.1,← HF.out.2],HX.below⟩
 ·have HF:=aj.mk (show q=r1∧p=r2 from ⟨by rw [← HE.out.1];unfold mn;rw [if_pos (by omega)],by rw [← HE.out.2];unfold mx;rw [if_neg (by omega)]⟩)
  go_wp2_with ((with_reducible refine aY (t:=37) (p:=4) rfl ?_);refine jZ rfl rfl rfl HX 0 rfl (i:=0) (.agg #[.int .i64 q,.int .i64 p]) [.int .i64 q,.int .i64 p] #[.int .i64 q,.int .i64 p] rfl rfl rfl tX (by simp) (by simp [Value.oneCell']) rfl ?_;clear HX;intro w1 HX hx;clear hx;dsimp only [List.set] at HX)
  refine bodyPost_ret (results_cell_row rfl _ _ g4 37 #[.int .i64 q,.int .i64 p] (0,0) _ rfl (HX.gb 0 rfl) Tryz.underlying37 rfl tX) rfl ?_;exact ⟨by rw [← HF.out.1,← HF.out.2],HX.below⟩
def bV.l0:Nat->List bB->List Int->Int->Int->List bI->List Int->Int->Int->Option (Int × Int)
 | 0,_,_,_,_,_,_,_,_=>none
 | k+1,x1,x10,x11,Gb,Qj,Qk,Ql,Qm=>if Gb<x11 then (if 0<=Gb then (if Gb<(x10.length:Int) then ((iI.f Qj Qk x1 Gb).bind fun ZI=>((sH.f ZI.1 ZI.2 (rd x10 Gb)).bind fun ZJ=>((xH.f Ql Qm ZJ.1 ZJ.2).bind fun ZK=>(bV.l0 k x1 x10 x11 (wrap64 (Gb+1)) Qj Qk ZK.1 ZK.2)))) else (none)) else (none)) else (some (Ql,Qm))
def bV.f (k:Nat) (av:List bI) (gu:List Int) (l1:List bB):Option (Int × Int):=bV.l0 k l1 gu (gu.length:Int) 0 av gu 0 0
def bV.T5:Bool × List (List Nat × List Nat):=(true,[([],[]),([],[]),([],[]),([],[]),([1,2,3],[1,2,3]),([],[]),([4,5,4],[4,5]),([0,6,6],[0,6]),([7,7,0,1,2,3,4,5,6,7],[7])])
def bV.B5:List Nat:=[0,0,0,0,14,0,62,127,255]
theorem bV.qez:pQ .any (opsOf Tryz.f123 5)=bV.T5:=by kernel_rfl
theorem bV.ZL:nT bV.T5.2 bV.B5=true:=by kernel_rfl
theorem bV.calls (k:Nat) (bC:Option Addr) (aZ:Nat) (av:List bI) (nP:Option Addr) (mY:Nat) (gu:List Int) (A1:Option Addr) (c1:Nat) (l1:List bB) (r1:Int) (r2:Int) (w:World) (dw:Kd.C iG w bC av.length av) (dG:av.length<=aZ) (sV:Kd.C (Kd.int .i64) w nP gu.length gu) (vw:gu.length<=mY) (hr1:Kd.C eD w A1 l1.length l1) (hc1:l1.length<=c1) (h:bV.f k av gu l1=some (r1,r2)) :
  Calls Tryz.prog 123 #[.agg #[.slice bC av.length aZ,.slice nP gu.length mY],.slice A1 l1.length c1] w fun e w'=>e=.returned (.agg #[.int .i64 r1,.int .i64 r2])∧Below w.heap.size w w':=by
 have wR:=Tryz.underlying149;have jY:=Tryz.underlying37;have dM:=aj.mk dw;have fu:=aj.mk dG;clear dw dG;have O4:=aj.mk sV;have Tt:=aj.mk vw;clear sV vw;have HR1:=aj.mk hr1;have yE:=aj.mk hc1;clear hr1 hc1;have HB:=aj.mk (Below.refl w.heap.size w);have H:(bV.l0 k l1 gu (gu.length:Int) 0 av gu 0 0)=some (r1,r2):=h;clear h;have H':=aj.mk H;clear H
 go_enter Tryz.func123,Tryz.ntmps123
 go_wp2_with (first|((with_reducible refine au (N:=2) rfl ?_);refine fA 2 #[.slice bC av.length aZ,.slice nP gu.length mY] 149 HB ?_;clear HB;intro UE w3 hg jP qm3 HB hb;clear hb hg)|((with_reducible refine au (N:=4) rfl ?_);refine fA 4 #[.int .i64 0,.int .i64 0] 37 HB ?_;clear HB;intro ZM w4 hg pF qm4 HB hb;have Gi:=Fh jP hg;have Gj:=Fj jP hg;replace jP:=bW jP hb;clear hb hg)|((with_reducible refine au (N:=5) rfl ?_);refine fA 5 #[.int .i64 0,.int .i64 0] 37 HB ?_;clear HB;intro KU w5 hg kU qm5 HB hb;have sI:=Fh jP hg;have yH:=Fj jP hg;replace jP:=bW jP hb;have vI:=Fh pF hg;have Bw:=Fj pF hg;replace pF:=bW pF hb;clear hb hg;have qex:=Gi.out;have qey:=Gj.out;have qdR:=sI.out;have qdS:=yH.out;obtain ⟨yY,Nf⟩:=bc2 jP;have yZ:=bf jP 0;have Ng:=bf jP 1))
 go_loopg [12] k (fun kq v12 w'=>∃ (pU:Int) (lT:Int) (lU:Int),v12=.int .i64 pU∧aj (bV.l0 kq l1 gu (gu.length:Int) pU av gu lT lU=some (r1,r2))∧aj (kq<=k)∧aj (w'.heap[UE]?=some (.cells #[(.slice bC av.length aZ),(.slice nP gu.length mY)] 149 (0,0)))∧aj (w'.heap[ZM]?=some (.cells #[.int .i64 0,.int .i64 0] 37 (0,0)))∧aj (w'.heap[KU]?=some (.cells #[.int .i64 lT,.int .i64 lU] 37 (0,0)))∧aj (Below w.heap.size w w'))
 case atStart=>exact ⟨(0),(0),(0),tS,H',⟨Nat.le_refl _⟩,⟨(qB2 jP)⟩,⟨(qB2 pF)⟩,⟨(qB2 kU)⟩,⟨tB⟩⟩
 case round =>
  clear H'
  try clear c1
  try clear p2
  try clear c6
  try clear c7
  try clear yY
  try clear Nf
  try clear yZ
  try clear Ng
  obtain ⟨pU,lT,lU,rfl,HA,qg,jP,pF,kU,HB⟩:=hrel
  cases gk with
  | zero=>exact absurd HA.out (by simp [bV.l0])
  | succ k1 =>
   have H:=HA.out;clear HA;simp only [bV.l0] at H
   by_cases c9:pU<(gu.length:Int)
   ·rw [if_pos c9] at H
    have Q9:decide (pU<(gu.length:Int))=true:=decide_eq_true c9;clear c9
    by_cases c10:0<=pU
    ·rw [if_pos c10] at H
     have OJ:decide (0<=pU)=true:=decide_eq_true c10;clear c10
     by_cases c11:pU<(gu.length:Int)
     ·rw [if_pos c11] at H
      have qdp:decide (pU<(gu.length:Int))=true:=decide_eq_true c11;clear c11;obtain ⟨⟨t207,t208⟩,qeA,H⟩:=bs H;have A12:=aj.mk qeA;clear qeA;obtain ⟨⟨t209,t210⟩,qeB,H⟩:=bs H;have A13:=aj.mk qeB;clear qeB;obtain ⟨⟨t211,t212⟩,qeC,H⟩:=bs H;have A14:=aj.mk qeC;clear qeC;have H':=aj.mk H;clear H;have qbB:0<=(pU:Int):=of_decide_eq_true tA;have qbC:pU<(gu.length:Int):=of_decide_eq_true tA;obtain ⟨ZN,e206,Qn⟩:=Kd.iE O4.out pU qbB qbC
      cases e206
      replace Qn:=dz HB Qn;replace qbB:=eq_true qbB;replace qbC:=eq_true qbC
      try go_wp2
      replace jP:=aj.mk (aN jP.out);replace pF:=aj.mk (aN pF.out);replace kU:=aj.mk (aN kU.out);replace HB:=aj.mk (jD HB.out);refine kK (n:=9) (S:=fun w'=>w'.cell? ⟨KU,0,none⟩=some (.int .i64 lT)∧w'.cell? ⟨KU,1,none⟩=some (.int .i64 lU)∧w'.cell? ⟨UE,0,none⟩=some (.slice bC av.length aZ)∧w'.cell? ⟨UE,1,none⟩=some (.slice (some ZN) gu.length mY)) (ds:=[8]) #[false,false,false,false,false,false,false,false,false] tX rfl rfl ⟨(aM kU.out 0).trans rfl,(aM kU.out 1).trans rfl,(aM jP.out 0).trans rfl,(aM jP.out 1).trans rfl⟩ (fun hHeld=>?_);refine mX bV.qez bV.ZL (fun fq yF=>?_)
      generalize wr.drew=Mf at jP pF kU HB hHeld ⊢
      refine pS 2 19 (bA 9 4) fq ?_;refine pS 3 20 (bA 9 12) fq ?_;refine pS 5 22 (bA 9 44) fq ?_;refine qyJ 0 17 (bA 9 45) fq yF hHeld ?_;refine qyJ 1 18 (bA 9 47) fq yF hHeld ?_;refine gZ (i:=4) (N:=some 21) (bA 9 63) rfl rfl (jq fq.out tX) (by decide) (fun K hK=>?_);refine gK Tryz.func107 tX rfl #[.agg #[.slice bC av.length aZ,.slice (some ZN) gu.length mY],.slice A1 l1.length c1,.int .i64 pU] (by rfl) rfl rfl tM ?_
      with_reducible refine (iI.calls _ _ av _ _ gu _ _ l1 pU t207 t208 _ ?bK ?bL ?fM ?fO ?jI ?zL A12.out).mono ?_
      (case bK=>exact cS dM)
      (case bL=>exact fu.out)
      (case fM=>exact cS O4)
      (case fO=>exact Tt.out)
      (case jI=>exact cS HR1)
      (case zL=>exact yE.out)
      rintro e w16 ⟨rfl,hb⟩;refine ⟨_,rfl,?_⟩;replace jP:=bW jP hb;replace pF:=bW pF hb;replace kU:=bW kU hb;replace HB:=dL HB hb
      (try clear hb)
      (try clear hb2)
      (try clear hk)
      (try clear hi)
      refine hK.out _ _ ⟨(aM kU.out 0).trans rfl,(aM kU.out 1).trans rfl,(aM jP.out 0).trans rfl,(aM jP.out 1).trans rfl⟩ (fun hHeld=>?_);clear hK K;refine dn (a':=?_) ?_ ?_;rotate_left
      ·show Act.put _ (some 21) _=_
       simp only [Act.put,sL,ay,aA]
       rfl
      refine gZ (i:=6) (N:=some 23) (bA 9 127) rfl rfl (jq fq.out tX) (by decide) (fun K hK=>?_);refine gK Tryz.func176 tX rfl #[.agg #[.int .i64 t207,.int .i64 t208],.int .i64 (rd gu pU)] (by rfl) rfl rfl tM ?_
      with_reducible refine (sH.calls t207 t208 (rd gu pU) t209 t210 _ A13.out).mono ?_
      rintro e w17 ⟨rfl,hb⟩;refine ⟨_,rfl,?_⟩;replace jP:=bW jP hb;replace pF:=bW pF hb;replace kU:=bW kU hb;replace HB:=dL HB hb
      (try clear hb)
      (try clear hb2)
      (try clear hk)
      (try clear hi)
      refine hK.out _ _ ⟨(aM kU.out 0).trans rfl,(aM kU.out 1).trans rfl,(aM jP.out 0).trans rfl,(aM jP.out 1).trans rfl⟩ (fun hHeld=>?_);clear hK K;refine dn (a':=?_) ?_ ?_;rotate_left
      ·show Act.put _ (some 23) _=_
       simp only [Act.put,sL,ay,aA]
       rfl
      refine gZ (i:=7) (N:=some 24) (bA 9 255) rfl rfl (jq fq.out tX) (by decide) (fun K hK=>?_);refine gK Tryz.func175 tX rfl #[.agg #[.int .i64 lT,.int .i64 lU],.agg #[.int .i64 t209,.int .i64 t210]] (by rfl) rfl rfl tM ?_
      with_reducible refine (xH.calls lT lU t209 t210 t211 t212 _ A14.out).mono ?_
      rintro e VN ⟨rfl,hb⟩;refine ⟨_,rfl,?_⟩;replace jP:=bW jP hb;replace pF:=bW pF hb;replace kU:=bW kU hb;replace HB:=dL HB hb
      (try clear hb)
      (try clear hb2)
      (try clear hk)
      (try clear hi)
      refine hK.out _ _ ⟨(aM kU.out 0).trans rfl,(aM kU.out 1).trans rfl,(aM jP.out 0).trans rfl,(aM jP.out 1).trans rfl⟩ (fun hHeld=>?_);clear hK K;refine dn (a':=?_) ?_ ?_;rotate_left
      ·show Act.put _ (some 24) _=_
       simp only [Act.put,sL,ay,aA]
       rfl
      refine Sw (i:=8) (N:=none) (bA 9 511) rfl rfl (jq fq.out tX) (by decide) (fun K hK=>?_);have qpx:VN.cell? ⟨KU,0,none⟩=some (.int .i64 lT):=(aM kU.out 0).trans rfl;have qm6:=bf kU 0;have qig:=sI.out;have qih:=vI.out;have qii:=yH.out;have qij:=Bw.out;have qpy:VN.cell? ⟨KU,1,none⟩=some (.int .i64 lU):=(aM kU.out 1).trans rfl;have qm7:=bf kU 1;have qik:=sI.out;have qil:=vI.out;have qim:=yH.out;have qin:=Bw.out;refine YM (w1:=?_) (by rfl) rfl ?_ ?_;rotate_left
      ·go_simp
       rfl
      refine hK.out _ _ ?_;clear hK K;refine lK (qU fq.out tX) ?_
      try go_wp2
      go_roundg k1
      case measure=>have:=qg.out;omega
      case rel=>exact ⟨(wrap64 (pU+1)),(t211),(t212),tS,H',⟨by have:=qg.out;omega⟩,⟨by (with_reducible repeat (first|refine aJ ?_ _|refine aN ?_|refine aI ?_ _));refine ko ?_ sI.out _;(with_reducible repeat (first|refine aJ ?_ _|refine aN ?_|refine aI ?_ _));refine ko ?_ sI.out _;(with_reducible repeat (first|refine aJ ?_ _|refine aN ?_|refine aI ?_ _));exact jP.out⟩,⟨by (with_reducible repeat (first|refine aJ ?_ _|refine aN ?_|refine aI ?_ _));refine ko ?_ vI.out _;(with_reducible repeat (first|refine aJ ?_ _|refine aN ?_|refine aI ?_ _));refine ko ?_ vI.out _;(with_reducible repeat (first|refine aJ ?_ _|refine aN ?_|refine aI ?_ _));exact pF.out⟩,⟨by (with_reducible repeat (first|refine aJ ?_ _|refine aN ?_|refine aI ?_ _));refine dO (cs:=#[.int .i64 t211,.int .i64 lU]) ?_ 1 _ rfl;(with_reducible repeat (first|refine aJ ?_ _|refine aN ?_|refine aI ?_ _));refine dO (cs:=#[.int .i64 lT,.int .i64 lU]) ?_ 0 _ rfl;(with_reducible repeat (first|refine aJ ?_ _|refine aN ?_|refine aI ?_ _));exact kU.out⟩,⟨tB⟩⟩
     ·rw [if_neg c11] at H
      exact absurd H (by simp)
    ·rw [if_neg c10] at H
     exact absurd H (by simp)
   ·rw [if_neg c9] at H
    have Q9:decide (pU<(gu.length:Int))=false:=decide_eq_false c9;clear c9;simp only [Option.some.injEq,Prod.mk.injEq] at H;obtain ⟨rfl,rfl⟩:=H;have qm8:=yH.out;have qm9:=sI.out;have qdx:=Bw.out;have qdy:=vI.out;obtain ⟨C9,H6⟩:=bc2 kU;have Da:=bf kU 0;have Ia:=bf kU 1;have qeg:=Gj.out;have qeh:=Gi.out;obtain ⟨DC,XL⟩:=bc2 pF;have DF:=bf pF 0;have XM:=bf pF 1
    go_wp2
    refine bodyPost_ret (results_cell_row rfl _ _ ZM 37 #[.int .i64 lT,.int .i64 lU] (0,0) _ rfl (by (with_reducible repeat (first|refine aJ ?_ _|refine aN ?_|refine aI ?_ _));refine dO (cs:=#[.int .i64 lT,.int .i64 0]) ?_ 1 _ rfl;(with_reducible repeat (first|refine aJ ?_ _|refine aN ?_|refine aI ?_ _));refine dO (cs:=#[.int .i64 0,.int .i64 0]) ?_ 0 _ rfl;(with_reducible repeat (first|refine aJ ?_ _|refine aN ?_|refine aI ?_ _));exact pF.out) Tryz.underlying37 rfl tX) rfl ?_;exact ⟨tF,tB⟩
end Go.Proofs.YtnpfbjnjdngkhaaGreatDoor.P
namespace Go.Proofs.YtnpfbjnjdngkhaaGreatDoor.P
open Go.RowKit Go.Proofs.YtnpfbjnjdngkhaaGreatDoorW.aQ Go.Proofs.YtnpfbjnjdngkhaaGreatDoorW.bO Go.Proofs.YtnpfbjnjdngkhaaGreatDoorW.bT
def Sg (h:List bI) (l:List bB) (d:Int):Int:=tq (aX h d).f1 d ((aX h d).f0.map bQ.f0) l ((l.map bB.f2).map bQ.f0)
def Si (h:List bI) (l:List bB) (d:Int):Int:=tq (aX h d).f1 d ((aX h d).f0.map bQ.f1) l ((l.map bB.f2).map bQ.f1)
theorem UF {h:List bI} {l:List bB} {d:Int} (ws:List Int) (hh:iN h=true) (hb:iq h.length l=true) (hd:0<=d∧d<h.length) :
  iI.f h ws l d=some (Sg h l d,Si h l d)∧(0<=Sg h l d∧Sg h l d<=100)∧(0<=Si h l d∧Si h l d<=100):=by
 have HO:=qH hh;have BO:=qI hb;have hm:=oH hd;have h3:=HO.takes _ hm;have hs:=HO.span _ hm;have hf:=HO.full _ hm;have hl:=BO.len
 have ht0:∀ x∈(aX h d).f0.map bQ.f0,0<=x∧x<=1000:=fun x hx=>by
  obtain ⟨s,hs2,rfl⟩:=List.mem_map.1 hx;have:=hs s hs2;have:=ze hh hm hs2
  omega
 have ht1:∀ x∈(aX h d).f0.map bQ.f1,0<=x∧x<=1000:=fun x hx=>by
  obtain ⟨s,hs2,rfl⟩:=List.mem_map.1 hx;have:=hs s hs2;have:=ze hh hm hs2
  omega
 have hw0:∀ x∈(l.map bB.f2).map bQ.f0,0<=x∧x<=1000:=fun x hx=>by
  obtain ⟨s,hs2,rfl⟩:=List.mem_map.1 hx;obtain ⟨b,hb2,rfl⟩:=List.mem_map.1 hs2;have:=BO.hours b hb2;have:=zf hb hb2
  omega
 have hw1:∀ x∈(l.map bB.f2).map bQ.f1,0<=x∧x<=1000:=fun x hx=>by
  obtain ⟨s,hs2,rfl⟩:=List.mem_map.1 hx;obtain ⟨b,hb2,rfl⟩:=List.mem_map.1 hs2;have:=BO.hours b hb2;have:=zf hb hb2
  omega
 have Zo:∀ (g:bQ->Int),∀ b∈l,b.f0=d->0<=b.f1∧b.f1<((aX h d).f0.map g).length:=fun g b hb2 _=>by
  have:=BO.Ub b hb2;rw [List.length_map]
  omega
 refine ⟨?_,rD hf ht0 hw0,rD hf ht1 hw1⟩
 unfold iI.f dR.f fB.f
 rw [if_pos hd.1,if_pos hd.2,if_pos hd.1,if_pos hd.2,TU (by omega) (by omega),Option.bind_some,Pt (by omega) (by omega),Option.bind_some,TU (by rw [List.length_map];omega) (by rw [List.length_map];omega),Option.bind_some,
  Ic hd (by omega) (by simp) hw0 ht0 (Zo _) (by omega),Pv (by omega) (by omega),Option.bind_some,Option.bind_some,Option.bind_some,Option.bind_some,Pv (by rw [List.length_map];omega) (by rw [List.length_map];omega),Option.bind_some,Ic hd (by omega) (by simp) hw1 ht1 (Zo _) (by omega)]
 rfl
def tC (h:List bI) (l:List bB):List Int->Int->Int->Int->Int × Int
 | [],_,a,b=>(a,b)
 | w::ws,d,a,b=>tC h l ws (d+1) (a+min (Sg h l d*w) (Si h l d*w)) (b+max (Sg h l d*w) (Si h l d*w))
def tH (h:List bI) (ws:List Int) (l:List bB):Int × Int:=tC h l ws 0 0 0
theorem qbD (a b:Int):mx a b=max a b:=by unfold mx;omega
theorem XV {h:List bI} {l:List bB} {ws:List Int} (hh:iN h=true) (hw:oJ h.length ws=true) (hb:iq h.length l=true) :
  ∀ (m k i:Nat) (a b:Int),i+m=ws.length->m<k -> -900*i<=a∧a<=900*i -> -900*i<=b∧b<=900*i->bV.l0 k l ws (ws.length:Int) (i:Int) h ws a b=some (tC h l (ws.drop i) i a b):=by
 have WO:=rH hw;have hl3:=(qH hh).len;intro m
 induction m with
 | zero =>
  intro k i a b him hk ha hb2;obtain ⟨k,rfl⟩:∃ m,k=m+1:=⟨k - 1,by omega⟩;simp only [bV.l0];rw [if_neg (by omega),List.drop_eq_nil_of_le (by omega),tC]
 | succ m ih =>
  intro k i a b him hk ha hb2;obtain ⟨k,rfl⟩:∃ m,k=m+1:=⟨k - 1,by omega⟩
  have hi:i<ws.length:=by omega
  have hdl:(0:Int)<=(i:Int)∧(i:Int)<h.length:=by have:=WO.len;omega
  obtain ⟨he,h1,h2⟩:=UF ws hh hb hdl;have hwt:=WO.wt _ (List.getElem_mem hi);simp only [bV.l0];rw [if_pos (by omega),if_pos (by omega),if_pos (by omega),he,Option.bind_some,sH.f,Option.bind_some,xH.f,Option.bind_some,sZ hi,TW,qbD];have e1:=Uh hwt (z:=Sg h l i) (by omega);have e2:=Uh hwt (z:=Si h l i) (by omega);rw [Int.mul_comm] at e1 e2;rw [Br (x:=Sg h l i*ws[i]) (by omega) (by omega),Br (x:=Si h l i*ws[i]) (by omega) (by omega),Br (by omega) (by omega),Br (by omega) (by omega),Br (by omega) (by omega)];have:=ih k (i+1) (a+min (Sg h l i*ws[i]) (Si h l i*ws[i])) (b+max (Sg h l i*ws[i]) (Si h l i*ws[i])) (by omega) (by omega) (by omega) (by omega);rw [Int.natCast_add,Int.natCast_one] at this;rw [this,List.drop_eq_getElem_cons hi,tC]
theorem qbE {h:List bI} {ws:List Int} {l:List bB} (hh:iN h=true) (hw:oJ h.length ws=true) (hb:iq h.length l=true):bV.f 1000 h ws l=some (tH h ws l):=by
 have:=XV hh hw hb ws.length 1000 0 0 0 (by omega) (by have:=(rH hw).len;have:=(qH hh).len;omega) (by omega) (by omega)
 simpa [bV.f,tH] using this
theorem Aj {h:List bI} {l:List bB} (hh:iN h=true) (hb:iq h.length l=true):∀ (ws:List Int) (d a b B:Int),0<=d->d+ws.length<=h.length->(∀ x∈ws,-9<=x∧x<=9) -> -B<=a∧a<=B -> -B<=b∧b<=B ->
  (-(B+900*ws.length)<=(tC h l ws d a b).1∧(tC h l ws d a b).1<=B+900*ws.length)∧(-(B+900*ws.length)<=(tC h l ws d a b).2∧(tC h l ws d a b).2<=B+900*ws.length)
 | [],d,a,b,B,_,_,_,ha,hb2=>by simp [tC];omega
 | w::ws,d,a,b,B,h0,h1,hw,ha,hb2=>by
  rw [List.length_cons] at h1 ⊢;obtain ⟨_,e1,e2⟩:=UF (d:=d) ws hh hb ⟨h0,by omega⟩;have hwt:=hw w (List.mem_cons_self ..);have f1:=Uh hwt (z:=Sg h l d) (by omega);have f2:=Uh hwt (z:=Si h l d) (by omega);rw [Int.mul_comm] at f1 f2;have:=Aj hh hb ws (d+1) (a+min (Sg h l d*w) (Si h l d*w)) (b+max (Sg h l d*w) (Si h l d*w)) (B+900) (by omega) (by omega) (fun x hx=>hw x (List.mem_cons_of_mem _ hx)) (by omega) (by omega);rw [tC]
  omega
theorem KV {h:List bI} {ws:List Int} {l:List bB} (hh:iN h=true) (hw:oJ h.length ws=true) (hb:iq h.length l=true):(-2700<=(tH h ws l).1∧(tH h ws l).1<=2700)∧(-2700<=(tH h ws l).2∧(tH h ws l).2<=2700):=by
 have:=Aj hh hb ws 0 0 0 0 (by omega) (by have:=(rH hw).len;omega) (rH hw).wt (by omega) (by omega);have h2:=(rH hw).len;have h3:=(qH hh).len
 unfold tH
 omega
end Go.Proofs.YtnpfbjnjdngkhaaGreatDoor.P
namespace Go.Proofs.YtnpfbjnjdngkhaaGreatDoor.P
open Go.RowKit Go.Proofs.YtnpfbjnjdngkhaaGreatDoorW.aQ Go.Proofs.YtnpfbjnjdngkhaaGreatDoorW.bO Go.Proofs.YtnpfbjnjdngkhaaGreatDoorW.bT
attribute [local go_sem] eP eT fU fV dS dU eU eX
def fZ.l0:Nat->Int->List dD->List dD->Int->Int->Option ((List dD))
 | 0,_,_,_,_,_=>none
 | k+1,x1,x5,x8,x9,x10=>if x10<x9 then (if 0<=x10 then (if x10<(x8.length:Int) then (if (Go.bits .and .i64 (shr .i64 x1 x10) 1)=1 then (if x5.length<3518437208883 then (fZ.l0 k x1 (x5++[(⟨(bJ x8 x10).f0,(bJ x8 x10).f1,(bJ x8 x10).f2⟩:dD)]) x8 x9 (wrap64 (x10+1))) else (none)) else (fZ.l0 k x1 x5 x8 x9 (wrap64 (x10+1)))) else (none)) else (none)) else (some x5)
def fZ.f (k:Nat) (l0:List dD) (a1:Int):Option ((List dD)):=fZ.l0 k a1 ([]:List dD) l0 (l0.length:Int) 0
theorem fZ.calls (k:Nat) (Qo:Nat->Prop) (A0:Option Addr) (c0:Nat) (l0:List dD) (a1:Int) (r:List dD) (w:World) (hs0:Kd.V kS 107 w w.heap.size (fun k_=>Qo k_) (.slice A0 l0.length c0) l0) (h:fZ.f k l0 a1=some r) :
  Calls Tryz.prog 129 #[.slice A0 l0.length c0,.int .i64 a1] w fun e w'=>∃ lM:Value,e=.returned (lM)∧Kd.N kS 107 w' w.heap.size (fun k_=>(Qo k_∨w.heap.size<=k_)) lM r∧Below w.heap.size w w':=by
 have Eo:=Tryz.underlying107;have HO0:=aj.mk (show Kd.V kS 107 w w.heap.size (fun k_=>(Qo k_∨w.heap.size<=k_)) (.slice A0 l0.length c0) l0 from Kd.pY hs0 (fun k_ hk=>.inl hk));have HB:=aj.mk (Below.refl w.heap.size w);have H:(fZ.l0 k a1 ([]:List dD) l0 (l0.length:Int) 0)=some r:=h;clear h;have H':=aj.mk H;clear H
 go_enter Tryz.func129,Tryz.ntmps129
 go_wp2
 go_loopg [5,10] k (fun kq v5 v10 w'=>∃ (aT:List dD) (dP:Int),v10=.int .i64 dP∧aj (fZ.l0 kq a1 aT l0 (l0.length:Int) dP=some r)∧aj (kq<=k)∧aj (Kd.N kS 107 w' w.heap.size (fun k_=>(Qo k_∨w.heap.size<=k_)) v5 aT)∧aj (Kd.V kS 107 w' w.heap.size (fun k_=>(Qo k_∨w.heap.size<=k_)∧some k_≠(v5:Value).ownBlock) (.slice A0 l0.length c0) l0)∧aj (Below w.heap.size w w'))
 case atStart=>exact ⟨(([]:List dD)),(0),tS,H',⟨Nat.le_refl _⟩,⟨by first|exact Kd.wM _ _ _ _ _|exact Kd.wN _ _ _ _ _|exact Kd.wP _ _ _ _ _|exact Kd.wK _ _ _ _ _|exact Kd.mI _ _ _ _ _⟩,⟨by (with_reducible repeat (first|apply Kd.oU|apply Kd.oV|apply Kd.sQ));exact Kd.pY HO0.out (fun _ hk=>⟨hk,(by simp [Value.ownBlock])⟩)⟩,⟨tB⟩⟩
 case round =>
  clear H'
  try clear c1
  try clear p2
  obtain ⟨aT,dP,rfl,HA,qg,CP,xJ,HB⟩:=hrel
  cases gk with
  | zero=>exact absurd HA.out (by simp [fZ.l0])
  | succ k1 =>
   have H:=HA.out;clear HA;simp only [fZ.l0] at H
   by_cases c3:dP<(l0.length:Int)
   ·rw [if_pos c3] at H
    have qd:decide (dP<(l0.length:Int))=true:=decide_eq_true c3;clear c3
    by_cases c4:0<=dP
    ·rw [if_pos c4] at H
     have pR:decide (0<=dP)=true:=decide_eq_true c4;clear c4
     by_cases c5:dP<(l0.length:Int)
     ·rw [if_pos c5] at H
      have zC:decide (dP<(l0.length:Int))=true:=decide_eq_true c5;clear c5;have GV:=eq_true (of_decide_eq_true tA:0<=dP);obtain ⟨ZO,XW⟩:∃ j_:Int,(shr .i64 a1 dP)=j_:=⟨_,rfl⟩
      replace H:(if (Go.bits .and .i64 (ZO) 1)=1 then (if aT.length<3518437208883 then (fZ.l0 k1 a1 (aT++[(⟨(bJ l0 dP).f0,(bJ l0 dP).f1,(bJ l0 dP).f2⟩:dD)]) l0 (l0.length:Int) (wrap64 (dP+1))) else (none)) else (fZ.l0 k1 a1 aT l0 (l0.length:Int) (wrap64 (dP+1))))=some r:=by first|(rw [XW] at H;exact H)|(simp only [XW] at H ⊢;exact H)
      have qna:(a1 / 2 ^ min dP.toNat 64)=ZO:=XW;have qnb:dP<=64->(a1 / 2 ^ dP.toNat)=ZO:=QY XW
      by_cases c8:(Go.bits .and .i64 (ZO) 1)=1
      ·rw [if_pos c8] at H
       have Hz:((Go.bits .and .i64 (ZO) 1) == 1)=true:=beq_iff_eq.mpr c8;have qbF:((Go.bits .and .i64 (ZO) 1) != 1)=false:=bne_eq_false_iff_eq.mpr c8;clear c8
       by_cases c9:aT.length<3518437208883
       ·rw [if_pos c9] at H
        have qjZ:=aj.mk c9;clear c9;obtain ⟨qeD,KW⟩:∃ y_:List dD,y_=(aT++[(⟨(bJ l0 dP).f0,(bJ l0 dP).f1,(bJ l0 dP).f2⟩:dD)]):=⟨_,rfl⟩
        replace H:(fZ.l0 k1 a1 qeD l0 (l0.length:Int) (wrap64 (dP+1)))=some r:=by first|(rw [KW];with_reducible exact H)|(have jr:=(Option.bind_some _ _).symm.trans H;rw [KW];with_reducible exact jr)|(have jr:=(Option.bind_some _ _).symm.trans H;with_reducible exact jr)|with_reducible exact H|(rw [KW];exact H)|exact H
        have qeE:=aj.mk KW;clear KW;have H':=aj.mk H;clear H;have IK:0<=(dP:Int):=of_decide_eq_true tA;have IL:dP<(l0.length:Int):=of_decide_eq_true tA;obtain ⟨ZP,pG,pI,qbG,IQ,XY,XZ,Ak,Am⟩:=yg (Kd.wZ xJ.out).2.2 dP IK IL
        cases qbG
        obtain ⟨qeF,Nh,Nl,ET⟩:=Kd.YQ xJ.out z107 dP IK (by first|exact IL|exact of_decide_eq_true tA|(have e_:=(Kd.wZ xJ.out).1;omega));obtain ⟨X0,X3,rfl,vZ,wu⟩:=Eh Nl;have rJ:=ET 0 _ rfl;rw [Nat.add_zero] at rJ;replace rJ:=Option.some.inj (rJ.symm.trans IQ)
        injection rJ with UG qbH UH
        rw [UG] at wu;rw [UH] at vZ;have nX:=aj.mk (show Kd.V eD 154 _ w.heap.size _ _ ((bJ l0 dP).f0) from Kd.qau vZ wu);clear UG qbH UH wu vZ;clear ET Nh;have wB:=aj.mk Am;have X4:=aj.mk Ak;clear Am Ak;replace IK:=eq_true IK;replace IL:=eq_true IL
        go_wp2_with (first|((with_reducible refine au (N:=7) rfl ?_);refine fA 7 #[.slice none 0 0,.int .i64 0,.int .i64 0] 107 HB ?_;clear HB;intro iC Lr hg qK qeG HB hb;replace CP:=aj.mk (Kd.qW (Kd.Jh (by (with_reducible repeat (first|apply Kd.l8|apply Kd.l9|apply Kd.oQ));exact CP.out) iC (Nat.le_of_eq hg.symm)) hb);replace xJ:=aj.mk (Kd.CZ (Kd.zA (by (with_reducible repeat (first|apply Kd.oU|apply Kd.oV|apply Kd.sQ));exact xJ.out) iC (Nat.le_of_eq hg.symm)) hb);replace nX:=aj.mk (Kd.CZ (Kd.zA (by (with_reducible repeat (first|apply Kd.oU|apply Kd.oV|apply Kd.sQ));exact nX.out) iC (Nat.le_of_eq hg.symm)) hb);replace wB:=aj.mk (Kd.ak (by repeat (first|(with_reducible exact wB.out)|(with_reducible refine Kd.bM ?_ _)|(with_reducible refine Kd.bN ?_ _)|(with_reducible refine Kd.cO ?_)|exact wB.out)) hb);clear hb hg;obtain ⟨yt,G6,qip⟩:=bc3 qK;have yu:=bf qK 0;have G7:=bf qK 1;have qiq:=bf qK 2)|((with_reducible refine aY (t:=107) (p:=7) rfl ?_);refine BK (t:=107) (p:=7) (v:=?qj0) (w1:=(((Lr.setCell ⟨iC,0,none⟩ (.slice pG ((bJ l0 dP).f0).length pI)).setCell ⟨iC,1,none⟩ (.int .i64 ((bJ l0 dP).f1))).setCell ⟨iC,2,none⟩ (.int .i64 ((bJ l0 dP).f2)))) ?hg ?ho ?hn ?hr ?_;(case ho=>rfl);(case hg=>rfl);(case hn=>rfl);(case hr=>first|(go_simp;done)|(go_simp;rfl));intro yO hw;have n0_:aj (Kd.N kS 107 yO w.heap.size (fun k_=>(Qo k_∨w.heap.size<=k_)∧k_≠iC) u5 aT):=⟨(by rw [hw];exact (by (with_reducible repeat (first|apply Kd.l8|apply Kd.l9|apply Kd.oQ));exact Kd.sP (Kd.wO (p:=⟨iC,2,none⟩) (Kd.wO (p:=⟨iC,1,none⟩) (Kd.wO (p:=⟨iC,0,none⟩) (Kd.sP CP.out (fun k_ hk=>(⟨hk,hk.2⟩:_∧k_≠iC))) (fun _ hk=>hk.2) (.slice pG ((bJ l0 dP).f0).length pI)) (fun _ hk=>hk.2) (.int .i64 ((bJ l0 dP).f1))) (fun _ hk=>hk.2) (.int .i64 ((bJ l0 dP).f2))) (fun _ hk=>⟨hk.1.1,hk.1.2⟩)))⟩;have n1_:aj (Kd.V kS 107 yO w.heap.size (fun k_=>(Qo k_∨w.heap.size<=k_)∧some k_≠(u5:Value).ownBlock∧k_≠iC) (.slice (some ZP) l0.length c0) l0):=⟨(by rw [hw];exact (by (with_reducible repeat (first|apply Kd.oU|apply Kd.oV|apply Kd.sQ));exact Kd.pY (Kd.zy (p:=⟨iC,2,none⟩) (Kd.zy (p:=⟨iC,1,none⟩) (Kd.zy (p:=⟨iC,0,none⟩) (Kd.pY xJ.out (fun k_ hk=>(⟨hk,hk.2⟩:_∧k_≠iC))) (fun _ hk=>hk.2) (.slice pG ((bJ l0 dP).f0).length pI)) (fun _ hk=>hk.2) (.int .i64 ((bJ l0 dP).f1))) (fun _ hk=>hk.2) (.int .i64 ((bJ l0 dP).f2))) (fun _ hk=>⟨hk.1.1.1,⟨hk.1.1.2,hk.1.2⟩⟩)))⟩;have n2_:aj (Kd.V eD 154 yO w.heap.size (fun k_=>(Qo k_∨w.heap.size<=k_)∧some k_≠(u5:Value).ownBlock∧k_≠iC) (.slice pG ((bJ l0 dP).f0).length pI) ((bJ l0 dP).f0)):=⟨(by rw [hw];exact (by (with_reducible repeat (first|apply Kd.oU|apply Kd.oV|apply Kd.sQ));exact Kd.pY (Kd.zy (p:=⟨iC,2,none⟩) (Kd.zy (p:=⟨iC,1,none⟩) (Kd.zy (p:=⟨iC,0,none⟩) (Kd.pY nX.out (fun k_ hk=>(⟨hk,hk.2⟩:_∧k_≠iC))) (fun _ hk=>hk.2) (.slice pG ((bJ l0 dP).f0).length pI)) (fun _ hk=>hk.2) (.int .i64 ((bJ l0 dP).f1))) (fun _ hk=>hk.2) (.int .i64 ((bJ l0 dP).f2))) (fun _ hk=>⟨hk.1.1.1,⟨hk.1.1.2,hk.1.2⟩⟩)))⟩;have n3_:aj (yO.heap[iC]?=some (.cells #[.slice pG ((bJ l0 dP).f0).length pI,.int .i64 ((bJ l0 dP).f1),.int .i64 ((bJ l0 dP).f2)] 107 (0,0))):=⟨(by rw [hw];exact (by (with_reducible repeat (first|refine aJ ?_ _|refine aN ?_|refine aI ?_ _));refine dO (cs:=#[.slice pG ((bJ l0 dP).f0).length pI,.int .i64 ((bJ l0 dP).f1),.int .i64 0]) ?_ 2 _ rfl;(with_reducible repeat (first|refine aJ ?_ _|refine aN ?_|refine aI ?_ _));refine dO (cs:=#[.slice pG ((bJ l0 dP).f0).length pI,.int .i64 0,.int .i64 0]) ?_ 1 _ rfl;(with_reducible repeat (first|refine aJ ?_ _|refine aN ?_|refine aI ?_ _));refine dO (cs:=#[.slice none 0 0,.int .i64 0,.int .i64 0]) ?_ 0 _ rfl;(with_reducible repeat (first|refine aJ ?_ _|refine aN ?_|refine aI ?_ _));exact qK.out))⟩;have n4_:aj (Below w.heap.size w yO):=⟨(by rw [hw];exact tB)⟩;clear hw;clear CP;clear xJ;clear nX;clear qK;clear HB;have CP:=n0_;have xJ:=n1_;have nX:=n2_;have qK:=n3_;have HB:=n4_;clear n0_ n1_ n2_ n3_ n4_;obtain ⟨vS,Db,WA⟩:=bc3 qK;have vT:=bf qK 0;have Dc:=bf qK 1;have WB:=bf qK 2)|((with_reducible refine eY (b:=.append) (xs:=#[.tmp 20,.tmp 22]) rfl ?_);at_builtin;refine Kd.SH kS (w0:=w) w.heap.size rfl (.tmp 20) (.tmp 22) 59 107 (.agg #[(.slice none 0 0),(.int .i64 0),(.int .i64 0)]) 40 rfl Tryz.underlying59 Wm rfl (by decide) (by omega) u5 aT (⟨(bJ l0 dP).f0,(bJ l0 dP).f1,(bJ l0 dP).f2⟩:dD) [.slice pG ((bJ l0 dP).f0).length pI,.int .i64 ((bJ l0 dP).f1),.int .i64 ((bJ l0 dP).f2)] (fun k_=>(Qo k_∨w.heap.size<=k_)∧k_≠iC) (fun k_=>((fun k_=>(Qo k_∨w.heap.size<=k_)∧k_≠iC)) k_∧some k_≠(u5:Value).ownBlock) rfl rfl ?aP (fun _ hk=>hk) ?aF ?aO ?aB ?aS ?aL ?_;(case aP=>exact (zB _ _ (⟨(bJ l0 dP).f0,(bJ l0 dP).f1,(bJ l0 dP).f2⟩:dD) (Kd.wZ (Kd.pY (ok':=(fun k_=>((fun k_=>(Qo k_∨w.heap.size<=k_)∧k_≠iC)) k_∧some k_≠(u5:Value).ownBlock)) (nX.out) (fun k_ hk=>⟨⟨hk.1,hk.2.2⟩,hk.2.1⟩))).2.1 (Kd.V_F (Kd.pY (ok':=(fun k_=>((fun k_=>(Qo k_∨w.heap.size<=k_)∧k_≠iC)) k_∧some k_≠(u5:Value).ownBlock)) (nX.out) (fun k_ hk=>⟨⟨hk.1,hk.2.2⟩,hk.2.1⟩)))));(case aB=>exact tB);(case aF=>exact (fun k_ hk=>⟨(.inr (Nat.le_trans (bD tB) hk)),Kd.LJ (g:=iC) (o:=.cells #[.slice pG ((bJ l0 dP).f0).length pI,.int .i64 ((bJ l0 dP).f1),.int .i64 ((bJ l0 dP).f2)] 107 (0,0)) (qB2 qK) k_ hk⟩));(case aO=>exact (by (with_reducible repeat (first|apply Kd.l8|apply Kd.l9|apply Kd.oQ));exact CP.out));(case aS=>exact (bD tB));(case aL=>have:=qjZ.out;omega);intro v228 R8 ho hb hg hat;rw [← qeE.out] at ho;replace xJ:=aj.mk (Kd.Ji (ok:=(fun k_=>(Qo k_∨w.heap.size<=k_)∧k_≠iC)) (by (with_reducible repeat (first|apply Kd.oU|apply Kd.oV|apply Kd.sQ));exact Kd.pY xJ.out (fun _ hk=>⟨⟨hk.1,hk.2.2⟩,hk.2.1⟩)) hg hat);replace nX:=aj.mk (Kd.Ji (ok:=(fun k_=>(Qo k_∨w.heap.size<=k_)∧k_≠iC)) (by (with_reducible repeat (first|apply Kd.oU|apply Kd.oV|apply Kd.sQ));exact Kd.pY nX.out (fun _ hk=>⟨⟨hk.1,hk.2.2⟩,hk.2.1⟩)) hg hat);replace qK:=aj.mk (jF (g:=iC) (o:=.cells #[.slice pG ((bJ l0 dP).f0).length pI,.int .i64 ((bJ l0 dP).f1),.int .i64 ((bJ l0 dP).f2)] 107 (0,0)) (qB2 qK) hg (Kd.qaq CP.out (fun _ hk=>hk.2)));replace HB:=aj.mk (hb);have qeH:=aj.mk (ho);clear CP;clear ho hb hg hat))
        go_roundg k1
        case measure=>have:=qg.out;omega
        case rel=>exact ⟨(qeD),(wrap64 (dP+1)),tS,H',⟨by have:=qg.out;omega⟩,⟨by (with_reducible repeat (first|apply Kd.l8|apply Kd.l9|apply Kd.oQ));exact Kd.sP qeH.out (fun _ hk=>hk.1)⟩,⟨by (with_reducible repeat (first|apply Kd.oU|apply Kd.oV|apply Kd.sQ));exact Kd.pY xJ.out (fun _ hk=>⟨hk.1.1,hk.2⟩)⟩,⟨tB⟩⟩
       ·rw [if_neg c9] at H
        exact absurd H (by simp)
      ·rw [if_neg c8] at H
       have Hz:((Go.bits .and .i64 (ZO) 1) == 1)=false:=beq_eq_false_iff_ne.mpr c8;have qbF:((Go.bits .and .i64 (ZO) 1) != 1)=true:=bne_iff_ne.mpr c8;have H':=aj.mk H;clear H;have IK:0<=(dP:Int):=of_decide_eq_true tA;have IL:dP<(l0.length:Int):=of_decide_eq_true tA;obtain ⟨ZP,pG,pI,qbG,IQ,XY,XZ,Ak,Am⟩:=yg (Kd.wZ xJ.out).2.2 dP IK IL
       cases qbG
       obtain ⟨qeF,Nh,Nl,ET⟩:=Kd.YQ xJ.out z107 dP IK (by first|exact IL|exact of_decide_eq_true tA|(have e_:=(Kd.wZ xJ.out).1;omega));obtain ⟨X0,X3,rfl,vZ,wu⟩:=Eh Nl;have rJ:=ET 0 _ rfl;rw [Nat.add_zero] at rJ;replace rJ:=Option.some.inj (rJ.symm.trans IQ)
       injection rJ with UG qbH UH
       rw [UG] at wu;rw [UH] at vZ;have nX:=aj.mk (show Kd.V eD 154 _ w.heap.size _ _ ((bJ l0 dP).f0) from Kd.qau vZ wu);clear UG qbH UH wu vZ;clear ET Nh;have wB:=aj.mk Am;have X4:=aj.mk Ak;clear Am Ak;replace IK:=eq_true IK;replace IL:=eq_true IL
       go_wp2_with (first|((with_reducible refine au (N:=7) rfl ?_);refine fA 7 #[.slice none 0 0,.int .i64 0,.int .i64 0] 107 HB ?_;clear HB;intro iC Mf hg qK qeG HB hb;replace CP:=aj.mk (Kd.qW (Kd.Jh (by (with_reducible repeat (first|apply Kd.l8|apply Kd.l9|apply Kd.oQ));exact CP.out) iC (Nat.le_of_eq hg.symm)) hb);replace xJ:=aj.mk (Kd.CZ (Kd.zA (by (with_reducible repeat (first|apply Kd.oU|apply Kd.oV|apply Kd.sQ));exact xJ.out) iC (Nat.le_of_eq hg.symm)) hb);replace nX:=aj.mk (Kd.CZ (Kd.zA (by (with_reducible repeat (first|apply Kd.oU|apply Kd.oV|apply Kd.sQ));exact nX.out) iC (Nat.le_of_eq hg.symm)) hb);replace wB:=aj.mk (Kd.ak (by repeat (first|(with_reducible exact wB.out)|(with_reducible refine Kd.bM ?_ _)|(with_reducible refine Kd.bN ?_ _)|(with_reducible refine Kd.cO ?_)|exact wB.out)) hb);clear hb hg;obtain ⟨Ae,XH,XI⟩:=bc3 qK;have Af:=bf qK 0;have XJ:=bf qK 1;have XK:=bf qK 2))
       go_roundg k1
       case measure=>have:=qg.out;omega
       case rel=>exact ⟨(aT),(wrap64 (dP+1)),tS,H',⟨by have:=qg.out;omega⟩,⟨by (with_reducible repeat (first|apply Kd.l8|apply Kd.l9|apply Kd.oQ));exact Kd.sP (Kd.wO (p:=⟨iC,2,none⟩) (Kd.wO (p:=⟨iC,1,none⟩) (Kd.wO (p:=⟨iC,0,none⟩) (Kd.sP CP.out (fun k_ hk=>(⟨hk,hk.2⟩:_∧k_≠iC))) (fun _ hk=>hk.2) (.slice pG ((bJ l0 dP).f0).length pI)) (fun _ hk=>hk.2) (.int .i64 ((bJ l0 dP).f1))) (fun _ hk=>hk.2) (.int .i64 ((bJ l0 dP).f2))) (fun _ hk=>hk.1.1)⟩,⟨by (with_reducible repeat (first|apply Kd.oU|apply Kd.oV|apply Kd.sQ));exact Kd.pY (Kd.zy (p:=⟨iC,2,none⟩) (Kd.zy (p:=⟨iC,1,none⟩) (Kd.zy (p:=⟨iC,0,none⟩) (Kd.pY xJ.out (fun k_ hk=>(⟨hk,hk.2⟩:_∧k_≠iC))) (fun _ hk=>hk.2) (.slice pG ((bJ l0 dP).f0).length pI)) (fun _ hk=>hk.2) (.int .i64 ((bJ l0 dP).f1))) (fun _ hk=>hk.2) (.int .i64 ((bJ l0 dP).f2))) (fun _ hk=>⟨hk.1.1.1,hk.1.1.2⟩)⟩,⟨tB⟩⟩
     ·rw [if_neg c5] at H
      exact absurd H (by simp)
    ·rw [if_neg c4] at H
     exact absurd H (by simp)
   ·rw [if_neg c3] at H
    have qd:decide (dP<(l0.length:Int))=false:=decide_eq_false c3;clear c3;obtain rfl:=Option.some.inj H
    go_wp2
    go_ret
    exact ⟨_,tF,by (with_reducible repeat (first|apply Kd.l8|apply Kd.l9|apply Kd.oQ));exact CP.out,tB⟩
theorem qbI (g15 g12 g5:Nat) (A0:Option Addr) (c0:Nat) (h:List bI) (A1:Option Addr) (c1:Nat) (ws:List Int) (A2:Option Addr) (c2:Nat) (s:dD) (A3:Option Addr) (c3:Nat) (x:dD) (Vl Vo:Value) (e:bQ) (need:Int) (w:World)
  (h15:w.heap[g15]?=some (.cells #[.slice A0 h.length c0,.slice A1 ws.length c1] 149 (0,0))) (h12:w.heap[g12]?=some (.cells #[.slice A2 s.f0.length c2,.int .i64 s.f1,.int .i64 s.f2] 107 (0,0))) (h5:w.heap[g5]?=some (.cells #[Vl,.int .i64 e.f0,.int .i64 e.f1,Vo,.int .i64 need] 58 (0,0)))
  (hr0:Kd.C iG w A0 h.length h) (hc0:h.length<=c0) (hr1:Kd.C (Kd.int .i64) w A1 ws.length ws) (hc1:ws.length<=c1) (hr2:Kd.C eD w A2 s.f0.length s.f0) (hc2:s.f0.length<=c2) (hr3:Kd.C eD w A3 x.f0.length x.f0) (hc3:x.f0.length<=c3) (hg:KG h ws x.f0 s.f0=true) :
  Calls Tryz.prog 182 #[.agg #[.slice A3 x.f0.length c3,.int .i64 x.f1,.int .i64 x.f2],.pointer (some ⟨g15,0,none⟩),.pointer (some ⟨g12,0,none⟩),.pointer (some ⟨g5,0,none⟩)] w fun e' w'=>e'=.returned (.bool (uQ h ws x.f0 s.f0 e.f0 e.f1 != 3))∧Below w.heap.size w w':=by
 have HX:=Bx.nil w
 have K1:=fun w1 (hb:Below w.heap.size w w1)=>ji.calls A0 c0 h A1 c1 ws A3 c3 x.f0 A2 c2 s.f0 e.f0 e.f1 (uQ h ws x.f0 s.f0 e.f0 e.f1) w1 (Kd.ak hr0 hb) hc0 (Kd.ak hr1 hb) hc1 (Kd.ak hr3 hb) hc3 (Kd.ak hr2 hb) hc2 (by unfold ji.f;rw [if_pos hg])
 generalize uQ h ws x.f0 s.f0 e.f0 e.f1=r at K1 ⊢
 have H15:=aj.mk h15;have H12:=aj.mk h12;have H5:=aj.mk h5;clear h15 h12 h5 hr0 hr1 hr2 hr3 hg;have Eo:=Tryz.underlying107;have wR:=Tryz.underlying149;have jY:=Tryz.underlying37;have Wn:=Tryz.underlying58
 by_cases h3:r=3
 ·subst h3
  go_enter Tryz.func182,Tryz.ntmps182
  go_wp2_with (first|((with_reducible refine au (N:=4) rfl ?_);refine newX rfl rfl HX (cs:=#[.slice A3 x.f0.length c3,.int .i64 x.f1,.int .i64 x.f2]) (t:=107) tG ?_;clear HX;intro g4 w4 HX hx hz;clear hx hz;obtain ⟨ca1,ca2,ca3⟩:=HX.g3 0 rfl;obtain ⟨cb1,cb2⟩:=qM (aD H15.out HX.below);obtain ⟨cc1,cc2,cc3⟩:=Q7 (aD H12.out HX.below);obtain ⟨wS,wT,vO,wC,wU⟩:=Es (aD H5.out HX.below))|(go_at_call 118;(with_reducible refine (K1 _ HX.below).mono ?_);rintro e w1 ⟨rfl,hx⟩;replace HX:=HX.step hx;clear hx ca1 ca2 ca3 cb1 cb2 cc1 cc2 cc3 wS wT vO wC wU))
  go_ret
  exact ⟨by simp,HX.below⟩
 ·have h4:(r != 3)=true:=by simp [h3]
  have h5:(r == 3)=false:=by simp [h3]
  go_enter Tryz.func182,Tryz.ntmps182
  go_wp2_with (first|((with_reducible refine au (N:=4) rfl ?_);refine newX rfl rfl HX (cs:=#[.slice A3 x.f0.length c3,.int .i64 x.f1,.int .i64 x.f2]) (t:=107) tG ?_;clear HX;intro g4 w4 HX hx hz;clear hx hz;obtain ⟨ca1,ca2,ca3⟩:=HX.g3 0 rfl;obtain ⟨cb1,cb2⟩:=qM (aD H15.out HX.below);obtain ⟨cc1,cc2,cc3⟩:=Q7 (aD H12.out HX.below);obtain ⟨wS,wT,vO,wC,wU⟩:=Es (aD H5.out HX.below))|(go_at_call 118;(with_reducible refine (K1 _ HX.below).mono ?_);rintro e w1 ⟨rfl,hx⟩;replace HX:=HX.step hx;clear hx ca1 ca2 ca3 cb1 cb2 cc1 cc2 cc3 wS wT vO wC wU))
  go_ret
  exact ⟨by simp [h4],HX.below⟩
theorem qbJ:Kd.Heap jW:=Kd.Ec _ (Kd.uY (Kd.uX _) (Kd.uX _))
theorem X5:Kd.Heap eD:=Kd.Ec _ (Kd.uY (Kd.uX _) (Kd.uY (Kd.uX _) qbJ))
theorem X6:Kd.Heap kS:=Kd.Ec _ (Kd.uY (Kd.LQ 154 X5) (Kd.uY (Kd.uX _) (Kd.uX _)))
def qeI (set i:Int):Bool:=decide (Go.bits .and .i64 (shr .i64 set i) 1=1)
def jf (set:Int):List dD->Int->List dD
 | [],_=>[]
 | s::l,i=>if qeI set i then s::jf set l (i+1) else jf set l (i+1)
theorem RJ (set:Int) (l:List dD) (hl:l.length<=1000000):∀ (m k i:Nat) (acc:List dD),i+m=l.length->m<k->acc.length<=i->fZ.l0 k set acc l (l.length:Int) (i:Int)=some (acc++jf set (l.drop i) i):=by
 intro m
 induction m with
 | zero =>
  intro k i acc him hk ha;obtain ⟨k,rfl⟩:∃ m,k=m+1:=⟨k - 1,by omega⟩;simp only [fZ.l0];rw [if_neg (by omega),List.drop_eq_nil_of_le (by omega),jf,List.append_nil]
 | succ m ih =>
  intro k i acc him hk ha;obtain ⟨k,rfl⟩:∃ m,k=m+1:=⟨k - 1,by omega⟩
  have hi:i<l.length:=by omega
  simp only [fZ.l0];rw [if_pos (by omega),if_pos (by omega),if_pos (by omega),List.drop_eq_getElem_cons hi,jf]
  have hw:wrap64 ((i:Int)+1)=((i+1:Nat):Int):=by rw [Br (by omega) (by omega)];omega
  have hr:(⟨(bJ l i).f0,(bJ l i).f1,(bJ l i).f2⟩:dD)=l[i]:=by
   have:bJ l (i:Int)=l[i]:=by rw [bJ,Int.toNat_natCast,List.getD_eq_getElem?_getD,List.getElem?_eq_getElem hi];rfl
   rw [this]
  unfold qeI
  by_cases hb:Go.bits .and .i64 (shr .i64 set i) 1=1
  ·rw [if_pos hb,if_pos (by omega),hw,hr,ih k (i+1) _ (by omega) (by omega) (by simp;omega)]
   simp [hb]
  ·rw [if_neg hb,hw,ih k (i+1) _ (by omega) (by omega) (by omega)]
   simp [hb]
theorem UJ {l:List dD} (set:Int) (hl:l.length<=900):fZ.f 1000 l set=some (jf set l 0):=by
 have:=RJ set l (by omega) l.length 1000 0 [] (by omega) (by omega) (by simp)
 simpa [fZ.f] using this
theorem uD (set:Int):∀ (l:List dD) (i:Int),∀ x∈jf set l i,x∈l
 | [],_,x,h=>by simp [jf] at h
 | s::l,i,x,h=>by
  rw [jf] at h
  split at h
  ·rcases List.mem_cons.1 h with rfl|h
   ·exact List.mem_cons_self ..
   ·exact List.mem_cons_of_mem _ (uD set l _ x h)
  ·exact List.mem_cons_of_mem _ (uD set l _ x h)
theorem xK (set:Int):∀ (l:List dD) (i:Int),(jf set l i).length<=l.length
 | [],_=>by simp [jf]
 | s::l,i=>by
  rw [jf];have:=xK set l (i+1)
  split<;>simp<;>omega
theorem qeJ (A:Option Addr) (c:Nat) (l:List dD) (set:Int) (w:World) (hr:Kd.C kS w A l.length l) (hc:l.length<=c) (hl:l.length<=900) :
  Calls Tryz.prog 129 #[.slice A l.length c,.int .i64 set] w fun e w'=>∃ A' c',e=.returned (.slice A' (jf set l 0).length c')∧(jf set l 0).length<=c'∧Kd.C kS w' A' (jf set l 0).length (jf set l 0)∧Below w.heap.size w w':=by
 refine (fZ.calls 1000 (fun k=>k<w.heap.size) A c l set _ w (Kd.qau hc (Kd.C_F X6 hr)) (UJ set hl)).mono ?_;rintro e w' ⟨v,rfl,hn,hb⟩;obtain ⟨A',c',rfl,h1,h2⟩:=Kd.CY hn;exact ⟨A',c',rfl,h1,h2,hb⟩
def uE (l:List dD) (i:Nat):dD:=l.getD i z107
def Bz (l:List nJ) (k:Nat):nJ:=l.getD k z49
def Co (l:List bQ) (k:Nat):bQ:=l.getD k z37
def UK (p:Int × Int) (o:bQ):Int:=max (p.2 - o.f0) (o.f1 - p.1)
def wD (h:List bI) (gD:List nJ) (e:bQ) (old:List bQ) (own:List dD) (i k:Nat):Bool :=
 decide (UK (tH h (Bz gD k).f0 (uE own i).f0) (Co old k)<=e.f0)&&!((own.take i).any fun o=>uQ h (Bz gD k).f0 o.f0 (uE own i).f0 e.f0 e.f1 != 3)
def vJ (h:List bI) (gD:List nJ) (e:bQ) (old:List bQ) (need:Int) (own:List dD):Bool :=
 (List.range own.length).all (fun i=>(List.range gD.length).all fun k=>wD h gD e old own i k)&&decide (need<=(own.map dD.f1).sum)
def qQ (h:List bI) (gD:List nJ) (e:bQ) (old:List bQ) (need:Int) (l:List dD) (set:Int):Bool:=vJ h gD e old need (jf set l 0)
def vK.f (h:List bI) (gD:List nJ) (e0 e1:Int) (old:List bQ) (need:Int) (l:List dD) (set:Int):Option Bool :=
 if iN h&&(zZ h.length gD ⟨e0,e1⟩ old need&&rF h.length l 1) then some (qQ h gD ⟨e0,e1⟩ old need l set) else none
structure qbK (h:List bI) (gD:List nJ) (old:List bQ) (l:List dD):Prop where
 house:iN h=true
 qj4:∀ k,k<gD.length->oJ h.length (Bz gD k).f0=true
 len:old.length=gD.length
 old:∀ k,k<gD.length -> -3000<=(Co old k).f0∧(Co old k).f1<=3000∧(Co old k).f0<=(Co old k).f1
 UL:∀ s∈l,iq h.length s.f0=true∧0<=s.f1∧s.f1<=99∧0<=s.f2∧s.f2<=999
 RL:l.length<=5
theorem Qp {h:List bI} {gD:List nJ} {e:bQ} {old:List bQ} {need least:Int} {l:List dD} (h1:iN h=true) (h2:zZ h.length gD e old need=true) (h3:rF h.length l least=true):qbK h gD old l:=by
 unfold zZ M7 at h2
 unfold rF at h3
 simp only [Bool.and_eq_true,Bool.not_eq_true',List.any_eq_false,pq,decide_eq_true_eq,Bool.not_eq_false] at h2 h3;obtain ⟨⟨_,h21⟩,_,h22,h23,_⟩:=h2;refine ⟨h1,fun k hk=>?_,h22,fun k hk=>?_,fun s hs=>?_,by omega⟩
 ·have:Bz gD k∈gD:=by unfold Bz;rw [List.getD_eq_getElem?_getD,List.getElem?_eq_getElem hk];exact List.getElem_mem hk
  exact h21 _ this
 ·have hk2:k<old.length:=by omega
  have:Co old k∈old:=by unfold Co;rw [List.getD_eq_getElem?_getD,List.getElem?_eq_getElem hk2];exact List.getElem_mem hk2
  have:=(oK (by decide) (by decide)).1 (h23 _ this)
  omega
 ·have:=h3.2 s hs
  unfold vD at this
  simp only [Bool.or_eq_true,Bool.not_eq_true',not_or,Bool.not_eq_false,pq] at this;exact ⟨this.1,this.2.1.1,this.2.1.2,this.2.2.1,this.2.2.2⟩
theorem UM {own:List dD} {i:Nat} (h:i<own.length):((own.take (i+1)).map dD.f1).sum=((own.take i).map dD.f1).sum+(uE own i).f1:=by
 rw [List.take_succ_eq_append_getElem h,List.map_append,List.sum_append]
 unfold uE
 rw [List.getD_eq_getElem?_getD,List.getElem?_eq_getElem h];simp
theorem UN {l:List dD}:∀ {own:List dD},(∀ s∈own,0<=s.f1∧s.f1<=99)->0<=(own.map dD.f1).sum∧(own.map dD.f1).sum<=99*own.length
 | [],_=>by simp
 | s::r,h=>by
  have h1:=h s (List.mem_cons_self ..);have h2:=UN (l:=l) (own:=r) (fun y hy=>h y (List.mem_cons_of_mem _ hy));simp only [List.map_cons,List.sum_cons,List.length_cons]
  omega
theorem Bx.KX {p:Nat × Obj} {L:List (Nat × Obj)} {w W:World} (h:Bx (p::L) w W):Bx L w W:=⟨h.below,fun q hq=>h.get q (List.mem_cons_of_mem _ hq),fun q hq=>h.lo q (List.mem_cons_of_mem _ hq),(List.nodup_cons.1 h.nd).2⟩
theorem Cq {h:List bI} {gD:List nJ} {e:bQ} {old:List bQ} {need:Int} {own:List dD} {i k:Nat} (hi:i<own.length) (hk:k<gD.length) (hs:wD h gD e old own i k=false):vJ h gD e old need own=false:=by
 unfold vJ
 rw [Bool.and_eq_false_iff]
 left
 rw [List.all_eq_false];refine ⟨i,List.mem_range.2 hi,?_⟩;rw [Bool.not_eq_true,List.all_eq_false];exact ⟨k,List.mem_range.2 hk,by simp [hs]⟩
theorem RN {h:List bI} {gD:List nJ} {e:bQ} {old:List bQ} {need M:Int} {own:List dD} (hM:M=(own.map dD.f1).sum) (ha:∀ i,i<own.length->∀ k,k<gD.length->wD h gD e old own i k=true):vJ h gD e old need own=decide (need<=M):=by
 unfold vJ
 rw [hM,Bool.and_eq_right_iff_imp.2];intro _;rw [List.all_eq_true];intro i hi;rw [List.all_eq_true];intro k hk;exact ha i (List.mem_range.1 hi) k (List.mem_range.1 hk)
theorem vK.calls (bC:Option Addr) (aZ:Nat) (av:List bI) (fP:Option Addr) (fK:Nat) (bF:List nJ) (gT:Int) (iY:Int) (vX:Option Addr) (vE:Nat) (gX:List bQ) (kg:Int) (A2:Option Addr) (c2:Nat) (l2:List dD) (a3:Int) (r:Bool) (w:World) (dw:Kd.C iG w bC av.length av) (dG:av.length<=aZ) (jU:Kd.C Bf w fP bF.length bF) (mM:bF.length<=fK) (zW:Kd.C jW w vX gX.length gX) (F8:gX.length<=vE) (hr2:Kd.C kS w A2 l2.length l2) (hc2:l2.length<=c2) (h:vK.f av bF gT iY gX kg l2 a3=some r) :
  Calls Tryz.prog 131 #[.agg #[.slice bC av.length aZ],.agg #[.slice fP bF.length fK,.int .i64 gT,.int .i64 iY,.slice vX gX.length vE,.int .i64 kg],.slice A2 l2.length c2,.int .i64 a3] w fun e w'=>e=.returned (.bool r)∧Below w.heap.size w w':=by
 have HX:=Bx.nil w
 unfold vK.f at h
 by_cases hg:(iN av&&(zZ av.length bF ⟨gT,iY⟩ gX kg&&rF av.length l2 1))=true
 rotate_left
 ·rw [if_neg hg] at h;cases h
 rw [if_pos hg] at h;obtain rfl:=Option.some.inj h;simp only [Bool.and_eq_true] at hg;have OK:=aj.mk (Qp hg.1 hg.2.1 hg.2.2);have HR:=aj.mk (And.intro dw (And.intro jU (And.intro zW hr2)));have HL2:=aj.mk (show l2.length<=900 by have:=OK.out.RL;omega);have hm1:bF.length<=9223372036854775807:=jU.2.1;clear h hg dw jU zW hr2;obtain ⟨own,hown⟩:∃ own,own=jf a3 l2 0:=⟨_,rfl⟩;have HOWN:=aj.mk hown;have HOL:=aj.mk (show own.length<=5 by rw [hown];have:=xK a3 l2 0;have:=OK.out.RL;omega);have HOS:=aj.mk (show ∀ s∈own,iq av.length s.f0=true∧0<=s.f1∧s.f1<=99∧0<=s.f2∧s.f2<=999 by rw [hown];exact fun s hs=>OK.out.UL s (uD a3 l2 0 s hs));have HE:aj (qQ av bF ⟨gT,iY⟩ gX kg l2 a3=vJ av bF ⟨gT,iY⟩ gX kg own):=⟨by rw [hown];rfl⟩;rw [HE.out]
 have hmo:own.length<=9223372036854775807:=by have:=HOL.out;omega
 clear hown;have qb:=Tryz.underlying24;have GQ:=Tryz.underlying49;have wR:=Tryz.underlying149;have Eo:=Tryz.underlying107;have Wn:=Tryz.underlying58;have jY:=Tryz.underlying37
 have hmf:∀ (fn:Fn) (first cap:Array Value) (w:World),(Instr.makeFunc fn first cap).run Tryz.prog w=.ok (.func fn first cap) w:=fun _ _ _ _=>rfl
 go_enter Tryz.func131,Tryz.ntmps131
 go_wp2_with (first|((with_reducible refine au (N:=4) rfl ?_);refine newX rfl rfl HX (cs:=#[.slice bC av.length aZ]) (t:=24) tG ?_;clear HX;intro g4 w4 HX hx hz;clear hx hz)|((with_reducible refine au (N:=5) rfl ?_);refine newX rfl rfl HX (cs:=#[.slice fP bF.length fK,.int .i64 gT,.int .i64 iY,.slice vX gX.length vE,.int .i64 kg]) (t:=58) tG ?_;clear HX;intro g5 w5 HX hx hz;clear hx hz)|(go_at_call 129;refine (qeJ A2 c2 l2 a3 _ (Kd.ak HR.out.2.2.2 HX.below) hc2 HL2.out).mono ?_;rw [← HOWN.out];rintro e w0 ⟨Ao,co,rfl,hlo,hC,hx⟩;have HO:=aj.mk hC;replace HX:=HX.step hx;clear hx hC))
 have H4:=aj.mk (HX.gb 1 rfl);have H5:=aj.mk (HX.gb 0 rfl);have rE:=aj.mk HX.below;clear HX;have HX:=Bx.nil w0
 go_loopw [10,22] (fun v10 v22 W=>∃ (i:Nat) (M:Int),i<=own.length∧v10=.int .i64 M∧v22=.int .i64 i∧aj (M=((own.take i).map dD.f1).sum∧∀ i',i'<i->∀ k,k<bF.length->wD av bF ⟨gT,iY⟩ gX own i' k=true)∧Bx [] w0 W) (fun _ v22 _=>own.length - (intOf v22).toNat)
 case atStart=>exact ⟨0,0,by omega,rfl,rfl,⟨rfl,fun i' h=>absurd h (by omega)⟩,HX⟩
 case round =>
  clear HX;obtain ⟨i,M,hi,rfl,rfl,HI,HX⟩:=hrel
  by_cases hlt:i<own.length
  ·obtain ⟨s,hs⟩:∃ s,s=uE own i:=⟨_,rfl⟩
   have hmem:s∈own:=by rw [hs];unfold uE;rw [List.getD_eq_getElem?_getD,List.getElem?_eq_getElem hlt];exact List.getElem_mem hlt
   have hst:=HOS.out s hmem;have hM:=UN (l:=[]) (own:=own.take i) (fun s hs=>by have:=HOS.out s (List.mem_of_mem_take hs);omega);rw [← HI.out.1,List.length_take] at hM;have hM0:=hM.1
   have hM1:M<=495:=by have:=HOL.out;omega
   have hs0:=hst.2.1;have hs1:=hst.2.2.1;have Ke:=aj.mk hst.1;have HS:=aj.mk hs;obtain ⟨ad,As,cs,rfl,q0,q1,q2,hls,hCs⟩:=yg HO.out i (by omega) (by omega)
   have hrd:bJ own (i:Int)=s:=by rw [hs,bJ,Int.toNat_natCast];rfl
   rw [hrd] at q0 q1 q2 hls hCs;rw [Int.toNat_natCast] at q0 q1 q2;replace q0:=(HX.below.cell (World.block_lt_of_cell? w0 _ q0)).trans q0;replace q1:=(HX.below.cell (World.block_lt_of_cell? w0 _ q1)).trans q1;replace q2:=(HX.below.cell (World.block_lt_of_cell? w0 _ q2)).trans q2;have HCS:=aj.mk hCs
   have hilt:(i:Int)<own.length:=by omega
   clear hs hst hM hmem hCs hrd
   go_wp2_with (first|((with_reducible refine au (N:=12) rfl ?_);refine newX rfl rfl HX (cs:=#[.slice none 0 0,.int .i64 0,.int .i64 0]) (t:=107) tG ?_;clear HX;intro g12 yO HX hx hz;clear hx hz)|((with_reducible refine aY (t:=107) (p:=12) rfl ?_);refine jZ rfl rfl rfl HX 0 rfl (i:=0) (.agg #[.slice As s.f0.length cs,.int .i64 s.f1,.int .i64 s.f2]) [.slice As s.f0.length cs,.int .i64 s.f1,.int .i64 s.f2] #[.slice As s.f0.length cs,.int .i64 s.f1,.int .i64 s.f2] rfl rfl rfl tX (by simp) (by simp [Value.oneCell']) rfl ?_;clear HX;intro w9 HX hx;clear hx;dsimp only [List.set] at HX;clear q0 q1 q2;obtain ⟨xL,xM,IU⟩:=HX.g3 0 rfl;have ck:=fG (aD H4.out HX.below);obtain ⟨wS,wT,vO,wC,wU⟩:=Es (aD H5.out HX.below)))
   go_loopw [34] (fun v34 W=>∃ k:Nat,k<=bF.length∧v34=.int .i64 k∧aj (∀ k',k'<k->wD av bF ⟨gT,iY⟩ gX own i k'=true)∧Bx [(g12,.cells #[.slice As s.f0.length cs,.int .i64 s.f1,.int .i64 s.f2] 107 (0,0))] w0 W) (fun v34 _=>bF.length - (intOf v34).toNat)
   case atStart=>exact ⟨0,by omega,rfl,⟨fun k' h=>absurd h (by omega)⟩,HX⟩
   case round =>
    clear HX xL xM IU ck wS wT vO wC wU;obtain ⟨k,hk,rfl,HK,HX⟩:=hrel
    by_cases hltk:k<bF.length
    ·obtain ⟨x,hx⟩:∃ x,x=Bz bF k:=⟨_,rfl⟩
     obtain ⟨o,ho⟩:∃ o,o=Co gX k:=⟨_,rfl⟩;have HLB:=aj.mk (show oJ av.length x.f0=true by rw [hx];exact OK.out.qj4 k hltk);have HOO:=aj.mk (show -3000<=o.f0∧o.f1<=3000∧o.f0<=o.f1 by rw [ho];exact OK.out.old k hltk);have hbw:=aV rE.out HX.below;obtain ⟨adl,Aw,cw,rfl,p0,hlw,hCw⟩:=LY HR.out.2.1 k (by omega) (by omega)
     have hrd:nK bF (k:Int)=x:=by rw [hx,nK,Int.toNat_natCast];rfl
     rw [hrd] at p0 hlw hCw;rw [Int.toNat_natCast] at p0;replace p0:=(hbw.cell (World.block_lt_of_cell? w _ p0)).trans p0;obtain ⟨ado,rfl,o0,o1⟩:=nI HR.out.2.2.1 k (by omega) (by have:=OK.out.len;omega)
     have qeM:bH gX (k:Int)=o:=by rw [ho,bH,Int.toNat_natCast];rfl
     rw [qeM,Int.toNat_natCast] at o0 o1;have HO0:=aj.mk o0;have HO1:=aj.mk o1;have HCW:=aj.mk hCw;have HXX:=aj.mk (And.intro hx ho)
     have hl3:(k:Int)<gX.length:=by have:=OK.out.len;omega
     have hlk:(k:Int)<bF.length:=by omega
     have LKF:=aj.mk (qbE OK.out.house HLB.out Ke.out);have LKB:=aj.mk (KV OK.out.house HLB.out Ke.out);clear hx ho hrd qeM hCw o0 o1;obtain ⟨xL,xM,IU⟩:=HX.g3 0 rfl;have ck:=fG (aD H4.out HX.below);obtain ⟨wS,wT,vO,wC,wU⟩:=Es (aD H5.out HX.below);clear hbw
     go_wp2_with (first|((with_reducible refine au (N:=14) rfl ?_);refine newX rfl rfl HX (cs:=#[.slice none 0 0]) (t:=49) tG ?_;clear HX;intro g14 R8 HX hx hz;clear hx hz)|((with_reducible refine aY (t:=49) (p:=14) rfl ?_);refine jZ rfl rfl rfl HX 0 rfl (i:=0) (.agg #[.slice Aw x.f0.length cw]) [.slice Aw x.f0.length cw] #[.slice Aw x.f0.length cw] rfl rfl rfl tX (by simp) (by simp [Value.oneCell']) rfl ?_;clear HX;intro w9 HX hx;clear hx;dsimp only [List.set] at HX;clear p0 xL xM IU ck wS wT vO wC wU;have cx:=HX.g1 0 rfl;obtain ⟨xL,xM,IU⟩:=HX.g3 1 rfl;have ck:=fG (aD H4.out HX.below);obtain ⟨wS,wT,vO,wC,wU⟩:=Es (aD H5.out HX.below))|((with_reducible refine au (N:=15) rfl ?_);refine newX rfl rfl HX (cs:=#[.slice none 0 0,.slice none 0 0]) (t:=149) tG ?_;clear HX;intro g15 Mf HX hx hz;clear hx hz)|((with_reducible refine aY (t:=149) (p:=15) rfl ?_);refine jZ rfl rfl rfl HX 0 rfl (i:=0) (.agg #[.slice bC av.length aZ,.slice Aw x.f0.length cw]) [.slice bC av.length aZ,.slice Aw x.f0.length cw] #[.slice bC av.length aZ,.slice Aw x.f0.length cw] rfl rfl rfl tX (by simp) (by simp [Value.oneCell']) rfl ?_;clear HX;intro w9 HX hx;clear hx;dsimp only [List.set] at HX;clear cx xL xM IU ck wS wT vO wC wU;obtain ⟨FC,J8⟩:=HX.g2 0 rfl;obtain ⟨xL,xM,IU⟩:=HX.g3 2 rfl;have ck:=fG (aD H4.out HX.below);obtain ⟨wS,wT,vO,wC,wU⟩:=Es (aD H5.out HX.below))|(go_at_call 123;(with_reducible refine (bV.calls 1000 bC aZ av Aw cw x.f0 As cs s.f0 _ _ _ (Kd.ak HR.out.1 (aV rE.out HX.below)) dG (Kd.ak HCW.out (aV rE.out HX.below)) hlw (Kd.ak HCS.out HX.below) hls LKF.out).mono ?_);rintro e w1 ⟨rfl,hx⟩;replace HX:=HX.step hx;clear hx FC J8 xL xM IU ck wS wT vO wC wU;obtain ⟨xL,xM,IU⟩:=HX.g3 2 rfl;have ck:=fG (aD H4.out HX.below);obtain ⟨wS,wT,vO,wC,wU⟩:=Es (aD H5.out HX.below))|((with_reducible refine au (N:=16) rfl ?_);refine newX rfl rfl HX (cs:=#[.int .i64 0,.int .i64 0]) (t:=37) tG ?_;clear HX;intro g16 w16 HX hx hz;clear hx hz)|((with_reducible refine aY (t:=37) (p:=16) rfl ?_);refine jZ rfl rfl rfl HX 0 rfl (i:=0) (.agg #[.int .i64 (tH av x.f0 s.f0).1,.int .i64 (tH av x.f0 s.f0).2]) [.int .i64 (tH av x.f0 s.f0).1,.int .i64 (tH av x.f0 s.f0).2] #[.int .i64 (tH av x.f0 s.f0).1,.int .i64 (tH av x.f0 s.f0).2] rfl rfl rfl tX (by simp) (by simp [Value.oneCell']) rfl ?_;clear HX;intro w9 HX hx;clear hx;dsimp only [List.set] at HX;clear xL xM IU ck wS wT vO wC wU;obtain ⟨cm1,cm2⟩:=HX.g2 0 rfl;obtain ⟨xL,xM,IU⟩:=HX.g3 3 rfl;have ck:=fG (aD H4.out HX.below);obtain ⟨wS,wT,vO,wC,wU⟩:=Es (aD H5.out HX.below);have o0:=((aV rE.out HX.below).cell (World.block_lt_of_cell? w _ HO0.out)).trans HO0.out;have o1:=((aV rE.out HX.below).cell (World.block_lt_of_cell? w _ HO1.out)).trans HO1.out))
     obtain ⟨pl,hpl⟩:∃ p,p=tH av x.f0 s.f0:=⟨_,rfl⟩;have HPL:=aj.mk hpl;have LB2:=LKB.out;rw [← hpl] at cm1 cm2 LB2
     have e1:IntKind.i64.wrap (pl.2 - o.f0)=pl.2 - o.f0:=by have:=HOO.out;rw [IntKind.wrap_i64];omega
     have e2:IntKind.i64.wrap (o.f1 - pl.1)=o.f1 - pl.1:=by have:=HOO.out;rw [IntKind.wrap_i64];omega
     clear hpl LB2
     go_quiet (fail)
     rename_i nq
     have uy:=HX.drewN nq;clear HX e1 e2 cm1 cm2 o0 o1 xL xM IU ck wS wT vO wC wU;have HX:=uy;rw [← HPL.out] at HX;clear uy
     have hfa:UK pl o=(if pl.2 - o.f0<o.f1 - pl.1 then o.f1 - pl.1 else pl.2 - o.f0):=by unfold UK;split<;>omega
     revert hfa
     generalize (if pl.2 - o.f0<o.f1 - pl.1 then o.f1 - pl.1 else pl.2 - o.f0)=F
     intro hfa;have HFA:=aj.mk hfa;clear hfa;have HAT:aj (wD av bF ⟨gT,iY⟩ gX own i k=(decide (UK pl o<=gT)&&!((own.take i).any fun y=>uQ av x.f0 y.f0 s.f0 gT iY != 3))):=⟨by rw [HPL.out,HS.out,HXX.out.1,HXX.out.2];rfl⟩
     by_cases hf:gT<F
     ·have HF:=aj.mk (Cq (need:=kg) hlt hltk (show wD av bF ⟨gT,iY⟩ gX own i k=false by rw [HAT.out,HFA.out,decide_eq_false (by omega)];rfl))
      go_wp2_with (fail)
      go_ret
      exact ⟨by rw [HF.out];rfl,aV rE.out HX.below⟩
     ·have HNF:=aj.mk (show decide (UK pl o<=gT)=true by rw [HFA.out];exact decide_eq_true (by omega))
      have hit:(own.take i).length=i:=by rw [List.length_take];omega
      have qbL:=fun (W:World) (hb:Bx [(g16,.cells #[.int .i64 pl.1,.int .i64 pl.2] 37 (0,0)),(g15,.cells #[.slice bC av.length aZ,.slice Aw x.f0.length cw] 149 (0,0)),(g14,.cells #[.slice Aw x.f0.length cw] 49 (0,0)),(g12,.cells #[.slice As s.f0.length cs,.int .i64 s.f1,.int .i64 s.f2] 107 (0,0))] w0 W)=>Zc (fun y=>uQ av x.f0 y.f0 s.f0 gT iY != 3) 182 #[.pointer (some ⟨g15,0,none⟩),.pointer (some ⟨g12,0,none⟩),.pointer (some ⟨g5,0,none⟩)] (some ad) co (own.take i) W (Kd.ak (Kd.qaj HO.out (by omega)) hb.below) (enters_of Tryz.func182 tX rfl) (fun y hy=>⟨fun W2 cy hb2 hK=>by
       obtain ⟨Ay,cy',rfl,hly,hCy⟩:=uZ hK;have hsy:=(HOS.out y (List.mem_of_mem_take hy)).1;have hbb:=aV (aV rE.out hb.below) hb2
       exact qbI g15 g12 g5 bC aZ av Aw cw x.f0 As cs s Ay cy' y (.slice (some adl) bF.length fK) (.slice (some ado) gX.length vE) ⟨gT,iY⟩ kg W2 (aD (hb.gb 1 rfl) hb2) (aD (hb.gb 3 rfl) hb2) (aD (aD H5.out hb.below) hb2) (Kd.ak HR.out.1 hbb) dG (Kd.ak HCW.out hbb) hlw (Kd.ak HCS.out (aV hb.below hb2)) hls hCy hly (by unfold KG;rw [OK.out.house,HLB.out,hsy,Ke.out];rfl)⟩)
      rw [hit] at qbL;have K2:=aj.mk qbL
      have hic:(i:Int)<=co:=by omega
      clear qbL hit
      by_cases ha:((own.take i).any fun y=>uQ av x.f0 y.f0 s.f0 gT iY != 3)=true
      ·rw [ha] at K2
       have HF:=aj.mk (Cq (need:=kg) hlt hltk (show wD av bF ⟨gT,iY⟩ gX own i k=false by rw [HAT.out,ha];simp));clear ha
       go_wp2_with (first|(go_at_call 180;refine (K2.out _ HX).mono ?_;rintro e w1 ⟨rfl,hx⟩;replace HX:=HX.step hx;clear hx))
       go_ret
       exact ⟨by rw [HF.out];rfl,aV rE.out HX.below⟩
      ·rw [Bool.not_eq_true] at ha
       rw [ha] at K2;have HT:=aj.mk (show wD av bF ⟨gT,iY⟩ gX own i k=true by rw [HAT.out,HNF.out,ha];rfl);clear ha
       go_wp2_with (first|(go_at_call 180;refine (K2.out _ HX).mono ?_;rintro e w1 ⟨rfl,hx⟩;replace HX:=HX.step hx;clear hx))
       exact ⟨⟨k+1,by omega,by go_num,⟨fun k' hk'=>by rcases Nat.lt_succ_iff_lt_or_eq.1 hk' with h|rfl;exact HK.out k' h;exact HT.out⟩,HX.KX.KX.KX⟩,by simp [intOf];omega⟩
    ·obtain rfl:k=bF.length:=by omega
     go_wp2_with (fail)
     exact ⟨⟨i+1,M+s.f1,by omega,rfl,by go_num,⟨by rw [UM hlt,← HI.out.1,HS.out],fun i' hi'=>by rcases Nat.lt_succ_iff_lt_or_eq.1 hi' with h|rfl;exact HI.out.2 i' h;exact HK.out⟩,HX.KX⟩,by simp [intOf];omega⟩
  ·obtain rfl:i=own.length:=by omega
   obtain ⟨wS,wT,vO,wC,wU⟩:=Es (aD H5.out HX.below)
   go_wp2_with (fail)
   go_ret
   refine ⟨?_,aV rE.out HX.below⟩;rw [RN (M:=M) (by rw [HI.out.1,List.take_length]) HI.out.2]
   rfl
end Go.Proofs.YtnpfbjnjdngkhaaGreatDoor.P
