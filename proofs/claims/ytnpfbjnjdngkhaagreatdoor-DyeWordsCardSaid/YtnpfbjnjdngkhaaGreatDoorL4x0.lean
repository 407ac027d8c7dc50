import Derived.Below
import Derived.Deep.Draws
import Derived.Deep.AppendLies
import Derived.Maps.AppendAt
import Derived.OwnWalk
import Derived.Laws.BytesArg
import Derived.Laws.MakeOwn
import Derived.Laws.OwnMore
import Derived.Deep.OwnRows
import Derived.Tactics
import Derived.Lib.ConvBytes
import Derived.Laws.Slices
import Derived.WalkKit
import Derived.KernelRfl
import Derived.RowKit3
import Derived.Deep.LoopGhost
import Derived.Deep.QuietTactic
import Derived.BigQuiet
import Derived.WideLaws
import Derived.Deep.DeepCutAuto
import Derived.Deep.CutBlock
import Derived.Deep.RegionHeld3
import Derived.Laws.Rows
import Derived.Lib.AppendStr
import Derived.ArgAppend
import Derived.Laws.IdiomCopy
import Derived.RowKit
import Derived.Test.YtnpfbjnjdngkhaaGreatDoorProg
import Derived.Test.YtnpfbjnjdngkhaaGreatDoorB7
set_option maxHeartbeats 8000000
set_option maxRecDepth 100000
set_option linter.unusedVariables false
set_option linter.unusedSimpArgs false
set_option linter.unusedSectionVars false
namespace Go.Proofs.YtnpfbjnjdngkhaaGreatDoorW.aQ
open Go.RowKit
theorem add_plain (g j:Nat):(⟨g,0,none⟩:Addr).add j=⟨g,j,none⟩:=by unfold Addr.add;split<;>simp_all
theorem Lm.ite {α:Type} {c:Prop} [Decidable c] {a a' b b':Option α} (h:Lm a a') (k:Lm b b'):Lm (if c then a else b) (if c then a' else b'):=by
 split
 ·exact h
 ·exact k
theorem qmG {α:Type} {g:Nat->Option α} (h:∀ k,Lm (g k) (g (k+1))) (k:Nat):∀ j,Lm (g k) (g (k+j))
 | 0=>Lm.refl _
 | j+1=>(qmG h k j).trans (h (k+j))
theorem qrF {α:Type} {g:Nat->Option α} (h:∀ k,Lm (g k) (g (k+1))) {k k':Nat} (hk:k<=k') {r:α} (hr:g k=some r):g k'=some r:=by
 have:=qmG h k (k' - k) r hr
 rwa [Nat.add_sub_cancel' hk] at this
theorem Ev.of {α:Type} {g:Nat->Option α} {r:α} (hg:∀ k,Lm (g k) (g (k+1))) {k:Nat} (h:g k=some r):Ev g r:=⟨k,fun _ hk=>qrF hg hk h⟩
theorem Ev.rounds {α:Type} {g:Nat->Option α} {r:α} (h:Ev g r):∃ k,g k=some r:=by
 obtain ⟨K,h⟩:=h;exact ⟨K,h K (Nat.le_refl _)⟩
section
variable {α:Type} {enc:α->Value} {d:α}
theorem qmH (xs:List α):(encs enc xs).length=xs.length:=by simp [encs]
theorem qrY (xs:List α) (j:Nat) (h:j<xs.length):(encs enc xs)[j]?=some (enc (xs.getD j d)):=by
 simp [encs,List.getElem?_eq_getElem h,List.getD_eq_getElem?_getD]
theorem qrG {W:World} {base g n cap:Nat} {e:TypeId} {xs:List α} (h:W.ownsRow base e 1 (.slice (some ⟨g,0,none⟩) n cap) n (encs enc xs)) (i:Int) (h0:0<=i) (h1:i<n) :
  W.cell? ⟨g,i.toNat,none⟩=some (enc (Sl d xs i))∧W.frozen? ⟨g,i.toNat,none⟩=false:=by
 have hl:xs.length=n:=by have:=h.1;simp [encs] at this;exact this
 constructor
 ·have hc:=h.cells (g:=g) rfl i.toNat _ (qrY (d:=d) xs i.toNat (by omega))
  rwa [add_plain] at hc
 ·rcases h.2 with ⟨h',_⟩|⟨g',cap',cur,h',_,hh,_⟩
  ·cases h'
  ·have:g=g':=by injection h' with h';injection h' with h';injection h' with h'
   subst this;simp [World.frozen?,hh]
theorem qo7 {W:World} {base g n cap:Nat} {e:TypeId} {xs:List α} (h:W.ownsRow base e 1 (.slice (some ⟨g,0,none⟩) n cap) n (encs enc xs)) (i:Int) (x:α) :
  (W.setCell ⟨g,i.toNat,none⟩ (enc x)).ownsRow base e 1 (.slice (some ⟨g,0,none⟩) n cap) n (encs enc (xs.set i.toNat x))∧W.grownBy (W.setCell ⟨g,i.toNat,none⟩ (enc x)) (some g):=by
 have hs:=h.stored i.toNat (enc x)
 have he:(encs enc xs).set i.toNat (enc x)=encs enc (xs.set i.toNat x):=by simp [encs,List.map_set]
 rwa [he] at hs
end
namespace Kd
theorem qpL {α:Type} {enc:α->Value} (xs:List α):dh (fun (x:α) (cs:List Value)=>cs=[enc x]) 1 xs (encs enc xs):=by
 refine ⟨by simp [encs],fun j p hj=>?_⟩;obtain ⟨hl,hp⟩:=List.getElem?_eq_some_iff.1 hj
 have hl':j<(encs enc xs).length:=by rw [qmH];exact hl
 rw [Nat.mul_one,List.drop_eq_getElem_cons hl'];simp [encs,hp]
theorem qrZ {α:Type} {enc:α->Value} {h1:∀ x,(enc x).oneCell'=true} {e:Nat} {w:World} {base:Nat} {ok:Nat->Prop} {v:Value} {xs:List α} (ho:w.ownsRow base e 1 v xs.length (encs enc xs)) (hok:∀ k,v.ownBlock=some k->ok k):(scalar enc h1).R e w base ok v xs:=⟨hok,encs enc xs,ho,qpL xs⟩
theorem qpM {α:Type} {enc:α->Value} {h1:∀ x,(enc x).oneCell'=true} {e:Nat} {w:World} {base:Nat} {ok:Nat->Prop} {v:Value} {xs:List α} (h:(scalar enc h1).R e w base ok v xs):w.ownsRow base e 1 v xs.length (encs enc xs):=by
 obtain ⟨_,inner,ho,hr⟩:=h
 have:inner=encs enc xs:=by
  apply List.ext_getElem?;intro j
  rcases Nat.lt_or_ge j xs.length with hj|hj
  ·have h2:=hr.2 j _ (List.getElem?_eq_getElem hj)
   have hl:j<inner.length:=by have:=hr.1;simp [scalar] at this;omega
   have h3:(inner.drop (j*1)).take 1=[enc xs[j]]:=h2;rw [Nat.mul_one,List.drop_eq_getElem_cons hl] at h3
   have h4:inner[j]=enc xs[j]:=by
    have h5:=congrArg List.head? h3;rw [List.take_succ_cons] at h5;exact Option.some.inj h5
   rw [List.getElem?_eq_getElem hl,h4];simp [encs,List.getElem?_eq_getElem hj]
  ·have h3:inner.length=xs.length:=by have:=hr.1;simp [scalar] at this;omega
   rw [List.getElem?_eq_none (by omega),List.getElem?_eq_none (by rw [qmH];omega)]
 rw [← this];exact ho
end Kd
namespace Kd
end Kd
namespace Kd
theorem qpN {α:Type} {d:Kd α} {e base:Nat} {ok:Nat->Prop} {w:World} {u:Value} {xs:List α} (h:d.R e w base ok u xs):d.R e w base (fun k=>ok k∧some k≠(Value.slice none 0 0).ownBlock) u xs:=gq h (fun k hk=>⟨hk,by simp [Value.ownBlock]⟩)
theorem qvT {α:Type} {d:Kd α} {e base:Nat} {ok:Nat->Prop} {w:World} {v:Value} {xs:List α} (h:d.R e w base ok v xs):(slice e d).M w base ok xs [v]:=⟨v,rfl,h⟩
end Kd
namespace Kd
section
variable {w W:World} {A:Option Addr} {n:Nat}
theorem qnl {xs:List Bool} (h:Kd.bool.C w A n xs) (i:Int) (h0:0<=i) (h1:i<n):∃ ad,A=some ad∧w.cell? (ad.add i.toNat)=some (.bool (Sl false xs i)) :=
 kr.at_ (D6 (enc:=Value.bool) (d:=false) (h1:=fun _=>rfl) h) i h0 h1
variable {α:Type} {enc:α->Value} {h1:∀ x,(enc x).oneCell'=true} {e base g cap:Nat} {ok:Nat->Prop} {xs:List α}
theorem quA (d:α) (h:(scalar enc h1).R e W base ok (.slice (some ⟨g,0,none⟩) xs.length cap) xs) (i:Int) (h0:0<=i) (hi:i<xs.length):W.cell? ⟨g,i.toNat,none⟩=some (enc (Sl d xs i))∧W.frozen? ⟨g,i.toNat,none⟩=false:=qrG (qpM h) i h0 hi
theorem qvU (h:(scalar enc h1).R e W base ok (.slice (some ⟨g,0,none⟩) xs.length cap) xs) (i:Int) (x:α):(scalar enc h1).R e (W.setCell ⟨g,i.toNat,none⟩ (enc x)) base ok (.slice (some ⟨g,0,none⟩) xs.length cap) (xs.set i.toNat x)∧W.grownBy (W.setCell ⟨g,i.toNat,none⟩ (enc x)) (some g):=by
 obtain ⟨ho,hg⟩:=qo7 (qpM h) i x;exact ⟨qrZ (by rw [List.length_set];exact ho) h.1,hg⟩
end
section
variable {P:Program} {ops:Array Oper} {rest:List Oper} {o:Oper} {a:Act} {Q:Exit->Act->World->Prop}
variable {α:Type}
theorem qrH {α:Type} {R:α->List Value->Prop} {z:Value} {size:Nat} {z0:α} (hz:z.cells.size=size) (hs:0<size) (h0:R z0 z.cells.toList) (m:Nat):dh R size (List.replicate m z0) (madeCells z.cells (m*size)).toList:=by
 refine ⟨by simp [size_madeCells],fun j p hj=>?_⟩;obtain ⟨hjl,hp⟩:=List.getElem?_eq_some_iff.1 hj
 have hjm:j<m:=by simpa using hjl
 have hp':z0=p:=by simpa using hp
 subst hp'
 have hle:j*size+size<=m*size:=by rw [← Nat.succ_mul];exact Nat.mul_le_mul_right _ hjm
 have:((madeCells z.cells (m*size)).toList.drop (j*size)).take size=z.cells.toList:=by
  apply List.ext_getElem
  ·simp [size_madeCells,hz]
   omega
  ·intro i h1 h2
   have hi:i<size:=by rw [Array.length_toList,hz] at h2;exact h2
   have hmod:(j*size+i)%size=i:=by
    rw [Nat.mul_comm,Nat.mul_add_mod];exact Nat.mod_eq_of_lt hi
   simp [madeCells,hz,hmod];rw [getElem!_pos z.cells i (by omega)]
 rw [this];exact h0
theorem qo8 (d:Kd α) {w0 W:World} (base e:Nat) (hgd:o.guard=none) {N:Tmp} (hd:o.dst=some N) (t:TypeId) (x y:Operand) (ho:o.op=.makeSlice t x y) (n:Int) (hx:a.eval x=.int .i64 n) (hy:a.eval y=.int .i64 n)
  (ht:P.underlying t=some (.slice e)) (z:Value) (bytes:Nat) (hinfo:(P.info? e).map (fun i=>(i.zero,i.size,i.bytes))=some (some z,d.sz,bytes)) (hz:z.cells.size=d.sz) (hs0:0<d.sz) (hb0:0<bytes)
  (z0:α) {ok nE:Nat->Prop} (hzero:d.M W base nE z0 z.cells.toList) (hok:∀ k,nE k->ok k) (hfresh:ok W.heap.size) (h0:0<=n) (hl:n.toNat*bytes<=281474976710656) (HB:Below base w0 W) (hbase:base<=W.heap.size)
  (h:∀ v1 w1,d.R e w1 base ok v1 (List.replicate n.toNat z0)->Below base w0 w1->W.grownBy w1 none->(∃ b,v1.ownBlock=some b∧W.heap.size<=b)->wpList P ops Q rest (a.put o.dst v1) w1):wpList P ops Q (o::rest) a W:=by
 obtain ⟨m,rfl⟩:=Int.eq_ofNat_of_zero_le h0;simp only [Int.toNat_natCast] at hl h;obtain ⟨i0,hi,hzz⟩:=Option.map_eq_some_iff.1 hinfo;simp only [Prod.mk.injEq] at hzz;obtain ⟨hz0,hz1,hz2⟩:=hzz;have hm:m<=281474976710656:=Nat.le_trans (Nat.le_mul_of_pos_right _ hb0) hl
 have hr:=run_make (P:=P) W t e i0 z ht hi hz0 .i64 .i64 (m:Int) (m:Int) (by omega) (by omega)
  (by
   have h3:((i0.bytes*m:Nat):Int)<=281474976710656:=by rw [hz2,Nat.mul_comm];omega
   rwa [Int.natCast_mul] at h3) (by omega)
 simp only [Int.toNat_natCast] at hr;rw [hz1] at hr;refine qD d base e hgd hd (xs:=List.replicate m z0) (inner:=(madeCells z.cells (m*d.sz)).toList) (nE:=nE) (ok:=ok) ?_ (qrH hz hs0 hzero m) hok hfresh HB hbase (by simp;omega) h;simp [execOp,ho,hx,hy,hr]
end
end Kd
section
variable {w w1:World} {base n size:Nat} {e:TypeId} {v:Value} {xs:List Value}
theorem quB (g o j:Nat):(⟨g,o,none⟩:Addr).add j=⟨g,o+j,none⟩:=by unfold Addr.add;split<;>simp_all
end
namespace Kd
end Kd
namespace Kd
section
variable {α:Type} {d:Kd α} {e e':Nat} {w w1 W:World} {base:Nat} {ok:Nat->Prop} {u v:Value} {xs:List α}
theorem qcD (h:d.R e w base ok v xs):∀ k,v.ownBlock=some k->∃ cells,w.heap[k]?=some (.cells cells e (0,0)):=by
 obtain ⟨inner,ho⟩:=Og h
 exact fun k hk=>FL ho k hk
theorem qcP (h:d.R e W base ok u xs) (hty:∀ k,v.ownBlock=some k->∃ cells,W.heap[k]?=some (.cells cells e' (0,0))) (ht:∀ q,q∈e::d.E->q≠e') (hg:W.grownBy w1 v.ownBlock):d.R e w1 base ok u xs:=by
 refine gq (Gu (vP h) (fun k hk=>hg.block k hk.2.2.1 (fun he=>?_))) (fun _ hk=>hk.1);obtain ⟨_,_,_,q,hq,cells,hc⟩:=hk;obtain ⟨cells',hc'⟩:=hty k he.symm;rw [hc] at hc'
 injection hc' with hc'
 injection hc' with _ hc'
 exact ht q hq hc'
theorem qj2 (h:d.R e W base ok u xs) (hty:∀ k,v.ownBlock=some k->∃ cells,W.heap[k]?=some (.cells cells e' (0,0))) (ht:∀ q,q∈e::d.E->q≠e'):d.R e W base (fun k=>ok k∧some k≠v.ownBlock) u xs:=by
 refine gq (vP h) (fun k hk=>⟨hk.1,fun he=>?_⟩);obtain ⟨_,_,_,q,hq,cells,hc⟩:=hk;obtain ⟨cells',hc'⟩:=hty k he.symm;rw [hc] at hc'
 injection hc' with hc'
 injection hc' with _ hc'
 exact ht q hq hc'
end
end Kd
namespace Kd
section
variable {α:Type} {d:Kd α} {e base g n cap:Nat} {ok nE:Nat->Prop} {W:World} {xs:List α}
theorem qnw (h:d.R e W base ok (.slice (some ⟨g,0,none⟩) n cap) xs) (z:α) (i:Int) (h0:0<=i) (h1:i<n) :
  ∃ c,c.length=d.sz∧d.M W base (fun k=>ok k∧k≠g) (xs.getD i.toNat z) c∧(∀ j u,c[j]?=some u->W.cell? ⟨g,i.toNat*d.sz+j,none⟩=some u)∧∀ j,W.frozen? ⟨g,i.toNat*d.sz+j,none⟩=false:=by
 obtain ⟨hn,hnc,hC⟩:=eB h;obtain ⟨_,inner,ho,hr⟩:=h
 have hil:i.toNat<xs.length:=by omega
 have hseg:i.toNat*d.sz+d.sz<=inner.length:=by rw [hr.1,← Nat.succ_mul];exact Nat.mul_le_mul_right _ hil
 have hM:=hr.2 i.toNat _ (List.getElem?_eq_getElem hil);refine ⟨(inner.drop (i.toNat*d.sz)).take d.sz,by rw [List.length_take,List.length_drop];omega,?_,fun j u hu=>?_,fun j=>?_⟩
 ·rw [List.getD_eq_getElem?_getD,List.getElem?_eq_getElem hil]
  exact d.iO (fun k hk=>⟨hk.1,fun he=>hk.2 (by rw [he];simp [Value.ownBlock])⟩) hM
 ·rw [List.getElem?_take] at hu
  split at hu
  ·rw [List.getElem?_drop] at hu
   have:=ho.cells (g:=g) (by simp [Value.ownBlock]) _ u hu
   rwa [add_plain] at this
  ·cases hu
 ·obtain ⟨cells,hc⟩:=FL ho g (by simp [Value.ownBlock])
  exact pW hc _
end
end Kd
namespace Kd
end Kd
namespace Kd
end Kd
namespace Kd
end Kd
namespace Kd
end Kd
namespace Kd
end Kd
namespace Kd
end Kd
namespace Kd
section
variable {α:Type} {enc:α->Value} {h1:∀ x,(enc x).oneCell'=true} {e base g n cap:Nat} {ok:Nat->Prop} {W:World} {xs:List α}
theorem qjH (d:α) (h:(scalar enc h1).R e W base ok (.slice (some ⟨g,0,none⟩) n cap) xs) (i:Int) (h0:0<=i) (hi:i<n):W.cell? ⟨g,i.toNat,none⟩=some (enc (Sl d xs i))∧W.frozen? ⟨g,i.toNat,none⟩=false:=by
 obtain ⟨rfl,_⟩:=eB h;exact quA d h i h0 hi
end
end Kd
namespace Kd
section
variable {α:Type} {enc:α->Value} {h1:∀ x,(enc x).oneCell'=true} {e base g n cap:Nat} {ok:Nat->Prop} {W:World} {xs:List α}
theorem qnx (h:(scalar enc h1).R e W base ok (.slice (some ⟨g,0,none⟩) n cap) xs) (i:Int) (x:α):(scalar enc h1).R e (W.setCell ⟨g,i.toNat,none⟩ (enc x)) base ok (.slice (some ⟨g,0,none⟩) n cap) (xs.set i.toNat x)∧W.grownBy (W.setCell ⟨g,i.toNat,none⟩ (enc x)) (some g):=by
 obtain ⟨rfl,_⟩:=eB h;exact qvU h i x
end
end Kd
section
variable {P:Program} {ops:Array Oper} {o:Oper} {a:Act} {Q:Exit->Act->World->Prop} {Kc:Act->World->Prop}
namespace Kd
variable {α:Type}
end Kd
end
namespace Kd
end Kd
end Go.Proofs.YtnpfbjnjdngkhaaGreatDoorW.aQ
namespace Go.Proofs.YtnpfbjnjdngkhaaGreatDoorW.aQ
open Go.RowKit
namespace Kd
def bare {α:Type} (d:Kd α):Kd α where
 sz:=d.sz
 E:=d.E
 K:=d.K
 M:=fun w base _ x cs=>d.M w base (fun _=>False) x cs
 oP:=fun h=>d.oP h
 oq:=fun h=>d.oq h
 lY:=fun hb h=>d.lY hb h
 jo:=fun h=>d.jo h
 iO:=fun _ h=>h
 iR:=fun h=>h
 kJ:=fun _ h=>d.kJ (fun _ hk=>hk.elim) h
 lZ:=fun hb h=>d.lZ hb h
section
variable {α β:Type} {d:Kd α} {d':Kd β} {e e':Nat} {w w1 W:World} {base b:Nat} {ok ok' okv oku:Nat->Prop} {u v:Value} {xs:List α} {ys:List β}
theorem quC {xs:List α} {j:Nat} {p:α} (h:xs[j]?=some p):xs.zipIdx[j]?=some (p,j):=by rw [List.getElem?_zipIdx,h,Nat.zero_add];rfl
theorem S_R (h:S d e w base ok v xs):d.R e w base ok v xs:=by
 obtain ⟨f,h0,inner,ho,hr⟩:=h;rw [List.length_zipIdx] at ho;exact ⟨h0,inner,ho,by have:=hr.1;rw [List.length_zipIdx] at this;exact this,fun j p hj=>d.iO (fun _ hk=>hk.1) (hr.2 j (p,j) (quC hj))⟩
theorem quD {ad:Addr} {n cap:Nat} (h:d.R e w base ok (.slice (some ad) n cap) xs):∃ g,ad=⟨g,0,none⟩:=by
 obtain ⟨_,inner,ho,hr⟩:=h
 rcases ho.2 with ⟨hv,_⟩|⟨g,cap',cur,hv,_⟩
 ·cases hv
 ·injection hv with ha _ _
  injection ha with ha
  exact ⟨g,ha⟩
theorem quE {ad:Addr} {n cap:Nat} (h:d.R e W base ok (.slice (some ad) n cap) xs) (z:α) (i:Int) (h0:0<=i) (h1:i<n) :
  ∃ c,c.length=d.sz∧d.M W base (fun k=>ok k∧some k≠(Value.slice (some ad) n cap).ownBlock) (xs.getD i.toNat z) c∧∀ j u,c[j]?=some u->W.cell? (ad.add (i.toNat*d.sz+j))=some u:=by
 obtain ⟨g,rfl⟩:=quD h;obtain ⟨c,hcl,hM,hcc,_⟩:=qnw h z i h0 h1;refine ⟨c,hcl,d.iO (fun k hk=>⟨hk.1,fun he=>hk.2 (by simpa [Value.ownBlock] using he)⟩) hM,fun j u hu=>?_⟩;rw [quB,Nat.zero_add];exact hcc j u hu
theorem qeW (h:S d e w base ok v xs) (hok:∀ k,ok k->ok' k):S d e w base ok' v xs:=by
 obtain ⟨f,h⟩:=h;exact ⟨f,gq h hok⟩
theorem qsR (h:S d e w base ok v xs):S d e w base (fun k=>ok k∧base<=k∧k<w.heap.size∧∃ q,q∈e::d.E∧∃ cells,w.heap[k]?=some (.cells cells q (0,0))) v xs:=by
 obtain ⟨f,h⟩:=h;exact ⟨f,vP h⟩
theorem quF (h:S d e w base ok v xs) (hm:∀ k,ok k->w1.heap[k]?=w.heap[k]?):S d e w1 base ok v xs:=by
 obtain ⟨f,h⟩:=h;exact ⟨f,Gu h hm⟩
theorem qnm {base':Nat} (h:S d e w base ok v xs) (hb:base'<=base):S d e w base' ok v xs:=by
 obtain ⟨f,h⟩:=h;exact ⟨f,dZ h hb⟩
theorem quG (h:S d e w base ok v xs) (hm:∀ k,ok k->k<w.heap.size->w1.heap[k]?=w.heap[k]?):S d e w1 base ok v xs :=
 qeW (quF (qsR h) (fun k hk=>hm k hk.1 hk.2.2.1)) (fun _ hk=>hk.1)
theorem qcX (h:S d e w base ok v xs) (hb:Below w.heap.size w w1):S d e w1 base ok v xs:=quG h (fun k _ hk=>hb.block k hk)
theorem qbk (h:S d e w base ok v xs) (o:Obj):S d e (w.alloc o) base ok v xs:=qcX h (fH (Below.refl _ _) o)
theorem qbT (h:S d e w base ok v xs):S d e w.drew base ok v xs:=qcX h (fC (Below.refl _ _))
theorem qbm (h:S d e w base ok v xs) (m:Nat):S d e (w.drewN m) base ok v xs:=qcX h (kG (Below.refl _ _) m)
theorem qnn (h:S d e w base ok v xs):∀ k,v.ownBlock=some k->∃ cells,w.heap[k]?=some (.cells cells e (0,0)):=qcD (S_R h)
theorem qsS (h:S d e w base ok v xs):∀ k,v.ownBlock=some k->k<w.heap.size:=vR (S_R h)
theorem qqk (h:S d e w base ok v xs):∀ k,v.ownBlock=some k->base<=k:=iF (S_R h)
theorem qo9 (h:S d e W base ok u xs) (hty:∀ k,v.ownBlock=some k->∃ cells,W.heap[k]?=some (.cells cells e' (0,0))) (ht:∀ q,q∈e::d.E->q≠e') (hg:W.grownBy w1 v.ownBlock):S d e w1 base ok u xs:=by
 obtain ⟨f,h⟩:=h;exact ⟨f,qcP h hty ht hg⟩
theorem qny (h:S d e W base ok u xs) (hbase:∀ k,v.ownBlock=some k->W.heap.size<=k) (hb:Below W.heap.size W w1):S d e w1 base (fun k=>ok k∧some k≠v.ownBlock) u xs:=by
 obtain ⟨f,h⟩:=h;exact ⟨f,qE h hbase hb⟩
theorem qql (h:S d e w1 W.heap.size ok v xs) (hlt:∀ k,u.ownBlock=some k->k<W.heap.size):S d e w1 W.heap.size (fun k=>ok k∧some k≠u.ownBlock) v xs:=by
 obtain ⟨f,h⟩:=h;exact ⟨f,wY h hlt⟩
theorem qiE {v1:Value} (h:S d e W base (fun k=>ok k∧some k≠v.ownBlock) u xs) (hg:W.grownBy w1 v.ownBlock) (hat:v1.ownBlock=v.ownBlock∨∃ b,v1.ownBlock=some b∧W.heap.size<=b):S d e w1 base (fun k=>ok k∧some k≠v1.ownBlock) u xs:=by
 obtain ⟨f,h⟩:=h;exact ⟨f,VX h hg hat⟩
theorem qmI (h:S d e w base ok u xs):S d e w base (fun k=>ok k∧some k≠(Value.slice none 0 0).ownBlock) u xs:=qeW h (fun k hk=>⟨hk,by simp [Value.ownBlock]⟩)
theorem quH (h:(bare d).R e w base ok v xs):S d e w base ok v xs:=by
 obtain ⟨h0,inner,ho,hr⟩:=h;refine ⟨fun _=>0,h0,inner,by rw [List.length_zipIdx];exact ho,by rw [List.length_zipIdx];exact hr.1,fun j p hj=>?_⟩;rw [List.getElem?_zipIdx,Nat.zero_add] at hj;obtain ⟨x,hx,rfl⟩:=Option.map_eq_some_iff.1 hj;exact d.iO (fun _ hk=>hk.elim) (hr.2 j x hx)
theorem qvW {f f':Nat->Nat} {zs:List (α × Nat)} (h:(tag f d).R e w base ok v zs) (hf:∀ k,ok k->k<w.heap.size->f' k=f k):(tag f' d).R e w base ok v zs:=by
 obtain ⟨h0,inner,ho,hr⟩:=vP h;exact ⟨fun k hk=>(h0 k hk).1,inner,ho,hr.1,fun j p hj=>d.iO (fun k hk=>⟨⟨hk.1.1.1,hk.1.2⟩,(hf k hk.1.1.1 hk.1.1.2.2.1).trans hk.2⟩) (hr.2 j p hj)⟩
end
section
variable {α β:Type} {d:Kd α} {d':Kd β} {e e' g:Nat} {w w1 W:World} {base b:Nat} {ok ok' okv oku:Nat->Prop} {u v:Value} {xs:List α} {ys:List β}
theorem qhD (h:S d e w base ok v xs):∃ A c,v=.slice A xs.length c:=jc (S_R h)
theorem qcU {A:Option Addr} {n c:Nat} (h:S d e w base ok (.slice A n c) xs):n=xs.length∧n<=c∧d.C w A xs.length xs:=eB (S_R h)
theorem qj3 {ad:Addr} {n cap:Nat} (h:S d e W base ok (.slice (some ad) n cap) xs) (z:α) (i:Int) (h0:0<=i) (h1:i<n) :
  ∃ c,c.length=d.sz∧d.M W base (fun k=>ok k∧some k≠(Value.slice (some ad) n cap).ownBlock) (xs.getD i.toNat z) c∧∀ j u,c[j]?=some u->W.cell? (ad.add (i.toNat*d.sz+j))=some u:=quE (S_R h) z i h0 h1
theorem qr0 (xs:List α) (p:α):(xs++[p]).zipIdx=xs.zipIdx++[(p,xs.length)]:=by rw [List.zipIdx_append];simp
end
section
open Classical in
theorem qvX {α:Type} {d:Kd α} {e base:Nat} {okv:Nat->Prop} {w:World} {v:Value} {xs:List α} (h:S d e w base okv v xs) (m:Nat) (nE:Nat->Prop) (hap:∀ k,nE k->¬ okv k):∃ f,(∀ k,nE k->f k=m)∧(tag f d).R e w base okv v xs.zipIdx:=by
  obtain ⟨f,h⟩:=h
  exact ⟨fun k=>if nE k then m else f k,fun k hk=>if_pos hk,qvW h (fun k hk _=>if_neg (fun h2=>hap k h2 hk))⟩
variable {P:Program} {ops:Array Oper} {rest:List Oper} {o:Oper} {a:Act} {Q:Exit->Act->World->Prop} {Kc:Act->World->Prop} {α:Type}
theorem qr1 (d:Kd α) {w0 W:World} (base:Nat) (hgd:o.guard=none) (s x:Operand) (t e:TypeId) (z:Value) (bytes:Nat)
  (ho:o.op=.call { callee:=.builtin .append,args:=#[s,x],argTypes:=#[t,t] })
  (ht:P.underlying t=some (.slice e)) (hinfo:(P.info? e).map (fun i=>(i.zero,i.size,i.bytes))=some (some z,d.sz,bytes)) (hz:z.cells.size=d.sz) (hs0:0<d.sz) (hb0:0<bytes)
  (v:Value) (xs:List α) (p:α) (cs:List Value) (ok nE:Nat->Prop) (hs:a.eval s=v) (hx:a.eval x=.slice (some ⟨W.heap.size,0,none⟩) 1 1) (hp:d.M W base nE p cs) (vQ:∀ k,nE k->ok k∧some k≠v.ownBlock) (hfresh:∀ k,W.heap.size<=k->ok k)
  (HO:S d e W base (fun k=>ok k∧¬ nE k) v xs) (HB:Below base w0 W) (hbase:base<=W.heap.size) (hl:(xs.length+1)*bytes<=140737488355328)
  (h:∀ v1 w1,S d e w1 base ok v1 (xs++[p])->Below base w0 w1->W.grownBy w1 v.ownBlock->(v1.ownBlock=v.ownBlock∨∃ b,v1.ownBlock=some b∧W.heap.size<=b)->wpList P ops Q rest (a.put o.dst v1) w1) :
  wpList P ops Q (o::rest) a (W.alloc (.cells cs.toArray e)):=by
 obtain ⟨f,hf,hR⟩:=qvX HO xs.length nE (fun _ hk h2=>h2.2 hk);refine sO (tag f d) base hgd s x t e z bytes ho ht hinfo hz hs0 hb0 v xs.zipIdx (p,xs.length) cs ok nE hs hx (d.iO (fun k hk=>⟨hk,hf k hk⟩) hp) vQ hfresh (gq hR (fun _ hk=>hk.1)) HB hbase (by rw [List.length_zipIdx];exact hl) ?_;intro v1 w1 hr;rw [← qr0] at hr;exact h v1 w1 ⟨f,hr⟩
theorem qvY (d:Kd α) {w0 W:World} (base e:Nat) (hgd:o.guard=none) {N:Tmp} (_hd:o.dst=some N) {xs:List α} {inner:List Value} {ok nE:Nat->Prop}
  (hrun:(execOp a.eval o).run P W=.ok (.value (.slice (some ⟨W.heap.size,0,none⟩) xs.length xs.length)) (W.alloc (.cells inner.toArray e)))
  (hrep:dh (d.M W base (fun _=>False)) d.sz xs inner) (qAL:∀ k,nE k->ok k) (hfresh:ok W.heap.size) (HB:Below base w0 W) (hbase:base<=W.heap.size) (hm:xs.length<=9223372036854775807)
  (h:∀ v1 w1,S d e w1 base ok v1 xs->Below base w0 w1->W.grownBy w1 none->(∃ b,v1.ownBlock=some b∧W.heap.size<=b)->wpList P ops Q rest (a.put o.dst v1) w1):wpList P ops Q (o::rest) a W :=
 qD (bare d) base e hgd _hd (ok:=ok) (nE:=ok) hrun hrep (fun _ hk=>hk) hfresh HB hbase hm (fun v1 w1 hr=>h v1 w1 (quH hr))
end
end Kd
end Go.Proofs.YtnpfbjnjdngkhaaGreatDoorW.aQ
namespace Go.Proofs.YtnpfbjnjdngkhaaGreatDoorW.aQ
open Go.RowKit
section
variable {w w' u:World} {m B g:Nat} {o:Obj} {row:Option Nat} {S:Nat->Prop} {a:Addr} {v:Value}
theorem qnz (hq:w.drewN m=w') (h:Below B u w):Below B u w':=by subst hq;exact kG h m
theorem qmd (hq:w.drewN m=w') (h:w.heap[g]?=some o):w'.heap[g]?=some o:=by subst hq;exact h
end
namespace Kd
section
variable {α:Type} {d:Kd α} {e base n m:Nat} {ok:Nat->Prop} {w w':World} {v:Value} {A:Option Addr} {xs:List α}
theorem qnf (hq:w.drewN m=w') (h:d.R e w base ok v xs):d.R e w' base ok v xs:=by subst hq;exact kZ h m
end
end Kd
end Go.Proofs.YtnpfbjnjdngkhaaGreatDoorW.aQ
namespace Go.Proofs.YtnpfbjnjdngkhaaGreatDoorW.bT
open Go.RowKit Go.Proofs.YtnpfbjnjdngkhaaGreatDoorW.aQ
namespace Kd
open Go.Proofs.YtnpfbjnjdngkhaaGreatDoorW.aQ.Kd
end Kd
namespace Kd
open Go.Proofs.YtnpfbjnjdngkhaaGreatDoorW.aQ.Kd
end Kd
end Go.Proofs.YtnpfbjnjdngkhaaGreatDoorW.bT
namespace Go.Proofs.YtnpfbjnjdngkhaaGreatDoorW.aQ
open Go.RowKit
theorem qjT (w:World) (n:Nat):w.drewN n=w.drewN n:=rfl
namespace Kd
end Kd
end Go.Proofs.YtnpfbjnjdngkhaaGreatDoorW.aQ
namespace Go.Proofs.YtnpfbjnjdngkhaaGreatDoorW.aQ
open Go.RowKit
namespace Kd
end Kd
end Go.Proofs.YtnpfbjnjdngkhaaGreatDoorW.aQ
namespace Go.Proofs.YtnpfbjnjdngkhaaGreatDoor.P
open Go.RowKit Go.Proofs.YtnpfbjnjdngkhaaGreatDoorW.aQ Go.Proofs.YtnpfbjnjdngkhaaGreatDoorW.bO Go.Proofs.YtnpfbjnjdngkhaaGreatDoorW.bT
attribute [local go_sem] eP eT fU fV dS dU eU eX
theorem qq7:(Tryz.prog.info? 4).map (fun i=>(i.zero,i.size,i.bytes))=some (some (.bool false),1,1):=by kernel_rfl
theorem quI:(Tryz.prog.info? 47).map (fun i=>(i.zero,i.size,i.bytes))=some (some (.slice none 0 0),1,24):=by kernel_rfl
def qct (xs:List (List Int)) (i:Int):(List Int):=xs.getD i.toNat ([]:List Int)
theorem qj5 {w:World} {A:Option Addr} {n:Nat} {xs:List (List Int)} (h:Kd.C (Kd.slice 3 (Kd.int .i64)) w A n xs) (i:Int) (h0:0<=i) (h1:i<n):∃ ad A0 c0,A=some ad∧w.cell? (ad.add i.toNat)=some (.slice A0 (qct xs i).length c0)∧(qct xs i).length<=c0∧(Kd.int .i64).C w A0 (qct xs i).length (qct xs i):=by
 obtain ⟨ad,c,e,_,hK,hc0⟩:=Kd.zq h ([]:List Int) i h0 h1;have hc:∀ j u,c[j]?=some u->w.cell? (ad.add (i.toNat*1+j))=some u:=hc0;obtain ⟨A0,c0,rfl,l0,g0⟩:=hK;exact ⟨ad,A0,c0,e,by have hq:=hc 0 _ rfl;rwa [Nat.mul_one,Nat.add_zero] at hq,l0,g0⟩
end Go.Proofs.YtnpfbjnjdngkhaaGreatDoor.P
namespace Go.Proofs.YtnpfbjnjdngkhaaGreatDoor.P
open Go.RowKit Go.Proofs.YtnpfbjnjdngkhaaGreatDoorW.aQ Go.Proofs.YtnpfbjnjdngkhaaGreatDoorW.bO Go.Proofs.YtnpfbjnjdngkhaaGreatDoorW.bT
section
variable {w W W0 w1:World} {g:Nat} {o:Obj}
theorem geS (HB:aj (Below w.heap.size w W)) (hg:g=W0.heap.size) (h:Below w.heap.size w W0:=by exact tB):aj (w.heap.size<=g):=⟨by rw [hg];exact bD h⟩
end
end Go.Proofs.YtnpfbjnjdngkhaaGreatDoor.P
namespace Go.Proofs.YtnpfbjnjdngkhaaGreatDoor.P
open Go.RowKit Go.Proofs.YtnpfbjnjdngkhaaGreatDoorW.aQ Go.Proofs.YtnpfbjnjdngkhaaGreatDoorW.bO Go.Proofs.YtnpfbjnjdngkhaaGreatDoorW.bT
attribute [local go_sem] eP eT fU fV dS dU eU eX
theorem bR.qnA:∀ k,(∀ y0 y1,Lm (bR.l0 k y0 y1) (bR.l0 (k+1) y0 y1))∧(∀ y0 y1 y2,Lm (bR.j1 k y0 y1 y2) (bR.j1 (k+1) y0 y1 y2))
 | 0=>⟨fun _ _ r h=>by simp [bR.l0] at h,fun _ _ _ r h=>by simp [bR.j1] at h⟩
 | k+1=>by
  obtain ⟨ih0,ih1⟩:=bR.qnA k;refine ⟨?_,?_⟩
  ·intro y0 y1
   unfold bR.l0
   repeat' first
   | (with_reducible exact ih0 _ _)
   | (with_reducible exact ih1 _ _ _)
   | (with_reducible exact Lm.refl _)
   | (with_reducible exact Lm.none _)
   | (with_reducible refine Lm.ite ?_ ?_)
   | (with_reducible refine Lm.bind ?_ (fun _=>?_))
   | exact ih0 _ _
   | exact ih1 _ _ _
   | exact Lm.none _
   | refine Lm.ite ?_ ?_
   | refine Lm.bind ?_ (fun _=>?_)
  ·intro y0 y1 y2
   unfold bR.j1
   repeat' first
   | (with_reducible exact ih0 _ _)
   | (with_reducible exact ih1 _ _ _)
   | (with_reducible exact Lm.refl _)
   | (with_reducible exact Lm.none _)
   | (with_reducible refine Lm.ite ?_ ?_)
   | (with_reducible refine Lm.bind ?_ (fun _=>?_))
   | exact ih0 _ _
   | exact ih1 _ _ _
   | exact Lm.none _
   | refine Lm.ite ?_ ?_
   | refine Lm.bind ?_ (fun _=>?_)
theorem bR.mono:∀ a0 k,Lm (bR.f k a0) (bR.f (k+1) a0):=by
 intro a0 k;obtain ⟨ih0,ih1⟩:=bR.qnA k
 unfold bR.f
 repeat' first
   | (with_reducible exact ih0 _ _)
   | (with_reducible exact ih1 _ _ _)
   | (with_reducible exact Lm.refl _)
   | (with_reducible exact Lm.none _)
   | (with_reducible refine Lm.ite ?_ ?_)
   | (with_reducible refine Lm.bind ?_ (fun _=>?_))
   | exact ih0 _ _
   | exact ih1 _ _ _
   | exact Lm.none _
   | refine Lm.ite ?_ ?_
   | refine Lm.bind ?_ (fun _=>?_)
def qbS.l0:Nat->List bB->List bQ->Int->Option ((List bQ))
 | 0,_,_,_=>none
 | k+1,x0,x3,x4=>if x4<(x0.length:Int) then (if 0<=x4 then (if x3.length<8796093022208 then (qbS.l0 k x0 (x3++[(⟨(aC x0 x4).f2.f0,(aC x0 x4).f2.f1⟩:bQ)]) (wrap64 (x4+1))) else (none)) else (none)) else (some x3)
def qbS.f (k:Nat) (l0:List bB):Option ((List bQ)):=qbS.l0 k l0 ([]:List bQ) 0
theorem qbS.calls (k:Nat) (A0:Option Addr) (c0:Nat) (l0:List bB) (r:List bQ) (w:World) (hr0:Kd.C eD w A0 l0.length l0) (hc0:l0.length<=c0) (h:qbS.f k l0=some r) :
  Calls Tryz.prog 110 #[.slice A0 l0.length c0] w fun e w'=>∃ lM:Value,e=.returned (lM)∧Kd.R jW 37 w' w.heap.size (fun _=>True) lM r∧Below w.heap.size w w':=by
 have jY:=Tryz.underlying37;have Fp:=aj.mk hr0;have Zf:=aj.mk hc0;clear hr0 hc0;have HB:=aj.mk (Below.refl w.heap.size w);have H:(qbS.l0 k l0 ([]:List bQ) 0)=some r:=h;clear h;have H':=aj.mk H;clear H
 go_enter Tryz.func110,Tryz.ntmps110
 go_wp2
 go_loopg [3,4] k (fun kq v3 v4 w'=>∃ (dH:List bQ) (qcW:Int),v4=.int .i64 qcW∧aj (qbS.l0 kq l0 dH qcW=some r)∧aj (kq<=k)∧aj (Kd.R jW 37 w' w.heap.size (fun _=>True) v3 dH)∧aj (Below w.heap.size w w'))
 case atStart=>exact ⟨(([]:List bQ)),(0),tS,H',⟨Nat.le_refl _⟩,⟨by first|exact Kd.mI _ _ _ _ _|exact Kd.wN _ _ _ _ _|exact Kd.wP _ _ _ _ _|exact Kd.wK _ _ _ _ _|exact Kd.wM _ _ _ _ _⟩,⟨tB⟩⟩
 case round =>
  clear H'
  try clear c1
  obtain ⟨dH,qcW,rfl,HA,qg,qj,HB⟩:=hrel
  cases gk with
  | zero=>exact absurd HA.out (by simp [qbS.l0])
  | succ k1 =>
   have H:=HA.out;clear HA;simp only [qbS.l0] at H
   by_cases c2:qcW<(l0.length:Int)
   ·rw [if_pos c2] at H
    have Ep:decide (qcW<(l0.length:Int))=true:=decide_eq_true c2;clear c2
    by_cases c3:0<=qcW
    ·rw [if_pos c3] at H
     have qd:decide (0<=qcW)=true:=decide_eq_true c3;clear c3
     by_cases c4:dH.length<8796093022208
     ·rw [if_pos c4] at H
      have qxW:=aj.mk c4;clear c4;obtain ⟨qvZ,qpO⟩:∃ y_:List bQ,y_=(dH++[(⟨(aC l0 qcW).f2.f0,(aC l0 qcW).f2.f1⟩:bQ)]):=⟨_,rfl⟩
      replace H:(qbS.l0 k1 l0 qvZ (wrap64 (qcW+1)))=some r:=by first|(rw [qpO];with_reducible exact H)|(have jr:=(Option.bind_some _ _).symm.trans H;rw [qpO];with_reducible exact jr)|(have jr:=(Option.bind_some _ _).symm.trans H;with_reducible exact jr)|with_reducible exact H|(rw [qpO];exact H)|exact H
      have qv0:=aj.mk qpO;clear qpO;have H':=aj.mk H;clear H;have quJ:0<=(qcW:Int):=of_decide_eq_true tA;have quK:qcW<(l0.length:Int):=of_decide_eq_true tA;obtain ⟨qzl,qxX,qq8,qq9,qra,qrb⟩:=lC Fp.out qcW quJ quK
      cases qxX
      replace qq8:=dz HB qq8;replace qq9:=dz HB qq9;replace qra:=dz HB qra;replace qrb:=dz HB qrb;replace quJ:=eq_true quJ;replace quK:=eq_true quK
      go_wp2_with (first|((with_reducible refine eY (b:=.append) (xs:=#[.tmp 11,.tmp 17]) rfl ?_);at_builtin;refine Kd.sO jW (w0:=w) w.heap.size rfl (.tmp 11) (.tmp 17) 28 37 (.agg #[(.int .i64 0),(.int .i64 0)]) 16 rfl Tryz.underlying28 SQ rfl (by decide) (by omega) u3 dH (⟨(aC l0 qcW).f2.f0,(aC l0 qcW).f2.f1⟩:bQ) [.int .i64 ((aC l0 qcW).f2.f0),.int .i64 ((aC l0 qcW).f2.f1)] (fun _=>True) (fun _=>False) rfl rfl ?aP (fun _ hk=>hk.elim) ?aF ?aO ?aB ?aS ?aL ?_;(case aP=>exact lu _ _ _ (⟨(aC l0 qcW).f2.f0,(aC l0 qcW).f2.f1⟩:bQ));(case aB=>exact tB);(case aF=>exact (fun _ _=>trivial));(case aO=>exact (qCo qj));(case aS=>exact (bD tB));(case aL=>have:=qxW.out;omega);intro qAM w5 ho hb hg hat;rw [← qv0.out] at ho;replace HB:=aj.mk (hb);have qzm:=aj.mk (ho);clear qj;clear ho hb hg hat))
      go_roundg k1
      case measure=>have:=qg.out;omega
      case rel=>exact ⟨(qvZ),(wrap64 (qcW+1)),tS,H',⟨by have:=qg.out;omega⟩,⟨(qCo qzm)⟩,⟨tB⟩⟩
     ·rw [if_neg c4] at H
      exact absurd H (by simp)
    ·rw [if_neg c3] at H
     exact absurd H (by simp)
   ·rw [if_neg c2] at H
    have Ep:decide (qcW<(l0.length:Int))=false:=decide_eq_false c2;clear c2;obtain rfl:=Option.some.inj H
    go_wp2
    go_ret
    exact ⟨_,tF,(qCo qj),tB⟩
def qbf.l0:Nat->Int->List Int->List bB->List Int->Int->Int->List bI->Option Int
 | 0,_,_,_,_,_,_,_=>none
 | k+1,x1,x2,x3,x4,x11,Gb,qnp=>if Gb<(x3.length:Int) then (if 0<=Gb then (if ((aC x3 Gb).f0)=x1 then (if Gb<(x4.length:Int) then (if 0<=((aC x3 Gb).f1) then (if ((aC x3 Gb).f1)<(x2.length:Int) then (qbf.l0 k x1 x2 x3 x4 (wrap64 (x11+(wrap64 ((rd x4 Gb)*(rd x2 ((aC x3 Gb).f1)))))) (wrap64 (Gb+1)) qnp) else (none)) else (none)) else (none)) else (qbf.l0 k x1 x2 x3 x4 x11 (wrap64 (Gb+1)) qnp)) else (none)) else (if 0<=x1 then (if x1<(qnp.length:Int) then (some (mn x11 ((aX qnp x1).f1))) else (none)) else (none))
def qbf.f (k:Nat) (av:List bI) (a1:Int) (l2:List Int) (l3:List bB) (l4:List Int):Option Int:=qbf.l0 k a1 l2 l3 l4 0 0 av
theorem qbf.calls (k:Nat) (bC:Option Addr) (aZ:Nat) (av:List bI) (a1:Int) (A2:Option Addr) (c2:Nat) (l2:List Int) (A3:Option Addr) (c3:Nat) (l3:List bB) (A4:Option Addr) (c4:Nat) (l4:List Int) (r:Int) (w:World) (dw:Kd.C iG w bC av.length av) (dG:av.length<=aZ) (hr2:Kd.C (Kd.int .i64) w A2 l2.length l2) (hc2:l2.length<=c2) (hr3:Kd.C eD w A3 l3.length l3) (hc3:l3.length<=c3) (hr4:Kd.C (Kd.int .i64) w A4 l4.length l4) (hc4:l4.length<=c4) (h:qbf.f k av a1 l2 l3 l4=some r) :
  Calls Tryz.prog 111 #[.agg #[.slice bC av.length aZ],.int .i64 a1,.slice A2 l2.length c2,.slice A3 l3.length c3,.slice A4 l4.length c4] w fun e w'=>e=.returned (.int .i64 r)∧Below w.heap.size w w':=by
 have qb:=Tryz.underlying24;have dM:=aj.mk dw;have fu:=aj.mk dG;clear dw dG;have HR2:=aj.mk hr2;have HC2:=aj.mk hc2;clear hr2 hc2;have HR3:=aj.mk hr3;have R9:=aj.mk hc3;clear hr3 hc3;have HR4:=aj.mk hr4;have HC4:=aj.mk hc4;clear hr4 hc4;have HB:=aj.mk (Below.refl w.heap.size w);have H:(qbf.l0 k a1 l2 l3 l4 0 0 av)=some r:=h;clear h;have H':=aj.mk H;clear H
 go_enter Tryz.func111,Tryz.ntmps111
 go_wp2_with (first|((with_reducible refine au (N:=5) rfl ?_);refine fA 5 #[.slice bC av.length aZ] 24 HB ?_;clear HB;intro qr2 w6 hg qpP qt6 HB hb;clear hb hg))
 repeat (go_quiet (first|((with_reducible refine au (N:=5) rfl ?_);refine fA 5 #[.slice bC av.length aZ] 24 HB ?_;clear HB;intro qr2 w6 hg qpP qt6 HB hb;clear hb hg));try go_wp2_with (first|((with_reducible refine au (N:=5) rfl ?_);refine fA 5 #[.slice bC av.length aZ] 24 HB ?_;clear HB;intro qr2 w6 hg qpP qt6 HB hb;clear hb hg)))
 go_loopg [11,12] k (fun kq v11 v12 w'=>∃ (yP:Int) (pU:Int),v11=.int .i64 yP∧v12=.int .i64 pU∧aj (qbf.l0 kq a1 l2 l3 l4 yP pU av=some r)∧aj (kq<=k)∧aj (w'.heap[qr2]?=some (.cells #[(.slice bC av.length aZ)] 24 (0,0)))∧aj (Below w.heap.size w w'))
 case atStart=>exact ⟨(0),(0),tS,tS,H',⟨Nat.le_refl _⟩,⟨(qB2 qpP)⟩,⟨tB⟩⟩
 case round =>
  clear H'
  try clear c1
  try clear c2
  try clear p2
  try clear c3
  try clear c4
  obtain ⟨yP,pU,rfl,rfl,HA,qg,qpP,HB⟩:=hrel
  cases gk with
  | zero=>exact absurd HA.out (by simp [qbf.l0])
  | succ k1 =>
   have H:=HA.out;clear HA;simp only [qbf.l0] at H
   by_cases c7:pU<(l3.length:Int)
   ·rw [if_pos c7] at H
    have yL:decide (pU<(l3.length:Int))=true:=decide_eq_true c7;clear c7
    by_cases c8:0<=pU
    ·rw [if_pos c8] at H
     have Hz:decide (0<=pU)=true:=decide_eq_true c8;clear c8
     by_cases c9:((aC l3 pU).f0)=a1
     ·rw [if_pos c9] at H
      have Q9:(((aC l3 pU).f0) == a1)=true:=beq_iff_eq.mpr c9;have qxY:(((aC l3 pU).f0) != a1)=false:=bne_eq_false_iff_eq.mpr c9;clear c9
      by_cases c10:pU<(l4.length:Int)
      ·rw [if_pos c10] at H
       have OJ:decide (pU<(l4.length:Int))=true:=decide_eq_true c10;clear c10
       by_cases c11:0<=((aC l3 pU).f1)
       ·rw [if_pos c11] at H
        have qdp:decide (0<=((aC l3 pU).f1))=true:=decide_eq_true c11;clear c11
        by_cases c12:((aC l3 pU).f1)<(l2.length:Int)
        ·rw [if_pos c12] at H
         have qlm:decide (((aC l3 pU).f1)<(l2.length:Int))=true:=decide_eq_true c12;clear c12;have H':=aj.mk H;clear H;have qqn:0<=(pU:Int):=of_decide_eq_true tA;have qqo:pU<(l3.length:Int):=of_decide_eq_true tA;obtain ⟨qt7,quL,qj6,qj7,qkb,qkd⟩:=lC HR3.out pU qqn qqo
         cases quL
         replace qj6:=dz HB qj6;replace qj7:=dz HB qj7;replace qkb:=dz HB qkb;replace qkd:=dz HB qkd;replace qqn:=eq_true qqn;replace qqo:=eq_true qqo;have quM:0<=(pU:Int):=of_decide_eq_true tA;have quN:pU<(l4.length:Int):=of_decide_eq_true tA;obtain ⟨qzn,qxZ,qrc⟩:=Kd.iE HR4.out pU quM quN
         cases qxZ
         replace qrc:=dz HB qrc;replace quM:=eq_true quM;replace quN:=eq_true quN;have quO:0<=(pU:Int):=of_decide_eq_true tA;have quP:pU<(l3.length:Int):=of_decide_eq_true tA;obtain ⟨qv1,qx0,qrd,qre,qrf,qrg⟩:=lC HR3.out pU quO quP;obtain rfl:qt7=qv1:=(by injection qx0);replace qrd:=dz HB qrd;replace qre:=dz HB qre;replace qrf:=dz HB qrf;replace qrg:=dz HB qrg;replace quO:=eq_true quO;replace quP:=eq_true quP;have quQ:0<=(((aC l3 pU).f1):Int):=of_decide_eq_true tA;have quR:((aC l3 pU).f1)<(l2.length:Int):=of_decide_eq_true tA;obtain ⟨qzo,qx1,qrh⟩:=Kd.iE HR2.out ((aC l3 pU).f1) quQ quR
         cases qx1
         replace qrh:=dz HB qrh;replace quQ:=eq_true quQ;replace quR:=eq_true quR
         go_wp2
         repeat (go_quiet (fail);try go_wp2)
         go_roundg k1
         case measure=>have:=qg.out;omega
         case rel=>exact ⟨(wrap64 (yP+(wrap64 ((rd l4 pU)*(rd l2 ((aC l3 pU).f1)))))),(wrap64 (pU+1)),tS,tS,H',⟨by have:=qg.out;omega⟩,⟨(qB2 qpP)⟩,⟨tB⟩⟩
        ·rw [if_neg c12] at H
         exact absurd H (by simp)
       ·rw [if_neg c11] at H
        exact absurd H (by simp)
      ·rw [if_neg c10] at H
       exact absurd H (by simp)
     ·rw [if_neg c9] at H
      have Q9:(((aC l3 pU).f0) == a1)=false:=beq_eq_false_iff_ne.mpr c9;have qxY:(((aC l3 pU).f0) != a1)=true:=bne_iff_ne.mpr c9;have H':=aj.mk H;clear H;have qqn:0<=(pU:Int):=of_decide_eq_true tA;have qqo:pU<(l3.length:Int):=of_decide_eq_true tA;obtain ⟨qt7,quL,qj6,qj7,qkb,qkd⟩:=lC HR3.out pU qqn qqo
      cases quL
      replace qj6:=dz HB qj6;replace qj7:=dz HB qj7;replace qkb:=dz HB qkb;replace qkd:=dz HB qkd;replace qqn:=eq_true qqn;replace qqo:=eq_true qqo
      go_wp2
      repeat (go_quiet (fail);try go_wp2)
      go_roundg k1
      case measure=>have:=qg.out;omega
      case rel=>exact ⟨(yP),(wrap64 (pU+1)),tS,tS,H',⟨by have:=qg.out;omega⟩,⟨(qB2 qpP)⟩,⟨tB⟩⟩
    ·rw [if_neg c8] at H
     exact absurd H (by simp)
   ·rw [if_neg c7] at H
    have yL:decide (pU<(l3.length:Int))=false:=decide_eq_false c7;clear c7
    by_cases c13:0<=a1
    ·rw [if_pos c13] at H
     have qln:decide (0<=a1)=true:=decide_eq_true c13;clear c13
     by_cases c14:a1<(av.length:Int)
     ·rw [if_pos c14] at H
      have qdX:decide (a1<(av.length:Int))=true:=decide_eq_true c14;clear c14;obtain ⟨qv2,qri⟩:∃ j_:Int,(mn yP ((aX av a1).f1))=j_:=⟨_,rfl⟩
      replace H:(some qv2)=some r:=by first|(rw [qri] at H;exact H)|(simp only [qri] at H ⊢;exact H)
      have qx2:(if ((aX av a1).f1)<yP then ((aX av a1).f1) else yP)=qv2:=qri;obtain rfl:=Option.some.inj H;have Ae:=bc1 qpP;have Af:=bf qpP 0;have quS:0<=(a1:Int):=of_decide_eq_true tA;have quT:a1<(av.length:Int):=of_decide_eq_true tA;obtain ⟨qzp,qx3,qx4,qx5,qrj,qrk,qrl,qrm⟩:=jd dM.out a1 quS quT
      cases qx5
      replace qrj:=dz HB qrj;replace qrk:=dz HB qrk;have qxt:=aj.mk qrm;have qxu:=aj.mk qrl;clear qrm qrl;replace quS:=eq_true quS;replace quT:=eq_true quT
      go_wp2
      repeat (go_quiet (fail);try go_wp2)
      go_ret
      exact ⟨by first|rfl|(simp [ow,oz]<;>rfl)|(simp only [← qri];first|rfl|(simp [ow,oz]<;>rfl))|(simp [*,ow,oz]<;>rfl),tB⟩
     ·rw [if_neg c14] at H
      exact absurd H (by simp)
    ·rw [if_neg c13] at H
     exact absurd H (by simp)
end Go.Proofs.YtnpfbjnjdngkhaaGreatDoor.P
namespace Go.Proofs.YtnpfbjnjdngkhaaGreatDoor.P
open Go.RowKit Go.Proofs.YtnpfbjnjdngkhaaGreatDoorW.aQ Go.Proofs.YtnpfbjnjdngkhaaGreatDoorW.bO Go.Proofs.YtnpfbjnjdngkhaaGreatDoorW.bT
theorem qr3 (l:List bB) (hl:l.length<=1000):∀ (m k i:Nat) (acc:List bQ),i+m=l.length->m<k->acc.length=i->qbS.l0 k l acc (i:Int)=some (acc++(l.drop i).map bB.f2):=by
 intro m
 induction m with
 | zero =>
  intro k i acc hi hk ha;obtain ⟨k,rfl⟩:∃ k',k=k'+1:=⟨k - 1,by omega⟩;rw [qbS.l0,if_neg (by omega),List.drop_eq_nil_of_le (by omega)];simp
 | succ m ih =>
  intro k i acc hi hk ha;obtain ⟨k,rfl⟩:∃ k',k=k'+1:=⟨k - 1,by omega⟩
  have hil:i<l.length:=by omega
  rw [qbS.l0,if_pos (by omega),if_pos (by omega),if_pos (by omega),QJ (by omega),ih k (i+1) _ (by omega) (by omega) (by simp;omega),qfw hil,List.drop_eq_getElem_cons hil];simp only [List.append_assoc,List.map_cons,List.singleton_append]
theorem qsT {k:Nat} {l:List bB} (hl:l.length<=1000) (hk:l.length<k):qbS.f k l=some (l.map bB.f2):=by
 have:=qr3 l hl l.length k 0 [] (by omega) hk rfl
 simpa [qbS.f] using this
theorem qrI (h:List bI) (d:Int) (takes hours:List Int) (l:List bB) (hd:0<=d∧d<h.length) (hl:l.length<=1000) (hh:hours.length=l.length) (hb:∀ x∈hours,0<=x∧x<=1000) (ht:∀ x∈takes,0<=x∧x<=1000)
  (Zo:∀ b∈l,b.f0=d->0<=b.f1∧b.f1<takes.length):∀ (m k i:Nat) (acc:Int),i+m=l.length->m<k->0<=acc∧acc<=i*1000000 ->
  qbf.l0 k d takes l hours acc (i:Int) h=some (min (aX h d).f1 (acc+(yR d takes (l.drop i) (hours.drop i)).sum)):=by
 intro m
 induction m with
 | zero =>
  intro k i acc hi hk ha;obtain ⟨k,rfl⟩:∃ k',k=k'+1:=⟨k - 1,by omega⟩;rw [qbf.l0,if_neg (by omega),if_pos hd.1,if_pos hd.2,List.drop_eq_nil_of_le (by omega)];simp [yR,TW,Int.min_comm]
 | succ m ih =>
  intro k i acc hi hk ha;obtain ⟨k,rfl⟩:∃ k',k=k'+1:=⟨k - 1,by omega⟩
  have hil:i<l.length:=by omega
  have h1:=hb (hours[i]'(by omega)) (List.getElem_mem _);rw [qbf.l0,if_pos (by omega),if_pos (by omega),qfw hil,QJ (by omega)];rw [List.drop_eq_getElem_cons hil,List.drop_eq_getElem_cons (show i<hours.length by omega),yR]
  by_cases he:l[i].f0=d
  ·have h2:=Zo _ (List.getElem_mem _) he
   have h3:=Ki ht (by decide) l[i].f1;have h4:=Int.mul_nonneg h1.1 h3.1;have h5:=Int.mul_le_mul h1.2 h3.2 h3.1 (by decide);rw [if_pos he,if_pos (by omega),if_pos h2.1,if_pos h2.2,sZ (by omega),Br (x:=hours[i]*rd takes l[i].f1) (by omega) (by omega),if_pos he,Br (by omega) (by omega)];rw [ih k (i+1) _ (by omega) (by omega) (by omega),List.sum_cons,Int.add_assoc]
  ·rw [if_neg he,if_neg he,ih k (i+1) _ (by omega) (by omega) (by omega)]
theorem qr4 {k:Nat} {h:List bI} {d:Int} {takes hours:List Int} {l:List bB} (hd:0<=d∧d<h.length) (hl:l.length<=1000) (hh:hours.length=l.length) (hb:∀ x∈hours,0<=x∧x<=1000) (ht:∀ x∈takes,0<=x∧x<=1000)
  (Zo:∀ b∈l,b.f0=d->0<=b.f1∧b.f1<takes.length) (hk:l.length<k):qbf.f k h d takes l hours=some (tq (aX h d).f1 d takes l hours):=by
 have:=qrI h d takes hours l hd hl hh hb ht Zo l.length k 0 0 (by omega) hk ⟨Int.le_refl _,by omega⟩
 simpa [qbf.f,tq] using this
def InL:List bQ->List Int->Prop
 | [],[]=>True
 | s::r,x::xs=>(s.f0<=x∧x<=s.f1)∧InL r xs
 | _,_=>False
theorem qeb:∀ {ls:List bQ} {xs:List Int},xs∈lD ls↔InL ls xs
 | [],[]=>by simp [lD,InL]
 | [],x::xs=>by simp [lD,InL]
 | s::r,[]=>by simp [lD,InL]
 | s::r,x::xs=>by
  rw [InL,← qeb (ls:=r) (xs:=xs),lD,List.mem_flatMap]
  constructor
  ·rintro ⟨n,hn,hx⟩
   obtain ⟨y,hy,e⟩:=List.mem_map.1 hx
   injection e with e1 e2
   subst e1 e2;exact ⟨WT hn,hy⟩
  ·rintro ⟨h,hy⟩
   exact ⟨x,Po h.1 h.2,List.mem_map.2 ⟨xs,hy,rfl⟩⟩
theorem InL.len:∀ {ls:List bQ} {xs:List Int},InL ls xs->xs.length=ls.length
 | [],[],_=>rfl
 | [],_::_,h=>h.elim
 | _::_,[],h=>h.elim
 | _::_,_::_,h=>by simp [InL.len h.2]
def qhA (l:List bB) (d:Int):List bQ:=l.map fun b=>if b.f0=d then b.f2 else ⟨0,0⟩
theorem qoS (b:bB) (l:List bB) (d:Int):ownB (b::l) d=if b.f0=d then b::ownB l d else ownB l d:=by
 unfold ownB
 rw [List.filter_cons]
 by_cases h:b.f0=d<;>simp [h]
theorem qnB {d:Int}:∀ {l:List bB} {hours:List Int},InL (qhA l d) hours->∃ hs,InL ((ownB l d).map bB.f2) hs∧∀ takes,yR d takes l hours=yR d takes (ownB l d) hs
 | [],[],_=>⟨[],trivial,fun _=>rfl⟩
 | [],_::_,h=>h.elim
 | _::_,[],h=>h.elim
 | b::l,x::xs,h=>by
  obtain ⟨h1,h2⟩:((if b.f0=d then b.f2 else (⟨0,0⟩:bQ)).f0<=x∧x<=(if b.f0=d then b.f2 else (⟨0,0⟩:bQ)).f1)∧InL (qhA l d) xs:=h;obtain ⟨hs,i1,i2⟩:=qnB h2;rw [qoS]
  by_cases hb:b.f0=d
  ·rw [if_pos hb] at h1
   rw [if_pos hb];exact ⟨x::hs,⟨h1,i1⟩,fun takes=>by rw [yR,yR,if_pos hb,if_pos hb,i2]⟩
  ·rw [if_neg hb]
   exact ⟨hs,i1,fun takes=>by rw [yR,if_neg hb,i2]⟩
theorem qpa {d:Int}:∀ {l:List bB} {hs:List Int},InL ((ownB l d).map bB.f2) hs->∃ hours,InL (qhA l d) hours∧∀ takes,yR d takes l hours=yR d takes (ownB l d) hs
 | [],[],_=>⟨[],trivial,fun _=>rfl⟩
 | [],_::_,h=>h.elim
 | b::l,hs,h=>by
  rw [qoS] at h ⊢
  by_cases hb:b.f0=d
  ·rw [if_pos hb] at h ⊢
   cases hs with
   | nil=>exact h.elim
   | cons x xs =>
    obtain ⟨h1,h2⟩:(b.f2.f0<=x∧x<=b.f2.f1)∧InL ((ownB l d).map bB.f2) xs:=h;obtain ⟨hours,i1,i2⟩:=qpa h2;exact ⟨x::hours,⟨by simp only [if_pos hb];exact h1,i1⟩,fun takes=>by rw [yR,yR,if_pos hb,if_pos hb,i2]⟩
  ·rw [if_neg hb] at h ⊢
   obtain ⟨hours,i1,i2⟩:=qpa h;exact ⟨0::hours,⟨by simp only [if_neg hb];exact ⟨Int.le_refl _,Int.le_refl _⟩,i1⟩,fun takes=>by rw [yR,if_neg hb,i2]⟩
theorem qnC {d:Int} {t u:List Int}:∀ {l:List bB} {hours:List Int},(∀ b∈l,b.f0=d->rd t b.f1=rd u b.f1)->yR d t l hours=yR d u l hours
 | [],_,_=>by simp [yR]
 | b::l,[],_=>by simp [yR]
 | b::l,x::xs,h=>by
  have ih:=qnC (l:=l) (hours:=xs) fun q hq=>h q (List.mem_cons_of_mem _ hq)
  rw [yR,yR,ih]
  by_cases hb:b.f0=d
  ·rw [if_pos hb,if_pos hb,h b (List.mem_cons_self ..) hb]
  ·rw [if_neg hb,if_neg hb]
def qd7 (m:Nat->Bool):List bQ->Nat->List bQ
 | [],_=>[]
 | s::r,t=>(if m t then s else ⟨s.f0,s.f0⟩)::qd7 m r (t+1)
theorem qe7 (m:Nat->Bool):∀ (ts:List bQ) (i:Nat),(qd7 m ts i).length=ts.length
 | [],_=>rfl
 | s::r,i=>by simp [qd7,qe7 m r]
theorem qoT {m:Nat->Bool}:∀ {ts:List bQ} {i:Nat} {xs:List Int},(∀ s∈ts,s.f0<=s.f1)->InL (qd7 m ts i) xs->InL ts xs
 | [],_,[],_,_=>trivial
 | [],_,_::_,_,h=>h.elim
 | s::r,i,[],_,h=>h.elim
 | s::r,i,x::xs,hs,h=>by
  obtain ⟨h1,h2⟩:((if m i then s else (⟨s.f0,s.f0⟩:bQ)).f0<=x∧x<=(if m i then s else (⟨s.f0,s.f0⟩:bQ)).f1)∧InL (qd7 m r (i+1)) xs:=h;refine ⟨?_,qoT (fun q hq=>hs q (List.mem_cons_of_mem _ hq)) h2⟩;have:=hs s (List.mem_cons_self ..)
  by_cases hm:m i=true
  ·rw [if_pos hm] at h1
   exact h1
  ·rw [if_neg hm] at h1
   have h3:s.f0<=x:=h1.1;have h4:x<=s.f0:=h1.2
   omega
theorem qrn {m:Nat->Bool}:∀ {ts:List bQ} (i:Nat) {xs:List Int},InL ts xs->∃ ys,InL (qd7 m ts i) ys∧ys.length=xs.length∧∀ j,m (i+j)=true->ys[j]?=xs[j]?
 | [],_,[],_=>⟨[],trivial,rfl,fun _ _=>rfl⟩
 | [],_,_::_,h=>h.elim
 | s::r,i,[],h=>h.elim
 | s::r,i,x::xs,h=>by
  obtain ⟨h1,h2⟩:(s.f0<=x∧x<=s.f1)∧InL r xs:=h;obtain ⟨ys,i1,i2,i3⟩:=qrn (m:=m) (i+1) h2;refine ⟨(if m i then x else s.f0)::ys,⟨?_,i1⟩,by simp [i2],fun j hj=>?_⟩
  ·by_cases hm:m i=true
   ·rw [if_pos hm,if_pos hm]
    exact h1
   ·rw [if_neg hm,if_neg hm]
    exact ⟨Int.le_refl _,Int.le_refl _⟩
  ·cases j with
   | zero=>rw [if_pos (by simpa using hj)];rfl
   | succ j=>exact i3 j (by rw [← hj];congr 1;omega)
theorem InL.get:∀ {ls:List bQ} {xs:List Int},InL ls xs->∀ i,i<xs.length->(ls.map bQ.f0).getD i 0<=xs.getD i 0∧xs.getD i 0<=(ls.map bQ.f1).getD i 0
 | [],[],_,i,hi=>by simp at hi
 | [],_::_,h,_,_=>h.elim
 | _::_,[],h,_,_=>h.elim
 | s::r,x::xs,h,i,hi=>by
  cases i with
  | zero=>simpa using h.1
  | succ i=>simpa using InL.get h.2 i (by simpa using hi)
def qCx (S:List Int) (lo hi:Int):Prop:=(lo∈S∧∀ x∈S,lo<=x)∧(hi∈S∧∀ x∈S,x<=hi)
theorem qCx.congr {S T:List Int} {a b:Int} (h:qCx S a b) (e:∀ x,x∈S↔x∈T):qCx T a b :=
 ⟨⟨(e _).1 h.1.1,fun x hx=>h.1.2 x ((e x).2 hx)⟩,(e _).1 h.2.1,fun x hx=>h.2.2 x ((e x).2 hx)⟩
theorem qCx.add {S T:List Int} {a b c d:Int} (h:qCx S a b) (k:qCx T c d):qCx (S.flatMap fun n=>T.map fun m=>n+m) (a+c) (b+d):=by
 refine ⟨⟨List.mem_flatMap.2 ⟨a,h.1.1,List.mem_map.2 ⟨c,k.1.1,rfl⟩⟩,fun x hx=>?_⟩,List.mem_flatMap.2 ⟨b,h.2.1,List.mem_map.2 ⟨d,k.2.1,rfl⟩⟩,fun x hx=>?_⟩
 all_goals
  obtain ⟨n,hn,hx⟩:=List.mem_flatMap.1 hx;obtain ⟨m,hm,rfl⟩:=List.mem_map.1 hx;have h1:=h.1.2 n hn;have h2:=h.2.2 n hn;have h3:=k.1.2 m hm;have h4:=k.2.2 m hm
  omega
end Go.Proofs.YtnpfbjnjdngkhaaGreatDoor.P
namespace Go.Proofs.YtnpfbjnjdngkhaaGreatDoor.P
open Go.RowKit Go.Proofs.YtnpfbjnjdngkhaaGreatDoorW.aQ Go.Proofs.YtnpfbjnjdngkhaaGreatDoorW.bO Go.Proofs.YtnpfbjnjdngkhaaGreatDoorW.bT
attribute [local go_sem] eP eT fU fV dS dU eU eX
mutual
def qao.l0:Nat->List bQ->List (List Int)->Int->Option ((List (List Int)))
 | 0,_,_,_=>none
 | k+1,x0,x3,x4=>if x4<(x0.length:Int) then (qao.l1 k x0 x3 x4 ([]:List (List Int)) 0) else (some x3)
def qao.l1:Nat->List bQ->List (List Int)->Int->List (List Int)->Int->Option ((List (List Int)))
 | 0,_,_,_,_,_=>none
 | k+1,x0,x3,x4,x5,x6=>if x6<(x3.length:Int) then (if 0<=x4 then (if x4<(x0.length:Int) then (qao.l2 k x0 x3 x4 x5 x6 ((bH x0 x4).f0)) else (none)) else (none)) else (qao.l0 k x0 x5 (wrap64 (x4+1)))
def qao.l2:Nat->List bQ->List (List Int)->Int->List (List Int)->Int->Int->Option ((List (List Int)))
 | 0,_,_,_,_,_,_=>none
 | k+1,x0,x3,x4,x5,x6,x7=>if 0<=x4 then (if x4<(x0.length:Int) then (if x7<=((bH x0 x4).f1) then (if 0<=x6 then (if x6<(x3.length:Int) then (if ([]:List Int).length+(qct x3 x6).length<17592186044416 then ((some (([]:List Int)++(qct x3 x6):List Int)).bind fun qpQ=>(if qpQ.length<17592186044416 then (if x5.length<5864062014805 then (qao.l2 k x0 x3 x4 (x5++[(qpQ++[x7])]) x6 (wrap64 (x7+1))) else (none)) else (none))) else (none)) else (none)) else (none)) else (qao.l1 k x0 x3 x4 x5 (wrap64 (x6+1)))) else (none)) else (none)
end
def qao.f (k:Nat) (l0:List bQ):Option ((List (List Int))):=qao.l0 k l0 (([[]]:List (List Int))) 0
theorem qao.calls (k:Nat) (A0:Option Addr) (c0:Nat) (l0:List bQ) (r:List (List Int)) (w:World) (hr0:Kd.C jW w A0 l0.length l0) (hc0:l0.length<=c0) (h:qao.f k l0=some r) :
  Calls Tryz.prog 146 #[.slice A0 l0.length c0] w fun e w'=>∃ lM:Value,e=.returned (lM)∧Kd.S (Kd.slice 3 (Kd.int .i64)) 47 w' w.heap.size (fun _=>True) lM r∧Below w.heap.size w w':=by
 have Fp:=aj.mk hr0;have Zf:=aj.mk hc0;clear hr0 hc0;have HB:=aj.mk (Below.refl w.heap.size w);have H:(qao.l0 k l0 (([[]]:List (List Int))) 0)=some r:=h;clear h;obtain ⟨qv3,qpR⟩:∃ y_:List (List Int),y_=(([[]]:List (List Int))):=⟨_,rfl⟩
 replace H:(qao.l0 k l0 qv3 0)=some r:=by first|(rw [qpR];with_reducible exact H)|(have jr:=(Option.bind_some _ _).symm.trans H;rw [qpR];with_reducible exact jr)|(have jr:=(Option.bind_some _ _).symm.trans H;with_reducible exact jr)|with_reducible exact H|(rw [qpR];exact H)|exact H
 have qt8:=aj.mk qpR;clear qpR;have H':=aj.mk H;clear H
 go_enter Tryz.func146,Tryz.ntmps146
 go_wp2_with (first|((with_reducible refine au (N:=8) rfl ?_);refine Kd.qvY (Kd.slice 3 (Kd.int .i64)) _ 47 ?hg (N:=8) ?hd (xs:=([[]]:List (List Int))) (inner:=[.slice none 0 0]) (ok:=fun _=>True) (nE:=fun _=>True) ?hr ?hp (fun _ hk=>hk) trivial (Below.refl _ _) (Nat.le_refl _) (by simp) ?_;(case hd=>rfl);(case hg=>rfl);(case hr=>first|(go_simp;done)|(go_simp;rfl));(case hp=>exact (dh.one (show Kd.M (Kd.slice 3 (Kd.int .i64)) _ _ _ [] [.slice none 0 0] from ⟨_,rfl,Kd.mI _ _ _ _ _⟩) (dh.none _ _)));intro qAN w2 ho3 hb sS gV;clear sS gV;(first|rw [← qt8.out] at ho3|(simp only [Int.reduceToNat] at ho3;rw [← qt8.out] at ho3));have qv4:=aj.mk (Kd.qnm ho3 (bD tB));replace HB:=dL HB hb;clear hb ho3))
 go_loopg [3,4] k (fun kq v3 v4 w'=>∃ (dH:List (List Int)) (qcW:Int),v4=.int .i64 qcW∧aj (qao.l0 kq l0 dH qcW=some r)∧aj (kq<=k)∧aj (Kd.S (Kd.slice 3 (Kd.int .i64)) 47 w' w.heap.size (fun _=>True) v3 dH)∧aj (Below w.heap.size w w'))
 case atStart=>exact ⟨(qv3),(0),tS,H',⟨Nat.le_refl _⟩,⟨by (with_reducible repeat (first|apply Kd.qbk|apply Kd.qbm|apply Kd.qbT));exact qv4.out⟩,⟨tB⟩⟩
 case round =>
  clear H'
  try clear c1
  try clear p2
  obtain ⟨dH,qcW,rfl,HA,qg,qj,HB⟩:=hrel
  cases gk with
  | zero=>exact absurd HA.out (by simp [qao.l0])
  | succ k1 =>
   have H:=HA.out;clear HA;simp only [qao.l0] at H
   by_cases c4:qcW<(l0.length:Int)
   ·rw [if_pos c4] at H
    have pR:decide (qcW<(l0.length:Int))=true:=decide_eq_true c4;clear c4;have H':=aj.mk H;clear H
    go_wp2
    go_loopg [5,6] k1 (fun kq v5 v6 w'=>∃ (qr5:List (List Int)) (Rh:Int),v6=.int .i64 Rh∧aj (qao.l1 kq l0 dH qcW qr5 Rh=some r)∧aj (kq<=k1)∧aj (Kd.S (Kd.slice 3 (Kd.int .i64)) 47 w' w.heap.size (fun k_=>some k_≠(v5:Value).ownBlock) u3 dH)∧aj (Kd.S (Kd.slice 3 (Kd.int .i64)) 47 w' w.heap.size (fun k_=>some k_≠(u3:Value).ownBlock) v5 qr5)∧aj (Below w.heap.size w w'))
    case atStart=>exact ⟨(([]:List (List Int))),(0),tS,H',⟨Nat.le_refl _⟩,⟨by (with_reducible repeat (first|apply Kd.qbk|apply Kd.qbm|apply Kd.qbT));exact Kd.qeW qj.out (fun _ hk=>(by simp [Value.ownBlock]))⟩,⟨by first|exact Kd.wM _ _ _ _ _|exact Kd.wN _ _ _ _ _|exact Kd.wP _ _ _ _ _|exact Kd.wK _ _ _ _ _|exact Kd.mI _ _ _ _ _⟩,⟨tB⟩⟩
    case round =>
     clear H'
     try clear c1
     try clear p2
     try clear c4
     try clear pR
     try clear p2
     obtain ⟨qr5,Rh,rfl,HA,VO,qj,CP,HB⟩:=hrel
     cases gk with
     | zero=>exact absurd HA.out (by simp [qao.l1])
     | succ k2 =>
      have H:=HA.out;clear HA;simp only [qao.l1] at H
      by_cases c5:Rh<(dH.length:Int)
      ·rw [if_pos c5] at H
       have zC:decide (Rh<(dH.length:Int))=true:=decide_eq_true c5;clear c5
       by_cases c6:0<=qcW
       ·rw [if_pos c6] at H
        have GV:decide (0<=qcW)=true:=decide_eq_true c6;clear c6
        by_cases c7:qcW<(l0.length:Int)
        ·rw [if_pos c7] at H
         have yL:decide (qcW<(l0.length:Int))=true:=decide_eq_true c7;clear c7;have H':=aj.mk H;clear H;obtain ⟨Ao8,co8,eo8⟩:=Kd.qhD qj.out;subst eo8;have qsU:0<=(qcW:Int):=of_decide_eq_true tA;have qsV:qcW<(l0.length:Int):=of_decide_eq_true tA;obtain ⟨qub,qx6,qpb,qpc⟩:=nI Fp.out qcW qsU qsV
         cases qx6
         replace qpb:=dz HB qpb;replace qpc:=dz HB qpc;replace qsU:=eq_true qsU;replace qsV:=eq_true qsV
         go_wp2
         go_loopg [5,7] k2 (fun kq v5 v7 w'=>∃ (qnD:List (List Int)) (qkg:Int),v7=.int .i64 qkg∧aj (qao.l2 kq l0 dH qcW qnD Rh qkg=some r)∧aj (kq<=k2)∧aj (Kd.S (Kd.slice 3 (Kd.int .i64)) 47 w' w.heap.size (fun k_=>some k_≠(v5:Value).ownBlock) (.slice Ao8 dH.length co8) dH)∧aj (Kd.S (Kd.slice 3 (Kd.int .i64)) 47 w' w.heap.size (fun k_=>some k_≠((.slice Ao8 dH.length co8):Value).ownBlock) v5 qnD)∧aj (Below w.heap.size w w'))
         case atStart=>exact ⟨(qr5),((bH l0 qcW).f0),tS,H',⟨Nat.le_refl _⟩,⟨by (with_reducible repeat (first|apply Kd.qbk|apply Kd.qbm|apply Kd.qbT));exact qj.out⟩,⟨by (with_reducible repeat (first|apply Kd.qbk|apply Kd.qbm|apply Kd.qbT));exact CP.out⟩,⟨tB⟩⟩
         case round =>
          clear H'
          try clear c1
          try clear p2
          try clear c4
          try clear pR
          try clear c5
          try clear zC
          try clear c6
          try clear GV
          try clear p6
          try clear q6
          try clear hx6
          try clear c7
          try clear yL
          try clear qpb
          try clear qpc
          try clear p2
          try clear qsU
          try clear qsV
          obtain ⟨qnD,qkg,rfl,HA,HK3,qj,CP,HB⟩:=hrel
          cases gk with
          | zero=>exact absurd HA.out (by simp [qao.l2])
          | succ k3 =>
           have H:=HA.out;clear HA;simp only [qao.l2] at H
           by_cases c9:0<=qcW
           ·rw [if_pos c9] at H
            have Q9:decide (0<=qcW)=true:=decide_eq_true c9;clear c9
            by_cases c10:qcW<(l0.length:Int)
            ·rw [if_pos c10] at H
             have OJ:decide (qcW<(l0.length:Int))=true:=decide_eq_true c10;clear c10
             by_cases c11:qkg<=((bH l0 qcW).f1)
             ·rw [if_pos c11] at H
              have qdp:decide (qkg<=((bH l0 qcW).f1))=true:=decide_eq_true c11;clear c11
              by_cases c12:0<=Rh
              ·rw [if_pos c12] at H
               have qlm:decide (0<=Rh)=true:=decide_eq_true c12;clear c12
               by_cases c13:Rh<(dH.length:Int)
               ·rw [if_pos c13] at H
                have qln:decide (Rh<(dH.length:Int))=true:=decide_eq_true c13;clear c13
                by_cases c14:([]:List Int).length+(qct dH Rh).length<17592186044416
                ·rw [if_pos c14] at H
                 have qdq:=aj.mk c14;clear c14;obtain ⟨qpQ,qpS⟩:∃ y_:List Int,y_=(([]:List Int)++(qct dH Rh)):=⟨_,rfl⟩
                 replace H:(if qpQ.length<17592186044416 then (if qnD.length<5864062014805 then (qao.l2 k3 l0 dH qcW (qnD++[(qpQ++[qkg])]) Rh (wrap64 (qkg+1))) else (none)) else (none))=some r:=by first|(rw [qpS];with_reducible exact H)|(have jr:=(Option.bind_some _ _).symm.trans H;rw [qpS];with_reducible exact jr)|(have jr:=(Option.bind_some _ _).symm.trans H;with_reducible exact jr)|with_reducible exact H|(rw [qpS];exact H)|exact H
                 have qv5:=aj.mk qpS;clear qpS
                 by_cases c15:qpQ.length<17592186044416
                 ·rw [if_pos c15] at H
                  have qv6:=aj.mk c15;clear c15;obtain ⟨qqp,qpT⟩:∃ y_:List Int,y_=(qpQ++[qkg]):=⟨_,rfl⟩
                  replace H:(if qnD.length<5864062014805 then (qao.l2 k3 l0 dH qcW (qnD++[qqp]) Rh (wrap64 (qkg+1))) else (none))=some r:=by first|(rw [qpT];with_reducible exact H)|(have jr:=(Option.bind_some _ _).symm.trans H;rw [qpT];with_reducible exact jr)|(have jr:=(Option.bind_some _ _).symm.trans H;with_reducible exact jr)|with_reducible exact H|(rw [qpT];exact H)|exact H
                  have qv7:=aj.mk qpT;clear qpT
                  by_cases c16:qnD.length<5864062014805
                  ·rw [if_pos c16] at H
                   have qv8:=aj.mk c16;clear c16;obtain ⟨qv9,qpU⟩:∃ y_:List (List Int),y_=(qnD++[qqp]):=⟨_,rfl⟩
                   replace H:(qao.l2 k3 l0 dH qcW qv9 Rh (wrap64 (qkg+1)))=some r:=by first|(rw [qpU];with_reducible exact H)|(have jr:=(Option.bind_some _ _).symm.trans H;rw [qpU];with_reducible exact jr)|(have jr:=(Option.bind_some _ _).symm.trans H;with_reducible exact jr)|with_reducible exact H|(rw [qpU];exact H)|exact H
                   have qwa:=aj.mk qpU;clear qpU;have H':=aj.mk H;clear H;have qqq:0<=(qcW:Int):=of_decide_eq_true tA;have qqr:qcW<(l0.length:Int):=of_decide_eq_true tA;obtain ⟨qr6,quU,qkj,qkk⟩:=nI Fp.out qcW qqq qqr;obtain rfl:qub=qr6:=(by injection quU);replace qkj:=dz HB qkj;replace qkk:=dz HB qkk;replace qqq:=eq_true qqq;replace qqr:=eq_true qqr;have qsW:0<=(Rh:Int):=of_decide_eq_true tA;have qsX:Rh<(dH.length:Int):=of_decide_eq_true tA;obtain ⟨qoU,qqs,qqt,qx7,qsY,qro,qrp⟩:=qj5 (Kd.qcU qj.out).2.2 Rh qsW qsX
                   cases qx7
                   obtain ⟨qzr,quV,quW,qr7⟩:=Kd.qj3 qj.out [] Rh qsW (by first|exact qsX|exact of_decide_eq_true tA|(have e_:=(Kd.qcU qj.out).1;omega));obtain ⟨qxv,rfl,qpd⟩:=quW;have qkl:=qr7 0 _ rfl;rw [Nat.add_zero,show ((Kd.slice 3 (Kd.int .i64))).sz=1 from rfl,Nat.mul_one] at qkl;replace qkl:=Option.some.inj (qkl.symm.trans qsY);rw [qkl] at qpd;have qko:=aj.mk (show Kd.R (Kd.int .i64) 3 _ _ _ _ (qct dH Rh) from qpd);clear qkl qpd;clear qr7 quV;have qrq:=aj.mk qrp;have qxw:=aj.mk qro;clear qrp qro;replace qsW:=eq_true qsW;replace qsX:=eq_true qsX
                   go_wp2_with (first|((with_reducible refine eY (b:=.append) (xs:=#[.const (.slice none 0 0),.tmp 39]) rfl ?_);at_builtin;refine Kd.uM (Kd.int .i64) (w0:=w) w.heap.size rfl (.const (.slice none 0 0)) (.tmp 39) 47 3 (.int .i64 0) 8 rfl Tryz.underlying47 info3 rfl (by decide) (by omega) (.slice none 0 0) ([]:List Int) (qct dH Rh) _ _ _ (fun k_=>some k_≠(.slice qqs (qct dH Rh).length qqt:Value).ownBlock) (fun _=>False) rfl rfl ?aO ?aR (fun _ _ h=>h) (fun _ h=>h.elim) ?aF ?aB ?aS ?aL ?_;(case aR=>repeat (first|exact (by repeat (first|(with_reducible exact qrq.out)|(with_reducible refine Kd.bM ?_ _)|(with_reducible refine Kd.bN ?_ _)|(with_reducible refine Kd.cO ?_)|exact qrq.out))|(with_reducible refine Kd.bM ?_ _)|(with_reducible refine Kd.bN ?_ _)|(with_reducible refine Kd.cO ?_)));(case aB=>exact tB);(case aF=>exact (fun k_ hk=>Kd.fresh' (Kd.vR (qCo qko)) k_ hk));(case aO=>exact ((Kd.mI _ _ _ _ (fun k_=>some k_≠(.slice qqs (qct dH Rh).length qqt:Value).ownBlock))));(case aS=>exact (bD tB));(case aL=>have:=qdq.out;omega);intro qx8 w17 ho hb hg hat;rw [← qv5.out] at ho;replace qj:=aj.mk (Kd.qiE (Kd.qmI (by (with_reducible repeat (first|apply Kd.qbk|apply Kd.qbm|apply Kd.qbT));exact qj.out)) hg hat);replace CP:=aj.mk (Kd.qiE (Kd.qmI (by (with_reducible repeat (first|apply Kd.qbk|apply Kd.qbm|apply Kd.qbT));exact CP.out)) hg hat);replace qko:=aj.mk (Kd.VX (Kd.qpN (qCo qko)) hg hat);replace HB:=aj.mk (hb);have qwb:=aj.mk (ho);clear ho hb hg hat)|((with_reducible refine eY (b:=.append) (xs:=#[.tmp 40,.tmp 42]) rfl ?_);at_builtin;refine Kd.sO (Kd.int .i64) (w0:=w) w.heap.size rfl (.tmp 40) (.tmp 42) 47 3 (.int .i64 0) 8 rfl Tryz.underlying47 info3 rfl (by decide) (by omega) qx8 qpQ qkg [.int .i64 qkg] (fun k_=>some k_≠(.slice qqs (qct dH Rh).length qqt:Value).ownBlock) (fun _=>False) rfl rfl ?aP (fun _ hk=>hk.elim) ?aF ?aO ?aB ?aS ?aL ?_;(case aP=>exact rfl);(case aB=>exact tB);(case aF=>exact (fun k_ hk=>Kd.fresh' (Kd.vR (qCo qko)) k_ hk));(case aO=>exact (qCo qwb));(case aS=>exact (bD tB));(case aL=>have:=qv6.out;omega);intro qAQ VN ho hb hg hat;rw [← qv7.out] at ho;replace qj:=aj.mk (Kd.qiE (ok:=(fun k_=>some k_≠(u5:Value).ownBlock)) (by (with_reducible repeat (first|apply Kd.qbk|apply Kd.qbm|apply Kd.qbT));exact qj.out) hg hat);replace CP:=aj.mk (Kd.qiE (ok:=(fun k_=>some k_≠(.slice (some qoU) dH.length co8:Value).ownBlock)) (by (with_reducible repeat (first|apply Kd.qbk|apply Kd.qbm|apply Kd.qbT));exact CP.out) hg hat);replace qko:=aj.mk (Kd.VX (ok:=(fun k_=>some k_≠(.slice (some qoU) dH.length co8:Value).ownBlock∧some k_≠(u5:Value).ownBlock)) (by (with_reducible repeat (first|apply Kd.kY|apply Kd.kZ|apply Kd.mJ));exact Kd.gq qko.out (fun _ hk=>⟨⟨hk.1.2,hk.1.1⟩,hk.2⟩)) hg hat);replace HB:=aj.mk (hb);have qrr:=aj.mk (ho);clear qwb;clear ho hb hg hat;obtain ⟨qsZ,qs0,qx9⟩:=Kd.jc qrr.out;subst qx9)|((with_reducible refine eY (b:=.append) (xs:=#[.tmp 35,.tmp 44]) rfl ?_);at_builtin;refine Kd.qr1 (Kd.slice 3 (Kd.int .i64)) (w0:=w) w.heap.size rfl (.tmp 35) (.tmp 44) 124 47 (.slice none 0 0) 24 rfl Tryz.underlying124 quI rfl (by decide) (by omega) u5 qnD qqp [.slice qsZ qqp.length qs0] (fun k_=>some k_≠(.slice (some qoU) dH.length co8:Value).ownBlock) (fun k_=>some k_=(.slice qsZ qqp.length qs0:Value).ownBlock) rfl rfl ?aP (fun k_ hk_=>((Kd.gq (ok':=fun k_=>((fun k_=>some k_≠(.slice (some qoU) dH.length co8:Value).ownBlock)) k_∧some k_≠(u5:Value).ownBlock) (Kd.qj2 (Kd.qj2 (qrr.out) (Kd.qnn qj.out) (by decide)) (Kd.qnn CP.out) (by decide)) (fun k_ hk=>⟨hk.1.2,hk.2⟩))).1 k_ hk_.symm) ?aF ?aO ?aB ?aS ?aL ?_;(case aP=>exact Kd.qvT (Kd.gq (Kd.Gy rfl (Kd.gq (ok':=fun k_=>((fun k_=>some k_≠(.slice (some qoU) dH.length co8:Value).ownBlock)) k_∧some k_≠(u5:Value).ownBlock) (Kd.qj2 (Kd.qj2 (qrr.out) (Kd.qnn qj.out) (by decide)) (Kd.qnn CP.out) (by decide)) (fun k_ hk=>⟨hk.1.2,hk.2⟩))) (fun _ h_=>h_)));(case aB=>exact tB);(case aF=>exact (fun k_ hk=>Kd.fresh' (Kd.qsS (by (with_reducible repeat (first|apply Kd.qbk|apply Kd.qbm|apply Kd.qbT));exact qj.out)) k_ hk));(case aO=>exact (by (with_reducible repeat (first|apply Kd.qbk|apply Kd.qbm|apply Kd.qbT));exact Kd.qeW CP.out (fun k_ hk=>⟨hk.1,fun e_=>hk.2 e_⟩)));(case aS=>exact (bD tB));(case aL=>have:=qv8.out;omega);intro qAS w19 ho hb hg hat;rw [← qwa.out] at ho;replace qj:=aj.mk (Kd.qiE (ok:=(fun k_=>some k_≠(.slice qsZ qqp.length qs0:Value).ownBlock)) (by (with_reducible repeat (first|apply Kd.qbk|apply Kd.qbm|apply Kd.qbT));exact Kd.qeW qj.out (fun _ hk=>⟨hk.2,hk.1⟩)) hg hat);replace qko:=aj.mk (Kd.VX (ok:=(fun k_=>some k_≠(.slice (some qoU) dH.length co8:Value).ownBlock∧some k_≠(.slice qsZ qqp.length qs0:Value).ownBlock)) (by (with_reducible repeat (first|apply Kd.kY|apply Kd.kZ|apply Kd.mJ));exact Kd.gq qko.out (fun _ hk=>⟨⟨hk.1.1,hk.2⟩,hk.1.2⟩)) hg hat);replace HB:=aj.mk (hb);have qwc:=aj.mk (ho);clear CP qrr;clear ho hb hg hat))
                   go_roundg k3
                   case measure=>have:=qg.out;have:=VO.out;have:=HK3.out;omega
                   case rel=>exact ⟨(qv9),(wrap64 (qkg+1)),tS,H',⟨by have:=qg.out;have:=VO.out;have:=HK3.out;omega⟩,⟨by (with_reducible repeat (first|apply Kd.qbk|apply Kd.qbm|apply Kd.qbT));exact Kd.qeW qj.out (fun _ hk=>hk.2)⟩,⟨by (with_reducible repeat (first|apply Kd.qbk|apply Kd.qbm|apply Kd.qbT));exact qwc.out⟩,⟨tB⟩⟩
                  ·rw [if_neg c16] at H
                   exact absurd H (by simp)
                 ·rw [if_neg c15] at H
                  exact absurd H (by simp)
                ·rw [if_neg c14] at H
                 exact absurd H (by simp)
               ·rw [if_neg c13] at H
                exact absurd H (by simp)
              ·rw [if_neg c12] at H
               exact absurd H (by simp)
             ·rw [if_neg c11] at H
              have qdp:decide (qkg<=((bH l0 qcW).f1))=false:=decide_eq_false c11;clear c11;have H':=aj.mk H;clear H;have qqq:0<=(qcW:Int):=of_decide_eq_true tA;have qqr:qcW<(l0.length:Int):=of_decide_eq_true tA;obtain ⟨qr6,quU,qkj,qkk⟩:=nI Fp.out qcW qqq qqr;obtain rfl:qub=qr6:=(by injection quU);replace qkj:=dz HB qkj;replace qkk:=dz HB qkk;replace qqq:=eq_true qqq;replace qqr:=eq_true qqr
              go_wp2
              go_roundg k3
              case measure=>have:=qg.out;have:=VO.out;have:=HK3.out;omega
              case rel=>exact ⟨(qnD),(wrap64 (Rh+1)),tS,H',⟨by have:=qg.out;have:=VO.out;have:=HK3.out;omega⟩,⟨by (with_reducible repeat (first|apply Kd.qbk|apply Kd.qbm|apply Kd.qbT));exact qj.out⟩,⟨by (with_reducible repeat (first|apply Kd.qbk|apply Kd.qbm|apply Kd.qbT));exact CP.out⟩,⟨tB⟩⟩
            ·rw [if_neg c10] at H
             exact absurd H (by simp)
           ·rw [if_neg c9] at H
            exact absurd H (by simp)
        ·rw [if_neg c7] at H
         exact absurd H (by simp)
       ·rw [if_neg c6] at H
        exact absurd H (by simp)
      ·rw [if_neg c5] at H
       have zC:decide (Rh<(dH.length:Int))=false:=decide_eq_false c5;clear c5;have H':=aj.mk H;clear H;obtain ⟨qwd,qwe,quX⟩:=Kd.qhD qj.out;subst quX
       go_wp2
       go_roundg k2
       case measure=>have:=qg.out;have:=VO.out;omega
       case rel=>exact ⟨(qr5),(wrap64 (qcW+1)),tS,H',⟨by have:=qg.out;have:=VO.out;omega⟩,⟨by (with_reducible repeat (first|apply Kd.qbk|apply Kd.qbm|apply Kd.qbT));exact Kd.qeW CP.out (fun _ hk=>trivial)⟩,⟨tB⟩⟩
   ·rw [if_neg c4] at H
    have pR:decide (qcW<(l0.length:Int))=false:=decide_eq_false c4;clear c4;obtain rfl:=Option.some.inj H
    go_wp2
    go_ret
    exact ⟨_,tF,by (with_reducible repeat (first|apply Kd.qbk|apply Kd.qbm|apply Kd.qbT));exact qj.out,tB⟩
mutual
def qaO.l0:Nat->Int->List bQ->List bB->Int->Option ((List bQ))
 | 0,_,_,_,_=>none
 | k+1,x1,x9,x10,x11=>if x11<(x9.length:Int) then (qaO.l1 k x1 x9 x10 x11 false 0) else (some x9)
def qaO.l1:Nat->Int->List bQ->List bB->Int->Bool->Int->Option ((List bQ))
 | 0,_,_,_,_,_,_=>none
 | k+1,x1,x9,x10,x11,Gb,VQ=>if VQ<(x10.length:Int) then (if Gb=true then (qaO.l1 k x1 x9 x10 x11 true (wrap64 (VQ+1))) else (if 0<=VQ then (if ((aC x10 VQ).f0)=x1 then (qaO.l1 k x1 x9 x10 x11 (((aC x10 VQ).f1) == x11) (wrap64 (VQ+1))) else (qaO.l1 k x1 x9 x10 x11 false (wrap64 (VQ+1)))) else (none))) else (if Gb=true then (qaO.l0 k x1 x9 x10 (wrap64 (x11+1))) else (if 0<=x11 then (if x11<(x9.length:Int) then (qaO.l0 k x1 (x9.set (x11:Int).toNat (⟨(bH x9 x11).f0,(bH x9 x11).f0⟩:bQ)) x10 (wrap64 (x11+1))) else (none)) else (none)))
end
def qaO.f (k:Nat) (av:List bI) (a1:Int) (l2:List bB) (l3:List bB):Option ((List bQ)):=if 0<=a1 then (if a1<(av.length:Int) then (if ([]:List bQ).length+((aX av a1).f0).length<8796093022208 then (if ([]:List bB).length+l2.length<4398046511104 then ((some (([]:List bB)++l2:List bB)).bind fun qkR=>(if qkR.length+l3.length<4398046511104 then (qaO.l0 k a1 (([]:List bQ)++((aX av a1).f0)) (qkR++l3) 0) else (none))) else (none)) else (none)) else (none)) else (none)
theorem qaO.calls (k:Nat) (bC:Option Addr) (aZ:Nat) (av:List bI) (a1:Int) (A2:Option Addr) (c2:Nat) (l2:List bB) (A3:Option Addr) (c3:Nat) (l3:List bB) (r:List bQ) (w:World) (dw:Kd.C iG w bC av.length av) (dG:av.length<=aZ) (hr2:Kd.C eD w A2 l2.length l2) (hc2:l2.length<=c2) (hr3:Kd.C eD w A3 l3.length l3) (hc3:l3.length<=c3) (h:qaO.f k av a1 l2 l3=some r) :
  Calls Tryz.prog 212 #[.agg #[.slice bC av.length aZ],.int .i64 a1,.slice A2 l2.length c2,.slice A3 l3.length c3] w fun e w'=>∃ lM:Value,e=.returned (lM)∧Kd.R jW 37 w' w.heap.size (fun _=>True) lM r∧Below w.heap.size w w':=by
 have qb:=Tryz.underlying24;have dM:=aj.mk dw;have fu:=aj.mk dG;clear dw dG;have HR2:=aj.mk hr2;have HC2:=aj.mk hc2;clear hr2 hc2;have HR3:=aj.mk hr3;have R9:=aj.mk hc3;clear hr3 hc3;have HB:=aj.mk (Below.refl w.heap.size w);have H:(if 0<=a1 then (if a1<(av.length:Int) then (if ([]:List bQ).length+((aX av a1).f0).length<8796093022208 then (if ([]:List bB).length+l2.length<4398046511104 then ((some (([]:List bB)++l2:List bB)).bind fun qkR=>(if qkR.length+l3.length<4398046511104 then (qaO.l0 k a1 (([]:List bQ)++((aX av a1).f0)) (qkR++l3) 0) else (none))) else (none)) else (none)) else (none)) else (none))=some r:=h;clear h
 by_cases c5:0<=a1
 ·rw [if_pos c5] at H
  have zC:decide (0<=a1)=true:=decide_eq_true c5;clear c5
  by_cases c6:a1<(av.length:Int)
  ·rw [if_pos c6] at H
   have GV:decide (a1<(av.length:Int))=true:=decide_eq_true c6;clear c6
   by_cases c7:([]:List bQ).length+((aX av a1).f0).length<8796093022208
   ·rw [if_pos c7] at H
    have qya:=aj.mk c7;clear c7;obtain ⟨qs1,qpV⟩:∃ y_:List bQ,y_=(([]:List bQ)++((aX av a1).f0)):=⟨_,rfl⟩
    replace H:(if ([]:List bB).length+l2.length<4398046511104 then ((some (([]:List bB)++l2:List bB)).bind fun qkR=>(if qkR.length+l3.length<4398046511104 then (qaO.l0 k a1 qs1 (qkR++l3) 0) else (none))) else (none))=some r:=by first|(rw [qpV];with_reducible exact H)|(have jr:=(Option.bind_some _ _).symm.trans H;rw [qpV];with_reducible exact jr)|(have jr:=(Option.bind_some _ _).symm.trans H;with_reducible exact jr)|with_reducible exact H|(rw [qpV];exact H)|exact H
    have qwf:=aj.mk qpV;clear qpV
    by_cases c8:([]:List bB).length+l2.length<4398046511104
    ·rw [if_pos c8] at H
     have qyb:=aj.mk c8;clear c8;obtain ⟨qkR,qpW⟩:∃ y_:List bB,y_=(([]:List bB)++l2):=⟨_,rfl⟩
     replace H:(if qkR.length+l3.length<4398046511104 then (qaO.l0 k a1 qs1 (qkR++l3) 0) else (none))=some r:=by first|(rw [qpW];with_reducible exact H)|(have jr:=(Option.bind_some _ _).symm.trans H;rw [qpW];with_reducible exact jr)|(have jr:=(Option.bind_some _ _).symm.trans H;with_reducible exact jr)|with_reducible exact H|(rw [qpW];exact H)|exact H
     have qwg:=aj.mk qpW;clear qpW
     by_cases c9:qkR.length+l3.length<4398046511104
     ·rw [if_pos c9] at H
      have qjZ:=aj.mk c9;clear c9;obtain ⟨qiA,qpX⟩:∃ y_:List bB,y_=(qkR++l3):=⟨_,rfl⟩
      replace H:(qaO.l0 k a1 qs1 qiA 0)=some r:=by first|(rw [qpX];with_reducible exact H)|(have jr:=(Option.bind_some _ _).symm.trans H;rw [qpX];with_reducible exact jr)|(have jr:=(Option.bind_some _ _).symm.trans H;with_reducible exact jr)|with_reducible exact H|(rw [qpX];exact H)|exact H
      have qwh:=aj.mk qpX;clear qpX;have H':=aj.mk H;clear H
      go_enter Tryz.func212,Tryz.ntmps212
      go_wp2_with (first|((with_reducible refine au (N:=4) rfl ?_);refine ou ?hg (N:=4) ?hd (cs:=#[.slice bC av.length aZ]) (t:=24) ?hr ?_;(case hd=>rfl);(case hg=>rfl);(case hr=>first|(go_simp;done)|(go_simp;rfl));intro qoV hg Lr jX hb;have qjO:=aj.mk (jX);have qwi:=geS HB hg;have qwi:=geS HB hg;replace HB:=dL HB hb;clear hb jX hg;have yt:=bc1 qjO;have yu:=bf qjO 0;have qr8:0<=(a1:Int):=of_decide_eq_true tA;have qr9:a1<(av.length:Int):=of_decide_eq_true tA;obtain ⟨qoW,qyc,qyd,qye,qnr,qns,qrs,qrt⟩:=jd dM.out a1 qr8 qr9;cases qye;replace qnr:=dz HB qnr;replace qns:=dz HB qns;have qs2:=aj.mk qrt;have qxx:=aj.mk qrs;clear qrt qrs;replace qr8:=eq_true qr8;replace qr9:=eq_true qr9)|((with_reducible refine eY (b:=.append) (xs:=#[.const (.slice none 0 0),.tmp 19]) rfl ?_);at_builtin;refine Kd.uM jW (w0:=w) w.heap.size rfl (.const (.slice none 0 0)) (.tmp 19) 28 37 (.agg #[(.int .i64 0),(.int .i64 0)]) 16 rfl Tryz.underlying28 SQ rfl (by decide) (by omega) (.slice none 0 0) ([]:List bQ) ((aX av a1).f0) _ _ _ (fun _=>True) (fun _=>False) rfl rfl ?aO ?aR (fun _ _ h=>h) (fun _ h=>h.elim) ?aF ?aB ?aS ?aL ?_;(case aR=>repeat (first|exact (Kd.ak qs2.out HB.out)|(with_reducible refine Kd.bM ?_ _)|(with_reducible refine Kd.bN ?_ _)|(with_reducible refine Kd.cO ?_)));(case aB=>exact tB);(case aF=>exact (fun _ _=>trivial));(case aO=>exact ((Kd.mI _ _ _ _ (fun _=>True))));(case aS=>exact (bD tB));(case aL=>have:=qya.out;omega);intro qyf yO ho hb hg hat;rw [← qwf.out] at ho;replace qjO:=aj.mk (jF (g:=qoV) (o:=.cells #[.slice (some qoW) av.length aZ] 24 (0,0)) (qB2 qjO) hg (by simp [Value.ownBlock]));replace HB:=aj.mk (hb);have quc:=aj.mk (ho);clear ho hb hg hat)|((with_reducible refine eY (b:=.append) (xs:=#[.const (.slice none 0 0),.tmp 21]) rfl ?_);at_builtin;refine Kd.uM eD (w0:=w) w.heap.size rfl (.const (.slice none 0 0)) (.tmp 21) 25 154 (.agg #[(.int .i64 0),(.int .i64 0),(.int .i64 0),(.int .i64 0)]) 32 rfl Tryz.underlying25 C8 rfl (by decide) (by omega) (.slice none 0 0) ([]:List bB) l2 _ _ _ (fun _=>True) (fun _=>False) rfl rfl ?aO ?aR (fun _ _ h=>h) (fun _ h=>h.elim) ?aF ?aB ?aS ?aL ?_;(case aR=>repeat (first|exact (Kd.ak HR2.out HB.out)|(with_reducible refine Kd.bM ?_ _)|(with_reducible refine Kd.bN ?_ _)|(with_reducible refine Kd.cO ?_)));(case aB=>exact tB);(case aF=>exact (fun _ _=>trivial));(case aO=>exact ((Kd.mI _ _ _ _ (fun _=>True))));(case aS=>exact (bD tB));(case aL=>have:=qyb.out;omega);intro qyg w13 ho hb hg hat;rw [← qwg.out] at ho;replace qjO:=aj.mk (jF (g:=qoV) (o:=.cells #[.slice (some qoW) av.length aZ] 24 (0,0)) (qB2 qjO) hg (by simp [Value.ownBlock]));replace quc:=aj.mk (Kd.Oe (qCo quc) hg (fun _ _=>by simp [Value.ownBlock]));replace HB:=aj.mk (hb);have qud:=aj.mk (ho);clear ho hb hg hat)|((with_reducible refine eY (b:=.append) (xs:=#[.tmp 22,.tmp 23]) rfl ?_);at_builtin;refine Kd.uM eD (w0:=w) w.heap.size rfl (.tmp 22) (.tmp 23) 25 154 (.agg #[(.int .i64 0),(.int .i64 0),(.int .i64 0),(.int .i64 0)]) 32 rfl Tryz.underlying25 C8 rfl (by decide) (by omega) qyg qkR l3 _ _ _ (fun _=>True) (fun _=>False) rfl rfl ?aO ?aR (fun _ _ h=>h) (fun _ h=>h.elim) ?aF ?aB ?aS ?aL ?_;(case aR=>repeat (first|exact (Kd.ak HR3.out HB.out)|(with_reducible refine Kd.bM ?_ _)|(with_reducible refine Kd.bN ?_ _)|(with_reducible refine Kd.cO ?_)));(case aB=>exact tB);(case aF=>exact (fun _ _=>trivial));(case aO=>exact (qCo qud));(case aS=>exact (bD tB));(case aL=>have:=qjZ.out;omega);intro qwj R8 ho hb hg hat;rw [← qwh.out] at ho;replace qjO:=aj.mk (jF (g:=qoV) (o:=.cells #[.slice (some qoW) av.length aZ] 24 (0,0)) (qB2 qjO) hg (Kd.DZ qud.out qjO.out (by decide)));replace quc:=aj.mk (Kd.qcP (qCo quc) (Kd.qcD (qCo qud)) (by decide) hg);replace HB:=aj.mk (hb);have qzs:=aj.mk (ho);clear qud;clear ho hb hg hat))
      go_loopg [11] k (fun kq v11 w'=>∃ (qcs:List bQ) (yP:Int),v11=.int .i64 yP∧aj (qaO.l0 kq a1 qcs qiA yP=some r)∧aj (kq<=k)∧aj (Kd.R jW 37 w' w.heap.size (fun _=>True) qyf qcs)∧aj (Kd.R eD 154 w' w.heap.size (fun _=>True) qwj qiA)∧aj (w'.heap[qoV]?=some (.cells #[(.slice (some qoW) av.length aZ)] 24 (0,0)))∧aj (Below w.heap.size w w'))
      case atStart=>exact ⟨(qs1),(0),tS,H',⟨Nat.le_refl _⟩,⟨(qCo quc)⟩,⟨(qCo qzs)⟩,⟨(qB2 qjO)⟩,⟨tB⟩⟩
      case round =>
       clear H'
       try clear c2
       try clear p2
       try clear c3
       try clear c5
       try clear zC
       try clear c6
       try clear GV
       try clear p6
       try clear q6
       try clear hx6
       try clear c7
       try clear c8
       try clear c9
       try clear yt
       try clear yu
       try clear qnr
       try clear qns
       try clear qr8
       try clear qr9
       obtain ⟨qcs,yP,rfl,HA,qg,qcr,qcw,qjO,HB⟩:=hrel
       cases gk with
       | zero=>exact absurd HA.out (by simp [qaO.l0])
       | succ k1 =>
        have H:=HA.out;clear HA;simp only [qaO.l0] at H
        by_cases c15:yP<(qcs.length:Int)
        ·rw [if_pos c15] at H
         have qfu:decide (yP<(qcs.length:Int))=true:=decide_eq_true c15;clear c15;have H':=aj.mk H;clear H;obtain ⟨qa6,qa7,Tz⟩:=Kd.jc qcr.out;subst Tz
         go_wp2
         go_loopg [12,13] k1 (fun kq v12 v13 w'=>∃ (xC:Bool) (qcA:Int),v12=.bool xC∧v13=.int .i64 qcA∧aj (qaO.l1 kq a1 qcs qiA yP xC qcA=some r)∧aj (kq<=k1)∧aj (Kd.R jW 37 w' w.heap.size (fun _=>True) (.slice qa6 qcs.length qa7) qcs)∧aj (Kd.R eD 154 w' w.heap.size (fun _=>True) qwj qiA)∧aj (w'.heap[qoV]?=some (.cells #[(.slice (some qoW) av.length aZ)] 24 (0,0)))∧aj (Below w.heap.size w w'))
         case atStart=>exact ⟨(false),(0),tS,tS,H',⟨Nat.le_refl _⟩,⟨(qCo qcr)⟩,⟨(qCo qcw)⟩,⟨(qB2 qjO)⟩,⟨tB⟩⟩
         case round =>
          clear H'
          try clear c1
          try clear c2
          try clear p2
          try clear c3
          try clear c5
          try clear zC
          try clear c6
          try clear GV
          try clear p6
          try clear q6
          try clear hx6
          try clear c7
          try clear c8
          try clear c9
          try clear c15
          try clear qfu
          try clear yt
          try clear yu
          try clear qnr
          try clear qns
          try clear p2
          try clear p6
          try clear qr8
          try clear q6
          try clear qr9
          obtain ⟨xC,qcA,rfl,rfl,HA,VO,qcr,qcw,qjO,HB⟩:=hrel
          cases gk with
          | zero=>exact absurd HA.out (by simp [qaO.l1])
          | succ k2 =>
           have H:=HA.out;clear HA;simp only [qaO.l1] at H
           by_cases c17:qcA<(qiA.length:Int)
           ·rw [if_pos c17] at H
            have qoX:decide (qcA<(qiA.length:Int))=true:=decide_eq_true c17;clear c17
            by_cases c18:xC=true
            ·subst c18
             rw [if_pos rfl] at H;have H':=aj.mk H;clear H;obtain ⟨Fz,FB,qaB⟩:=Kd.jc qcw.out;subst qaB
             go_wp2
             go_roundg k2
             case measure=>have:=qg.out;have:=VO.out;omega
             case rel=>exact ⟨(true),(wrap64 (qcA+1)),tS,tS,H',⟨by have:=qg.out;have:=VO.out;omega⟩,⟨(qCo qcr)⟩,⟨(qCo qcw)⟩,⟨(qB2 qjO)⟩,⟨tB⟩⟩
            ·replace c18:=Bool.eq_false_iff.mpr c18
             subst c18
             have H1:(if 0<=qcA then (if ((aC qiA qcA).f0)=a1 then (qaO.l1 k2 a1 qcs qiA yP (((aC qiA qcA).f1) == yP) (wrap64 (qcA+1))) else (qaO.l1 k2 a1 qcs qiA yP false (wrap64 (qcA+1)))) else (none))=some r:=by rw [if_neg (show ¬ (false=true) by decide)] at H;exact H
             clear H;have H:=H1;clear H1
             by_cases c20:0<=qcA
             ·rw [if_pos c20] at H
              have qwk:decide (0<=qcA)=true:=decide_eq_true c20;clear c20
              by_cases c21:((aC qiA qcA).f0)=a1
              ·rw [if_pos c21] at H
               have que:(((aC qiA qcA).f0) == a1)=true:=beq_iff_eq.mpr c21;have qwl:(((aC qiA qcA).f0) != a1)=false:=bne_eq_false_iff_eq.mpr c21;clear c21;have H':=aj.mk H;clear H;obtain ⟨qcS,qcT,qiW⟩:=Kd.jc qcw.out;subst qiW;have qqu:0<=(qcA:Int):=of_decide_eq_true tA;have qqv:qcA<(qiA.length:Int):=of_decide_eq_true tA;obtain ⟨quf,quY,qs3,qs4,qs5,qs6⟩:=lC (Kd.eB qcw.out).2.2 qcA qqu qqv
               cases quY
               replace qqu:=eq_true qqu;replace qqv:=eq_true qqv;have quZ:0<=(qcA:Int):=of_decide_eq_true tA;have qu0:qcA<(qiA.length:Int):=of_decide_eq_true tA;obtain ⟨qwm,qyh,qxy,qxz,qxA,qxB⟩:=lC (Kd.eB qcw.out).2.2 qcA quZ qu0;obtain rfl:quf=qwm:=(by injection qyh);replace quZ:=eq_true quZ;replace qu0:=eq_true qu0
               go_wp2
               go_roundg k2
               case measure=>have:=qg.out;have:=VO.out;omega
               case rel=>exact ⟨((((aC qiA qcA).f1) == yP)),(wrap64 (qcA+1)),tS,tS,H',⟨by have:=qg.out;have:=VO.out;omega⟩,⟨(qCo qcr)⟩,⟨(qCo qcw)⟩,⟨(qB2 qjO)⟩,⟨tB⟩⟩
              ·rw [if_neg c21] at H
               have que:(((aC qiA qcA).f0) == a1)=false:=beq_eq_false_iff_ne.mpr c21;have qwl:(((aC qiA qcA).f0) != a1)=true:=bne_iff_ne.mpr c21;have H':=aj.mk H;clear H;obtain ⟨qAU,qAV,qyi⟩:=Kd.jc qcw.out;subst qyi;have qqu:0<=(qcA:Int):=of_decide_eq_true tA;have qqv:qcA<(qiA.length:Int):=of_decide_eq_true tA;obtain ⟨quf,quY,qs3,qs4,qs5,qs6⟩:=lC (Kd.eB qcw.out).2.2 qcA qqu qqv
               cases quY
               replace qqu:=eq_true qqu;replace qqv:=eq_true qqv
               go_wp2
               go_roundg k2
               case measure=>have:=qg.out;have:=VO.out;omega
               case rel=>exact ⟨(false),(wrap64 (qcA+1)),tS,tS,H',⟨by have:=qg.out;have:=VO.out;omega⟩,⟨(qCo qcr)⟩,⟨(qCo qcw)⟩,⟨(qB2 qjO)⟩,⟨tB⟩⟩
             ·rw [if_neg c20] at H
              exact absurd H (by simp)
           ·rw [if_neg c17] at H
            have qoX:decide (qcA<(qiA.length:Int))=false:=decide_eq_false c17;clear c17
            by_cases c24:xC=true
            ·subst c24
             rw [if_pos rfl] at H;have H':=aj.mk H;clear H;obtain ⟨qAW,qAX,qyj⟩:=Kd.jc qcw.out;subst qyj
             go_wp2
             go_roundg k2
             case measure=>have:=qg.out;have:=VO.out;omega
             case rel=>exact ⟨(qcs),(wrap64 (yP+1)),tS,H',⟨by have:=qg.out;have:=VO.out;omega⟩,⟨(qCo qcr)⟩,⟨(qCo qcw)⟩,⟨(qB2 qjO)⟩,⟨tB⟩⟩
            ·replace c24:=Bool.eq_false_iff.mpr c24
             subst c24
             have H1:(if 0<=yP then (if yP<(qcs.length:Int) then (qaO.l0 k2 a1 (qcs.set (yP:Int).toNat (⟨(bH qcs yP).f0,(bH qcs yP).f0⟩:bQ)) qiA (wrap64 (yP+1))) else (none)) else (none))=some r:=by rw [if_neg (show ¬ (false=true) by decide)] at H;exact H
             clear H;have H:=H1;clear H1
             by_cases c26:0<=yP
             ·rw [if_pos c26] at H
              have qwn:decide (0<=yP)=true:=decide_eq_true c26;clear c26
              by_cases c27:yP<(qcs.length:Int)
              ·rw [if_pos c27] at H
               have qru:decide (yP<(qcs.length:Int))=true:=decide_eq_true c27;clear c27;obtain ⟨qu1,qpY⟩:∃ y_:List bQ,y_=(qcs.set (yP:Int).toNat (⟨(bH qcs yP).f0,(bH qcs yP).f0⟩:bQ)):=⟨_,rfl⟩
               replace H:(qaO.l0 k2 a1 qu1 qiA (wrap64 (yP+1)))=some r:=by first|(rw [qpY];with_reducible exact H)|(have jr:=(Option.bind_some _ _).symm.trans H;rw [qpY];with_reducible exact jr)|(have jr:=(Option.bind_some _ _).symm.trans H;with_reducible exact jr)|with_reducible exact H|(rw [qpY];exact H)|exact H
               have qwo:=aj.mk qpY;clear qpY;have H':=aj.mk H;clear H;obtain ⟨qjg,qjh,qdA⟩:=Kd.jc qcw.out;subst qdA;have qu2:0<=(yP:Int):=of_decide_eq_true tA;have qu3:yP<(qcs.length:Int):=of_decide_eq_true tA;obtain ⟨qzt,qyk,qs7,qs8⟩:=nI (Kd.eB qcr.out).2.2 yP qu2 qu3
               cases qyk
               replace qu2:=eq_true qu2;replace qu3:=eq_true qu3;have p28:0<=(yP:Int):=of_decide_eq_true tA;have q28:(yP:Int)<((qcs.length:Int):Int):=of_decide_eq_true tA;obtain ⟨qpe,qoP,qs9,qwp,qym,qAY,qwq⟩:=Kd.qaf qcr.out (by omega)
               (first|cases qs9|(injection qs9 with BI R6 R7;(first|subst BI|(injection BI with BI;subst BI));subst R7;clear R6))
               have qyn:=aj.mk qwp;have qAZ:=aj.mk qwq;clear qwp qym qwq
               (first|simp only [add_plain] at qs7|skip)
               (first|simp only [add_plain] at qs8|skip)
               obtain ⟨qA0,qwr,qws,qsa,qsb⟩:=Kd.qnw qcr.out z37 (yP:Int) p28 q28;obtain rfl:=QZ qws;have qyo:wr.cell? ⟨qpe,(yP:Int).toNat*2,none⟩=some (.int .i64 ((bH qcs yP).f0)):=qsa 0 _ rfl;have qyp:wr.cell? ⟨qpe,(yP:Int).toNat*2+1,none⟩=some (.int .i64 ((bH qcs yP).f1)):=qsa 1 _ rfl;have qyq:wr.frozen? ⟨qpe,(yP:Int).toNat*2,none⟩=false:=qsb 0;have qyr:wr.frozen? ⟨qpe,(yP:Int).toNat*2+1,none⟩=false:=qsb 1;clear qwr qsa qsb qws;replace p28:=eq_true p28;replace q28:=eq_true q28;have qwt:=aj.mk (show Kd.R jW 37 wr w.heap.size (fun _=>True) (.slice (some ⟨qpe,0,none⟩) qcs.length qa7) qcs from (qCo qcr));obtain ⟨qA1,qug,qwu,qsc,quh⟩:=Kd.qnw qwt.out z37 (yP:Int) (of_decide_eq_true tA) (by have h_:(yP:Int)<((qcs.length:Int):Int):=of_decide_eq_true tA;first|exact h_|(have e_:=(Kd.eB qcr.out).1;omega)|simpa using h_);obtain rfl:=QZ qwu;have qu4:=Kd.qcH qwt.out (yP:Int) (of_decide_eq_true tA) (by have h_:(yP:Int)<((qcs.length:Int):Int):=of_decide_eq_true tA;first|exact h_|(have e_:=(Kd.eB qcr.out).1;omega)|simpa using h_) (seg:=[.int .i64 ((bH qcs yP).f0)]) (j:=1) qug qsc (show 2<=2 from by decide) (x':=(⟨(bH qcs yP).f0,(bH qcs yP).f0⟩:bQ)) (lu _ _ _ (⟨(bH qcs yP).f0,(bH qcs yP).f0⟩:bQ) ) (fun _ hk=>hk);have qu5:=qsc 1 _ rfl
               (try simp only [show (jW).sz=2 from rfl,Nat.mul_one,Nat.add_zero] at qu5)
               have qu6:=quh 1
               (try simp only [show (jW).sz=2 from rfl,Nat.mul_one,Nat.add_zero] at qu6)
               clear qug qsc quh qwu
               go_wp2_with (first|((with_reducible refine aY (t:=3) (p:=66) rfl ?_);refine BK (t:=3) (p:=66) (v:=?qys) (w1:=(wr.setCell ⟨qpe,(yP:Int).toNat*2+1,none⟩ (.int .i64 ((bH qcs yP).f0)))) ?hg ?ho ?hn ?hr ?_;(case ho=>rfl);(case hg=>rfl);(case hn=>rfl);(case hr=>first|(go_simp;done)|(go_simp;rfl));intro w31 hw;have hg:wr.grownBy w31 (some qpe):=(by rw [hw];exact qu4.2);have hp_:Kd.R jW 37 w31 w.heap.size (fun _=>True) (.slice (some ⟨qpe,0,none⟩) qcs.length qa7) qu1:=(by rw [hw,qwo.out];exact qu4.1);clear qu4;replace qcw:=aj.mk (Kd.qcP (v:=(.slice (some ⟨qpe,0,none⟩) qcs.length qa7)) (qCo qcw) (Kd.qcD qcr.out) (by decide) hg);replace qjO:=aj.mk (jF (g:=qoV) (o:=.cells #[.slice (some qoW) av.length aZ] 24 (0,0)) (qB2 qjO) hg (Kd.DZ qcr.out qjO.out (by decide)));replace qcr:=aj.mk (hp_);replace HB:=aj.mk ((by rw [hw];exact QN (HB.out) qyn.out:Below w.heap.size w w31));clear hg hw hp_))
               go_roundg k2
               case measure=>have:=qg.out;have:=VO.out;omega
               case rel=>exact ⟨(qu1),(wrap64 (yP+1)),tS,H',⟨by have:=qg.out;have:=VO.out;omega⟩,⟨(qCo qcr)⟩,⟨(qCo qcw)⟩,⟨(qB2 qjO)⟩,⟨tB⟩⟩
              ·rw [if_neg c27] at H
               exact absurd H (by simp)
             ·rw [if_neg c26] at H
              exact absurd H (by simp)
        ·rw [if_neg c15] at H
         have qfu:decide (yP<(qcs.length:Int))=false:=decide_eq_false c15;clear c15;obtain rfl:=Option.some.inj H;obtain ⟨qA2,qA3,qyt⟩:=Kd.jc qcr.out;subst qyt
         go_wp2
         go_ret
         exact ⟨_,tF,(qCo qcr),tB⟩
     ·rw [if_neg c9] at H
      exact absurd H (by simp)
    ·rw [if_neg c8] at H
     exact absurd H (by simp)
   ·rw [if_neg c7] at H
    exact absurd H (by simp)
  ·rw [if_neg c6] at H
   exact absurd H (by simp)
 ·rw [if_neg c5] at H
  exact absurd H (by simp)
def qcm.l0:Nat->List bB->Int->List bQ->Int->Option ((List bQ))
 | 0,_,_,_,_=>none
 | k+1,x0,x1,x5,x6=>if x6<(x0.length:Int) then (if 0<=x6 then (if ((aC x0 x6).f0)=x1 then (qcm.l0 k x0 x1 x5 (wrap64 (x6+1))) else (if x6<(x5.length:Int) then (qcm.l0 k x0 x1 (x5.set (x6:Int).toNat (⟨0,0⟩:bQ)) (wrap64 (x6+1))) else (none))) else (none)) else (some x5)
def qcm.f (k:Nat) (l0:List bB) (a1:Int):Option ((List bQ)):=(qbS.f k l0).bind fun qrJ=>(qcm.l0 k l0 a1 qrJ 0)
theorem qcm.calls (k:Nat) (A0:Option Addr) (c0:Nat) (l0:List bB) (a1:Int) (r:List bQ) (w:World) (hr0:Kd.C eD w A0 l0.length l0) (hc0:l0.length<=c0) (h:qcm.f k l0 a1=some r) :
  Calls Tryz.prog 213 #[.slice A0 l0.length c0,.int .i64 a1] w fun e w'=>∃ lM:Value,e=.returned (lM)∧Kd.R jW 37 w' w.heap.size (fun _=>True) lM r∧Below w.heap.size w w':=by
 have jY:=Tryz.underlying37;have Fp:=aj.mk hr0;have Zf:=aj.mk hc0;clear hr0 hc0;have HB:=aj.mk (Below.refl w.heap.size w);have H:((qbS.f k l0).bind fun qrJ=>(qcm.l0 k l0 a1 qrJ 0))=some r:=h;clear h;obtain ⟨qrJ,A3,H⟩:=nU H;have H':=aj.mk H;clear H
 go_enter Tryz.func213,Tryz.ntmps213
 go_wp2_with (first|((with_reducible refine aG (f:=110) rfl ?_);refine bX (some 8) rfl rfl Tryz.func110 tX rfl #[.slice A0 l0.length c0] rfl tM ?_;(with_reducible refine (qbS.calls k _ _ l0 qrJ _ ?bK ?bL A3.out).mono ?_);(case bK=>repeat (first|exact Fp.out|(with_reducible refine Kd.bM ?_ _)|(with_reducible refine Kd.bN ?_ _)|(with_reducible refine Kd.cO ?_)));(case bL=>exact Zf.out);rintro e w4 ⟨qyu,rfl,ho0,hb⟩;refine ⟨_,rfl,?_⟩;have qzu:=aj.mk (Kd.dZ ho0 (bD tB));replace HB:=dL HB hb;(try clear hb);(try clear ho0)))
 go_loopg [6] k (fun kq v6 w'=>∃ (aT:List bQ) (qee:Int),v6=.int .i64 qee∧aj (qcm.l0 kq l0 a1 aT qee=some r)∧aj (kq<=k)∧aj (Kd.R jW 37 w' w.heap.size (fun _=>True) qyu aT)∧aj (Below w.heap.size w w'))
 case atStart=>exact ⟨(qrJ),(0),tS,H',⟨Nat.le_refl _⟩,⟨(qCo qzu)⟩,⟨tB⟩⟩
 case round =>
  clear H'
  try clear c1
  try clear c2
  try clear p2
  obtain ⟨aT,qee,rfl,HA,qg,CP,HB⟩:=hrel
  cases gk with
  | zero=>exact absurd HA.out (by simp [qcm.l0])
  | succ k1 =>
   have H:=HA.out;clear HA;simp only [qcm.l0] at H
   by_cases c5:qee<(l0.length:Int)
   ·rw [if_pos c5] at H
    have zC:decide (qee<(l0.length:Int))=true:=decide_eq_true c5;clear c5
    by_cases c6:0<=qee
    ·rw [if_pos c6] at H
     have GV:decide (0<=qee)=true:=decide_eq_true c6;clear c6
     by_cases c7:((aC l0 qee).f0)=a1
     ·rw [if_pos c7] at H
      have yL:(((aC l0 qee).f0) == a1)=true:=beq_iff_eq.mpr c7;have qbO:(((aC l0 qee).f0) != a1)=false:=bne_eq_false_iff_eq.mpr c7;clear c7;have H':=aj.mk H;clear H;have qqx:0<=(qee:Int):=of_decide_eq_true tA;have qqy:qee<(l0.length:Int):=of_decide_eq_true tA;obtain ⟨qwv,qu7,qkS,qk0,qk1,qk2⟩:=lC Fp.out qee qqx qqy
      cases qu7
      replace qkS:=dz HB qkS;replace qk0:=dz HB qk0;replace qk1:=dz HB qk1;replace qk2:=dz HB qk2;replace qqx:=eq_true qqx;replace qqy:=eq_true qqy
      go_wp2
      go_roundg k1
      case measure=>have:=qg.out;omega
      case rel=>exact ⟨(aT),(wrap64 (qee+1)),tS,H',⟨by have:=qg.out;omega⟩,⟨(qCo CP)⟩,⟨tB⟩⟩
     ·rw [if_neg c7] at H
      have yL:(((aC l0 qee).f0) == a1)=false:=beq_eq_false_iff_ne.mpr c7;have qbO:(((aC l0 qee).f0) != a1)=true:=bne_iff_ne.mpr c7
      by_cases c8:qee<(aT.length:Int)
      ·rw [if_pos c8] at H
       have Hz:decide (qee<(aT.length:Int))=true:=decide_eq_true c8;clear c8;obtain ⟨qu8,qp0⟩:∃ y_:List bQ,y_=(aT.set (qee:Int).toNat (⟨0,0⟩:bQ)):=⟨_,rfl⟩
       replace H:(qcm.l0 k1 l0 a1 qu8 (wrap64 (qee+1)))=some r:=by first|(rw [qp0];with_reducible exact H)|(have jr:=(Option.bind_some _ _).symm.trans H;rw [qp0];with_reducible exact jr)|(have jr:=(Option.bind_some _ _).symm.trans H;with_reducible exact jr)|with_reducible exact H|(rw [qp0];exact H)|exact H
       have qww:=aj.mk qp0;clear qp0;have H':=aj.mk H;clear H;have qqx:0<=(qee:Int):=of_decide_eq_true tA;have qqy:qee<(l0.length:Int):=of_decide_eq_true tA;obtain ⟨qwv,qu7,qkS,qk0,qk1,qk2⟩:=lC Fp.out qee qqx qqy
       cases qu7
       replace qkS:=dz HB qkS;replace qk0:=dz HB qk0;replace qk1:=dz HB qk1;replace qk2:=dz HB qk2;replace qqx:=eq_true qqx;replace qqy:=eq_true qqy;have p9:0<=(qee:Int):=of_decide_eq_true tA;have q9:(qee:Int)<((aT.length:Int):Int):=of_decide_eq_true tA;obtain ⟨go9,co9,eo9,gb9,gl9,cl9,HG9⟩:=Kd.qaf CP.out (by omega)
       (first|cases eo9|(injection eo9 with BI R6 R7;(first|subst BI|(injection BI with BI;subst BI));subst R7;clear R6))
       have GB9:=aj.mk gb9;have GG9:=aj.mk HG9;clear gb9 gl9 HG9;obtain ⟨ce9,qyv,hM9,qu9,qva⟩:=Kd.qnw CP.out z37 (qee:Int) p9 q9;obtain rfl:=QZ hM9;have qzB:wr.cell? ⟨go9,(qee:Int).toNat*2,none⟩=some (.int .i64 ((bH aT qee).f0)):=qu9 0 _ rfl;have qzC:wr.cell? ⟨go9,(qee:Int).toNat*2+1,none⟩=some (.int .i64 ((bH aT qee).f1)):=qu9 1 _ rfl;have qzD:wr.frozen? ⟨go9,(qee:Int).toNat*2,none⟩=false:=qva 0;have qzE:wr.frozen? ⟨go9,(qee:Int).toNat*2+1,none⟩=false:=qva 1;clear qyv qu9 qva hM9;replace p9:=eq_true p9;replace q9:=eq_true q9;have qwx:=aj.mk (show Kd.R jW 37 wr w.heap.size (fun _=>True) (.slice (some ⟨go9,0,none⟩) aT.length co9) aT from (qCo CP));obtain ⟨qA5,qui,qwy,qrv,qsd⟩:=Kd.qnw qwx.out z37 (qee:Int) (of_decide_eq_true tA) (by have h_:(qee:Int)<((aT.length:Int):Int):=of_decide_eq_true tA;first|exact h_|(have e_:=(Kd.eB CP.out).1;omega)|simpa using h_);obtain rfl:=QZ qwy;have qvb:=Kd.qcH qwx.out (qee:Int) (of_decide_eq_true tA) (by have h_:(qee:Int)<((aT.length:Int):Int):=of_decide_eq_true tA;first|exact h_|(have e_:=(Kd.eB CP.out).1;omega)|simpa using h_) (seg:=[.int .i64 0,.int .i64 0]) (j:=0) qui qrv (show 2<=2 from by decide) (x':=(⟨0,0⟩:bQ)) (lu _ _ _ (⟨0,0⟩:bQ) ) (fun _ hk=>hk);have qvc:=qrv 0 _ rfl
       (try simp only [show (jW).sz=2 from rfl,Nat.mul_one,Nat.add_zero] at qvc)
       have qvd:=qsd 0
       (try simp only [show (jW).sz=2 from rfl,Nat.mul_one,Nat.add_zero] at qvd)
       have qve:=qrv 1 _ rfl
       (try simp only [show (jW).sz=2 from rfl,Nat.mul_one,Nat.add_zero] at qve)
       have qvf:=qsd 1
       (try simp only [show (jW).sz=2 from rfl,Nat.mul_one,Nat.add_zero] at qvf)
       clear qui qrv qsd qwy
       go_wp2_with (first|((with_reducible refine aY (t:=37) (p:=25) rfl ?_);refine BK (t:=37) (p:=25) (v:=?qyw) (w1:=((wr.setCell ⟨go9,(qee:Int).toNat*2,none⟩ (.int .i64 0)).setCell ⟨go9,(qee:Int).toNat*2+1,none⟩ (.int .i64 0))) ?hg ?ho ?hn ?hr ?_;(case ho=>rfl);(case hg=>rfl);(case hn=>rfl);(case hr=>first|(go_simp;done)|(go_simp;rfl));intro Jc hw;have hg:wr.grownBy Jc (some go9):=(by rw [hw];exact qvb.2);have hp_:Kd.R jW 37 Jc w.heap.size (fun _=>True) (.slice (some ⟨go9,0,none⟩) aT.length co9) qu8:=(by rw [hw,qww.out];exact qvb.1);clear qvb;replace CP:=aj.mk (hp_);replace HB:=aj.mk ((by rw [hw];exact QN (QN (HB.out) GB9.out) GB9.out:Below w.heap.size w Jc));clear hg hw hp_))
       go_roundg k1
       case measure=>have:=qg.out;omega
       case rel=>exact ⟨(qu8),(wrap64 (qee+1)),tS,H',⟨by have:=qg.out;omega⟩,⟨(qCo CP)⟩,⟨tB⟩⟩
      ·rw [if_neg c8] at H
       exact absurd H (by simp)
    ·rw [if_neg c6] at H
     exact absurd H (by simp)
   ·rw [if_neg c5] at H
    have zC:decide (qee<(l0.length:Int))=false:=decide_eq_false c5;clear c5;obtain rfl:=Option.some.inj H
    go_wp2
    go_ret
    exact ⟨_,tF,(qCo CP),tB⟩
end Go.Proofs.YtnpfbjnjdngkhaaGreatDoor.P
namespace Go.Proofs.YtnpfbjnjdngkhaaGreatDoor.P
open Go.RowKit Go.Proofs.YtnpfbjnjdngkhaaGreatDoorW.aQ Go.Proofs.YtnpfbjnjdngkhaaGreatDoorW.bO Go.Proofs.YtnpfbjnjdngkhaaGreatDoorW.bT
theorem qtb {l:List (List Int)} {i:Nat} (hi:i<l.length):qct l (i:Int)=l[i]:=by rw [qct,Int.toNat_natCast,List.getD_eq_getElem?_getD,List.getElem?_eq_getElem hi];rfl
theorem Ev.at {α:Type} {g:Nat->Option α} {r:α} {K:Nat} (h:∀ k,K<=k->g k=some r):Ev g r:=⟨K,h⟩
theorem qoY:∀ (ls:List bQ) (s:bQ),lD (ls++[s])=(lD ls).flatMap fun xs=>(EG s.f0 s.f1).map fun n=>xs++[n]
 | [],s=>by simp [lD,List.flatMap_map,Function.comp_def,List.map_eq_flatMap]
 | t::r,s=>by
  rw [List.cons_append,lD,qoY r s,lD,List.flatMap_assoc]
  congr 1
  funext n
  rw [List.map_flatMap,List.flatMap_map]
  congr 1
  funext xs
  rw [List.map_map]
  rfl
theorem qse {ls:List bQ} {out:List (List Int)} {i j:Nat} {r:List (List Int)} (hi:i<ls.length) (hj:j<out.length) (hb : -1000000<=ls[i].f0∧ls[i].f1<=1000000) (ho:out[j].length<=1000) :
  ∀ (m:Nat) (x:Int) (nxt:List (List Int)),(ls[i].f1+1 - x).toNat=m->ls[i].f0<=x->nxt.length+m<=5000000000->Ev (fun k=>qao.l1 k ls out i (nxt++(EG x ls[i].f1).map fun n=>out[j]++[n]) (wrap64 ((j:Int)+1))) r->Ev (fun k=>qao.l2 k ls out i nxt j x) r:=by
 intro m
 induction m with
 | zero =>
  intro x nxt hm hx hn h;rw [Pn (by omega),List.map_nil,List.append_nil] at h;refine Ev.step (fun k=>?_) h;rw [qao.l2,if_pos (by omega),if_pos (by omega),qkX hi,if_neg (by omega)]
 | succ m ih =>
  intro x nxt hm hx hn h;have e:(EG x ls[i].f1)=x::EG (x+1) ls[i].f1:=zQ (by omega);rw [e,List.map_cons] at h;have h2:=ih (x+1) (nxt++[out[j]++[x]]) (by omega) (by omega) (by simp;omega) (by rw [List.append_assoc];exact h);refine Ev.step (fun k=>?_) h2;rw [qao.l2,if_pos (by omega),if_pos (by omega),qkX hi,if_pos (by omega),if_pos (by omega),if_pos (by omega),qtb hj,if_pos (by simp;omega),List.nil_append,Option.bind_some,if_pos (by omega),if_pos (by omega),Br (by omega) (by omega)]
theorem qsf {ls:List bQ} {out:List (List Int)} {i:Nat} {r:List (List Int)} (hi:i<ls.length) (hb : -1000000<=ls[i].f0∧ls[i].f1<=1000000) (hw:ls[i].f1 - ls[i].f0<=10) (ho:∀ x∈out,x.length<=1000) (hl:out.length<=10000) :
  ∀ (m j:Nat) (nxt:List (List Int)),j+m=out.length->nxt.length<=11*j->Ev (fun k=>qao.l0 k ls (nxt++(out.drop j).flatMap fun xs=>(EG ls[i].f0 ls[i].f1).map fun n=>xs++[n]) (wrap64 ((i:Int)+1))) r->Ev (fun k=>qao.l1 k ls out i nxt j) r:=by
 intro m
 induction m with
 | zero =>
  intro j nxt hj hn h;rw [List.drop_eq_nil_of_le (by omega),List.flatMap_nil,List.append_nil] at h;refine Ev.step (fun k=>?_) h;rw [qao.l1,if_neg (by omega)]
 | succ m ih =>
  intro j nxt hj hn h
  have hjl:j<out.length:=by omega
  rw [List.drop_eq_getElem_cons hjl,List.flatMap_cons,← List.append_assoc] at h
  have hlen:(EG ls[i].f0 ls[i].f1).length<=11:=by rw [M5];omega
  have h2:=ih (j+1) (nxt++(EG ls[i].f0 ls[i].f1).map fun n=>out[j]++[n]) (by omega) (by rw [List.length_append,List.length_map];omega) h;have h3:=qse hi hjl hb (ho _ (List.getElem_mem hjl)) (ls[i].f1+1 - ls[i].f0).toNat ls[i].f0 nxt rfl (Int.le_refl _) (by omega) (r:=r) (by rw [QJ (by omega)];exact h2);refine Ev.step (fun k=>?_) h3;rw [qao.l1,if_pos (by omega),if_pos (by omega),if_pos (by omega),qkX hi]
theorem qsg {ls:List bQ} {r:List (List Int)} (hb:∀ s∈ls,-1000000<=s.f0∧s.f1<=1000000∧s.f1 - s.f0<=6) (hl:ls.length<=4):∀ (m i:Nat),i+m=ls.length->r=lD ls->Ev (fun k=>qao.l0 k ls (lD (ls.take i)) i) r:=by
 intro m
 induction m with
 | zero =>
  intro i hi hr;refine Ev.step (f:=fun _=>some r) (fun k=>?_) (Ev.now r);rw [qao.l0,if_neg (by omega),List.take_of_length_le (by omega),hr]
 | succ m ih =>
  intro i him hr
  have hi:i<ls.length:=by omega
  have hbi:=hb _ (List.getElem_mem hi);have h:=ih (i+1) (by omega) hr;rw [List.take_add_one,List.getElem?_eq_getElem hi,Option.toList_some,qoY] at h
  have hlen:(lD (ls.take i)).length<=10000:=by
   have:∀ (l:List bQ),(∀ s∈l,s.f1 - s.f0<=6)->(lD l).length<=7 ^ l.length:=by
    intro l
    induction l with
    | nil=>intro _;simp [lD]
    | cons s t iht =>
     intro hs;have h1:=hs s (List.mem_cons_self ..)
     have h2:=iht fun q hq=>hs q (List.mem_cons_of_mem _ hq)
     have h3:=Cg (f:=fun n=>(lD t).map (n::·)) (B:=7 ^ t.length) (l:=EG s.f0 s.f1) (fun x _=>by rw [List.length_map];exact h2);rw [lD,List.length_cons,Nat.pow_succ];refine Nat.le_trans h3 ?_;rw [M5,Nat.mul_comm];exact Nat.mul_le_mul_left _ (by omega)
   refine Nat.le_trans (this _ fun s hs=>(hb s (List.mem_of_mem_take hs)).2.2) (Nat.le_trans (Nat.pow_le_pow_right (by decide) (show (ls.take i).length<=4 by rw [List.length_take];omega)) (by decide))
  have h2:=qsf (out:=lD (ls.take i)) hi ⟨hbi.1,hbi.2.1⟩ (by omega) (fun x hx=>by rw [qG hx,List.length_take];omega) hlen (lD (ls.take i)).length 0 [] (by omega) (by simp) (r:=r) (by rw [QJ (by omega)];simpa using h);refine Ev.step (fun k=>?_) h2;rw [qao.l0,if_pos (by omega)]
  rfl
theorem qnE {ls:List bQ} (hb:∀ s∈ls,-1000000<=s.f0∧s.f1<=1000000∧s.f1 - s.f0<=6) (hl:ls.length<=4):Ev (fun k=>qao.f k ls) (lD ls):=by
 have:=qsg (r:=lD ls) hb hl ls.length 0 (by omega) rfl
 simpa [qao.f,lD] using this
theorem qoZ {α:Type} {l:List α} {i:Nat} {x:α} (hi:i<l.length):(l.set i x).take (i+1)=l.take i++[x]:=by
 rw [List.take_add_one,List.getElem?_set_self hi,Option.toList_some,List.take_set_of_le (Nat.le_refl _)]
theorem qvg {l:List bB} {d:Int} (hl:l.length<=1000):∀ (m i:Nat) (w:List bQ),i+m=l.length->w.length=l.length->w.take i=(qhA l d).take i->w.drop i=(l.map bB.f2).drop i->Ev (fun k=>qcm.l0 k l d w i) (qhA l d):=by
 intro m
 induction m with
 | zero =>
  intro i w hi hw h1 h2;refine Ev.step (f:=fun _=>some (qhA l d)) (fun k=>?_) (Ev.now _);rw [qcm.l0,if_neg (by omega)];rw [List.take_of_length_le (by omega),List.take_of_length_le (by simp [qhA];omega)] at h1;rw [h1]
 | succ m ih =>
  intro i w him hw h1 h2
  have hi:i<l.length:=by omega
  have hwi:i<w.length:=by omega
  have e2:w[i]=l[i].f2:=by
   have:=congrArg (fun x=>x[0]?) h2;simp [List.getElem?_drop] at this;rw [List.getElem?_eq_getElem hwi,List.getElem?_eq_getElem hi] at this
   simpa using this
  have e3:w.drop (i+1)=(l.map bB.f2).drop (i+1):=by
   have:=congrArg (List.drop 1) h2
   rwa [List.drop_drop,List.drop_drop] at this
  have e4:(qhA l d).take (i+1)=(qhA l d).take i++[if l[i].f0=d then l[i].f2 else ⟨0,0⟩]:=by
   rw [List.take_add_one,qhA,List.getElem?_map,List.getElem?_eq_getElem hi]
   rfl
  by_cases hd:l[i].f0=d
  ·have h3:=ih (i+1) w (by omega) hw (by rw [List.take_add_one,List.getElem?_eq_getElem hwi,Option.toList_some,h1,e4,if_pos hd,e2]) e3
   refine Ev.step (fun k=>?_) h3;rw [qcm.l0,if_pos (by omega),if_pos (by omega),qfw hi,if_pos hd,QJ (by omega)]
  ·have h3:=ih (i+1) (w.set i ⟨0,0⟩) (by omega) (by simpa using hw) (by rw [qoZ hwi,h1,e4,if_neg hd]) (by rw [List.drop_set_of_lt (by omega),e3])
   refine Ev.step (fun k=>?_) h3;rw [qcm.l0,if_pos (by omega),if_pos (by omega),qfw hi,if_neg hd,if_pos (by omega),QJ (by omega)]
   rfl
theorem qsh {l:List bB} {d:Int} (hl:l.length<=1000):Ev (fun k=>qcm.f k l d) (qhA l d):=by
 have h1:Ev (fun k=>qbS.f k l) (l.map bB.f2):=⟨l.length+1,fun k hk=>qsT hl (by omega)⟩;have h2:=qvg (d:=d) hl l.length 0 (l.map bB.f2) (by omega) (by simp) (by simp) rfl;exact Ev.bind h1 h2
end Go.Proofs.YtnpfbjnjdngkhaaGreatDoor.P
namespace Go.Proofs.YtnpfbjnjdngkhaaGreatDoor.P
open Go.RowKit Go.Proofs.YtnpfbjnjdngkhaaGreatDoorW.aQ Go.Proofs.YtnpfbjnjdngkhaaGreatDoorW.bO Go.Proofs.YtnpfbjnjdngkhaaGreatDoorW.bT
attribute [local go_sem] eP eT fU fV dS dU eU eX
mutual
def qam.l0:Nat->Int->List bB->List bB->List (List Int)->List (List Int)->List (List Int)->List Bool->List Int->Int->List bI->Option (List Int)
 | 0,_,_,_,_,_,_,_,_,_,_=>none
 | k+1,x1,x2,x3,x9,x10,x11,Gb,VQ,OH,qfC=>if OH<(x9.length:Int) then (qam.l1 k x1 x2 x3 x9 x10 x11 Gb VQ OH 0 qfC) else (some VQ)
def qam.l1:Nat->Int->List bB->List bB->List (List Int)->List (List Int)->List (List Int)->List Bool->List Int->Int->Int->List bI->Option (List Int)
 | 0,_,_,_,_,_,_,_,_,_,_,_=>none
 | k+1,x1,x2,x3,x9,x10,x11,Gb,VQ,OH,x15,qfC=>if x15<(x10.length:Int) then (qam.l2 k x1 x2 x3 x9 x10 x11 Gb VQ OH x15 0 qfC) else (qam.l0 k x1 x2 x3 x9 x10 x11 Gb VQ (wrap64 (OH+1)) qfC)
def qam.l2:Nat->Int->List bB->List bB->List (List Int)->List (List Int)->List (List Int)->List Bool->List Int->Int->Int->Int->List bI->Option (List Int)
 | 0,_,_,_,_,_,_,_,_,_,_,_,_=>none
 | k+1,x1,x2,x3,x9,x10,x11,Gb,VQ,OH,x15,Q8,qfC=>if Q8<(x11.length:Int) then (if 0<=OH then (if OH<(x9.length:Int) then (if 0<=x15 then (if x15<(x10.length:Int) then ((qbf.f k qfC x1 (qct x9 OH) x2 (qct x10 x15)).bind fun qjB=>(if 0<=Q8 then ((qbf.f k qfC x1 (qct x9 OH) x3 (qct x11 Q8)).bind fun qjC=>(if 0<=(wrap64 ((wrap64 (qjB - qjC))+100)) then (if (wrap64 ((wrap64 (qjB - qjC))+100))<(Gb.length:Int) then (if (Sl false Gb (wrap64 ((wrap64 (qjB - qjC))+100))=true) then (qam.l2 k x1 x2 x3 x9 x10 x11 Gb VQ OH x15 (wrap64 (Q8+1)) qfC) else (if VQ.length<17592186044416 then (qam.l2 k x1 x2 x3 x9 x10 x11 (Gb.set ((wrap64 ((wrap64 (qjB - qjC))+100)):Int).toNat true) (VQ++[wrap64 (qjB - qjC)]) OH x15 (wrap64 (Q8+1)) qfC) else (none))) else (none)) else (none))) else (none))) else (none)) else (none)) else (none)) else (none)) else (qam.l1 k x1 x2 x3 x9 x10 x11 Gb VQ OH (wrap64 (x15+1)) qfC)
end
def qam.f (k:Nat) (av:List bI) (a1:Int) (l2:List bB) (l3:List bB):Option (List Int):=(qaO.f k av a1 l2 l3).bind fun qqz=>((qao.f k qqz).bind fun qcV=>((qcm.f k l2 a1).bind fun qqA=>((qao.f k qqA).bind fun qea=>((qcm.f k l3 a1).bind fun qqB=>((qao.f k qqB).bind fun qef=>(if 201<=281474976710656 then (qam.l0 k a1 l2 l3 qcV qea qef (List.replicate 201 false) ([]:List Int) 0 av) else (none)))))))
def qam.T13:Bool × List (List Nat × List Nat):=(true,[([],[]),([],[]),([],[]),([],[]),([2,3],[2,3]),([4],[4]),([],[]),([],[]),([],[]),([7,8],[7,8]),([9],[9]),([0,1,5,6,10],[0,1,5,6,10]),([],[]),([],[]),([],[]),([],[]),([14,15],[14,15]),([16],[16]),([],[]),([],[]),([],[]),([19,20],[19,20]),([21],[21]),([12,13,17,18,22,11],[12,13,17,18,22]),([11,23],[11,23]),([24,23,0,1,2,3,4,5,6,7,8,9,10,11,12,13,14,15,16,17,18,19,20,21,22,23,24],[24])])
def qam.B13:List Nat:=[0,0,0,0,12,28,0,0,0,384,896,2047,0,0,0,0,49152,114688,0,0,0,1572864,3670016,8388607,16777215,33554431]
theorem qam.quj:pQ .any (opsOf Tryz.f174 13)=qam.T13:=by kernel_rfl
theorem qam.qsi:nT qam.T13.2 qam.B13=true:=by kernel_rfl
theorem qam.calls (k:Nat) (bC:Option Addr) (aZ:Nat) (av:List bI) (a1:Int) (A2:Option Addr) (c2:Nat) (l2:List bB) (A3:Option Addr) (c3:Nat) (l3:List bB) (r:List Int) (w:World) (dw:Kd.C iG w bC av.length av) (dG:av.length<=aZ) (hr2:Kd.C eD w A2 l2.length l2) (hc2:l2.length<=c2) (hr3:Kd.C eD w A3 l3.length l3) (hc3:l3.length<=c3) (h:qam.f k av a1 l2 l3=some r) :
  Calls Tryz.prog 174 #[.agg #[.slice bC av.length aZ],.int .i64 a1,.slice A2 l2.length c2,.slice A3 l3.length c3] w fun e w'=>∃ lM:Value,e=.returned (lM)∧Kd.R (Kd.int .i64) 3 w' w.heap.size (fun _=>True) lM r∧Below w.heap.size w w':=by
 have qb:=Tryz.underlying24;have dM:=aj.mk dw;have fu:=aj.mk dG;clear dw dG;have HR2:=aj.mk hr2;have HC2:=aj.mk hc2;clear hr2 hc2;have HR3:=aj.mk hr3;have R9:=aj.mk hc3;clear hr3 hc3;have HB:=aj.mk (Below.refl w.heap.size w);have H:((qaO.f k av a1 l2 l3).bind fun qqz=>((qao.f k qqz).bind fun qcV=>((qcm.f k l2 a1).bind fun qqA=>((qao.f k qqA).bind fun qea=>((qcm.f k l3 a1).bind fun qqB=>((qao.f k qqB).bind fun qef=>(if 201<=281474976710656 then (qam.l0 k a1 l2 l3 qcV qea qef (List.replicate 201 false) ([]:List Int) 0 av) else (none))))))))=some r:=h;clear h;obtain ⟨qqz,A5,H⟩:=nU H;obtain ⟨qcV,A6,H⟩:=nU H;obtain ⟨qqA,A7,H⟩:=nU H;obtain ⟨qea,A8,H⟩:=nU H;obtain ⟨qqB,A9,H⟩:=nU H;obtain ⟨qef,Lp,H⟩:=nU H
 by_cases c11:201<=281474976710656
 ·rw [if_pos c11] at H
  have qdp:=eq_true c11;have qjP:decide (201<=281474976710656)=true:=decide_eq_true c11;clear c11;obtain ⟨qwz,qp1⟩:∃ y_:List Bool,y_=(List.replicate 201 false):=⟨_,rfl⟩
  replace H:(qam.l0 k a1 l2 l3 qcV qea qef qwz ([]:List Int) 0 av)=some r:=by first|(rw [qp1];with_reducible exact H)|(have jr:=(Option.bind_some _ _).symm.trans H;rw [qp1];with_reducible exact jr)|(have jr:=(Option.bind_some _ _).symm.trans H;with_reducible exact jr)|with_reducible exact H|(rw [qp1];exact H)|exact H
  have quk:=aj.mk qp1;clear qp1;have H':=aj.mk H;clear H
  go_enter Tryz.func174,Tryz.ntmps174
  go_wp2_with (first|((with_reducible refine au (N:=4) rfl ?_);refine fA 4 #[.slice bC av.length aZ] 24 HB ?_;clear HB;intro qnF yO hg qcB qzG HB hb;clear hb hg;have vS:=bc1 qcB;have vT:=bf qcB 0)|((with_reducible refine aG (f:=212) rfl ?_);refine bX (some 22) rfl rfl Tryz.func212 tX rfl #[.agg #[.slice bC av.length aZ],.int .i64 a1,.slice A2 l2.length c2,.slice A3 l3.length c3] rfl tM ?_;(with_reducible refine (qaO.calls k _ _ av a1 _ _ l2 _ _ l3 qqz _ ?bK ?bL ?fM ?fO ?jI ?zL A5.out).mono ?_);(case bK=>exact cS dM);(case bL=>exact fu.out);(case fM=>exact cS HR2);(case fO=>exact HC2.out);(case jI=>exact cS HR3);(case zL=>exact R9.out);rintro e R8 ⟨qA8,rfl,ho0,hb⟩;refine ⟨_,rfl,?_⟩;have qiG:=aj.mk (Kd.dZ ho0 (bD tB));replace qcB:=bW qcB hb;replace HB:=dL HB hb;(try clear hb);(try clear ho0);obtain ⟨qyx,qyy,qyz⟩:=Kd.jc qiG.out;subst qyz)|((with_reducible refine aG (f:=146) rfl ?_);refine bX (some 23) rfl rfl Tryz.func146 tX rfl #[.slice qyx qqz.length qyy] rfl tM ?_;(with_reducible refine (qao.calls k _ _ qqz qcV _ ?bK ?bL A6.out).mono ?_);(case bK=>repeat (first|exact (Kd.eB qiG.out).2.2|(with_reducible refine Kd.bM ?_ _)|(with_reducible refine Kd.bN ?_ _)|(with_reducible refine Kd.cO ?_)));(case bL=>exact (Kd.eB qiG.out).2.1);rintro e w16 ⟨qvh,rfl,ho0,hb⟩;refine ⟨_,rfl,?_⟩;replace qiG:=tZ qiG hb;have qiH:=aj.mk (Kd.qnm ho0 (bD tB));replace qcB:=bW qcB hb;replace HB:=dL HB hb;(try clear hb);(try clear ho0))|((with_reducible refine aG (f:=213) rfl ?_);refine bX (some 26) rfl rfl Tryz.func213 tX rfl #[.slice A2 l2.length c2,.int .i64 a1] rfl tM ?_;(with_reducible refine (qcm.calls k _ _ l2 a1 qqA _ ?bK ?bL A7.out).mono ?_);(case bK=>exact cS HR2);(case bL=>exact HC2.out);rintro e w17 ⟨qA9,rfl,ho0,hb⟩;refine ⟨_,rfl,?_⟩;replace qiH:=aj.mk (Kd.qcX (by (with_reducible repeat (first|apply Kd.qbk|apply Kd.qbm|apply Kd.qbT));exact qiH.out) hb);have qjQ:=aj.mk (Kd.dZ (Kd.wY ho0 (Kd.vR (qCo qiG))) (bD tB));replace qiG:=aj.mk (Kd.qE (qCo qiG) (Kd.iF ho0) hb);replace qcB:=bW qcB hb;replace HB:=dL HB hb;(try clear hb);(try clear ho0);obtain ⟨Wo,Wp,qi3⟩:=Kd.jc qjQ.out;subst qi3)|((with_reducible refine aG (f:=146) rfl ?_);refine bX (some 27) rfl rfl Tryz.func146 tX rfl #[.slice Wo qqA.length Wp] rfl tM ?_;(with_reducible refine (qao.calls k _ _ qqA qea _ ?bK ?bL A8.out).mono ?_);(case bK=>repeat (first|exact (Kd.eB qjQ.out).2.2|(with_reducible refine Kd.bM ?_ _)|(with_reducible refine Kd.bN ?_ _)|(with_reducible refine Kd.cO ?_)));(case bL=>exact (Kd.eB qjQ.out).2.1);rintro e w19 ⟨qrK,rfl,ho0,hb⟩;refine ⟨_,rfl,?_⟩;replace qiG:=tZ qiG hb;replace qjQ:=tZ qjQ hb;have qnd:=aj.mk (Kd.qnm (Kd.qql ho0 (Kd.qsS (by (with_reducible repeat (first|apply Kd.qbk|apply Kd.qbm|apply Kd.qbT));exact qiH.out))) (bD tB));replace qiH:=aj.mk (Kd.qny (by (with_reducible repeat (first|apply Kd.qbk|apply Kd.qbm|apply Kd.qbT));exact qiH.out) (Kd.qqk ho0) hb);replace qcB:=bW qcB hb;replace HB:=dL HB hb;(try clear hb);(try clear ho0))|((with_reducible refine aG (f:=213) rfl ?_);refine bX (some 30) rfl rfl Tryz.func213 tX rfl #[.slice A3 l3.length c3,.int .i64 a1] rfl tM ?_;(with_reducible refine (qcm.calls k _ _ l3 a1 qqB _ ?bK ?bL A9.out).mono ?_);(case bK=>exact cS HR3);(case bL=>exact R9.out);rintro e w20 ⟨qBa,rfl,ho0,hb⟩;refine ⟨_,rfl,?_⟩;replace qiH:=aj.mk (Kd.qcX (by (with_reducible repeat (first|apply Kd.qbk|apply Kd.qbm|apply Kd.qbT));exact qiH.out) hb);replace qnd:=aj.mk (Kd.qcX (by (with_reducible repeat (first|apply Kd.qbk|apply Kd.qbm|apply Kd.qbT));exact qnd.out) hb);have qnG:=aj.mk (Kd.dZ (Kd.wY (Kd.wY ho0 (Kd.vR (qCo qiG))) (Kd.vR (qCo qjQ))) (bD tB));replace qiG:=aj.mk (Kd.qE (qCo qiG) (Kd.iF ho0) hb);replace qjQ:=aj.mk (Kd.qE (qCo qjQ) (Kd.iF ho0) hb);replace qcB:=bW qcB hb;replace HB:=dL HB hb;(try clear hb);(try clear ho0);obtain ⟨qwd,qwe,quX⟩:=Kd.jc qnG.out;subst quX)|((with_reducible refine aG (f:=146) rfl ?_);refine bX (some 31) rfl rfl Tryz.func146 tX rfl #[.slice qwd qqB.length qwe] rfl tM ?_;(with_reducible refine (qao.calls k _ _ qqB qef _ ?bK ?bL Lp.out).mono ?_);(case bK=>repeat (first|exact (Kd.eB qnG.out).2.2|(with_reducible refine Kd.bM ?_ _)|(with_reducible refine Kd.bN ?_ _)|(with_reducible refine Kd.cO ?_)));(case bL=>exact (Kd.eB qnG.out).2.1);rintro e w22 ⟨qpf,rfl,ho0,hb⟩;refine ⟨_,rfl,?_⟩;replace qiG:=tZ qiG hb;replace qjQ:=tZ qjQ hb;replace qnG:=tZ qnG hb;have qsj:=aj.mk (Kd.qnm (Kd.qql (Kd.qql ho0 (Kd.qsS (by (with_reducible repeat (first|apply Kd.qbk|apply Kd.qbm|apply Kd.qbT));exact qiH.out))) (Kd.qsS (by (with_reducible repeat (first|apply Kd.qbk|apply Kd.qbm|apply Kd.qbT));exact qnd.out))) (bD tB));replace qiH:=aj.mk (Kd.qny (by (with_reducible repeat (first|apply Kd.qbk|apply Kd.qbm|apply Kd.qbT));exact qiH.out) (Kd.qqk ho0) hb);replace qnd:=aj.mk (Kd.qny (by (with_reducible repeat (first|apply Kd.qbk|apply Kd.qbm|apply Kd.qbT));exact qnd.out) (Kd.qqk ho0) hb);replace qcB:=bW qcB hb;replace HB:=dL HB hb;(try clear hb);(try clear ho0))|((with_reducible refine au (N:=32) rfl ?_);refine Kd.qo8 Kd.bool _ 4 rfl (N:=32) rfl 215 _ _ rfl 201 rfl rfl Tryz.underlying215 (.bool false) 1 qq7 rfl (by decide) (by omega) false (ok:=fun _=>True) (nE:=fun _=>True) rfl (fun _ hk=>hk) trivial (by omega) (by omega) (Below.refl _ _) (Nat.le_refl _) ?_;intro qvi w23 qsk hb sS gV;clear sS gV;(first|rw [← quk.out] at qsk|(simp only [Int.reduceToNat] at qsk;rw [← quk.out] at qsk));replace qiG:=tZ qiG hb;replace qiH:=aj.mk (Kd.qcX (by (with_reducible repeat (first|apply Kd.qbk|apply Kd.qbm|apply Kd.qbT));exact qiH.out) hb);replace qjQ:=tZ qjQ hb;replace qnd:=aj.mk (Kd.qcX (by (with_reducible repeat (first|apply Kd.qbk|apply Kd.qbm|apply Kd.qbT));exact qnd.out) hb);replace qnG:=tZ qnG hb;replace qsj:=aj.mk (Kd.qcX (by (with_reducible repeat (first|apply Kd.qbk|apply Kd.qbm|apply Kd.qbT));exact qsj.out) hb);have qzH:=aj.mk (Kd.dZ qsk (bD tB));replace qcB:=bW qcB hb;replace HB:=dL HB hb;clear hb qsk))
  go_loopg [13,14] k (fun kq v13 v14 w'=>∃ (pU:List Bool) (iX:List Int) (iW:Int),v14=.int .i64 iW∧aj (qam.l0 kq a1 l2 l3 qcV qea qef pU iX iW av=some r)∧aj (kq<=k)∧aj (Kd.S (Kd.slice 3 (Kd.int .i64)) 47 w' w.heap.size (fun k_=>some k_≠(qrK:Value).ownBlock∧some k_≠(qpf:Value).ownBlock∧some k_≠(v13:Value).ownBlock) qvh qcV)∧aj (Kd.S (Kd.slice 3 (Kd.int .i64)) 47 w' w.heap.size (fun k_=>some k_≠(qvh:Value).ownBlock∧some k_≠(qpf:Value).ownBlock∧some k_≠(v13:Value).ownBlock) qrK qea)∧aj (Kd.S (Kd.slice 3 (Kd.int .i64)) 47 w' w.heap.size (fun k_=>some k_≠(qvh:Value).ownBlock∧some k_≠(qrK:Value).ownBlock∧some k_≠(v13:Value).ownBlock) qpf qef)∧aj (Kd.R Kd.bool 4 w' w.heap.size (fun _=>True) qvi pU)∧aj (Kd.R (Kd.int .i64) 3 w' w.heap.size (fun _=>True) v13 iX)∧aj (w'.heap[qnF]?=some (.cells #[(.slice bC av.length aZ)] 24 (0,0)))∧aj (Below w.heap.size w w'))
  case atStart=>exact ⟨(qwz),(([]:List Int)),(0),tS,H',⟨Nat.le_refl _⟩,⟨by (with_reducible repeat (first|apply Kd.qbk|apply Kd.qbm|apply Kd.qbT));exact Kd.qeW qiH.out (fun _ hk=>⟨hk.1.2,⟨hk.2,(by simp [Value.ownBlock])⟩⟩)⟩,⟨by (with_reducible repeat (first|apply Kd.qbk|apply Kd.qbm|apply Kd.qbT));exact Kd.qeW qnd.out (fun _ hk=>⟨hk.1.2,⟨hk.2,(by simp [Value.ownBlock])⟩⟩)⟩,⟨by (with_reducible repeat (first|apply Kd.qbk|apply Kd.qbm|apply Kd.qbT));exact Kd.qeW qsj.out (fun _ hk=>⟨hk.1.2,⟨hk.2,(by simp [Value.ownBlock])⟩⟩)⟩,⟨(qCo qzH)⟩,⟨by first|exact Kd.mI _ _ _ _ _|exact Kd.wN _ _ _ _ _|exact Kd.wP _ _ _ _ _|exact Kd.wK _ _ _ _ _|exact Kd.wM _ _ _ _ _⟩,⟨(qB2 qcB)⟩,⟨tB⟩⟩
  case round =>
   clear H'
   try clear c1
   try clear c2
   try clear p2
   try clear c3
   try clear c11
   try clear qdp
   try clear qjP
   try clear c14
   try clear c17
   try clear c21
   try clear vS
   try clear vT
   obtain ⟨pU,iX,iW,rfl,HA,qg,qcr,qcw,oF,Cm,qcu,qcB,HB⟩:=hrel
   cases gk with
   | zero=>exact absurd HA.out (by simp [qam.l0])
   | succ k1 =>
    have H:=HA.out;clear HA;simp only [qam.l0] at H
    by_cases c25:iW<(qcV.length:Int)
    ·rw [if_pos c25] at H
     have qls:decide (iW<(qcV.length:Int))=true:=decide_eq_true c25;clear c25;have H':=aj.mk H;clear H;obtain ⟨qrL,qnh,qyA⟩:=Kd.qhD qcr.out;subst qyA
     go_wp2
     go_loopg [13,15] k1 (fun kq v13 v15 w'=>∃ (xC:List Bool) (qcA:List Int) (qcy:Int),v15=.int .i64 qcy∧aj (qam.l1 kq a1 l2 l3 qcV qea qef xC qcA iW qcy av=some r)∧aj (kq<=k1)∧aj (Kd.S (Kd.slice 3 (Kd.int .i64)) 47 w' w.heap.size (fun k_=>some k_≠(qrK:Value).ownBlock∧some k_≠(qpf:Value).ownBlock∧some k_≠(v13:Value).ownBlock) (.slice qrL qcV.length qnh) qcV)∧aj (Kd.S (Kd.slice 3 (Kd.int .i64)) 47 w' w.heap.size (fun k_=>some k_≠((.slice qrL qcV.length qnh):Value).ownBlock∧some k_≠(qpf:Value).ownBlock∧some k_≠(v13:Value).ownBlock) qrK qea)∧aj (Kd.S (Kd.slice 3 (Kd.int .i64)) 47 w' w.heap.size (fun k_=>some k_≠((.slice qrL qcV.length qnh):Value).ownBlock∧some k_≠(qrK:Value).ownBlock∧some k_≠(v13:Value).ownBlock) qpf qef)∧aj (Kd.R Kd.bool 4 w' w.heap.size (fun _=>True) qvi xC)∧aj (Kd.R (Kd.int .i64) 3 w' w.heap.size (fun _=>True) v13 qcA)∧aj (w'.heap[qnF]?=some (.cells #[(.slice bC av.length aZ)] 24 (0,0)))∧aj (Below w.heap.size w w'))
     case atStart=>exact ⟨(pU),(iX),(0),tS,H',⟨Nat.le_refl _⟩,⟨by (with_reducible repeat (first|apply Kd.qbk|apply Kd.qbm|apply Kd.qbT));exact qcr.out⟩,⟨by (with_reducible repeat (first|apply Kd.qbk|apply Kd.qbm|apply Kd.qbT));exact qcw.out⟩,⟨by (with_reducible repeat (first|apply Kd.qbk|apply Kd.qbm|apply Kd.qbT));exact oF.out⟩,⟨(qCo Cm)⟩,⟨(qCo qcu)⟩,⟨(qB2 qcB)⟩,⟨tB⟩⟩
     case round =>
      clear H'
      try clear c1
      try clear c2
      try clear p2
      try clear c3
      try clear c11
      try clear qdp
      try clear qjP
      try clear c14
      try clear c17
      try clear c21
      try clear c25
      try clear qls
      try clear vS
      try clear vT
      try clear p2
      obtain ⟨xC,qcA,qcy,rfl,HA,VO,qcr,qcw,oF,Cm,qcu,qcB,HB⟩:=hrel
      cases gk with
      | zero=>exact absurd HA.out (by simp [qam.l1])
      | succ k2 =>
       have H:=HA.out;clear HA;simp only [qam.l1] at H
       by_cases c27:qcy<(qea.length:Int)
       ·rw [if_pos c27] at H
        have qru:decide (qcy<(qea.length:Int))=true:=decide_eq_true c27;clear c27;have H':=aj.mk H;clear H;obtain ⟨qvj,qoP,qs9⟩:=Kd.qhD qcw.out;subst qs9
        go_wp2
        go_loopg [13,16] k2 (fun kq v13 v16 w'=>∃ (qcp:List Bool) (qcE:List Int) (qcY:Int),v16=.int .i64 qcY∧aj (qam.l2 kq a1 l2 l3 qcV qea qef qcp qcE iW qcy qcY av=some r)∧aj (kq<=k2)∧aj (Kd.S (Kd.slice 3 (Kd.int .i64)) 47 w' w.heap.size (fun k_=>some k_≠((.slice qvj qea.length qoP):Value).ownBlock∧some k_≠(qpf:Value).ownBlock∧some k_≠(v13:Value).ownBlock) (.slice qrL qcV.length qnh) qcV)∧aj (Kd.S (Kd.slice 3 (Kd.int .i64)) 47 w' w.heap.size (fun k_=>some k_≠((.slice qrL qcV.length qnh):Value).ownBlock∧some k_≠(qpf:Value).ownBlock∧some k_≠(v13:Value).ownBlock) (.slice qvj qea.length qoP) qea)∧aj (Kd.S (Kd.slice 3 (Kd.int .i64)) 47 w' w.heap.size (fun k_=>some k_≠((.slice qrL qcV.length qnh):Value).ownBlock∧some k_≠((.slice qvj qea.length qoP):Value).ownBlock∧some k_≠(v13:Value).ownBlock) qpf qef)∧aj (Kd.R Kd.bool 4 w' w.heap.size (fun _=>True) qvi qcp)∧aj (Kd.R (Kd.int .i64) 3 w' w.heap.size (fun _=>True) v13 qcE)∧aj (w'.heap[qnF]?=some (.cells #[(.slice bC av.length aZ)] 24 (0,0)))∧aj (Below w.heap.size w w'))
        case atStart=>exact ⟨(xC),(qcA),(0),tS,H',⟨Nat.le_refl _⟩,⟨by (with_reducible repeat (first|apply Kd.qbk|apply Kd.qbm|apply Kd.qbT));exact qcr.out⟩,⟨by (with_reducible repeat (first|apply Kd.qbk|apply Kd.qbm|apply Kd.qbT));exact qcw.out⟩,⟨by (with_reducible repeat (first|apply Kd.qbk|apply Kd.qbm|apply Kd.qbT));exact oF.out⟩,⟨(qCo Cm)⟩,⟨(qCo qcu)⟩,⟨(qB2 qcB)⟩,⟨tB⟩⟩
        case round =>
         clear H'
         try clear c1
         try clear c2
         try clear p2
         try clear c3
         try clear c11
         try clear qdp
         try clear qjP
         try clear c14
         try clear c17
         try clear c21
         try clear c25
         try clear qls
         try clear c27
         try clear qru
         try clear vS
         try clear vT
         try clear p2
         obtain ⟨qcp,qcE,qcY,rfl,HA,HK3,qcr,qcw,oF,Cm,qcu,qcB,HB⟩:=hrel
         cases gk with
         | zero=>exact absurd HA.out (by simp [qam.l2])
         | succ k3 =>
          have H:=HA.out;clear HA;simp only [qam.l2] at H
          by_cases c29:qcY<(qef.length:Int)
          ·rw [if_pos c29] at H
           have qwA:decide (qcY<(qef.length:Int))=true:=decide_eq_true c29;clear c29
           by_cases c30:0<=iW
           ·rw [if_pos c30] at H
            have qzI:decide (0<=iW)=true:=decide_eq_true c30;clear c30
            by_cases c31:iW<(qcV.length:Int)
            ·rw [if_pos c31] at H
             have qzJ:decide (iW<(qcV.length:Int))=true:=decide_eq_true c31;clear c31
             by_cases c32:0<=qcy
             ·rw [if_pos c32] at H
              have qzK:decide (0<=qcy)=true:=decide_eq_true c32;clear c32
              by_cases c33:qcy<(qea.length:Int)
              ·rw [if_pos c33] at H
               have qzL:decide (qcy<(qea.length:Int))=true:=decide_eq_true c33;clear c33;obtain ⟨qjB,A34,H⟩:=nU H
               by_cases c35:0<=qcY
               ·rw [if_pos c35] at H
                have qzM:decide (0<=qcY)=true:=decide_eq_true c35;clear c35;obtain ⟨qjC,A36,H⟩:=nU H;obtain ⟨qhB,qp2⟩:∃ j_:Int,(wrap64 ((wrap64 (qjB - qjC))+100))=j_:=⟨_,rfl⟩
                replace H:(if 0<=(qhB) then (if (qhB)<(qcp.length:Int) then (if (Sl false qcp (qhB)=true) then (qam.l2 k3 a1 l2 l3 qcV qea qef qcp qcE iW qcy (wrap64 (qcY+1)) av) else (if qcE.length<17592186044416 then (qam.l2 k3 a1 l2 l3 qcV qea qef (qcp.set ((qhB):Int).toNat true) (qcE++[wrap64 (qjB - qjC)]) iW qcy (wrap64 (qcY+1)) av) else (none))) else (none)) else (none))=some r:=by first|(rw [qp2] at H;exact H)|(simp only [qp2] at H ⊢;exact H)
                (try rw [qp2] at A34)
                (try rw [qp2] at A36)
                have qyD:(IntKind.i64.wrap ((wrap64 (qjB - qjC))+100))=qhB:=(ay _).trans qp2
                by_cases c38:0<=(qhB)
                ·rw [if_pos c38] at H
                 have qzN:decide (0<=(qhB))=true:=decide_eq_true c38;clear c38
                 by_cases c39:(qhB)<(qcp.length:Int)
                 ·rw [if_pos c39] at H
                  have qzO:decide ((qhB)<(qcp.length:Int))=true:=decide_eq_true c39;clear c39;obtain ⟨qwC,qsl⟩:∃ b_:Bool,b_=(Sl false qcp (qhB)):=⟨_,rfl⟩
                  replace H:(if (qwC=true) then (qam.l2 k3 a1 l2 l3 qcV qea qef qcp qcE iW qcy (wrap64 (qcY+1)) av) else (if qcE.length<17592186044416 then (qam.l2 k3 a1 l2 l3 qcV qea qef (qcp.set ((qhB):Int).toNat true) (qcE++[wrap64 (qjB - qjC)]) iW qcy (wrap64 (qcY+1)) av) else (none)))=some r:=by rw [← qsl] at H;exact H
                  have qum:=aj.mk qsl;clear qsl
                  by_cases c41:(qwC=true)
                  ·subst c41
                   rw [if_pos rfl] at H;have H':=aj.mk H;clear H;obtain ⟨qBc,qBd,qyE⟩:=Kd.qhD oF.out;subst qyE
                   try go_wp2
                   replace qcr:=aj.mk (Kd.qbT qcr.out);replace qcw:=aj.mk (Kd.qbT qcw.out);replace oF:=aj.mk (Kd.qbT oF.out);replace Cm:=aj.mk (Kd.mJ Cm.out);replace qcu:=aj.mk (Kd.mJ qcu.out);replace qcB:=aj.mk (aN qcB.out);replace HB:=aj.mk (jD HB.out);have qpg:0<=(iW:Int):=of_decide_eq_true tA;have qph:iW<(qcV.length:Int):=of_decide_eq_true tA;obtain ⟨qiI,qiK,qiL,qvk,qio,qk3,qk6⟩:=qj5 (Kd.qcU qcr.out).2.2 iW qpg qph
                   cases qvk
                   obtain ⟨qwD,qqC,qqD,qnJ⟩:=Kd.qj3 qcr.out [] iW qpg (by first|exact qph|exact of_decide_eq_true tA|(have e_:=(Kd.qcU qcr.out).1;omega));obtain ⟨qtc,rfl,qiP⟩:=qqD;have qfb:=qnJ 0 _ rfl;rw [Nat.add_zero,show ((Kd.slice 3 (Kd.int .i64))).sz=1 from rfl,Nat.mul_one] at qfb;replace qfb:=Option.some.inj (qfb.symm.trans qio);rw [qfb] at qiP;have qei:=aj.mk (show Kd.R (Kd.int .i64) 3 _ _ _ _ (qct qcV iW) from qiP);clear qfb qiP;clear qnJ qqC;have qdH:=aj.mk qk6;have qpi:=aj.mk qk3;clear qk6 qk3;replace qpg:=eq_true qpg;replace qph:=eq_true qph;have qpj:0<=(qcy:Int):=of_decide_eq_true tA;have qpl:qcy<(qea.length:Int):=of_decide_eq_true tA;obtain ⟨qld,qnK,qnL,qvl,qiQ,qle,qlg⟩:=qj5 (Kd.qcU qcw.out).2.2 qcy qpj qpl
                   cases qvl
                   obtain ⟨qwE,qqE,qqF,qnM⟩:=Kd.qj3 qcw.out [] qcy qpj (by first|exact qpl|exact of_decide_eq_true tA|(have e_:=(Kd.qcU qcw.out).1;omega));obtain ⟨qtd,rfl,qiR⟩:=qqF;have qfc:=qnM 0 _ rfl;rw [Nat.add_zero,show ((Kd.slice 3 (Kd.int .i64))).sz=1 from rfl,Nat.mul_one] at qfc;replace qfc:=Option.some.inj (qfc.symm.trans qiQ);rw [qfc] at qiR;have qeo:=aj.mk (show Kd.R (Kd.int .i64) 3 _ _ _ _ (qct qea qcy) from qiR);clear qfc qiR;clear qnM qqE;have qdW:=aj.mk qlg;have qpm:=aj.mk qle;clear qlg qle;replace qpj:=eq_true qpj;replace qpl:=eq_true qpl;have qpn:0<=(iW:Int):=of_decide_eq_true tA;have qpo:iW<(qcV.length:Int):=of_decide_eq_true tA;obtain ⟨qsm,qvm,qvn,qvo,qir,qlk,qlE⟩:=qj5 (Kd.qcU qcr.out).2.2 iW qpn qpo;obtain rfl:qiI=qsm:=(by injection qvo);obtain ⟨qwF,qqG,qqH,qnN⟩:=Kd.qj3 qcr.out [] iW qpn (by first|exact qpo|exact of_decide_eq_true tA|(have e_:=(Kd.qcU qcr.out).1;omega));obtain ⟨qte,rfl,qiS⟩:=qqH;have qfl:=qnN 0 _ rfl;rw [Nat.add_zero,show ((Kd.slice 3 (Kd.int .i64))).sz=1 from rfl,Nat.mul_one] at qfl;replace qfl:=Option.some.inj (qfl.symm.trans qir);rw [qfl] at qiS;have qep:=aj.mk (show Kd.R (Kd.int .i64) 3 _ _ _ _ (qct qcV iW) from qiS);clear qfl qiS;clear qnN qqG;have qd4:=aj.mk qlE;have qpw:=aj.mk qlk;clear qlE qlk;replace qpn:=eq_true qpn;replace qpo:=eq_true qpo;have BI:=Option.some.inj (qio.symm.trans qir)
                   injection BI with BI R6 R7
                   subst BI;subst R7;clear R6;have qpz:0<=(qcY:Int):=of_decide_eq_true tA;have qpA:qcY<(qef.length:Int):=of_decide_eq_true tA;obtain ⟨qlJ,qnP,qn1,qvp,qiT,qlK,qlL⟩:=qj5 (Kd.qcU oF.out).2.2 qcY qpz qpA
                   cases qvp
                   obtain ⟨qwG,qqI,qqJ,qn5⟩:=Kd.qj3 oF.out [] qcY qpz (by first|exact qpA|exact of_decide_eq_true tA|(have e_:=(Kd.qcU oF.out).1;omega));obtain ⟨qtf,rfl,qiY⟩:=qqJ;have qfx:=qn5 0 _ rfl;rw [Nat.add_zero,show ((Kd.slice 3 (Kd.int .i64))).sz=1 from rfl,Nat.mul_one] at qfx;replace qfx:=Option.some.inj (qfx.symm.trans qiT);rw [qfx] at qiY;have qeK:=aj.mk (show Kd.R (Kd.int .i64) 3 _ _ _ _ (qct qef qcY) from qiY);clear qfx qiY;clear qn5 qqI;have qd5:=aj.mk qlL;have qpB:=aj.mk qlK;clear qlL qlK;replace qpz:=eq_true qpz;replace qpA:=eq_true qpA;refine kK (n:=26) (S:=fun w'=>w'.cell? ⟨qnF,0,none⟩=some (.slice bC av.length aZ)∧w'.cell? (qiI.add (iW).toNat)=some (.slice qiK (qct qcV iW).length qiL)∧w'.cell? (qld.add (qcy).toNat)=some (.slice qnK (qct qea qcy).length qnL)∧w'.cell? (qiI.add (iW).toNat)=some (.slice qiK (qct qcV iW).length qiL)∧w'.cell? (qlJ.add (qcY).toNat)=some (.slice qnP (qct qef qcY).length qn1)) (ds:=[]) #[false,false,false,false,false,false,false,false,false,false,false,false,false,false,false,false,false,false,false,false,false,false,false,false,false,false] tX rfl rfl ⟨(aM qcB.out 0).trans rfl,qio,qiQ,qir,qiT⟩ (fun hHeld=>?_);refine mX qam.quj qam.qsi (fun fq yF=>?_)
                   generalize wr.drew=w43 at qcr qcw oF Cm qcu qcB HB qei qeo qep qeK qdH qdW qd4 qd5 qio qiQ qir qiT hHeld ⊢
                   refine pS 1 52 (bA 26 2) fq ?_;refine pS 2 53 (bA 26 6) fq ?_;refine pS 3 54 (bA 26 14) fq ?_;refine pS 4 55 (bA 26 30) fq ?_;refine pS 6 57 (bA 26 94) fq ?_;refine pS 7 58 (bA 26 222) fq ?_;refine pS 8 59 (bA 26 478) fq ?_;refine pS 9 60 (bA 26 990) fq ?_;refine pS 13 64 (bA 26 9182) fq ?_;refine pS 14 65 (bA 26 25566) fq ?_;refine pS 15 66 (bA 26 58334) fq ?_;refine pS 16 67 (bA 26 123870) fq ?_;refine pS 18 69 (bA 26 386014) fq ?_;refine pS 19 70 (bA 26 910302) fq ?_;refine pS 20 71 (bA 26 1958878) fq ?_;refine pS 21 72 (bA 26 4056030) fq ?_;refine qyJ 0 51 (bA 26 4056031) fq yF hHeld ?_;refine qyJ 5 56 (bA 26 4056063) fq yF hHeld ?_;refine qyJ 10 61 (bA 26 4057087) fq yF hHeld ?_;refine qyJ 12 63 (bA 26 4061183) fq yF hHeld ?_;refine qyJ 17 68 (bA 26 4192255) fq yF hHeld ?_;refine qyJ 22 73 (bA 26 8386559) fq yF hHeld ?_;refine gZ (i:=11) (N:=some 62) (bA 26 8388607) rfl rfl (jq fq.out tX) (by decide) (fun K hK=>?_);refine gK Tryz.func111 tX rfl #[.agg #[.slice bC av.length aZ],.int .i64 a1,.slice qiK (qct qcV iW).length qiL,.slice A2 l2.length c2,.slice qnK (qct qea qcy).length qnL] (by rfl) rfl rfl tM ?_
                   with_reducible refine (qbf.calls k3 _ _ av a1 _ _ (qct qcV iW) _ _ l2 _ _ (qct qea qcy) qjB _ ?bK ?bL ?fM ?fO ?jI ?zL ?J3 ?J4 A34.out).mono ?_
                   (case bK=>exact cS dM)
                   (case bL=>exact fu.out)
                   (case fM=>repeat (first|exact (by repeat (first|(with_reducible exact qdH.out)|(with_reducible refine Kd.bM ?_ _)|(with_reducible refine Kd.bN ?_ _)|(with_reducible refine Kd.cO ?_)|exact qdH.out))|(with_reducible refine Kd.bM ?_ _)|(with_reducible refine Kd.bN ?_ _)|(with_reducible refine Kd.cO ?_)))
                   (case fO=>exact qpi.out)
                   (case jI=>exact cS HR2)
                   (case zL=>exact HC2.out)
                   (case J3=>repeat (first|exact (by repeat (first|(with_reducible exact qdW.out)|(with_reducible refine Kd.bM ?_ _)|(with_reducible refine Kd.bN ?_ _)|(with_reducible refine Kd.cO ?_)|exact qdW.out))|(with_reducible refine Kd.bM ?_ _)|(with_reducible refine Kd.bN ?_ _)|(with_reducible refine Kd.cO ?_)))
                   (case J4=>exact qpm.out)
                   rintro e w44 ⟨rfl,hb⟩;have qqK:=(hb.cell (World.block_lt_of_cell? _ _ (hHeld.2.1))).trans (hHeld.2.1);have qqL:=(hb.cell (World.block_lt_of_cell? _ _ (hHeld.2.2.1))).trans (hHeld.2.2.1);have qqM:=(hb.cell (World.block_lt_of_cell? _ _ (hHeld.2.2.2.1))).trans (hHeld.2.2.2.1);have qqN:=(hb.cell (World.block_lt_of_cell? _ _ (hHeld.2.2.2.2))).trans (hHeld.2.2.2.2);refine ⟨_,rfl,?_⟩;replace qcr:=aj.mk (Kd.qcX (by (with_reducible repeat (first|apply Kd.qbk|apply Kd.qbm|apply Kd.qbT));exact qcr.out) hb);replace qcw:=aj.mk (Kd.qcX (by (with_reducible repeat (first|apply Kd.qbk|apply Kd.qbm|apply Kd.qbT));exact qcw.out) hb);replace oF:=aj.mk (Kd.qcX (by (with_reducible repeat (first|apply Kd.qbk|apply Kd.qbm|apply Kd.qbT));exact oF.out) hb);replace Cm:=tZ Cm hb;replace qcu:=tZ qcu hb;replace qei:=tZ qei hb;replace qeo:=tZ qeo hb;replace qep:=tZ qep hb;replace qeK:=tZ qeK hb;replace qcB:=bW qcB hb;replace qdH:=aj.mk (Kd.ak (by repeat (first|(with_reducible exact qdH.out)|(with_reducible refine Kd.bM ?_ _)|(with_reducible refine Kd.bN ?_ _)|(with_reducible refine Kd.cO ?_)|exact qdH.out)) hb);replace qdW:=aj.mk (Kd.ak (by repeat (first|(with_reducible exact qdW.out)|(with_reducible refine Kd.bM ?_ _)|(with_reducible refine Kd.bN ?_ _)|(with_reducible refine Kd.cO ?_)|exact qdW.out)) hb);replace qd4:=aj.mk (Kd.ak (by repeat (first|(with_reducible exact qd4.out)|(with_reducible refine Kd.bM ?_ _)|(with_reducible refine Kd.bN ?_ _)|(with_reducible refine Kd.cO ?_)|exact qd4.out)) hb);replace qd5:=aj.mk (Kd.ak (by repeat (first|(with_reducible exact qd5.out)|(with_reducible refine Kd.bM ?_ _)|(with_reducible refine Kd.bN ?_ _)|(with_reducible refine Kd.cO ?_)|exact qd5.out)) hb);replace HB:=dL HB hb
                   (try clear hb)
                   (try clear hb2)
                   (try clear hk)
                   (try clear hi)
                   refine hK.out _ _ ⟨(aM qcB.out 0).trans rfl,qqK,qqL,qqM,qqN⟩ (fun hHeld=>?_);clear hK K;refine dn (a':=?_) ?_ ?_;rotate_left
                   ·show Act.put _ (some 62) _=_
                    simp only [Act.put,sL,ay,aA]
                    rfl
                   refine gZ (i:=23) (N:=some 74) (bA 26 16777215) rfl rfl (jq fq.out tX) (by decide) (fun K hK=>?_);refine gK Tryz.func111 tX rfl #[.agg #[.slice bC av.length aZ],.int .i64 a1,.slice qiK (qct qcV iW).length qiL,.slice A3 l3.length c3,.slice qnP (qct qef qcY).length qn1] (by rfl) rfl rfl tM ?_
                   with_reducible refine (qbf.calls k3 _ _ av a1 _ _ (qct qcV iW) _ _ l3 _ _ (qct qef qcY) qjC _ ?bK ?bL ?fM ?fO ?jI ?zL ?J3 ?J4 A36.out).mono ?_
                   (case bK=>exact cS dM)
                   (case bL=>exact fu.out)
                   (case fM=>repeat (first|exact (by repeat (first|(with_reducible exact qd4.out)|(with_reducible refine Kd.bM ?_ _)|(with_reducible refine Kd.bN ?_ _)|(with_reducible refine Kd.cO ?_)|exact qd4.out))|(with_reducible refine Kd.bM ?_ _)|(with_reducible refine Kd.bN ?_ _)|(with_reducible refine Kd.cO ?_)))
                   (case fO=>exact qpw.out)
                   (case jI=>exact cS HR3)
                   (case zL=>exact R9.out)
                   (case J3=>repeat (first|exact (by repeat (first|(with_reducible exact qd5.out)|(with_reducible refine Kd.bM ?_ _)|(with_reducible refine Kd.bN ?_ _)|(with_reducible refine Kd.cO ?_)|exact qd5.out))|(with_reducible refine Kd.bM ?_ _)|(with_reducible refine Kd.bN ?_ _)|(with_reducible refine Kd.cO ?_)))
                   (case J4=>exact qpB.out)
                   rintro e w45 ⟨rfl,hb⟩;have qqK:=(hb.cell (World.block_lt_of_cell? _ _ (hHeld.2.1))).trans (hHeld.2.1);have qqL:=(hb.cell (World.block_lt_of_cell? _ _ (hHeld.2.2.1))).trans (hHeld.2.2.1);have qqM:=(hb.cell (World.block_lt_of_cell? _ _ (hHeld.2.2.2.1))).trans (hHeld.2.2.2.1);have qqN:=(hb.cell (World.block_lt_of_cell? _ _ (hHeld.2.2.2.2))).trans (hHeld.2.2.2.2);refine ⟨_,rfl,?_⟩;replace qcr:=aj.mk (Kd.qcX (by (with_reducible repeat (first|apply Kd.qbk|apply Kd.qbm|apply Kd.qbT));exact qcr.out) hb);replace qcw:=aj.mk (Kd.qcX (by (with_reducible repeat (first|apply Kd.qbk|apply Kd.qbm|apply Kd.qbT));exact qcw.out) hb);replace oF:=aj.mk (Kd.qcX (by (with_reducible repeat (first|apply Kd.qbk|apply Kd.qbm|apply Kd.qbT));exact oF.out) hb);replace Cm:=tZ Cm hb;replace qcu:=tZ qcu hb;replace qei:=tZ qei hb;replace qeo:=tZ qeo hb;replace qep:=tZ qep hb;replace qeK:=tZ qeK hb;replace qcB:=bW qcB hb;replace qdH:=aj.mk (Kd.ak (by repeat (first|(with_reducible exact qdH.out)|(with_reducible refine Kd.bM ?_ _)|(with_reducible refine Kd.bN ?_ _)|(with_reducible refine Kd.cO ?_)|exact qdH.out)) hb);replace qdW:=aj.mk (Kd.ak (by repeat (first|(with_reducible exact qdW.out)|(with_reducible refine Kd.bM ?_ _)|(with_reducible refine Kd.bN ?_ _)|(with_reducible refine Kd.cO ?_)|exact qdW.out)) hb);replace qd4:=aj.mk (Kd.ak (by repeat (first|(with_reducible exact qd4.out)|(with_reducible refine Kd.bM ?_ _)|(with_reducible refine Kd.bN ?_ _)|(with_reducible refine Kd.cO ?_)|exact qd4.out)) hb);replace qd5:=aj.mk (Kd.ak (by repeat (first|(with_reducible exact qd5.out)|(with_reducible refine Kd.bM ?_ _)|(with_reducible refine Kd.bN ?_ _)|(with_reducible refine Kd.cO ?_)|exact qd5.out)) hb);replace HB:=dL HB hb
                   (try clear hb)
                   (try clear hb2)
                   (try clear hk)
                   (try clear hi)
                   refine hK.out _ _ ⟨(aM qcB.out 0).trans rfl,qqK,qqL,qqM,qqN⟩ (fun hHeld=>?_);clear hK K;refine dn (a':=?_) ?_ ?_;rotate_left
                   ·show Act.put _ (some 74) _=_
                    simp only [Act.put,sL,ay,aA]
                    rfl
                   refine pS 24 75 (bA 26 33554431) fq ?_;refine pS 25 17 (bA 26 67108863) fq ?_;refine lK (qU fq.out tX) ?_;obtain ⟨qBe,qBf,qyF⟩:=Kd.jc Cm.out;subst qyF;have qqO:0<=((qhB):Int):=of_decide_eq_true tA;have qqP:(qhB)<(qcp.length:Int):=of_decide_eq_true tA;obtain ⟨qwH,qvq,qnt⟩:=Kd.qnl (Kd.eB Cm.out).2.2 (qhB) qqO qqP
                   (try rw [← qum.out] at qnt)
                   cases qvq
                   replace qqO:=eq_true qqO;replace qqP:=eq_true qqP
                   try go_wp2
                   go_roundg k3
                   case measure=>have:=qg.out;have:=VO.out;have:=HK3.out;omega
                   case rel=>exact ⟨(qcp),(qcE),(wrap64 (qcY+1)),tS,H',⟨by have:=qg.out;have:=VO.out;have:=HK3.out;omega⟩,⟨by (with_reducible repeat (first|apply Kd.qbk|apply Kd.qbm|apply Kd.qbT));exact qcr.out⟩,⟨by (with_reducible repeat (first|apply Kd.qbk|apply Kd.qbm|apply Kd.qbT));exact qcw.out⟩,⟨by (with_reducible repeat (first|apply Kd.qbk|apply Kd.qbm|apply Kd.qbT));exact oF.out⟩,⟨(qCo Cm)⟩,⟨(qCo qcu)⟩,⟨(qB2 qcB)⟩,⟨tB⟩⟩
                  ·replace c41:=Bool.eq_false_iff.mpr c41
                   subst c41
                   have H1:(if qcE.length<17592186044416 then (qam.l2 k3 a1 l2 l3 qcV qea qef (qcp.set ((qhB):Int).toNat true) (qcE++[wrap64 (qjB - qjC)]) iW qcy (wrap64 (qcY+1)) av) else (none))=some r:=by rw [if_neg (show ¬ (false=true) by decide)] at H;exact H
                   clear H;have H:=H1;clear H1;obtain ⟨qtg,qp3⟩:∃ y_:List Bool,y_=(qcp.set ((qhB):Int).toNat true):=⟨_,rfl⟩
                   replace H:(if qcE.length<17592186044416 then (qam.l2 k3 a1 l2 l3 qcV qea qef qtg (qcE++[wrap64 (qjB - qjC)]) iW qcy (wrap64 (qcY+1)) av) else (none))=some r:=by first|(rw [qp3];with_reducible exact H)|(have jr:=(Option.bind_some _ _).symm.trans H;rw [qp3];with_reducible exact jr)|(have jr:=(Option.bind_some _ _).symm.trans H;with_reducible exact jr)|with_reducible exact H|(rw [qp3];exact H)|exact H
                   have qwI:=aj.mk qp3;clear qp3
                   by_cases c48:qcE.length<17592186044416
                   ·rw [if_pos c48] at H
                    have qwJ:=aj.mk c48;clear c48;obtain ⟨qwK,qp4⟩:∃ y_:List Int,y_=(qcE++[wrap64 (qjB - qjC)]):=⟨_,rfl⟩
                    replace H:(qam.l2 k3 a1 l2 l3 qcV qea qef qtg qwK iW qcy (wrap64 (qcY+1)) av)=some r:=by first|(rw [qp4];with_reducible exact H)|(have jr:=(Option.bind_some _ _).symm.trans H;rw [qp4];with_reducible exact jr)|(have jr:=(Option.bind_some _ _).symm.trans H;with_reducible exact jr)|with_reducible exact H|(rw [qp4];exact H)|exact H
                    have qwL:=aj.mk qp4;clear qp4;have H':=aj.mk H;clear H;obtain ⟨qBg,qrN,qyG⟩:=Kd.qhD oF.out;subst qyG
                    try go_wp2
                    replace qcr:=aj.mk (Kd.qbT qcr.out);replace qcw:=aj.mk (Kd.qbT qcw.out);replace oF:=aj.mk (Kd.qbT oF.out);replace Cm:=aj.mk (Kd.mJ Cm.out);replace qcu:=aj.mk (Kd.mJ qcu.out);replace qcB:=aj.mk (aN qcB.out);replace HB:=aj.mk (jD HB.out);have qpg:0<=(iW:Int):=of_decide_eq_true tA;have qph:iW<(qcV.length:Int):=of_decide_eq_true tA;obtain ⟨qiI,qiK,qiL,qvk,qio,qk3,qk6⟩:=qj5 (Kd.qcU qcr.out).2.2 iW qpg qph
                    cases qvk
                    obtain ⟨qwD,qqC,qqD,qnJ⟩:=Kd.qj3 qcr.out [] iW qpg (by first|exact qph|exact of_decide_eq_true tA|(have e_:=(Kd.qcU qcr.out).1;omega));obtain ⟨qtc,rfl,qiP⟩:=qqD;have qfb:=qnJ 0 _ rfl;rw [Nat.add_zero,show ((Kd.slice 3 (Kd.int .i64))).sz=1 from rfl,Nat.mul_one] at qfb;replace qfb:=Option.some.inj (qfb.symm.trans qio);rw [qfb] at qiP;have qei:=aj.mk (show Kd.R (Kd.int .i64) 3 _ _ _ _ (qct qcV iW) from qiP);clear qfb qiP;clear qnJ qqC;have qdH:=aj.mk qk6;have qpi:=aj.mk qk3;clear qk6 qk3;replace qpg:=eq_true qpg;replace qph:=eq_true qph;have qpj:0<=(qcy:Int):=of_decide_eq_true tA;have qpl:qcy<(qea.length:Int):=of_decide_eq_true tA;obtain ⟨qld,qnK,qnL,qvl,qiQ,qle,qlg⟩:=qj5 (Kd.qcU qcw.out).2.2 qcy qpj qpl
                    cases qvl
                    obtain ⟨qwE,qqE,qqF,qnM⟩:=Kd.qj3 qcw.out [] qcy qpj (by first|exact qpl|exact of_decide_eq_true tA|(have e_:=(Kd.qcU qcw.out).1;omega));obtain ⟨qtd,rfl,qiR⟩:=qqF;have qfc:=qnM 0 _ rfl;rw [Nat.add_zero,show ((Kd.slice 3 (Kd.int .i64))).sz=1 from rfl,Nat.mul_one] at qfc;replace qfc:=Option.some.inj (qfc.symm.trans qiQ);rw [qfc] at qiR;have qeo:=aj.mk (show Kd.R (Kd.int .i64) 3 _ _ _ _ (qct qea qcy) from qiR);clear qfc qiR;clear qnM qqE;have qdW:=aj.mk qlg;have qpm:=aj.mk qle;clear qlg qle;replace qpj:=eq_true qpj;replace qpl:=eq_true qpl;have qpn:0<=(iW:Int):=of_decide_eq_true tA;have qpo:iW<(qcV.length:Int):=of_decide_eq_true tA;obtain ⟨qsm,qvm,qvn,qvo,qir,qlk,qlE⟩:=qj5 (Kd.qcU qcr.out).2.2 iW qpn qpo;obtain rfl:qiI=qsm:=(by injection qvo);obtain ⟨qwF,qqG,qqH,qnN⟩:=Kd.qj3 qcr.out [] iW qpn (by first|exact qpo|exact of_decide_eq_true tA|(have e_:=(Kd.qcU qcr.out).1;omega));obtain ⟨qte,rfl,qiS⟩:=qqH;have qfl:=qnN 0 _ rfl;rw [Nat.add_zero,show ((Kd.slice 3 (Kd.int .i64))).sz=1 from rfl,Nat.mul_one] at qfl;replace qfl:=Option.some.inj (qfl.symm.trans qir);rw [qfl] at qiS;have qep:=aj.mk (show Kd.R (Kd.int .i64) 3 _ _ _ _ (qct qcV iW) from qiS);clear qfl qiS;clear qnN qqG;have qd4:=aj.mk qlE;have qpw:=aj.mk qlk;clear qlE qlk;replace qpn:=eq_true qpn;replace qpo:=eq_true qpo;have BI:=Option.some.inj (qio.symm.trans qir)
                    injection BI with BI R6 R7
                    subst BI;subst R7;clear R6;have qpz:0<=(qcY:Int):=of_decide_eq_true tA;have qpA:qcY<(qef.length:Int):=of_decide_eq_true tA;obtain ⟨qlJ,qnP,qn1,qvp,qiT,qlK,qlL⟩:=qj5 (Kd.qcU oF.out).2.2 qcY qpz qpA
                    cases qvp
                    obtain ⟨qwG,qqI,qqJ,qn5⟩:=Kd.qj3 oF.out [] qcY qpz (by first|exact qpA|exact of_decide_eq_true tA|(have e_:=(Kd.qcU oF.out).1;omega));obtain ⟨qtf,rfl,qiY⟩:=qqJ;have qfx:=qn5 0 _ rfl;rw [Nat.add_zero,show ((Kd.slice 3 (Kd.int .i64))).sz=1 from rfl,Nat.mul_one] at qfx;replace qfx:=Option.some.inj (qfx.symm.trans qiT);rw [qfx] at qiY;have qeK:=aj.mk (show Kd.R (Kd.int .i64) 3 _ _ _ _ (qct qef qcY) from qiY);clear qfx qiY;clear qn5 qqI;have qd5:=aj.mk qlL;have qpB:=aj.mk qlK;clear qlL qlK;replace qpz:=eq_true qpz;replace qpA:=eq_true qpA;refine kK (n:=26) (S:=fun w'=>w'.cell? ⟨qnF,0,none⟩=some (.slice bC av.length aZ)∧w'.cell? (qiI.add (iW).toNat)=some (.slice qiK (qct qcV iW).length qiL)∧w'.cell? (qld.add (qcy).toNat)=some (.slice qnK (qct qea qcy).length qnL)∧w'.cell? (qiI.add (iW).toNat)=some (.slice qiK (qct qcV iW).length qiL)∧w'.cell? (qlJ.add (qcY).toNat)=some (.slice qnP (qct qef qcY).length qn1)) (ds:=[]) #[false,false,false,false,false,false,false,false,false,false,false,false,false,false,false,false,false,false,false,false,false,false,false,false,false,false] tX rfl rfl ⟨(aM qcB.out 0).trans rfl,qio,qiQ,qir,qiT⟩ (fun hHeld=>?_);refine mX qam.quj qam.qsi (fun fq yF=>?_)
                    generalize wr.drew=w50 at qcr qcw oF Cm qcu qcB HB qei qeo qep qeK qdH qdW qd4 qd5 qio qiQ qir qiT hHeld ⊢
                    refine pS 1 52 (bA 26 2) fq ?_;refine pS 2 53 (bA 26 6) fq ?_;refine pS 3 54 (bA 26 14) fq ?_;refine pS 4 55 (bA 26 30) fq ?_;refine pS 6 57 (bA 26 94) fq ?_;refine pS 7 58 (bA 26 222) fq ?_;refine pS 8 59 (bA 26 478) fq ?_;refine pS 9 60 (bA 26 990) fq ?_;refine pS 13 64 (bA 26 9182) fq ?_;refine pS 14 65 (bA 26 25566) fq ?_;refine pS 15 66 (bA 26 58334) fq ?_;refine pS 16 67 (bA 26 123870) fq ?_;refine pS 18 69 (bA 26 386014) fq ?_;refine pS 19 70 (bA 26 910302) fq ?_;refine pS 20 71 (bA 26 1958878) fq ?_;refine pS 21 72 (bA 26 4056030) fq ?_;refine qyJ 0 51 (bA 26 4056031) fq yF hHeld ?_;refine qyJ 5 56 (bA 26 4056063) fq yF hHeld ?_;refine qyJ 10 61 (bA 26 4057087) fq yF hHeld ?_;refine qyJ 12 63 (bA 26 4061183) fq yF hHeld ?_;refine qyJ 17 68 (bA 26 4192255) fq yF hHeld ?_;refine qyJ 22 73 (bA 26 8386559) fq yF hHeld ?_;refine gZ (i:=11) (N:=some 62) (bA 26 8388607) rfl rfl (jq fq.out tX) (by decide) (fun K hK=>?_);refine gK Tryz.func111 tX rfl #[.agg #[.slice bC av.length aZ],.int .i64 a1,.slice qiK (qct qcV iW).length qiL,.slice A2 l2.length c2,.slice qnK (qct qea qcy).length qnL] (by rfl) rfl rfl tM ?_
                    with_reducible refine (qbf.calls k3 _ _ av a1 _ _ (qct qcV iW) _ _ l2 _ _ (qct qea qcy) qjB _ ?bK ?bL ?fM ?fO ?jI ?zL ?J3 ?J4 A34.out).mono ?_
                    (case bK=>exact cS dM)
                    (case bL=>exact fu.out)
                    (case fM=>repeat (first|exact (by repeat (first|(with_reducible exact qdH.out)|(with_reducible refine Kd.bM ?_ _)|(with_reducible refine Kd.bN ?_ _)|(with_reducible refine Kd.cO ?_)|exact qdH.out))|(with_reducible refine Kd.bM ?_ _)|(with_reducible refine Kd.bN ?_ _)|(with_reducible refine Kd.cO ?_)))
                    (case fO=>exact qpi.out)
                    (case jI=>exact cS HR2)
                    (case zL=>exact HC2.out)
                    (case J3=>repeat (first|exact (by repeat (first|(with_reducible exact qdW.out)|(with_reducible refine Kd.bM ?_ _)|(with_reducible refine Kd.bN ?_ _)|(with_reducible refine Kd.cO ?_)|exact qdW.out))|(with_reducible refine Kd.bM ?_ _)|(with_reducible refine Kd.bN ?_ _)|(with_reducible refine Kd.cO ?_)))
                    (case J4=>exact qpm.out)
                    rintro e w51 ⟨rfl,hb⟩;have qqK:=(hb.cell (World.block_lt_of_cell? _ _ (hHeld.2.1))).trans (hHeld.2.1);have qqL:=(hb.cell (World.block_lt_of_cell? _ _ (hHeld.2.2.1))).trans (hHeld.2.2.1);have qqM:=(hb.cell (World.block_lt_of_cell? _ _ (hHeld.2.2.2.1))).trans (hHeld.2.2.2.1);have qqN:=(hb.cell (World.block_lt_of_cell? _ _ (hHeld.2.2.2.2))).trans (hHeld.2.2.2.2);refine ⟨_,rfl,?_⟩;replace qcr:=aj.mk (Kd.qcX (by (with_reducible repeat (first|apply Kd.qbk|apply Kd.qbm|apply Kd.qbT));exact qcr.out) hb);replace qcw:=aj.mk (Kd.qcX (by (with_reducible repeat (first|apply Kd.qbk|apply Kd.qbm|apply Kd.qbT));exact qcw.out) hb);replace oF:=aj.mk (Kd.qcX (by (with_reducible repeat (first|apply Kd.qbk|apply Kd.qbm|apply Kd.qbT));exact oF.out) hb);replace Cm:=tZ Cm hb;replace qcu:=tZ qcu hb;replace qei:=tZ qei hb;replace qeo:=tZ qeo hb;replace qep:=tZ qep hb;replace qeK:=tZ qeK hb;replace qcB:=bW qcB hb;replace qdH:=aj.mk (Kd.ak (by repeat (first|(with_reducible exact qdH.out)|(with_reducible refine Kd.bM ?_ _)|(with_reducible refine Kd.bN ?_ _)|(with_reducible refine Kd.cO ?_)|exact qdH.out)) hb);replace qdW:=aj.mk (Kd.ak (by repeat (first|(with_reducible exact qdW.out)|(with_reducible refine Kd.bM ?_ _)|(with_reducible refine Kd.bN ?_ _)|(with_reducible refine Kd.cO ?_)|exact qdW.out)) hb);replace qd4:=aj.mk (Kd.ak (by repeat (first|(with_reducible exact qd4.out)|(with_reducible refine Kd.bM ?_ _)|(with_reducible refine Kd.bN ?_ _)|(with_reducible refine Kd.cO ?_)|exact qd4.out)) hb);replace qd5:=aj.mk (Kd.ak (by repeat (first|(with_reducible exact qd5.out)|(with_reducible refine Kd.bM ?_ _)|(with_reducible refine Kd.bN ?_ _)|(with_reducible refine Kd.cO ?_)|exact qd5.out)) hb);replace HB:=dL HB hb
                    (try clear hb)
                    (try clear hb2)
                    (try clear hk)
                    (try clear hi)
                    refine hK.out _ _ ⟨(aM qcB.out 0).trans rfl,qqK,qqL,qqM,qqN⟩ (fun hHeld=>?_);clear hK K;refine dn (a':=?_) ?_ ?_;rotate_left
                    ·show Act.put _ (some 62) _=_
                     simp only [Act.put,sL,ay,aA]
                     rfl
                    refine gZ (i:=23) (N:=some 74) (bA 26 16777215) rfl rfl (jq fq.out tX) (by decide) (fun K hK=>?_);refine gK Tryz.func111 tX rfl #[.agg #[.slice bC av.length aZ],.int .i64 a1,.slice qiK (qct qcV iW).length qiL,.slice A3 l3.length c3,.slice qnP (qct qef qcY).length qn1] (by rfl) rfl rfl tM ?_
                    with_reducible refine (qbf.calls k3 _ _ av a1 _ _ (qct qcV iW) _ _ l3 _ _ (qct qef qcY) qjC _ ?bK ?bL ?fM ?fO ?jI ?zL ?J3 ?J4 A36.out).mono ?_
                    (case bK=>exact cS dM)
                    (case bL=>exact fu.out)
                    (case fM=>repeat (first|exact (by repeat (first|(with_reducible exact qd4.out)|(with_reducible refine Kd.bM ?_ _)|(with_reducible refine Kd.bN ?_ _)|(with_reducible refine Kd.cO ?_)|exact qd4.out))|(with_reducible refine Kd.bM ?_ _)|(with_reducible refine Kd.bN ?_ _)|(with_reducible refine Kd.cO ?_)))
                    (case fO=>exact qpw.out)
                    (case jI=>exact cS HR3)
                    (case zL=>exact R9.out)
                    (case J3=>repeat (first|exact (by repeat (first|(with_reducible exact qd5.out)|(with_reducible refine Kd.bM ?_ _)|(with_reducible refine Kd.bN ?_ _)|(with_reducible refine Kd.cO ?_)|exact qd5.out))|(with_reducible refine Kd.bM ?_ _)|(with_reducible refine Kd.bN ?_ _)|(with_reducible refine Kd.cO ?_)))
                    (case J4=>exact qpB.out)
                    rintro e w52 ⟨rfl,hb⟩;have qqK:=(hb.cell (World.block_lt_of_cell? _ _ (hHeld.2.1))).trans (hHeld.2.1);have qqL:=(hb.cell (World.block_lt_of_cell? _ _ (hHeld.2.2.1))).trans (hHeld.2.2.1);have qqM:=(hb.cell (World.block_lt_of_cell? _ _ (hHeld.2.2.2.1))).trans (hHeld.2.2.2.1);have qqN:=(hb.cell (World.block_lt_of_cell? _ _ (hHeld.2.2.2.2))).trans (hHeld.2.2.2.2);refine ⟨_,rfl,?_⟩;replace qcr:=aj.mk (Kd.qcX (by (with_reducible repeat (first|apply Kd.qbk|apply Kd.qbm|apply Kd.qbT));exact qcr.out) hb);replace qcw:=aj.mk (Kd.qcX (by (with_reducible repeat (first|apply Kd.qbk|apply Kd.qbm|apply Kd.qbT));exact qcw.out) hb);replace oF:=aj.mk (Kd.qcX (by (with_reducible repeat (first|apply Kd.qbk|apply Kd.qbm|apply Kd.qbT));exact oF.out) hb);replace Cm:=tZ Cm hb;replace qcu:=tZ qcu hb;replace qei:=tZ qei hb;replace qeo:=tZ qeo hb;replace qep:=tZ qep hb;replace qeK:=tZ qeK hb;replace qcB:=bW qcB hb;replace qdH:=aj.mk (Kd.ak (by repeat (first|(with_reducible exact qdH.out)|(with_reducible refine Kd.bM ?_ _)|(with_reducible refine Kd.bN ?_ _)|(with_reducible refine Kd.cO ?_)|exact qdH.out)) hb);replace qdW:=aj.mk (Kd.ak (by repeat (first|(with_reducible exact qdW.out)|(with_reducible refine Kd.bM ?_ _)|(with_reducible refine Kd.bN ?_ _)|(with_reducible refine Kd.cO ?_)|exact qdW.out)) hb);replace qd4:=aj.mk (Kd.ak (by repeat (first|(with_reducible exact qd4.out)|(with_reducible refine Kd.bM ?_ _)|(with_reducible refine Kd.bN ?_ _)|(with_reducible refine Kd.cO ?_)|exact qd4.out)) hb);replace qd5:=aj.mk (Kd.ak (by repeat (first|(with_reducible exact qd5.out)|(with_reducible refine Kd.bM ?_ _)|(with_reducible refine Kd.bN ?_ _)|(with_reducible refine Kd.cO ?_)|exact qd5.out)) hb);replace HB:=dL HB hb
                    (try clear hb)
                    (try clear hb2)
                    (try clear hk)
                    (try clear hi)
                    refine hK.out _ _ ⟨(aM qcB.out 0).trans rfl,qqK,qqL,qqM,qqN⟩ (fun hHeld=>?_);clear hK K;refine dn (a':=?_) ?_ ?_;rotate_left
                    ·show Act.put _ (some 74) _=_
                     simp only [Act.put,sL,ay,aA]
                     rfl
                    refine pS 24 75 (bA 26 33554431) fq ?_;refine pS 25 17 (bA 26 67108863) fq ?_;refine lK (qU fq.out tX) ?_;obtain ⟨qBi,qpC,qyI⟩:=Kd.jc Cm.out;subst qyI;have qqO:0<=((qhB):Int):=of_decide_eq_true tA;have qqP:(qhB)<(qcp.length:Int):=of_decide_eq_true tA;obtain ⟨qwH,qvq,qnt⟩:=Kd.qnl (Kd.eB Cm.out).2.2 (qhB) qqO qqP
                    (try rw [← qum.out] at qnt)
                    cases qvq
                    replace qqO:=eq_true qqO;replace qqP:=eq_true qqP;have p47:0<=((qhB):Int):=of_decide_eq_true tA;have q47:((qhB):Int)<((qcp.length:Int):Int):=of_decide_eq_true tA;obtain ⟨qn6,qBj,qwM,qwN,qyK,qBk,qwO⟩:=Kd.qaf Cm.out (by omega)
                    (first|cases qwM|(injection qwM with BI R6 R7;(first|subst BI|(injection BI with BI;subst BI));subst R7;clear R6))
                    have qyL:=aj.mk qwN;have qBl:=aj.mk qwO;clear qwN qyK qwO
                    (first|simp only [add_plain] at qnt|skip)
                    obtain ⟨qyM,qyN⟩:=Kd.qjH false Cm.out ((qhB):Int) p47 q47;replace p47:=eq_true p47;replace q47:=eq_true q47;obtain ⟨qzP,qzQ⟩:=Kd.qjH false Cm.out ((qhB):Int) (of_decide_eq_true tA) (of_decide_eq_true tA);have qvr:=Kd.qnx Cm.out ((qhB):Int) true
                    try go_wp2_with (first|((with_reducible refine aY (t:=4) (p:=85) rfl ?_);refine BK (t:=4) (p:=85) (v:=?qyO) (w1:=(w52.setCell ⟨qn6,((qhB):Int).toNat,none⟩ (.bool true))) ?hg ?ho ?hn ?hr ?_;(case ho=>rfl);(case hg=>rfl);(case hn=>rfl);(case hr=>first|(go_simp;done)|(go_simp;rfl));intro w55 hw;have hg:w52.grownBy w55 (some qn6):=(by rw [hw];exact qvr.2);have hp_:Kd.R Kd.bool 4 w55 w.heap.size (fun _=>True) (.slice (some ⟨qn6,0,none⟩) qcp.length qpC) qtg:=(by rw [hw,qwI.out];exact qvr.1);clear qvr;replace qcr:=aj.mk (Kd.qo9 (v:=(.slice (some ⟨qn6,0,none⟩) qcp.length qpC)) (by (with_reducible repeat (first|apply Kd.qbk|apply Kd.qbm|apply Kd.qbT));exact qcr.out) (Kd.qcD Cm.out) (by decide) hg);replace qcw:=aj.mk (Kd.qo9 (v:=(.slice (some ⟨qn6,0,none⟩) qcp.length qpC)) (by (with_reducible repeat (first|apply Kd.qbk|apply Kd.qbm|apply Kd.qbT));exact qcw.out) (Kd.qcD Cm.out) (by decide) hg);replace oF:=aj.mk (Kd.qo9 (v:=(.slice (some ⟨qn6,0,none⟩) qcp.length qpC)) (by (with_reducible repeat (first|apply Kd.qbk|apply Kd.qbm|apply Kd.qbT));exact oF.out) (Kd.qcD Cm.out) (by decide) hg);replace qcu:=aj.mk (Kd.qcP (v:=(.slice (some ⟨qn6,0,none⟩) qcp.length qpC)) (qCo qcu) (Kd.qcD Cm.out) (by decide) hg);replace qcB:=aj.mk (jF (g:=qnF) (o:=.cells #[.slice bC av.length aZ] 24 (0,0)) (qB2 qcB) hg (Kd.DZ Cm.out qcB.out (by decide)));replace qei:=aj.mk (Kd.qcP (v:=(.slice (some ⟨qn6,0,none⟩) qcp.length qpC)) (qCo qei) (Kd.qcD Cm.out) (by decide) hg);replace qeo:=aj.mk (Kd.qcP (v:=(.slice (some ⟨qn6,0,none⟩) qcp.length qpC)) (qCo qeo) (Kd.qcD Cm.out) (by decide) hg);replace qep:=aj.mk (Kd.qcP (v:=(.slice (some ⟨qn6,0,none⟩) qcp.length qpC)) (qCo qep) (Kd.qcD Cm.out) (by decide) hg);replace qeK:=aj.mk (Kd.qcP (v:=(.slice (some ⟨qn6,0,none⟩) qcp.length qpC)) (qCo qeK) (Kd.qcD Cm.out) (by decide) hg);replace Cm:=aj.mk (hp_);replace HB:=aj.mk ((by rw [hw];exact QN (HB.out) qyL.out:Below w.heap.size w w55));clear hg hw hp_)|((with_reducible refine eY (b:=.append) (xs:=#[.tmp 86,.tmp 88]) rfl ?_);at_builtin;refine Kd.sO (Kd.int .i64) (w0:=w) w.heap.size rfl (.tmp 86) (.tmp 88) 47 3 (.int .i64 0) 8 rfl Tryz.underlying47 info3 rfl (by decide) (by omega) u13 qcE (wrap64 (qjB - qjC)) [.int .i64 (wrap64 (qjB - qjC))] (fun _=>True) (fun _=>False) rfl rfl ?aP (fun _ hk=>hk.elim) ?aF ?aO ?aB ?aS ?aL ?_;(case aP=>exact rfl);(case aB=>exact tB);(case aF=>exact (fun _ _=>trivial));(case aO=>exact (qCo qcu));(case aS=>exact (bD tB));(case aL=>have:=qwJ.out;omega);intro qBm w56 ho hb hg hat;rw [← qwL.out] at ho;replace qcr:=aj.mk (Kd.qiE (ok:=(fun k_=>some k_≠(.slice (some qld) qea.length qoP:Value).ownBlock∧some k_≠(.slice (some qlJ) qef.length qrN:Value).ownBlock)) (by (with_reducible repeat (first|apply Kd.qbk|apply Kd.qbm|apply Kd.qbT));exact Kd.qeW qcr.out (fun _ hk=>⟨⟨hk.1,hk.2.1⟩,hk.2.2⟩)) hg hat);replace qcw:=aj.mk (Kd.qiE (ok:=(fun k_=>some k_≠(.slice (some qiI) qcV.length qnh:Value).ownBlock∧some k_≠(.slice (some qlJ) qef.length qrN:Value).ownBlock)) (by (with_reducible repeat (first|apply Kd.qbk|apply Kd.qbm|apply Kd.qbT));exact Kd.qeW qcw.out (fun _ hk=>⟨⟨hk.1,hk.2.1⟩,hk.2.2⟩)) hg hat);replace oF:=aj.mk (Kd.qiE (ok:=(fun k_=>some k_≠(.slice (some qiI) qcV.length qnh:Value).ownBlock∧some k_≠(.slice (some qld) qea.length qoP:Value).ownBlock)) (by (with_reducible repeat (first|apply Kd.qbk|apply Kd.qbm|apply Kd.qbT));exact Kd.qeW oF.out (fun _ hk=>⟨⟨hk.1,hk.2.1⟩,hk.2.2⟩)) hg hat);replace Cm:=aj.mk (Kd.qcP (qCo Cm) (Kd.qcD (qCo qcu)) (by decide) hg);replace qcB:=aj.mk (jF (g:=qnF) (o:=.cells #[.slice bC av.length aZ] 24 (0,0)) (qB2 qcB) hg (Kd.DZ qcu.out qcB.out (by decide)));replace qei:=aj.mk (Kd.VX (ok:=(fun k_=>some k_≠(.slice (some qiI) qcV.length qnh:Value).ownBlock∧some k_≠(.slice (some qld) qea.length qoP:Value).ownBlock∧some k_≠(.slice (some qlJ) qef.length qrN:Value).ownBlock)) (by (with_reducible repeat (first|apply Kd.kY|apply Kd.kZ|apply Kd.mJ));exact Kd.gq qei.out (fun _ hk=>⟨⟨hk.2,⟨hk.1.1,hk.1.2.1⟩⟩,hk.1.2.2⟩)) hg hat);replace qeo:=aj.mk (Kd.VX (ok:=(fun k_=>some k_≠(.slice (some qiI) qcV.length qnh:Value).ownBlock∧some k_≠(.slice (some qld) qea.length qoP:Value).ownBlock∧some k_≠(.slice (some qlJ) qef.length qrN:Value).ownBlock)) (by (with_reducible repeat (first|apply Kd.kY|apply Kd.kZ|apply Kd.mJ));exact Kd.gq qeo.out (fun _ hk=>⟨⟨hk.1.1,⟨hk.2,hk.1.2.1⟩⟩,hk.1.2.2⟩)) hg hat);replace qep:=aj.mk (Kd.VX (ok:=(fun k_=>some k_≠(.slice (some qiI) qcV.length qnh:Value).ownBlock∧some k_≠(.slice (some qld) qea.length qoP:Value).ownBlock∧some k_≠(.slice (some qlJ) qef.length qrN:Value).ownBlock)) (by (with_reducible repeat (first|apply Kd.kY|apply Kd.kZ|apply Kd.mJ));exact Kd.gq qep.out (fun _ hk=>⟨⟨hk.2,⟨hk.1.1,hk.1.2.1⟩⟩,hk.1.2.2⟩)) hg hat);replace qeK:=aj.mk (Kd.VX (ok:=(fun k_=>some k_≠(.slice (some qiI) qcV.length qnh:Value).ownBlock∧some k_≠(.slice (some qld) qea.length qoP:Value).ownBlock∧some k_≠(.slice (some qlJ) qef.length qrN:Value).ownBlock)) (by (with_reducible repeat (first|apply Kd.kY|apply Kd.kZ|apply Kd.mJ));exact Kd.gq qeK.out (fun _ hk=>⟨⟨hk.1.1,⟨hk.1.2.1,hk.2⟩⟩,hk.1.2.2⟩)) hg hat);replace HB:=aj.mk (hb);have qzR:=aj.mk (ho);clear qcu;clear ho hb hg hat))
                    go_roundg k3
                    case measure=>have:=qg.out;have:=VO.out;have:=HK3.out;omega
                    case rel=>exact ⟨(qtg),(qwK),(wrap64 (qcY+1)),tS,H',⟨by have:=qg.out;have:=VO.out;have:=HK3.out;omega⟩,⟨by (with_reducible repeat (first|apply Kd.qbk|apply Kd.qbm|apply Kd.qbT));exact Kd.qeW qcr.out (fun _ hk=>⟨hk.1.1,⟨hk.1.2,hk.2⟩⟩)⟩,⟨by (with_reducible repeat (first|apply Kd.qbk|apply Kd.qbm|apply Kd.qbT));exact Kd.qeW qcw.out (fun _ hk=>⟨hk.1.1,⟨hk.1.2,hk.2⟩⟩)⟩,⟨by (with_reducible repeat (first|apply Kd.qbk|apply Kd.qbm|apply Kd.qbT));exact Kd.qeW oF.out (fun _ hk=>⟨hk.1.1,⟨hk.1.2,hk.2⟩⟩)⟩,⟨(qCo Cm)⟩,⟨(qCo qzR)⟩,⟨(qB2 qcB)⟩,⟨tB⟩⟩
                   ·rw [if_neg c48] at H
                    exact absurd H (by simp)
                 ·rw [if_neg c39] at H
                  exact absurd H (by simp)
                ·rw [if_neg c38] at H
                 exact absurd H (by simp)
               ·rw [if_neg c35] at H
                exact absurd H (by simp)
              ·rw [if_neg c33] at H
               exact absurd H (by simp)
             ·rw [if_neg c32] at H
              exact absurd H (by simp)
            ·rw [if_neg c31] at H
             exact absurd H (by simp)
           ·rw [if_neg c30] at H
            exact absurd H (by simp)
          ·rw [if_neg c29] at H
           have qwA:decide (qcY<(qef.length:Int))=false:=decide_eq_false c29;clear c29;have H':=aj.mk H;clear H;obtain ⟨qBn,qBo,qyR⟩:=Kd.qhD oF.out;subst qyR
           go_wp2
           go_roundg k3
           case measure=>have:=qg.out;have:=VO.out;have:=HK3.out;omega
           case rel=>exact ⟨(qcp),(qcE),(wrap64 (qcy+1)),tS,H',⟨by have:=qg.out;have:=VO.out;have:=HK3.out;omega⟩,⟨by (with_reducible repeat (first|apply Kd.qbk|apply Kd.qbm|apply Kd.qbT));exact qcr.out⟩,⟨by (with_reducible repeat (first|apply Kd.qbk|apply Kd.qbm|apply Kd.qbT));exact qcw.out⟩,⟨by (with_reducible repeat (first|apply Kd.qbk|apply Kd.qbm|apply Kd.qbT));exact oF.out⟩,⟨(qCo Cm)⟩,⟨(qCo qcu)⟩,⟨(qB2 qcB)⟩,⟨tB⟩⟩
       ·rw [if_neg c27] at H
        have qru:decide (qcy<(qea.length:Int))=false:=decide_eq_false c27;clear c27;have H':=aj.mk H;clear H;obtain ⟨qBp,qBq,qyS⟩:=Kd.qhD qcw.out;subst qyS
        go_wp2
        go_roundg k2
        case measure=>have:=qg.out;have:=VO.out;omega
        case rel=>exact ⟨(xC),(qcA),(wrap64 (iW+1)),tS,H',⟨by have:=qg.out;have:=VO.out;omega⟩,⟨by (with_reducible repeat (first|apply Kd.qbk|apply Kd.qbm|apply Kd.qbT));exact qcr.out⟩,⟨by (with_reducible repeat (first|apply Kd.qbk|apply Kd.qbm|apply Kd.qbT));exact qcw.out⟩,⟨by (with_reducible repeat (first|apply Kd.qbk|apply Kd.qbm|apply Kd.qbT));exact oF.out⟩,⟨(qCo Cm)⟩,⟨(qCo qcu)⟩,⟨(qB2 qcB)⟩,⟨tB⟩⟩
    ·rw [if_neg c25] at H
     have qls:decide (iW<(qcV.length:Int))=false:=decide_eq_false c25;clear c25;obtain rfl:=Option.some.inj H;obtain ⟨qBr,qBs,qyT⟩:=Kd.qhD qcr.out;subst qyT
     go_wp2
     go_ret
     exact ⟨_,tF,(qCo qcu),tB⟩
 ·rw [if_neg c11] at H
  exact absurd H (by simp)
end Go.Proofs.YtnpfbjnjdngkhaaGreatDoor.P
