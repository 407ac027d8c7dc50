import Derived.Below
import Derived.Deep.Draws
import Derived.Deep.AppendLies
import Derived.Maps.AppendAt
import Derived.OwnWalk
import Derived.Laws.BytesArg
import Derived.Laws.MakeOwn
import Derived.Laws.OwnMore
import Derived.Deep.OwnRows
import Derived.Tactics
import Derived.Lib.ConvBytes
import Derived.Laws.Slices
import Derived.WalkKit
import Derived.KernelRfl
import Derived.RowKit3
import Derived.Deep.LoopGhost
import Derived.Deep.QuietTactic
import Derived.BigQuiet
import Derived.WideLaws
import Derived.Deep.DeepCutAuto
import Derived.Deep.CutBlock
import Derived.Deep.RegionHeld3
import Derived.Laws.Rows
import Derived.Lib.AppendStr
import Derived.ArgAppend
import Derived.Laws.IdiomCopy
import Derived.RowKit
import Derived.OrdersHeld
import Derived.Laws.BitsLemmas
import Derived.Laws.StructEq
import Derived.Test.YtnpfbjnjdngkhaaGreatDoorProg
set_option maxHeartbeats 8000000
set_option maxRecDepth 100000
set_option linter.unusedVariables false
set_option linter.unusedSimpArgs false
set_option linter.unusedSectionVars false
namespace Go.Proofs.YtnpfbjnjdngkhaaGreatDoorW.aQ
open Go.RowKit
structure aj (p:Prop):Prop where mk::(out:p)
structure gU (w w':World):Prop where mk::(out:∃ n,w'=w.drewN n)
theorem gU.refl (w:World):gU w w:=⟨⟨0,rfl⟩⟩
theorem gU.step {w w':World} (h:gU w w') (n:Nat):gU w (w'.drewN n):=by
 obtain ⟨m,rfl⟩:=h;exact ⟨⟨m+n,World.drewN_drewN ..⟩⟩
theorem gU.grown {w w':World} (h:gU w w'):Grown w w':=by
 obtain ⟨n,rfl⟩:=h
 induction n with
 | zero=>exact Grown.refl _
 | succ n ih=>rw [← World.drew_drewN];exact Grown.drew ih
theorem gU.below {w w':World} (h:gU w w'):Below w.heap.size w w':=by
 obtain ⟨n,rfl⟩:=h
 induction n with
 | zero=>exact Below.refl _ _
 | succ n ih=>rw [← World.drew_drewN];exact ih.drew
def rd (xs:List Int) (i:Int):Int:=xs.getD i.toNat 0
def bt (s:ByteArray) (i:Int):Int:=if h:i.toNat<s.size then ((s[i.toNat]'h).toNat:Int) else 0
theorem fH {w W:World} (h:Below w.heap.size w W) (o:Obj):Below w.heap.size w (W.alloc o):=h.alloc h.size o
theorem fC {B:Nat} {w W:World} (h:Below B w W):Below B w W.drew:=⟨h.os,h.tape,h.output,h.size,h.block⟩
theorem kG {B:Nat} {w W:World} (h:Below B w W) (n:Nat):Below B w (W.drewN n):=⟨h.os,h.tape,h.output,h.size,h.block⟩
theorem LB {B:Nat} {w w1 w2:World} (h:Below B w w1) (hB:B<=w1.heap.size) (k:Below w1.heap.size w1 w2):Below B w w2 :=
 h.trans ⟨k.os,k.tape,k.output,k.size,fun i hi=>k.block i (Nat.lt_of_lt_of_le hi hB)⟩
theorem kH {B:Nat} {w w1:World} (h:Below B w w1) (row:Option Nat) (hB:B<=w1.heap.size) {w2:World} (hg:w1.grownBy w2 row) (hr:∀ k,row=some k->B<=k):Below B w w2:=h.grown hg hB hr
theorem DW {w w1:World} (h:Below w.heap.size w w1) (row:Option Nat):w.grownBy w1 row:=⟨h.os,h.tape,h.output,h.size,fun i hi _=>h.block i hi⟩
theorem uL {w w1:World} (h:Below w.heap.size w w1) {a:Addr} {v:Value} (hc:w.cell? a=some v):w1.cell? a=some v:=(h.cell (World.block_lt_of_cell? w a hc)).trans hc
def kI (w:World) (k:IntKind) (A:Option Addr) (n:Nat) (xs:List Int):Prop :=
 xs.length=n∧n<=9223372036854775807∧(0<n->∃ ad,A=some ad∧∀ j,j<n->w.cell? (ad.add j)=some (.int k (xs.getD j 0)))
theorem kI.at_ {w:World} {k:IntKind} {A:Option Addr} {n:Nat} {xs:List Int} (h:kI w k A n xs) (i:Int) (h0:0<=i) (h1:i<n):∃ ad,A=some ad∧w.cell? (ad.add i.toNat)=some (.int k (rd xs i)):=by
 obtain ⟨ad,e,hc⟩:=h.2.2 (by omega);exact ⟨ad,e,hc _ (by omega)⟩
theorem kI.below {w w1:World} {k:IntKind} {A:Option Addr} {n:Nat} {xs:List Int} (h:kI w k A n xs) (hb:Below w.heap.size w w1):kI w1 k A n xs :=
 ⟨h.1,h.2.1,fun hn=>by
  obtain ⟨ad,e,hc⟩:=h.2.2 hn
  exact ⟨ad,e,fun j hj=>uL hb (hc j hj)⟩⟩
theorem VU (W:World) (base:Nat) (e:TypeId) (size:Nat):W.ownsRow base e size (.slice none 0 0) 0 []:=⟨by simp,.inl ⟨rfl,rfl⟩⟩
theorem uU {w:World} {base:Nat} {e:TypeId} {size n:Nat} {v:Value} {xs:List Value} (h:w.ownsRow base e size v n xs) (k:Nat) (hk:v.ownBlock=some k):base<=k:=by
 rcases h.2 with ⟨rfl,_⟩|⟨g,cap,cur,rfl,hb,_⟩
 ·simp [Value.ownBlock] at hk
 ·have:g=k:=by simpa [Value.ownBlock] using hk
  omega
theorem LC {w:World} {base:Nat} {e:TypeId} {size n:Nat} {v:Value} {xs:List Value} (h:w.ownsRow base e size v n xs) (k:Nat) (hk:v.ownBlock=some k):k<w.heap.size:=by
 rcases h.2 with ⟨rfl,_⟩|⟨g,cap,cur,rfl,hb,hh,_⟩
 ·simp [Value.ownBlock] at hk
 ·have:g=k:=by simpa [Value.ownBlock] using hk
  subst this;exact (Array.getElem?_eq_some_iff.1 hh).1
theorem Gt {w w1:World} {base:Nat} {e:TypeId} {size n:Nat} {v:Value} {xs:List Value} (h:w.ownsRow base e size v n xs) (hb:Below w.heap.size w w1):w1.ownsRow base e size v n xs :=
 h.kept (DW hb none) (by cases v.ownBlock<;>simp)
theorem QK {w:World} {base n:Nat} {e:TypeId} {size:Nat} {v:Value} {xs:List Value} (h:w.ownsRow base e size v n xs):∃ A c,v=.slice A n c:=by
 rcases h.2 with ⟨rfl,rfl⟩|⟨g,cap,cur,rfl,_⟩
 ·exact ⟨none,0,rfl⟩
 ·exact ⟨_,cap,rfl⟩
theorem kI.fF {w:World} {k:IntKind} {A:Option Addr} {n:Nat} {xs:List Int} (h:kI w k A n xs) (i:Nat) (hi:i<=n):kI w k A i (xs.take i):=by
 refine ⟨by rw [List.length_take,h.1];omega,by have:=h.2.1;omega,fun hp=>?_⟩;obtain ⟨ad,e,hc⟩:=h.2.2 (by omega);refine ⟨ad,e,fun j hj=>?_⟩;rw [hc j (by omega)];simp [List.getD_eq_getElem?_getD,hj]
def Lm {α:Type} (a b:Option α):Prop:=∀ r,a=some r->b=some r
theorem Lm.refl {α:Type} (a:Option α):Lm a a:=fun _ h=>h
theorem Lm.none {α:Type} (b:Option α):Lm Option.none b:=fun _ h=>by cases h
theorem Lm.trans {α:Type} {a b c:Option α} (h:Lm a b) (k:Lm b c):Lm a c:=fun r hr=>k r (h r hr)
theorem Lm.bind {α β:Type} {a a':Option α} {f f':α->Option β} (h:Lm a a') (k:∀ x,Lm (f x) (f' x)):Lm (a.bind f) (a'.bind f'):=by
 intro r hr;obtain ⟨x,hx,hf⟩:=Option.bind_eq_some_iff.1 hr;exact Option.bind_eq_some_iff.2 ⟨x,h x hx,k x r hf⟩
theorem Lm.map {α β:Type} {a a':Option α} (f:α->β) (h:Lm a a'):Lm (a.map f) (a'.map f):=by
 intro r hr;obtain ⟨x,hx,hf⟩:=Option.map_eq_some_iff.1 hr;exact Option.map_eq_some_iff.2 ⟨x,h x hx,hf⟩
def dh {α:Type} (R:α->List Value->Prop) (size:Nat) (ps:List α) (cs:List Value):Prop :=
 cs.length=ps.length*size∧∀ j p,ps[j]?=some p->R p ((cs.drop (j*size)).take size)
theorem dh.none {α:Type} (R:α->List Value->Prop) (size:Nat):dh R size [] []:=⟨by simp,fun j p h=>by simp at h⟩
theorem dh.snoc {α:Type} {R:α->List Value->Prop} {size:Nat} {ps:List α} {cs c:List Value} {p:α} (h:dh R size ps cs) (hp:R p c) (hc:c.length=size):dh R size (ps++[p]) (cs++c):=by
 refine ⟨by rw [List.length_append,h.1,hc,List.length_append,List.length_singleton,Nat.add_mul,Nat.one_mul],fun j q hq=>?_⟩
 rcases Nat.lt_or_ge j ps.length with hj|hj
 ·rw [List.getElem?_append_left hj] at hq
  have h1:j*size+size<=cs.length:=by rw [h.1,← Nat.succ_mul];exact Nat.mul_le_mul_right _ hj
  have h2:=h.2 j q hq;rw [List.drop_append_of_le_length (by omega),List.take_append_of_le_length (by rw [List.length_drop];omega)];exact h2
 ·have hj':j=ps.length:=by
   have:=(List.getElem?_eq_some_iff.1 hq).1;rw [List.length_append,List.length_singleton] at this
   omega
  subst hj'
  have hq':p=q:=by simpa using hq
  subst hq';rw [← h.1,List.drop_left,← hc,List.take_length];exact hp
theorem dh.uV {α:Type} {R R':α->List Value->Prop} {size:Nat} {ps:List α} {cs:List Value} (h:dh R size ps cs) (hR:∀ p c,R p c->R' p c):dh R' size ps cs:=⟨h.1,fun j p hj=>hR _ _ (h.2 j p hj)⟩
def jk {α:Type} (R:α->List Value->Prop) (size:Nat) (w:World) (A:Option Addr) (n:Nat) (ps:List α):Prop :=
 ps.length=n∧n<=9223372036854775807∧(0<n->∃ ad,A=some ad∧∀ j p,ps[j]?=some p->∃ c,c.length=size∧R p c∧∀ i u,c[i]?=some u->w.cell? (ad.add (j*size+i))=some u)
theorem jk.qiO {α:Type} {R:α->List Value->Prop} {size:Nat} {w:World} {A:Option Addr} {n:Nat} {ps:List α} (h:jk R size w A n ps) (d:α) (i:Int) (h0:0<=i) (h1:i<n) :
  ∃ ad c,A=some ad∧c.length=size∧R (ps.getD i.toNat d) c∧∀ j u,c[j]?=some u->w.cell? (ad.add (i.toNat*size+j))=some u:=by
 obtain ⟨ad,e,hc⟩:=h.2.2 (by omega)
 have hl:i.toNat<ps.length:=by have:=h.1;omega
 obtain ⟨c,hs,hr,hcell⟩:=hc i.toNat _ (List.getElem?_eq_getElem hl);refine ⟨ad,c,e,hs,?_,hcell⟩;rw [List.getD_eq_getElem?_getD,List.getElem?_eq_getElem hl];exact hr
theorem jk.uV {α:Type} {R R':α->List Value->Prop} {size:Nat} {w w1:World} {A:Option Addr} {n:Nat} {ps:List α} (h:jk R size w A n ps) (hb:Below w.heap.size w w1) (hR:∀ p c,R p c->R' p c):jk R' size w1 A n ps :=
 ⟨h.1,h.2.1,fun hn=>by
  obtain ⟨ad,e,hc⟩:=h.2.2 hn;refine ⟨ad,e,fun j p hj=>?_⟩;obtain ⟨c,hs,hr,hcell⟩:=hc j p hj
  exact ⟨c,hs,hR _ _ hr,fun i u hu=>uL hb (hcell i u hu)⟩⟩
theorem Fv {α:Type} {R:α->List Value->Prop} {w:World} {base n size:Nat} {e:TypeId} {v:Value} {ps:List α} {cs:List Value} (h:w.ownsRow base e size v n cs) (hR:dh R size ps cs) (hn:ps.length=n) :
  ∃ A c,v=.slice A n c∧jk R size w A n ps:=by
 rcases Nat.eq_zero_or_pos n with h0|h0
 ·rcases h.2 with ⟨rfl,rfl⟩|⟨g,cap,cur,rfl,_⟩
  ·exact ⟨none,0,rfl,hn,by omega,fun hp=>absurd hp (by omega)⟩
  ·exact ⟨_,cap,rfl,hn,by omega,fun hp=>absurd hp (by omega)⟩
 ·obtain ⟨g,cap,rfl,_,_⟩:=h.form h0
  have hm:n<=9223372036854775807:=by
   rcases h.2 with ⟨_,h1⟩|⟨g',cap',cur,he,_,_,h1,h2,_⟩
   ·omega
   ·simp only [maxLen] at h2
    omega
  refine ⟨_,cap,rfl,hn,hm,fun _=>⟨_,rfl,fun j p hj=>⟨(cs.drop (j*size)).take size,?_,hR.2 j p hj,fun i u hu=>?_⟩⟩⟩
  ·have hjl:=(List.getElem?_eq_some_iff.1 hj).1
   have h1:j*size+size<=cs.length:=by rw [hR.1,← Nat.succ_mul];exact Nat.mul_le_mul_right _ hjl
   rw [List.length_take,List.length_drop]
   omega
  ·refine h.cells (g:=g) rfl _ u ?_
   rw [List.getElem?_take] at hu
   split at hu
   ·rw [List.getElem?_drop] at hu
    exact hu
   ·cases hu
theorem pV (ad:Addr) (m j:Nat) (hj:0<j):ad.add (m+j)=⟨(ad.add m).block,(ad.add m).off+j,none⟩:=by
 unfold Addr.add
 by_cases hm:m=0
 ·subst hm
  simp [Nat.ne_of_gt hj]
 ·simp [hm,Nat.add_assoc]
section
variable {P:Program} {ops:Array Oper} {rest:List Oper} {o:Oper} {a:Act} {Q:Exit->Act->World->Prop}
theorem sN {w0 W:World} (base:Nat) (hgd:o.guard=none) (s x:Operand) (t e:TypeId) (z:Value) (size bytes:Nat)
  (ho:o.op=.call { callee:=.builtin .append,args:=#[s,x],argTypes:=#[t,t] })
  (ht:P.underlying t=some (.slice e)) (hinfo:(P.info? e).map (fun i=>(i.zero,i.size,i.bytes))=some (some z,size,bytes)) (hz:z.cells.size=size) (hs0:0<size) (hb0:0<bytes)
  (v:Value) (n:Nat) (xs ys:List Value) (hs:a.eval s=v) (hx:a.eval x=.slice (some ⟨W.heap.size,0,none⟩) 1 1) (hys:ys.length=size) (h1:∀ u∈ys,u.oneCell'=true)
  (HO:W.ownsRow base e size v n xs) (HB:Below base w0 W) (hbase:base<=W.heap.size) (hl:(n+1)*bytes<=140737488355328)
  (h:∀ v1 w1,w1.ownsRow base e size v1 (n+1) (xs++ys)->Below base w0 w1->W.grownBy w1 v.ownBlock->(v1.ownBlock=v.ownBlock∨∃ b,v1.ownBlock=some b∧W.heap.size<=b)->wpList P ops Q rest (a.put o.dst v1) w1) :
  wpList P ops Q (o::rest) a (W.alloc (.cells ys.toArray e)):=by
 obtain ⟨i0,hi,hzz⟩:=Option.map_eq_some_iff.1 hinfo;simp only [Prod.mk.injEq] at hzz;obtain ⟨hz0,hz1,hz2⟩:=hzz;have hlen:n+1<=140737488355328:=Nat.le_trans (Nat.le_mul_of_pos_right _ hb0) hl
 refine wpList_append_own_at (W.alloc (.cells ys.toArray e)) hgd s x t ho base e i0 z size bytes ht hi hz0 hz1 hz2 hz hs0 v n xs hs (HO.alloc _) ⟨W.heap.size,0,none⟩ 1 1 ys hx (by rw [hys];simp)
  (by simpa using World.news_of_block (cs:=ys.toArray) (t:=e) (fr:=(0,0)) (heap_alloc_new W (.cells ys.toArray e))) h1 (by simp only [maxLen];omega) hl (by simp;omega) ?_
 intro v1 w1 hown hg _ hat;refine h v1 w1 hown ((HB.alloc hbase _).grown hg (by simp;omega) (uU HO)) (World.grownBy.trans (World.grownBy_alloc W _ _) hg) ?_
 rcases hat with hat|hat
 ·exact .inl hat
 ·exact .inr ⟨_,hat,by simp⟩
end
theorem own_ne {w:World} {base:Nat} {e t:TypeId} {size n g:Nat} {v:Value} {xs:List Value} {cs:Array Value} (h:w.ownsRow base e size v n xs) (hg:w.heap[g]?=some (.cells cs t (0,0))) (hne:e≠t):some g≠v.ownBlock:=by
 rcases h.2 with ⟨rfl,_⟩|⟨g',cap,cur,rfl,_,hh,_⟩
 ·simp [Value.ownBlock]
 ·intro he
  have:g=g':=by simpa [Value.ownBlock] using he
  subst this;rw [hg] at hh
  injection hh with hh
  injection hh with _ ht
  exact hne ht.symm
theorem Oc {w:World} {g:Nat} {t:TypeId} {cs:Array Value} (h:w.heap[g]?=some (.cells cs t (0,0))) (i:Nat) (u:Value):(w.setCell ⟨g,i,none⟩ u).heap[g]?=some (.cells (cs.setIfInBounds i u) t (0,0)):=by
 simp [World.setCell,Array.getElem?_modify,h]
theorem ko {w:World} {g:Nat} {t:TypeId} {cs:Array Value} (h:w.heap[g]?=some (.cells cs t (0,0))) {p:Addr} (hp:g≠p.block) (u:Value):(w.setCell p u).heap[g]?=some (.cells cs t (0,0)):=(Below.heap_setCell w p u g hp).trans h
theorem bZ {w:World} {g:Nat} {o:Obj} (h:w.heap[g]?=some o):g<w.heap.size:=(Array.getElem?_eq_some_iff.1 h).1
theorem aM {w:World} {g:Nat} {t:TypeId} {cs:Array Value} (h:w.heap[g]?=some (.cells cs t (0,0))) (i:Nat):w.cell? ⟨g,i,none⟩=cs[i]?:=cell_of_row w g i cs t (0,0) h
theorem pW {w:World} {g:Nat} {t:TypeId} {cs:Array Value} (h:w.heap[g]?=some (.cells cs t (0,0))) (i:Nat):w.frozen? ⟨g,i,none⟩=false:=by simp [World.frozen?,h]
theorem jF {w w1:World} {g:Nat} {o:Obj} {row:Option Nat} (h:w.heap[g]?=some o) (hg:w.grownBy w1 row) (hne:some g≠row):w1.heap[g]?=some o:=(hg.block g (bZ h) hne).trans h
def lX (w w':World) (g:Nat) (row:Option Nat):Prop:=w.heap.size<=w'.heap.size∧∀ i,i<w.heap.size->i≠g->some i≠row->w'.heap[i]?=w.heap[i]?
theorem lX.refl (w:World) (g:Nat) (row:Option Nat):lX w w g row:=⟨Nat.le_refl _,fun _ _ _ _=>rfl⟩
theorem lX.of_below {w w1:World} (h:Below w.heap.size w w1) (g:Nat) (row:Option Nat):lX w w1 g row:=⟨h.size,fun i hi _ _=>h.block i hi⟩
theorem lX.trans {w w1 w2:World} {g:Nat} {row qac:Option Nat} (h:lX w w1 g row) (k:lX w1 w2 g qac) (hr:qac=row∨∃ b,qac=some b∧w.heap.size<=b):lX w w2 g row :=
 ⟨Nat.le_trans h.1 k.1,fun i hi hg hn=>by
  refine (k.2 i (Nat.lt_of_lt_of_le hi h.1) hg ?_).trans (h.2 i hi hg hn)
  rcases hr with rfl|⟨b,rfl,hb⟩
  ·exact hn
  ·intro e
   injection e with e
   omega⟩
theorem lX.blk {w w1:World} {g g':Nat} {row:Option Nat} {o:Obj} (h:lX w w1 g row) (hb:w.heap[g']?=some o) (hg:g'≠g) (hr:some g'≠row):w1.heap[g']?=some o:=(h.2 g' (bZ hb) hg hr).trans hb
theorem lX.own {w w1:World} {g:Nat} {row:Option Nat} {base:Nat} {e:TypeId} {size n:Nat} {v:Value} {xs:List Value} (h:lX w w1 g row) (ho:w.ownsRow base e size v n xs) (hg:v.ownBlock≠some g) (hr:v.ownBlock=none∨v.ownBlock≠row):w1.ownsRow base e size v n xs:=by
 obtain ⟨h1,h2⟩:=ho;refine ⟨h1,?_⟩
 rcases h2 with h2|⟨b,cap,cur,rfl,hb,hh,r⟩
 ·exact .inl h2
 ·refine .inr ⟨b,cap,cur,rfl,hb,h.blk hh ?_ ?_,r⟩
  ·intro e
   exact hg (by rw [← e];rfl)
  ·rcases hr with hr|hr
   ·simp [Value.ownBlock] at hr
   ·exact hr
def Ev {α:Type} (g:Nat->Option α) (r:α):Prop:=∃ K,∀ k,K<=k->g k=some r
theorem Ev.now {α:Type} (r:α):Ev (fun _=>some r) r:=⟨0,fun _ _=>rfl⟩
theorem Ev.bind {α β:Type} {g:Nat->Option α} {f:Nat->α->Option β} {a:α} {r:β} (h:Ev g a) (k:Ev (fun n=>f n a) r):Ev (fun n=>(g n).bind (f n)) r:=by
 obtain ⟨K,h⟩:=h;obtain ⟨K',k⟩:=k;refine ⟨max K K',fun n hn=>?_⟩;have h1:=h n (by omega);have h2:=k n (by omega);simp only [h1,Option.bind_some];exact h2
theorem Ev.step {α:Type} {g f:Nat->Option α} {r:α} (h:∀ k,g (k+1)=f k) (k:Ev f r):Ev g r:=by
 obtain ⟨K,k⟩:=k;refine ⟨K+1,fun n hn=>?_⟩;obtain ⟨m,rfl⟩:∃ m,n=m+1:=⟨n - 1,by omega⟩;rw [h];exact k m (by omega)
theorem Ev.congr {α:Type} {g f:Nat->Option α} {r:α} (h:∀ k,g k=f k) (k:Ev f r):Ev g r:=by
 obtain ⟨K,k⟩:=k;exact ⟨K,fun n hn=>(h n).trans (k n hn)⟩
section
variable {P:Program} {ops:Array Oper} {o:Oper} {a:Act} {Q:Exit->Act->World->Prop} {K:Act->World->Prop}
theorem zn {w0 W:World} (base:Nat) (hw:Region.wanted o (yielded ops a.tmps)=true) (s x:Operand) (t e:TypeId) (z:Value) (size bytes:Nat)
  (ho:o.op=.call { callee:=.builtin .append,args:=#[s,x],argTypes:=#[t,t] })
  (ht:P.underlying t=some (.slice e)) (hinfo:(P.info? e).map (fun i=>(i.zero,i.size,i.bytes))=some (some z,size,bytes)) (hz:z.cells.size=size) (hs0:0<size) (hb0:0<bytes)
  (v:Value) (n:Nat) (xs ys:List Value) (hs:a.eval s=v) (hx:a.eval x=.slice (some ⟨W.heap.size,0,none⟩) 1 1) (hys:ys.length=size) (h1:∀ u∈ys,u.oneCell'=true)
  (HO:W.ownsRow base e size v n xs) (HB:Below base w0 W) (hbase:base<=W.heap.size) (hl:(n+1)*bytes<=140737488355328)
  (h:∀ v1 w1,w1.ownsRow base e size v1 (n+1) (xs++ys)->Below base w0 w1->W.grownBy w1 v.ownBlock->(v1.ownBlock=v.ownBlock∨∃ b,v1.ownBlock=some b∧W.heap.size<=b)->K (a.put o.dst v1) w1) :
  if Region.wanted o (yielded ops a.tmps)=true then Oper.wp P o a (W.alloc (.cells ys.toArray e)) K Q else K (a.put o.dst undef) (W.alloc (.cells ys.toArray e)):=by
 obtain ⟨i0,hi,hzz⟩:=Option.map_eq_some_iff.1 hinfo;simp only [Prod.mk.injEq] at hzz;obtain ⟨hz0,hz1,hz2⟩:=hzz;have hlen:n+1<=140737488355328:=Nat.le_trans (Nat.le_mul_of_pos_right _ hb0) hl;rw [if_pos hw]
 obtain ⟨v1,w1,hr,hown,hg,_,hat⟩:=run_append_own_at (P:=P) (W.alloc (.cells ys.toArray e)) base t o.type e i0 z size bytes ht hi hz0 hz1 hz2 hz hs0 v n xs (HO.alloc _) ⟨W.heap.size,0,none⟩ 1 1 ys (by rw [hys];simp)
  (by simpa using World.news_of_block (cs:=ys.toArray) (t:=e) (fr:=(0,0)) (heap_alloc_new W (.cells ys.toArray e))) h1 (by simp only [maxLen];omega) hl (by simp;omega)
 unfold Oper.wp execOp
 simp only [ho,resolve,invoke,builtin,Sem.run_bind,Sem.run_pure,Result.andThen_ok,List.map_toArray,List.map_cons,List.map_nil,hs,hx,hr];refine h v1 w1 hown ((HB.alloc hbase _).grown hg (by simp;omega) (uU HO)) (World.grownBy.trans (World.grownBy_alloc W _ _) hg) ?_
 rcases hat with hat|hat
 ·exact .inl hat
 ·exact .inr ⟨_,hat,by simp⟩
end
theorem LD {w:World} {base base':Nat} {e:TypeId} {size n:Nat} {v:Value} {xs:List Value} (h:w.ownsRow base e size v n xs) (hb:base'<=base):w.ownsRow base' e size v n xs:=by
 obtain ⟨h1,h2⟩:=h;refine ⟨h1,?_⟩
 rcases h2 with h2|⟨g,cap,cur,rfl,hg,r⟩
 ·exact .inl h2
 ·exact .inr ⟨g,cap,cur,rfl,Nat.le_trans hb hg,r⟩
section
variable {α:Type} {enc:α->Value} {d:α}
def encs (enc:α->Value) (xs:List α):List Value:=xs.map enc
def Sl (d:α) (xs:List α) (i:Int):α:=xs.getD i.toNat d
def kr (enc:α->Value) (d:α) (w:World) (A:Option Addr) (n:Nat) (xs:List α):Prop :=
 xs.length=n∧n<=9223372036854775807∧(0<n->∃ ad,A=some ad∧∀ j,j<n->w.cell? (ad.add j)=some (enc (xs.getD j d)))
theorem kr.at_ {w:World} {A:Option Addr} {n:Nat} {xs:List α} (h:kr enc d w A n xs) (i:Int) (h0:0<=i) (h1:i<n):∃ ad,A=some ad∧w.cell? (ad.add i.toNat)=some (enc (Sl d xs i)):=by
 obtain ⟨ad,e,hc⟩:=h.2.2 (by omega);exact ⟨ad,e,hc _ (by omega)⟩
theorem kr.below {w w1:World} {A:Option Addr} {n:Nat} {xs:List α} (h:kr enc d w A n xs) (hb:Below w.heap.size w w1):kr enc d w1 A n xs :=
 ⟨h.1,h.2.1,fun hn=>by
  obtain ⟨ad,e,hc⟩:=h.2.2 hn
  exact ⟨ad,e,fun j hj=>uL hb (hc j hj)⟩⟩
theorem kr.fF {w:World} {A:Option Addr} {n:Nat} {xs:List α} (h:kr enc d w A n xs) (i:Nat) (hi:i<=n):kr enc d w A i (xs.take i):=by
 refine ⟨by rw [List.length_take,h.1];omega,by have:=h.2.1;omega,fun hp=>?_⟩;obtain ⟨ad,e,hc⟩:=h.2.2 (by omega);refine ⟨ad,e,fun j hj=>?_⟩;rw [hc j (by omega)];simp [List.getD_eq_getElem?_getD,hj]
end
def uh (v v':Value):Prop:=∀ k,v.ownBlock=some k->v'.ownBlock≠some k
theorem VW {v v':Value} (h:uh v v'):uh v' v:=fun k hk hk'=>h k hk' hk
theorem QL {W:World} {v v1 v':Value} {base n size:Nat} {e:TypeId} {xs:List Value} (h:uh v v') (hat:v1.ownBlock=v.ownBlock∨∃ b,v1.ownBlock=some b∧W.heap.size<=b) (ho:W.ownsRow base e size v' n xs):uh v1 v':=by
 intro k hk hk'
 rcases hat with hat|⟨b,hb,hle⟩
 ·exact h k (hat ▸ hk) hk'
 ·have:=LC ho k hk'
  rw [hb] at hk
  injection hk with hk
  omega
theorem aI {w:World} {g:Nat} {o:Obj} (h:w.heap[g]?=some o) (o':Obj):(w.alloc o').heap[g]?=some o:=(Below.heap_alloc w o' g (bZ h)).trans h
theorem aN {w:World} {g:Nat} {o:Obj} (h:w.heap[g]?=some o):w.drew.heap[g]?=some o:=h
theorem aJ {w:World} {g:Nat} {o:Obj} (h:w.heap[g]?=some o) (n:Nat):(w.drewN n).heap[g]?=some o:=h
theorem aD {w w1:World} {g:Nat} {o:Obj} (h:w.heap[g]?=some o) (hb:Below w.heap.size w w1):w1.heap[g]?=some o:=(hb.block g (bZ h)).trans h
theorem uj (w:World) (o:Obj):(w.alloc o).heap[w.heap.size]?=some o:=heap_alloc_new w o
section
variable {P:Program}
theorem kW {fn:Func} {p u:Tmp} {ty:TypeId} (h:fn.results=#[.cell p ty,.tmp u]) (tmps:Array Value) (w:World) (g:Nat) (t:TypeId) (cs:Array Value) (fr:Nat × Nat) (d:TypeDesc)
  (hp:tmps.getD p undef=.pointer (some ⟨g,0,none⟩)) (hg:w.heap[g]?=some (.cells cs t fr))
  (hu:P.underlying ty=some d) (hd:(match d with | .struct _ | .array _ _=>true|_=>false)=true) (hi:(P.info? ty).map (·.size)=some cs.size) :
  (results fn tmps).run P w=.ok (.tuple #[.agg cs,tmps.getD u undef]) w:=by
 have hp':tmps[p]?.getD undef=.pointer (some ⟨g,0,none⟩):=by simpa using hp
 simp [results,h,hp',asAddr,run_loadVar_row w g t ty cs fr d hg hu hd hi]
theorem LG {fn:Func} {p u:Tmp} {ty:TypeId} (h:fn.results=#[.tmp u,.cell p ty]) (tmps:Array Value) (w:World) (g:Nat) (t:TypeId) (cs:Array Value) (fr:Nat × Nat) (d:TypeDesc)
  (hp:tmps.getD p undef=.pointer (some ⟨g,0,none⟩)) (hg:w.heap[g]?=some (.cells cs t fr))
  (hu:P.underlying ty=some d) (hd:(match d with | .struct _ | .array _ _=>true|_=>false)=true) (hi:(P.info? ty).map (·.size)=some cs.size) :
  (results fn tmps).run P w=.ok (.tuple #[tmps.getD u undef,.agg cs]) w:=by
 have hp':tmps[p]?.getD undef=.pointer (some ⟨g,0,none⟩):=by simpa using hp
 simp [results,h,hp',asAddr,run_loadVar_row w g t ty cs fr d hg hu hd hi]
end
theorem qad {w:World} {base n m c size:Nat} {e:TypeId} {A:Option Addr} {xs:List Value} (h:w.ownsRow base e size (.slice A m c) n xs):m<=c:=by
 rcases h.2 with ⟨he,_⟩|⟨g,cap,cur,he,_,_,hnc,_⟩
 ·injection he with _ h2 h3
  omega
 ·injection he with _ h2 h3
  omega
def kX {α:Type} (R:α->List Value->Prop) (e:TypeId) (size:Nat) (w:World) (base:Nat) (v:Value) (ps:List α):Prop :=
 ∃ inner,w.ownsRow base e size v ps.length inner∧dh R size ps inner
section
variable {α:Type} {R R':α->List Value->Prop} {e:TypeId} {size:Nat} {w w1:World} {base:Nat} {v:Value} {ps:List α}
theorem kX.none_ (R:α->List Value->Prop) (e:TypeId) (size:Nat) (w:World) (base:Nat):kX R e size w base (.slice none 0 0) []:=⟨[],VU _ _ _ _,dh.none _ _⟩
theorem kX.uV (h:kX R e size w base v ps) (hR:∀ p c,R p c->R' p c):kX R' e size w base v ps:=by
 obtain ⟨inner,ho,hr⟩:=h;exact ⟨inner,ho,hr.uV hR⟩
theorem kX.below (h:kX R e size w base v ps) (hb:Below w.heap.size w w1):kX R e size w1 base v ps:=by
 obtain ⟨inner,ho,hr⟩:=h;exact ⟨inner,Gt ho hb,hr⟩
theorem kX.reads (h:kX R e size w base v ps):∃ A c,v=.slice A ps.length c∧ps.length<=c∧jk R size w A ps.length ps:=by
 obtain ⟨inner,ho,hr⟩:=h;obtain ⟨A,c,rfl,hrow⟩:=Fv ho hr rfl;exact ⟨A,c,rfl,qad ho,hrow⟩
theorem kX.zo (h:kX R e size w base v ps) {g:Nat} {t:TypeId} {cells:Array Value} (hb:w.heap[g]?=some (.cells cells t (0,0))) (ht:e≠t):some g≠v.ownBlock:=by
 obtain ⟨inner,ho,hr⟩:=h;exact own_ne ho hb ht
end
section
variable {P:Program} {ops:Array Oper} {rest:List Oper} {o:Oper} {a:Act} {Q:Exit->Act->World->Prop} {α:Type} {R:α->List Value->Prop}
theorem kX.append {w0 W:World} (base:Nat) (hgd:o.guard=none) (s x:Operand) (t e:TypeId) (z:Value) (size bytes:Nat)
  (ho:o.op=.call { callee:=.builtin .append,args:=#[s,x],argTypes:=#[t,t] })
  (ht:P.underlying t=some (.slice e)) (hinfo:(P.info? e).map (fun i=>(i.zero,i.size,i.bytes))=some (some z,size,bytes)) (hz:z.cells.size=size) (hs0:0<size) (hb0:0<bytes)
  (v:Value) (ps:List α) (p:α) (cs:List Value) (hs:a.eval s=v) (hx:a.eval x=.slice (some ⟨W.heap.size,0,none⟩) 1 1) (hp:R p cs) (hcs:cs.length=size) (h1:∀ u∈cs,u.oneCell'=true)
  (HO:kX R e size W base v ps) (HB:Below base w0 W) (hbase:base<=W.heap.size) (hl:(ps.length+1)*bytes<=140737488355328)
  (h:∀ v1 w1,kX R e size w1 base v1 (ps++[p])->Below base w0 w1->W.grownBy w1 v.ownBlock->(v1.ownBlock=v.ownBlock∨∃ b,v1.ownBlock=some b∧W.heap.size<=b)->wpList P ops Q rest (a.put o.dst v1) w1) :
  wpList P ops Q (o::rest) a (W.alloc (.cells cs.toArray e)):=by
 obtain ⟨inner,hown,hr⟩:=HO;refine sN base hgd s x t e z size bytes ho ht hinfo hz hs0 hb0 v ps.length inner cs hs hx hcs h1 hown HB hbase hl ?_;intro v1 w1 hown1 hb1 hg1 LH;exact h v1 w1 ⟨inner++cs,by rw [List.length_append,List.length_singleton];exact hown1,hr.snoc hp hcs⟩ hb1 hg1 LH
end
theorem jk.Sm {α:Type} {R:α->List Value->Prop} {size:Nat} {w:World} {ad:Addr} {n:Nat} {ps:List α} (h:jk R size w (some ad) n ps) :
  ∃ inner,dh R size ps inner∧∀ j u,inner[j]?=some u->w.cell? (ad.add j)=some u:=by
 have key:∀ m,m<=ps.length->∃ inner,dh R size (ps.take m) inner∧∀ j u,inner[j]?=some u->w.cell? (ad.add j)=some u:=by
  intro m
  induction m with
  | zero=>exact fun _=>⟨[],dh.none _ _,fun j u hu=>by simp at hu⟩
  | succ m ih =>
   intro hm;obtain ⟨inner,hr,hc⟩:=ih (by omega);obtain ⟨ad',he,hcell⟩:=h.2.2 (by have:=h.1;omega)
   injection he with he
   subst he;obtain ⟨c,hcl,hp,hcc⟩:=hcell m _ (List.getElem?_eq_getElem (show m<ps.length by omega));refine ⟨inner++c,?_,fun j u hu=>?_⟩
   ·rw [List.take_succ_eq_append_getElem (show m<ps.length by omega)]
    exact hr.snoc hp hcl
   ·have hil:inner.length=m*size:=by rw [hr.1,List.length_take,Nat.min_eq_left (by omega)]
    rcases Nat.lt_or_ge j inner.length with hj|hj
    ·rw [List.getElem?_append_left hj] at hu
     exact hc j u hu
    ·rw [List.getElem?_append_right hj] at hu
     have:=hcc (j - inner.length) u hu
     rwa [hil,Nat.add_sub_cancel' (by omega)] at this
 obtain ⟨inner,hr,hc⟩:=key ps.length (Nat.le_refl _);rw [List.take_length] at hr;exact ⟨inner,hr,hc⟩
structure Kd (α:Type) where
 sz:Nat
 E:List Nat
 K:World->α->List Value->Prop
 M:World->Nat->(Nat->Prop)->α->List Value->Prop
 oP:∀ {w x cs},K w x cs->cs.length=sz
 oq:∀ {w x cs},K w x cs->∀ u∈cs,u.oneCell'=true
 lY:∀ {w w1:World} {x cs},Below w.heap.size w w1->K w x cs->K w1 x cs
 jo:∀ {w base ok x cs},M w base ok x cs->K w x cs
 iO:∀ {w base ok ok' x cs},(∀ k,ok k->ok' k)->M w base ok x cs->M w base ok' x cs
 iR:∀ {w:World} {base ok x cs},M w base ok x cs->M w base (fun k=>ok k∧base<=k∧k<w.heap.size∧∃ q,q∈E∧∃ cells,w.heap[k]?=some (.cells cells q (0,0))) x cs
 kJ:∀ {w w1:World} {base ok x cs},(∀ k,ok k->w1.heap[k]?=w.heap[k]?)->M w base ok x cs->M w1 base ok x cs
 lZ:∀ {w base base' ok x cs},base'<=base->M w base ok x cs->M w base' ok x cs
theorem Sn {w w1:World} {base:Nat} {e:TypeId} {size n:Nat} {v:Value} {xs:List Value} (h:w.ownsRow base e size v n xs) (hm:∀ k,v.ownBlock=some k->w1.heap[k]?=w.heap[k]?):w1.ownsRow base e size v n xs:=by
 obtain ⟨h1,h2⟩:=h;refine ⟨h1,?_⟩
 rcases h2 with h2|⟨g,cap,cur,rfl,hg,hh,r⟩
 ·exact .inl h2
 ·exact .inr ⟨g,cap,cur,rfl,hg,(hm g (by simp [Value.ownBlock])).trans hh,r⟩
theorem FL {w:World} {base:Nat} {e:TypeId} {size n:Nat} {v:Value} {xs:List Value} (h:w.ownsRow base e size v n xs) (k:Nat) (hk:v.ownBlock=some k):∃ cells,w.heap[k]?=some (.cells cells e (0,0)):=by
 rcases h.2 with ⟨rfl,_⟩|⟨g,cap,cur,rfl,hg,hh,r⟩
 ·simp [Value.ownBlock] at hk
 ·have:g=k:=by simpa [Value.ownBlock] using hk
  subst this;exact ⟨cur,hh⟩
namespace Kd
def C {α:Type} (d:Kd α) (w:World) (A:Option Addr) (n:Nat) (xs:List α):Prop:=jk (d.K w) d.sz w A n xs
def R {α:Type} (d:Kd α) (e:Nat) (w:World) (base:Nat) (ok:Nat->Prop) (v:Value) (xs:List α):Prop :=
 (∀ k,v.ownBlock=some k->ok k)∧kX (d.M w base (fun k=>ok k∧some k≠v.ownBlock)) e d.sz w base v xs
section
variable {α:Type} {d:Kd α} {e:Nat} {w w1:World} {base:Nat} {ok ok':Nat->Prop} {v:Value} {xs:List α}
theorem ak {A:Option Addr} {n:Nat} (h:d.C w A n xs) (hb:Below w.heap.size w w1):d.C w1 A n xs:=jk.uV h hb (fun _ _ hp=>d.lY hb hp)
theorem mI (d:Kd α) (e:Nat) (w:World) (base:Nat) (ok:Nat->Prop):d.R e w base ok (.slice none 0 0) []:=⟨fun k hk=>by simp [Value.ownBlock] at hk,kX.none_ _ _ _ _ _⟩
theorem gq (h:d.R e w base ok v xs) (hok:∀ k,ok k->ok' k):d.R e w base ok' v xs:=⟨fun k hk=>hok k (h.1 k hk),h.2.uV (fun _ _ hp=>d.iO (fun k hk=>⟨hok k hk.1,hk.2⟩) hp)⟩
theorem vP (h:d.R e w base ok v xs):d.R e w base (fun k=>ok k∧base<=k∧k<w.heap.size∧∃ q,q∈e::d.E∧∃ cells,w.heap[k]?=some (.cells cells q (0,0))) v xs:=by
 obtain ⟨h0,inner,ho,hr⟩:=h;refine ⟨fun k hk=>?_,inner,ho,hr.uV (fun _ _ hp=>d.iO (fun k hk=>?_) (d.iR hp))⟩
 ·obtain ⟨cells,hc⟩:=FL ho k hk
  exact ⟨h0 k hk,uU ho k hk,LC ho k hk,e,List.mem_cons_self,cells,hc⟩
 ·obtain ⟨⟨h1,h2⟩,h3,h4,q,hq,hc⟩:=hk
  exact ⟨⟨h1,h3,h4,q,List.mem_cons_of_mem _ hq,hc⟩,h2⟩
theorem Gu (h:d.R e w base ok v xs) (hm:∀ k,ok k->w1.heap[k]?=w.heap[k]?):d.R e w1 base ok v xs:=by
 obtain ⟨h0,inner,ho,hr⟩:=h;exact ⟨h0,inner,Sn ho (fun k hk=>hm k (h0 k hk)),hr.uV (fun _ _ hp=>d.kJ (fun k hk=>hm k hk.1) hp)⟩
theorem dZ {base':Nat} (h:d.R e w base ok v xs) (hb:base'<=base):d.R e w base' ok v xs:=by
 obtain ⟨h0,inner,ho,hr⟩:=h;exact ⟨h0,inner,LD ho hb,hr.uV (fun _ _ hp=>d.lZ hb hp)⟩
theorem DY (h:d.R e w base ok v xs) (hm:∀ k,ok k->k<w.heap.size->w1.heap[k]?=w.heap[k]?):d.R e w1 base ok v xs :=
 gq (Gu (vP h) (fun k hk=>hm k hk.1 hk.2.2.1)) (fun _ hk=>hk.1)
theorem Sq {x:α} {cs:List Value} (h:d.M w base ok x cs) (hm:∀ k,ok k->k<w.heap.size->w1.heap[k]?=w.heap[k]?):d.M w1 base ok x cs :=
 d.iO (fun _ hk=>hk.1) (d.kJ (fun k hk=>hm k hk.1 hk.2.2.1) (d.iR h))
theorem jS (h:d.R e w base ok v xs) (hb:Below w.heap.size w w1):d.R e w1 base ok v xs:=DY h (fun k _ hk=>hb.block k hk)
theorem Od {x:α} {cs:List Value} (h:d.M w base ok x cs) (hb:Below w.heap.size w w1):d.M w1 base ok x cs:=Sq h (fun k _ hk=>hb.block k hk)
theorem Oe (h:d.R e w base ok v xs) {row:Option Nat} (hg:w.grownBy w1 row) (hok:∀ k,ok k->some k≠row):d.R e w1 base ok v xs:=DY h (fun k ho hk=>hg.block k hk (hok k ho))
theorem jC (h:d.R e w base ok v xs) {p:Addr} (hok:∀ k,ok k->k≠p.block) (u:Value):d.R e (w.setCell p u) base ok v xs:=DY h (fun k ho _=>Below.heap_setCell w p u k (hok k ho))
theorem iZ (h:d.R e w base ok v xs) {g t:Nat} {cells:Array Value} (hb:w.heap[g]?=some (.cells cells t (0,0))) (ht:∀ q,q∈e::d.E->q≠t):d.R e w base (fun k=>ok k∧k≠g) v xs :=
 gq (vP h) (fun k hk=>⟨hk.1,by
  obtain ⟨_,_,_,q,hq,cells',hc⟩:=hk;rintro rfl;rw [hc] at hb
  injection hb with hb
  injection hb with _ hb
  exact ht q hq hb⟩)
theorem fE (h:d.R e w base ok v xs):∃ A c,v=.slice A xs.length c∧xs.length<=c∧d.C w A xs.length xs:=by
 obtain ⟨A,c,he,hl,hr⟩:=kX.reads h.2;exact ⟨A,c,he,hl,hr.uV (Below.refl _ _) (fun _ _ hp=>d.jo hp)⟩
theorem jc (h:d.R e w base ok v xs):∃ A c,v=.slice A xs.length c:=by
 obtain ⟨A,c,he,_⟩:=fE h;exact ⟨A,c,he⟩
theorem Og (h:d.R e w base ok v xs):∃ inner,w.ownsRow base e d.sz v xs.length inner:=by
 obtain ⟨_,inner,ho,_⟩:=h;exact ⟨inner,ho⟩
theorem DZ (h:d.R e w base ok v xs) {g t:Nat} {cells:Array Value} (hb:w.heap[g]?=some (.cells cells t (0,0))) (ht:e≠t):some g≠v.ownBlock:=kX.zo h.2 hb ht
end
def scalar {α:Type} (enc:α->Value) (h1:∀ x,(enc x).oneCell'=true):Kd α where
 sz:=1
 E:=[]
 K:=fun _ x cs=>cs=[enc x]
 M:=fun _ _ _ x cs=>cs=[enc x]
 oP:=fun h=>by rw [h];rfl
 oq:=fun h u hu=>by
  rw [h] at hu;rw [List.mem_singleton.1 hu];exact h1 _
 lY:=fun _ h=>h
 jo:=fun h=>h
 iO:=fun _ h=>h
 iR:=fun h=>h
 kJ:=fun _ h=>h
 lZ:=fun _ h=>h
def int (k:IntKind):Kd Int:=scalar (Value.int k) (fun _=>rfl)
def bool:Kd Bool:=scalar Value.bool (fun _=>rfl)
def string:Kd ByteArray:=scalar Value.string (fun _=>rfl)
def slice {α:Type} (e:Nat) (d:Kd α):Kd (List α) where
 sz:=1
 E:=e::d.E
 K:=fun w xs cs=>∃ A c,cs=[.slice A xs.length c]∧xs.length<=c∧d.C w A xs.length xs
 M:=fun w base ok xs cs=>∃ v,cs=[v]∧d.R e w base ok v xs
 oP:=by
  rintro w x cs ⟨A,c,rfl,_⟩
  rfl
 oq:=by
  rintro w x cs ⟨A,c,rfl,_⟩ u hu;rw [List.mem_singleton.1 hu]
  rfl
 lY:=by
  rintro w w1 x cs hb ⟨A,c,rfl,hl,hr⟩;exact ⟨A,c,rfl,hl,ak hr hb⟩
 jo:=by
  rintro w base ok x cs ⟨v,rfl,h⟩;obtain ⟨A,c,rfl,hl,hr⟩:=fE h;exact ⟨A,c,rfl,hl,hr⟩
 iO:=by
  rintro w base ok ok' x cs hok ⟨v,rfl,h⟩;exact ⟨v,rfl,gq h hok⟩
 iR:=by
  rintro w base ok x cs ⟨v,rfl,h⟩;exact ⟨v,rfl,vP h⟩
 kJ:=by
  rintro w w1 base ok x cs hm ⟨v,rfl,h⟩;exact ⟨v,rfl,Gu h hm⟩
 lZ:=by
  rintro w base base' ok x cs hb ⟨v,rfl,h⟩;exact ⟨v,rfl,dZ h hb⟩
def pair {α β:Type} (a:Kd α) (b:Kd β):Kd (α × β) where
 sz:=a.sz+b.sz
 E:=a.E++b.E
 K:=fun w x cs=>∃ c0 c1,cs=c0++c1∧a.K w x.1 c0∧b.K w x.2 c1
 M:=fun w base ok x cs=>∃ c0 c1,cs=c0++c1∧a.M w base ok x.1 c0∧b.M w base ok x.2 c1
 oP:=by
  rintro w x cs ⟨c0,c1,rfl,h0,h1⟩;rw [List.length_append,a.oP h0,b.oP h1]
 oq:=by
  rintro w x cs ⟨c0,c1,rfl,h0,h1⟩ u hu
  rcases List.mem_append.1 hu with hu|hu
  ·exact a.oq h0 u hu
  ·exact b.oq h1 u hu
 lY:=by
  rintro w w1 x cs hb ⟨c0,c1,rfl,h0,h1⟩;exact ⟨c0,c1,rfl,a.lY hb h0,b.lY hb h1⟩
 jo:=by
  rintro w base ok x cs ⟨c0,c1,rfl,h0,h1⟩;exact ⟨c0,c1,rfl,a.jo h0,b.jo h1⟩
 iO:=by
  rintro w base ok ok' x cs hok ⟨c0,c1,rfl,h0,h1⟩;exact ⟨c0,c1,rfl,a.iO hok h0,b.iO hok h1⟩
 iR:=by
  rintro w base ok x cs ⟨c0,c1,rfl,h0,h1⟩;refine ⟨c0,c1,rfl,a.iO ?_ (a.iR h0),b.iO ?_ (b.iR h1)⟩
  ·rintro k ⟨h2,h3,h4,q,hq,hc⟩
   exact ⟨h2,h3,h4,q,List.mem_append_left _ hq,hc⟩
  ·rintro k ⟨h2,h3,h4,q,hq,hc⟩
   exact ⟨h2,h3,h4,q,List.mem_append_right _ hq,hc⟩
 kJ:=by
  rintro w w1 base ok x cs hm ⟨c0,c1,rfl,h0,h1⟩;exact ⟨c0,c1,rfl,a.kJ hm h0,b.kJ hm h1⟩
 lZ:=by
  rintro w base base' ok x cs hb ⟨c0,c1,rfl,h0,h1⟩;exact ⟨c0,c1,rfl,a.lZ hb h0,b.lZ hb h1⟩
def iso {α β:Type} (d:Kd α) (f:β->α):Kd β where
 sz:=d.sz
 E:=d.E
 K:=fun w x cs=>d.K w (f x) cs
 M:=fun w base ok x cs=>d.M w base ok (f x) cs
 oP:=d.oP
 oq:=d.oq
 lY:=d.lY
 jo:=d.jo
 iO:=d.iO
 iR:=d.iR
 kJ:=d.kJ
 lZ:=d.lZ
def bot {α:Type} (sz:Nat) (E:List Nat):Kd α where
 sz:=sz
 E:=E
 K:=fun _ _ _=>False
 M:=fun _ _ _ _ _=>False
 oP:=fun h=>h.elim
 oq:=fun h=>h.elim
 lY:=fun _ h=>h
 jo:=fun h=>h
 iO:=fun _ h=>h
 iR:=fun h=>h
 kJ:=fun _ h=>h
 lZ:=fun _ h=>h
def upto {α:Type} (F:Kd α->Kd α) (sz:Nat) (E:List Nat):Nat->Kd α
 | 0=>bot sz E
 | n+1=>F (upto F sz E n)
theorem zq {α:Type} {d:Kd α} {w:World} {A:Option Addr} {n:Nat} {xs:List α} (h:d.C w A n xs) (z:α) (i:Int) (h0:0<=i) (h1:i<n) :
  ∃ ad c,A=some ad∧c.length=d.sz∧d.K w (xs.getD i.toNat z) c∧∀ j u,c[j]?=some u->w.cell? (ad.add (i.toNat*d.sz+j))=some u:=jk.qiO h z i h0 h1
theorem D5 {α:Type} {d:Kd α} {e base:Nat} {ok nE:Nat->Prop} {W w1:World} {v v1:Value} {xs:List α} {p:α} {inner cs:List Value} (h0:∀ k,v.ownBlock=some k->ok k) (hr:dh (d.M W base (fun k=>ok k∧some k≠v.ownBlock)) d.sz xs inner) (hp:d.M W base nE p cs) (vQ:∀ k,nE k->ok k∧some k≠v.ownBlock) (hfresh:∀ k,W.heap.size<=k->ok k)
  (hown:w1.ownsRow base e d.sz v1 (xs.length+1) (inner++cs)) (hg:W.grownBy w1 v.ownBlock) (hat:v1.ownBlock=v.ownBlock∨∃ b,v1.ownBlock=some b∧W.heap.size<=b):d.R e w1 base ok v1 (xs++[p]):=by
 have hne:∀ k,some k≠v.ownBlock->k<W.heap.size->some k≠v1.ownBlock:=by
  intro k hk hlt
  rcases hat with hat|⟨b,hb,hle⟩
  ·rw [hat];exact hk
  ·rw [hb]
   intro he
   injection he with he
   omega
 have step:∀ {q:α} {c:List Value} {o:Nat->Prop},d.M W base o q c->(∀ k,o k->ok k∧some k≠v.ownBlock)->d.M w1 base (fun k=>ok k∧some k≠v1.ownBlock) q c:=by
  intro q c o hq ho;have h1:=d.kJ (w1:=w1) (fun k hk=>hg.block k hk.2.2.1 (ho k hk.1).2) (d.iR hq);exact d.iO (fun k hk=>⟨(ho k hk.1).1,hne k (ho k hk.1).2 hk.2.2.1⟩) h1
 refine ⟨fun k hk=>?_,inner++cs,by rw [List.length_append,List.length_singleton];exact hown,?_⟩
 ·rcases hat with hat|⟨b,hb,hle⟩
  ·exact h0 k (hat ▸ hk)
  ·rw [hb] at hk
   injection hk with hk
   exact hfresh k (by omega)
 ·exact (hr.uV (fun _ _ hq=>step hq (fun _ hk=>hk))).snoc (step hp vQ) (d.oP (d.jo hp))
section
variable {P:Program} {ops:Array Oper} {rest:List Oper} {o:Oper} {a:Act} {Q:Exit->Act->World->Prop} {α:Type}
theorem sO (d:Kd α) {w0 W:World} (base:Nat) (hgd:o.guard=none) (s x:Operand) (t e:TypeId) (z:Value) (bytes:Nat)
  (ho:o.op=.call { callee:=.builtin .append,args:=#[s,x],argTypes:=#[t,t] })
  (ht:P.underlying t=some (.slice e)) (hinfo:(P.info? e).map (fun i=>(i.zero,i.size,i.bytes))=some (some z,d.sz,bytes)) (hz:z.cells.size=d.sz) (hs0:0<d.sz) (hb0:0<bytes)
  (v:Value) (xs:List α) (p:α) (cs:List Value) (ok nE:Nat->Prop) (hs:a.eval s=v) (hx:a.eval x=.slice (some ⟨W.heap.size,0,none⟩) 1 1) (hp:d.M W base nE p cs) (vQ:∀ k,nE k->ok k∧some k≠v.ownBlock) (hfresh:∀ k,W.heap.size<=k->ok k)
  (HO:d.R e W base ok v xs) (HB:Below base w0 W) (hbase:base<=W.heap.size) (hl:(xs.length+1)*bytes<=140737488355328)
  (h:∀ v1 w1,d.R e w1 base ok v1 (xs++[p])->Below base w0 w1->W.grownBy w1 v.ownBlock->(v1.ownBlock=v.ownBlock∨∃ b,v1.ownBlock=some b∧W.heap.size<=b)->wpList P ops Q rest (a.put o.dst v1) w1) :
  wpList P ops Q (o::rest) a (W.alloc (.cells cs.toArray e)):=by
 obtain ⟨h0,inner,hown,hr⟩:=HO;refine sN base hgd s x t e z d.sz bytes ho ht hinfo hz hs0 hb0 v xs.length inner cs hs hx (d.oP (d.jo hp)) (d.oq (d.jo hp)) hown HB hbase hl ?_;intro v1 w1 hown1 hb1 hg1 LH;exact h v1 w1 (D5 h0 hr hp vQ hfresh hown1 hg1 LH) hb1 hg1 LH
end
section
variable {P:Program} {ops:Array Oper} {o:Oper} {a:Act} {Q:Exit->Act->World->Prop} {Kc:Act->World->Prop} {α:Type}
theorem Fw (d:Kd α) {w0 W:World} (base:Nat) (hw:Region.wanted o (yielded ops a.tmps)=true) (s x:Operand) (t e:TypeId) (z:Value) (bytes:Nat)
  (ho:o.op=.call { callee:=.builtin .append,args:=#[s,x],argTypes:=#[t,t] })
  (ht:P.underlying t=some (.slice e)) (hinfo:(P.info? e).map (fun i=>(i.zero,i.size,i.bytes))=some (some z,d.sz,bytes)) (hz:z.cells.size=d.sz) (hs0:0<d.sz) (hb0:0<bytes)
  (v:Value) (xs:List α) (p:α) (cs:List Value) (ok nE:Nat->Prop) (hs:a.eval s=v) (hx:a.eval x=.slice (some ⟨W.heap.size,0,none⟩) 1 1) (hp:d.M W base nE p cs) (vQ:∀ k,nE k->ok k∧some k≠v.ownBlock) (hfresh:∀ k,W.heap.size<=k->ok k)
  (HO:d.R e W base ok v xs) (HB:Below base w0 W) (hbase:base<=W.heap.size) (hl:(xs.length+1)*bytes<=140737488355328)
  (h:∀ v1 w1,d.R e w1 base ok v1 (xs++[p])->Below base w0 w1->W.grownBy w1 v.ownBlock->(v1.ownBlock=v.ownBlock∨∃ b,v1.ownBlock=some b∧W.heap.size<=b)->Kc (a.put o.dst v1) w1) :
  if Region.wanted o (yielded ops a.tmps)=true then Oper.wp P o a (W.alloc (.cells cs.toArray e)) Kc Q else Kc (a.put o.dst undef) (W.alloc (.cells cs.toArray e)):=by
 obtain ⟨h0,inner,hown,hr⟩:=HO;refine zn base hw s x t e z d.sz bytes ho ht hinfo hz hs0 hb0 v xs.length inner cs hs hx (d.oP (d.jo hp)) (d.oq (d.jo hp)) hown HB hbase hl ?_;intro v1 w1 hown1 hb1 hg1 LH;exact h v1 w1 (D5 h0 hr hp vQ hfresh hown1 hg1 LH) hb1 hg1 LH
end
theorem D6 {α:Type} {enc:α->Value} {d:α} {h1:∀ x,(enc x).oneCell'=true} {w:World} {A:Option Addr} {n:Nat} {xs:List α} (h:(scalar enc h1).C w A n xs):kr enc d w A n xs:=by
 refine ⟨h.1,h.2.1,fun hn=>?_⟩;obtain ⟨ad,e,hc⟩:=h.2.2 hn;refine ⟨ad,e,fun j hj=>?_⟩
 have hl:j<xs.length:=by have:=h.1;omega
 obtain ⟨c,_,hK,hcell⟩:=hc j _ (List.getElem?_eq_getElem hl);have hK':c=[enc xs[j]]:=hK;subst hK';have:=hcell 0 _ rfl
 simpa [scalar,List.getD_eq_getElem?_getD,List.getElem?_eq_getElem hl] using this
end Kd
namespace Kd
end Kd
namespace Kd
theorem VX {α:Type} {d:Kd α} {e base:Nat} {ok:Nat->Prop} {W w1:World} {u v v1:Value} {xs:List α} (h:d.R e W base (fun k=>ok k∧some k≠v.ownBlock) u xs) (hg:W.grownBy w1 v.ownBlock) (hat:v1.ownBlock=v.ownBlock∨∃ b,v1.ownBlock=some b∧W.heap.size<=b):d.R e w1 base (fun k=>ok k∧some k≠v1.ownBlock) u xs:=by
 refine gq (Gu (vP h) (fun k hk=>hg.block k hk.2.2.1 hk.1.2)) (fun k hk=>⟨hk.1.1,?_⟩)
 rcases hat with hat|⟨b,hb,hle⟩
 ·rw [hat];exact hk.1.2
 ·rw [hb]
  intro he
  injection he with he
  have:=hk.2.2.1
  omega
end Kd
namespace Kd
section
variable {α β:Type} {d:Kd α} {d':Kd β} {e e':Nat} {w w1 W:World} {base b b':Nat} {ok ok' okv oku:Nat->Prop} {v u:Value} {xs:List α} {ys:List β}
theorem kY (h:d.R e w base ok v xs) (o:Obj):d.R e (w.alloc o) base ok v xs:=jS h (fH (Below.refl _ _) o)
theorem mJ (h:d.R e w base ok v xs):d.R e w.drew base ok v xs:=jS h (fC (Below.refl _ _))
theorem kZ (h:d.R e w base ok v xs) (m:Nat):d.R e (w.drewN m) base ok v xs:=jS h (kG (Below.refl _ _) m)
theorem bM {A:Option Addr} {n:Nat} (h:d.C w A n xs) (o:Obj):d.C (w.alloc o) A n xs:=ak h (fH (Below.refl _ _) o)
theorem cO {A:Option Addr} {n:Nat} (h:d.C w A n xs):d.C w.drew A n xs:=ak h (fC (Below.refl _ _))
theorem bN {A:Option Addr} {n:Nat} (h:d.C w A n xs) (m:Nat):d.C (w.drewN m) A n xs:=ak h (kG (Below.refl _ _) m)
theorem Oh (d:Kd α) (w:World):d.C w none ([]:List α).length []:=⟨rfl,by simp,fun h=>absurd h (Nat.lt_irrefl 0)⟩
theorem eB {A:Option Addr} {n c:Nat} (h:d.R e w base ok (.slice A n c) xs):n=xs.length∧n<=c∧d.C w A xs.length xs:=by
 obtain ⟨A',c',he,hl,hr⟩:=fE h
 injection he with h1 h2 h3
 subst h1;exact ⟨h2,by omega,hr⟩
theorem vR (h:d.R e w base ok v xs):∀ k,v.ownBlock=some k->k<w.heap.size:=by
 obtain ⟨inner,ho⟩:=Og h;exact LC ho
theorem iF (h:d.R e w base ok v xs):∀ k,v.ownBlock=some k->base<=k:=by
 obtain ⟨inner,ho⟩:=Og h;exact uU ho
theorem qaf (h:d.R e w base ok v xs) (hp:0<xs.length):∃ g cap,v=.slice (some ⟨g,0,none⟩) xs.length cap∧base<=g∧g<w.heap.size∧∃ cells,w.heap[g]?=some (.cells cells e (0,0)):=by
 obtain ⟨inner,ho⟩:=Og h;obtain ⟨g,cap,he,hb,hl⟩:=ho.form hp;obtain ⟨cells,hc⟩:=FL ho g (by rw [he];simp [Value.ownBlock]);exact ⟨g,cap,he,hb,hl,cells,hc⟩
end
section
variable {w W:World} {A:Option Addr} {n:Nat}
theorem iE {k:IntKind} {xs:List Int} (h:(Kd.int k).C w A n xs) (i:Int) (h0:0<=i) (h1:i<n):∃ ad,A=some ad∧w.cell? (ad.add i.toNat)=some (.int k (rd xs i)) :=
 kr.at_ (D6 (enc:=Value.int k) (d:=(0:Int)) (h1:=fun _=>rfl) h) i h0 h1
theorem FM {xs:List ByteArray} (h:Kd.string.C w A n xs) (i:Int) (h0:0<=i) (h1:i<n):∃ ad,A=some ad∧w.cell? (ad.add i.toNat)=some (.string (Sl ByteArray.empty xs i)) :=
 kr.at_ (D6 (enc:=Value.string) (d:=ByteArray.empty) (h1:=fun _=>rfl) h) i h0 h1
variable {α:Type} {enc:α->Value} {h1:∀ x,(enc x).oneCell'=true} {e base g cap:Nat} {ok:Nat->Prop} {xs:List α}
end
section
variable {P:Program} {ops:Array Oper} {rest:List Oper} {o:Oper} {a:Act} {Q:Exit->Act->World->Prop}
theorem rY {W w1:World} {v:Value} (hgd:o.guard=none) (hrun:(execOp a.eval o).run P W=.ok (.value v) w1) (h:wpList P ops Q rest (a.put o.dst v) w1):wpList P ops Q (o::rest) a W:=by
 refine wpList_plain hgd fun K hK=>?_
 unfold Oper.wp
 rw [hrun];exact hK _ _ h
variable {α:Type}
theorem qD (d:Kd α) {w0 W:World} (base e:Nat) (hgd:o.guard=none) {N:Tmp} (_hd:o.dst=some N) {xs:List α} {inner:List Value} {ok nE:Nat->Prop}
  (hrun:(execOp a.eval o).run P W=.ok (.value (.slice (some ⟨W.heap.size,0,none⟩) xs.length xs.length)) (W.alloc (.cells inner.toArray e)))
  (hrep:dh (d.M W base nE) d.sz xs inner) (hok:∀ k,nE k->ok k) (hfresh:ok W.heap.size) (HB:Below base w0 W) (hbase:base<=W.heap.size) (hm:xs.length<=9223372036854775807)
  (h:∀ v1 w1,d.R e w1 base ok v1 xs->Below base w0 w1->W.grownBy w1 none->(∃ b,v1.ownBlock=some b∧W.heap.size<=b)->wpList P ops Q rest (a.put o.dst v1) w1):wpList P ops Q (o::rest) a W:=by
 refine rY hgd hrun (h _ _ ⟨fun k hk=>?_,inner,?_,?_⟩ (HB.alloc hbase _) (World.grownBy_alloc W _ none) ⟨W.heap.size,by simp [Value.ownBlock],Nat.le_refl _⟩)
 ·have:W.heap.size=k:=by simpa [Value.ownBlock] using hk
  subst this;exact hfresh
 ·have h2:=World.ownsRow_lit (base:=base) (e:=e) (size:=d.sz) W inner.toArray xs.length hbase (by simpa [maxLen] using hm) (by simpa using hrep.1)
  simpa using h2
 ·refine hrep.uV (fun p c hp=>d.iO (fun k hk=>⟨hok k hk.1,fun he=>?_⟩) (Od (d.iR hp) (fH (Below.refl _ _) _)))
  have h3:k=W.heap.size:=by simpa [Value.ownBlock] using he
  have:=hk.2.2.1
  omega
end
end Kd
theorem Sr {w:World} {base n m c size:Nat} {e:TypeId} {A:Option Addr} {xs:List Value} (h:w.ownsRow base e size (.slice A n c) n xs) (hm:m<=n):w.ownsRow base e size (.slice A m c) m (xs.take (m*size)):=by
 obtain ⟨h1,h2⟩:=h;refine ⟨by rw [List.length_take,h1];exact Nat.min_eq_left (Nat.mul_le_mul_right _ hm),?_⟩
 rcases h2 with ⟨he,h0⟩|⟨g,cap,cur,he,hb,hh,hnc,hcm,hcs,ht⟩
 ·injection he with ha _ hc
  subst ha;subst hc;exact .inl ⟨by rw [show m=0 by omega],by omega⟩
 ·injection he with ha _ hc
  subst ha;subst hc;refine .inr ⟨g,c,cur,rfl,hb,hh,by omega,hcm,hcs,?_⟩;rw [← ht,List.take_take,Nat.min_eq_left (Nat.mul_le_mul_right _ hm)]
def qcG (w:World) (base:Nat) (e:TypeId) (size:Nat) (v:Value) (n:Nat) (xs:List Value):Prop :=
  xs.length=n*size ∧
  ((n=0∧∃ A,v=.slice A 0 0∧∀ a,A=some a->base<=a.block∧∃ cur,w.heap[a.block]?=some (.cells cur e (0,0))) ∨
   ∃ g off cap cur,v=.slice (some ⟨g,off*size,none⟩) n cap∧base<=g∧w.heap[g]?=some (.cells cur e (0,0))∧n<=cap∧off+cap<=maxLen∧cur.size=(off+cap)*size∧(cur.toList.drop (off*size)).take (n*size)=xs)
section
variable {w w1:World} {base n size:Nat} {e:TypeId} {v:Value} {xs:List Value}
theorem Sv (h:w.ownsRow base e size v n xs):qcG w base e size v n xs:=by
 obtain ⟨h1,h2⟩:=h;refine ⟨h1,?_⟩
 rcases h2 with ⟨rfl,h0⟩|⟨g,cap,cur,rfl,hb,hh,hnc,hcm,hcs,ht⟩
 ·exact .inl ⟨h0,none,rfl,fun a ha=>by cases ha⟩
 ·exact .inr ⟨g,0,cap,cur,by rw [Nat.zero_mul],hb,hh,hnc,by rw [Nat.zero_add];exact hcm,by rw [Nat.zero_add];exact hcs,by rw [Nat.zero_mul,List.drop_zero];exact ht⟩
theorem jT {g:Nat}:∀ (vs:List Value) (o:Nat) {w:World} (k:Nat),k≠g->(w.setCells g o vs).heap[k]?=w.heap[k]?
 | [],_,_,_,_=>rfl
 | v::r,o,w,k,hk=>by
  rw [World.setCells,jT r (o+1) k hk];exact Below.heap_setCell w ⟨g,o,none⟩ v k hk
theorem jV (g:Nat):∀ (vs:List Value) (o:Nat) (w:World),(w.setCells g o vs).os=w.os∧(w.setCells g o vs).tape=w.tape∧(w.setCells g o vs).output=w.output∧(w.setCells g o vs).heap.size=w.heap.size
 | [],_,_=>⟨rfl,rfl,rfl,rfl⟩
 | v::r,o,w=>by
  obtain ⟨h1,h2,h3,h4⟩:=jV g r (o+1) (w.setCell ⟨g,o,none⟩ v);rw [World.setCells];exact ⟨h1,h2,h3,by rw [h4];simp [World.setCell]⟩
theorem lg {g:Nat} {e:TypeId}:∀ (vs:List Value) (o:Nat) (w:World) (cur:Array Value),w.heap[g]?=some (.cells cur e (0,0))->o+vs.length<=cur.size ->
  ∃ cur',(w.setCells g o vs).heap[g]?=some (.cells cur' e (0,0))∧cur'.size=cur.size∧cur'.toList=cur.toList.take o++vs++cur.toList.drop (o+vs.length)
 | [],o,w,cur,h,_=>⟨cur,h,rfl,by simp⟩
 | v::r,o,w,cur,h,hl=>by
  have h2:=Oc h o v;simp only [List.length_cons] at hl;obtain ⟨cur',h3,h4,h5⟩:=lg r (o+1) (w.setCell ⟨g,o,none⟩ v) _ h2 (by simp;omega);refine ⟨cur',h3,by rw [h4];simp,?_⟩;rw [h5,Array.toList_setIfInBounds]
  have ho:o<cur.toList.length:=by rw [Array.length_toList];omega
  rw [List.take_set,List.drop_set_of_lt (by omega)];simp only [List.length_cons];rw [show o+1+r.length=o+(r.length+1) by omega]
  congr 1
  rw [List.take_succ_eq_append_getElem ho,List.set_append_right _ _ (by rw [List.length_take];omega)]
  have ho':o<cur.size:=by omega
  simp [Nat.min_eq_left (Nat.le_of_lt ho')]
end
namespace Kd
theorem QM {α:Type} {R:α->List Value->Prop} {size m:Nat} {ps:List α} {cs:List Value} (h:dh R size ps cs) (hm:m<=ps.length):dh R size (ps.take m) (cs.take (m*size)):=by
 refine ⟨by rw [List.length_take,List.length_take,h.1,Nat.min_eq_left hm,Nat.min_eq_left (Nat.mul_le_mul_right _ hm)],fun j p hj=>?_⟩;rw [List.getElem?_take] at hj
 split at hj
 ·rename_i hjm
  have:=h.2 j p hj
  have hle:j*size+size<=m*size:=by rw [← Nat.succ_mul];exact Nat.mul_le_mul_right _ hjm
  rw [List.drop_take,List.take_take,Nat.min_eq_left (by omega)];exact this
 ·cases hj
theorem qag {α:Type} {d:Kd α} {e m n c:Nat} {w:World} {base:Nat} {ok:Nat->Prop} {A:Option Addr} {xs:List α} (h:d.R e w base ok (.slice A n c) xs) (hm:m<=xs.length):d.R e w base ok (.slice A m c) (xs.take m):=by
 obtain ⟨h0,inner,ho,hr⟩:=h
 have hn:n=xs.length:=by
  obtain ⟨A',c',he⟩:=QK ho;injection he
 subst hn
 have hb:∀ x y:Nat,(Value.slice A x c).ownBlock=(Value.slice A y c).ownBlock:=by
  intro x y
  cases A<;>rfl
 refine ⟨fun k hk=>h0 k (by rw [hb _ m];exact hk),inner.take (m*d.sz),?_,?_⟩
 ·rw [List.length_take,Nat.min_eq_left hm]
  exact Sr ho hm
 ·rw [hb m xs.length]
  exact QM hr hm
def Q {α:Type} (d:Kd α) (e:Nat) (w:World) (base:Nat) (ok:Nat->Prop) (v:Value) (xs:List α):Prop :=
 (∀ k,v.ownBlock=some k->ok k)∧∃ inner,qcG w base e d.sz v xs.length inner∧dh (d.M w base (fun k=>ok k∧some k≠v.ownBlock)) d.sz xs inner
section
variable {α:Type} {d:Kd α} {e:Nat} {w w1 W:World} {base:Nat} {ok ok':Nat->Prop} {v:Value} {xs:List α}
theorem qah (h:d.R e w base ok v xs):d.Q e w base ok v xs:=by
 obtain ⟨h0,inner,ho,hr⟩:=h;exact ⟨h0,inner,Sv ho,hr⟩
theorem wK (d:Kd α) (e:Nat) (w:World) (base:Nat) (ok:Nat->Prop):d.Q e w base ok (.slice none 0 0) []:=qah (mI d e w base ok)
end
end Kd
namespace Kd
section
variable {α:Type} {d:Kd α} {e e':Nat} {w w1 W:World} {base:Nat} {ok:Nat->Prop} {u v:Value} {xs:List α}
theorem qE (hu:d.R e W base ok u xs) (hbase:∀ k,v.ownBlock=some k->W.heap.size<=k) (hb:Below W.heap.size W w1):d.R e w1 base (fun k=>ok k∧some k≠v.ownBlock) u xs :=
 gq (Gu (vP hu) (fun k hk=>hb.block k hk.2.2.1)) (fun k hk=>⟨hk.1,fun he=>by have:=hbase k he.symm;have:=hk.2.2.1;omega⟩)
theorem wY (h:d.R e w1 W.heap.size ok v xs) (hlt:∀ k,u.ownBlock=some k->k<W.heap.size):d.R e w1 W.heap.size (fun k=>ok k∧some k≠u.ownBlock) v xs :=
 gq (vP h) (fun k hk=>⟨hk.1,fun he=>by have:=hlt k he.symm;have:=hk.2.1;omega⟩)
theorem fresh' (hlt:∀ k,u.ownBlock=some k->k<W.heap.size):∀ k,W.heap.size<=k->some k≠u.ownBlock:=fun k hk he=>by have:=hlt k he.symm;omega
end
end Kd
theorem zu {α:Type} (a seg:List α) (o:Nat) (h:o+seg.length<=a.length) (q:Nat) :
  (a.take o++seg++a.drop (o+seg.length))[q]?=if q<o then a[q]? else if q<o+seg.length then seg[q - o]? else a[q]?:=by
 have hl:(a.take o).length=o:=by rw [List.length_take];omega
 rw [List.append_assoc]
 by_cases h1:q<o
 ·rw [if_pos h1,List.getElem?_append_left (by omega),List.getElem?_take,if_pos h1]
 ·rw [if_neg h1,List.getElem?_append_right (by omega),hl]
  by_cases h2:q<o+seg.length
  ·rw [if_pos h2,List.getElem?_append_left (by omega)]
  ·rw [if_neg h2,List.getElem?_append_right (by omega),List.getElem?_drop]
   congr 1
   omega
namespace Kd
section
variable {α:Type} {d:Kd α} {e base g n cap:Nat} {ok nE:Nat->Prop} {W:World} {xs:List α}
theorem qcH (h:d.R e W base ok (.slice (some ⟨g,0,none⟩) n cap) xs) (i:Int) (h0:0<=i) (h1:i<n) {c seg:List Value} {j:Nat} (hcl:c.length=d.sz) (hcc:∀ j u,c[j]?=some u->W.cell? ⟨g,i.toNat*d.sz+j,none⟩=some u)
  (hj:j+seg.length<=d.sz) {x':α} (hM:d.M W base nE x' (c.take j++seg++c.drop (j+seg.length))) (vQ:∀ k,nE k->ok k∧k≠g) :
  d.R e (W.setCells g (i.toNat*d.sz+j) seg) base ok (.slice (some ⟨g,0,none⟩) n cap) (xs.set i.toNat x')∧W.grownBy (W.setCells g (i.toNat*d.sz+j) seg) (some g):=by
 obtain ⟨hn,hnc,_⟩:=eB h;obtain ⟨hok,inner,ho,hr⟩:=h
 have hil:i.toNat<xs.length:=by omega
 have hseg:i.toNat*d.sz+d.sz<=inner.length:=by rw [hr.1,← Nat.succ_mul];exact Nat.mul_le_mul_right _ hil
 have hin:inner.length=n*d.sz:=by rw [hr.1,hn]
 obtain ⟨ho1,ho2⟩:=ho
 rcases ho2 with ⟨hv,_⟩|⟨g',cap',cur,hv,hb,hh,hnc',hcm,hcs,ht⟩
 ·cases hv
 injection hv with ha _ hc
 injection ha with ha
 injection ha with hg
 subst hg;subst hc
 have hfit:i.toNat*d.sz+j+seg.length<=cur.size:=by
  have:n*d.sz<=cap*d.sz:=Nat.mul_le_mul_right _ hnc
  omega
 obtain ⟨cur',h3,h4,h5⟩:=lg seg (i.toNat*d.sz+j) W cur hh hfit;obtain ⟨s1,s2,s3,s4⟩:=jV g seg (i.toNat*d.sz+j) W
 have qai:∀ k,k≠g->(W.setCells g (i.toNat*d.sz+j) seg).heap[k]?=W.heap[k]?:=fun k hk=>jT seg _ k hk
 have hcin:∀ q,q<d.sz->c[q]?=inner[i.toNat*d.sz+q]?:=by
  intro q hq
  have hq':q<c.length:=by omega
  have h6:=hcc q _ (List.getElem?_eq_getElem hq');rw [cell_of_row W g _ cur e (0,0) hh] at h6;rw [List.getElem?_eq_getElem hq',← h6,← ht,List.getElem?_take,if_pos (by rw [← hn];omega),Array.getElem?_toList]
 refine ⟨⟨hok,inner.take (i.toNat*d.sz+j)++seg++inner.drop (i.toNat*d.sz+j+seg.length),⟨?_,.inr ⟨g,cap,cur',by rw [List.length_set,hn],hb,h3,by rw [List.length_set,← hn];exact hnc,hcm,by rw [h4,hcs],?_⟩⟩,?_⟩,
  ⟨s1,s2,s3,by rw [s4];exact Nat.le_refl _,fun k _ hk=>qai k (fun he=>hk (by rw [he]))⟩⟩
 ·rw [List.length_set]
  simp only [List.length_append,List.length_take,List.length_drop];rw [hr.1] at hseg ⊢
  omega
 ·rw [List.length_set,← hn]
  apply List.ext_getElem?;intro q;rw [List.getElem?_take,h5];rw [zu cur.toList seg (i.toNat*d.sz+j) (by rw [Array.length_toList];omega) q,zu inner seg (i.toNat*d.sz+j) (by omega) q]
  have hcur:∀ q,q<n*d.sz->cur.toList[q]?=inner[q]?:=by
   intro q hq;rw [← ht,List.getElem?_take,if_pos (by rw [← hn];exact hq)]
  by_cases hq:q<n*d.sz
  ·rw [if_pos hq,hcur q hq]
  ·rw [if_neg hq,if_neg (by omega),if_neg (by omega),List.getElem?_eq_none (by omega)]
 ·refine ⟨?_,fun m p hm=>?_⟩
  ·rw [List.length_set]
   simp only [List.length_append,List.length_take,List.length_drop];rw [hr.1] at hseg ⊢
   omega
  ·have hml:m<xs.length:=by
    have:=(List.getElem?_eq_some_iff.1 hm).1
    rwa [List.length_set] at this
   have qkZ:m*d.sz+d.sz<=inner.length:=by rw [hr.1,← Nat.succ_mul];exact Nat.mul_le_mul_right _ hml
   have hgo:some g=(Value.slice (some ⟨g,0,none⟩) n cap).ownBlock:=by simp [Value.ownBlock]
   by_cases hmi:m=i.toNat
   ·subst hmi
    rw [List.getElem?_set_self (by omega)] at hm
    injection hm with hm
    subst hm
    have hcells:((inner.take (i.toNat*d.sz+j)++seg++inner.drop (i.toNat*d.sz+j+seg.length)).drop (i.toNat*d.sz)).take d.sz=c.take j++seg++c.drop (j+seg.length):=by
     apply List.ext_getElem?;intro q;rw [List.getElem?_take,List.getElem?_drop,zu inner seg _ (by omega),zu c seg j (by omega) q]
     by_cases hq:q<d.sz
     ·rw [if_pos hq,hcin q hq]
      by_cases hq1:q<j
      ·rw [if_pos (by omega),if_pos hq1]
      ·rw [if_neg (by omega),if_neg hq1]
       by_cases hq2:q<j+seg.length
       ·rw [if_pos (by omega),if_pos hq2]
        congr 1
        omega
       ·rw [if_neg (by omega),if_neg hq2]
     ·rw [if_neg hq,if_neg (by omega),if_neg (by omega),List.getElem?_eq_none (by omega)]
    rw [hcells];refine d.iO (fun k hk=>?_) (d.kJ (w1:=W.setCells g (i.toNat*d.sz+j) seg) (fun k hk=>qai k (vQ k hk).2) hM);exact ⟨(vQ k hk).1,fun he=>(vQ k hk).2 (by rw [← hgo] at he;injection he)⟩
   ·rw [List.getElem?_set_ne (by omega)] at hm
    have hold:=hr.2 m p hm
    have hcells:((inner.take (i.toNat*d.sz+j)++seg++inner.drop (i.toNat*d.sz+j+seg.length)).drop (m*d.sz)).take d.sz=(inner.drop (m*d.sz)).take d.sz:=by
     apply List.ext_getElem?;intro q;rw [List.getElem?_take,List.getElem?_take,List.getElem?_drop,List.getElem?_drop,zu inner seg _ (by omega)]
     by_cases hq:q<d.sz
     ·rw [if_pos hq,if_pos hq]
      rcases Nat.lt_or_gt_of_ne hmi with hlt|hgt
      ·have:m*d.sz+d.sz<=i.toNat*d.sz:=by rw [← Nat.succ_mul];exact Nat.mul_le_mul_right _ hlt
       rw [if_pos (by omega)]
      ·have:i.toNat*d.sz+d.sz<=m*d.sz:=by rw [← Nat.succ_mul];exact Nat.mul_le_mul_right _ hgt
       rw [if_neg (by omega),if_neg (by omega)]
     ·rw [if_neg hq,if_neg hq]
    rw [hcells];refine d.kJ (fun k hk=>qai k (fun he=>hk.2 (by rw [he];exact hgo))) hold
end
end Kd
namespace Kd
end Kd
namespace Kd
theorem BJ {α:Type} {R:α->List Value->Prop} {size:Nat} {ps qs:List α} {cs ds:List Value} (h:dh R size ps cs) (h':dh R size qs ds):dh R size (ps++qs) (cs++ds):=by
 refine ⟨by rw [List.length_append,List.length_append,h.1,h'.1,Nat.add_mul],fun j p hj=>?_⟩
 rcases Nat.lt_or_ge j ps.length with hlt|hge
 ·rw [List.getElem?_append_left hlt] at hj
  have hle:j*size+size<=cs.length:=by rw [h.1,← Nat.succ_mul];exact Nat.mul_le_mul_right _ hlt
  rw [List.drop_append_of_le_length (by omega),List.take_append_of_le_length (by rw [List.length_drop];omega)];exact h.2 j p hj
 ·rw [List.getElem?_append_right hge] at hj
  have h2:=h'.2 (j - ps.length) p hj;have hle:ps.length*size<=j*size:=Nat.mul_le_mul_right _ hge;rw [List.drop_append,List.drop_eq_nil_of_le (by rw [h.1];exact hle),List.nil_append,h.1,← Nat.sub_mul];exact h2
section
variable {P:Program} {ops:Array Oper} {rest:List Oper} {o:Oper} {a:Act} {Q:Exit->Act->World->Prop} {α:Type}
theorem uM (d:Kd α) {Rr:α->List Value->Prop} {w0 W:World} (base:Nat) (hgd:o.guard=none) (s x:Operand) (t e:TypeId) (z:Value) (bytes:Nat)
  (ho:o.op=.call { callee:=.builtin .append,args:=#[s,x],argTypes:=#[t,t] })
  (ht:P.underlying t=some (.slice e)) (hinfo:(P.info? e).map (fun i=>(i.zero,i.size,i.bytes))=some (some z,d.sz,bytes)) (hz:z.cells.size=d.sz) (hs0:0<d.sz) (hb0:0<bytes)
  (v:Value) (xs ys:List α) (A:Option Addr) (m c:Nat) (ok nE:Nat->Prop) (hs:a.eval s=v) (hx:a.eval x=.slice A m c)
  (HO:d.R e W base ok v xs) (HR:jk Rr d.sz W A m ys) (hKM:∀ x cs,Rr x cs->d.M W base nE x cs) (vQ:∀ k,nE k->ok k∧some k≠v.ownBlock) (hfresh:∀ k,W.heap.size<=k->ok k)
  (HB:Below base w0 W) (hbase:base<=W.heap.size) (hl:(xs.length+m)*bytes<=140737488355328)
  (h:∀ v1 w1,d.R e w1 base ok v1 (xs++ys)->Below base w0 w1->W.grownBy w1 v.ownBlock->(v1.ownBlock=v.ownBlock∨∃ b,v1.ownBlock=some b∧W.heap.size<=b)->wpList P ops Q rest (a.put o.dst v1) w1) :
  wpList P ops Q (o::rest) a W:=by
 obtain ⟨i0,hi,hzz⟩:=Option.map_eq_some_iff.1 hinfo;simp only [Prod.mk.injEq] at hzz;obtain ⟨hz0,hz1,hz2⟩:=hzz;have hm:ys.length=m:=HR.1;have hlen:xs.length+m<=140737488355328:=Nat.le_trans (Nat.le_mul_of_pos_right _ hb0) hl;obtain ⟨hok,inner,hown,hr⟩:=HO
 have hrun:∃ v1 w1,(Builtin.append_ #[t,t] o.type #[v,.slice A m c]).run P W=.ok v1 w1∧d.R e w1 base ok v1 (xs++ys)∧W.grownBy w1 v.ownBlock∧(v1.ownBlock=v.ownBlock∨∃ b,v1.ownBlock=some b∧W.heap.size<=b):=by
  rcases A with _|ad
  ·have h0:m=0:=by
    rcases Nat.eq_zero_or_pos m with h0|h0
    ·exact h0
    ·obtain ⟨ad,h,_⟩:=HR.2.2 h0
     cases h
   subst h0;obtain rfl:ys=[]:=List.eq_nil_of_length_eq_zero hm;refine ⟨v,W,?_,by rw [List.append_nil];exact ⟨hok,inner,hown,hr⟩,World.grownBy.refl W _,.inl rfl⟩
   rcases hown.2 with ⟨rfl,hn⟩|⟨g,cap,cur,rfl,_,_,hnc,_⟩
   ·simp [Builtin.append_,run_underlying ht,sizeOf,typeInfo,hi,Builtin.lenOf,Builtin.firstCells]
   ·simp [Builtin.append_,run_underlying ht,sizeOf,typeInfo,hi,Builtin.lenOf,Builtin.firstCells,hnc,storeCells]
  ·obtain ⟨news,hnr,hnc⟩:=jk.Sm HR
   have VY:dh (d.M W base nE) d.sz ys news:=hnr.uV (fun p c hp=>hKM p c hp)
   have hone:∀ u∈news,u.oneCell'=true:=by
    intro u hu;obtain ⟨q,hq,rfl⟩:=List.mem_iff_getElem.1 hu
    have hql:q / d.sz<ys.length:=by
     rw [Nat.div_lt_iff_lt_mul hs0];rw [← VY.1];exact hq
    have hc:=VY.2 (q / d.sz) _ (List.getElem?_eq_getElem hql);refine d.oq (d.jo hc) _ ?_;rw [List.mem_iff_getElem?];refine ⟨q%d.sz,?_⟩;rw [List.getElem?_take,if_pos (Nat.mod_lt _ hs0),List.getElem?_drop,Nat.mul_comm,Nat.div_add_mod,List.getElem?_eq_getElem hq]
   obtain ⟨v1,w1,hrun,h2,hg,_,hat⟩:=run_append_own_at (P:=P) W base t o.type e i0 z d.sz bytes ht hi hz0 hz1 hz2 hz hs0 v xs.length inner hown ad m c news (by rw [VY.1,hm]) hnc hone (by simp only [maxLen];omega) hl hbase
   have hat':v1.ownBlock=v.ownBlock∨∃ b,v1.ownBlock=some b∧W.heap.size<=b:=by
    rcases hat with hat|hat
    ·exact .inl hat
    ·exact .inr ⟨_,hat,Nat.le_refl _⟩
   have hne:∀ k,some k≠v.ownBlock->k<W.heap.size->some k≠v1.ownBlock:=by
    intro k hk hlt
    rcases hat' with hat|⟨b,hb,hle⟩
    ·rw [hat];exact hk
    ·rw [hb]
     intro he
     injection he with he
     omega
   have step:∀ {q:α} {c:List Value} {o:Nat->Prop},d.M W base o q c->(∀ k,o k->ok k∧some k≠v.ownBlock)->d.M w1 base (fun k=>ok k∧some k≠v1.ownBlock) q c:=by
    intro q c o hq ho;have h1:=d.kJ (w1:=w1) (fun k hk=>hg.block k hk.2.2.1 (ho k hk.1).2) (d.iR hq);exact d.iO (fun k hk=>⟨(ho k hk.1).1,hne k (ho k hk.1).2 hk.2.2.1⟩) h1
   refine ⟨v1,w1,hrun,⟨fun k hk=>?_,inner++news,by rw [List.length_append,hm];exact h2,BJ (hr.uV (fun _ _ hq=>step hq (fun _ hk=>hk))) (VY.uV (fun _ _ hq=>step hq vQ))⟩,hg,hat'⟩
   rcases hat' with hat|⟨b,hb,hle⟩
   ·exact hok k (hat ▸ hk)
   ·rw [hb] at hk
    injection hk with hk
    exact hfresh k (by omega)
 obtain ⟨v1,w1,hr1,h1,hg,hat⟩:=hrun
 refine wpList_plain hgd fun K hK=>?_
 unfold Oper.wp execOp
 simp only [ho,resolve,invoke,builtin,Sem.run_bind,Sem.run_pure,Result.andThen_ok,List.map_toArray,List.map_cons,List.map_nil,hs,hx,hr1];exact hK _ _ (h v1 w1 h1 (HB.grown hg hbase (uU hown)) hg hat)
end
end Kd
theorem qx {P:Program} {w:World} {g o:Nat} {e:TypeId} {cur:Array Value} (t:TypeId) (u:Value) (seg:List Value) (hh:w.heap[g]?=some (.cells cur e (0,0))) (hu:u.cells.toList=seg) (ht:(P.info? t).map (·.size)=some seg.length)
  (hfit:o+seg.length<=cur.size) (h1:∀ q∈seg,q.oneCell'=true):(Instr.storeAt t (.pointer (some ⟨g,o,none⟩)) u).run P w=.ok () (w.setCells g o seg):=by
 obtain ⟨i,hi,hsz⟩:=Option.map_eq_some_iff.1 ht
 have hc:u.cells.size=i.size:=by rw [hsz,← hu,Array.length_toList]
 have hst:=run_storeCells_cells (P:=P) g o seg 0 w (fun j hj=>by rw [cell_of_row w g _ cur e (0,0) hh];simp;omega) (fun j _=>pW hh _) h1;simp only [Nat.add_zero] at hst;simp [Instr.storeAt,Instr.sureAddr,storeVar,sizeOf,typeInfo,hi,hc,hu,hst]
theorem YL {P:Program} {ops:Array Oper} {rest:List Oper} {o:Oper} {a:Act} {Q:Exit->Act->World->Prop} {W:World} (op:Op) (_ho:o.op=op) (h:wpList P ops Q (o::rest) a W):wpList P ops Q (o::rest) a W:=h
namespace Kd
section
variable {P:Program} {ops:Array Oper} {rest:List Oper} {o:Oper} {a:Act} {Q:Exit->Act->World->Prop} {α:Type}
theorem VZ (d:Kd α) {w0 W:World} (base:Nat) (hN:o.dst=none) (hgd:o.guard=none) (t:TypeId) (p x:Operand) (ho:o.op=.store t p x) (e:TypeId) {g n cap o':Nat} (i:Int) (j:Nat) (xs:List α) (x':α) (u:Value) (seg c:List Value) (ok nE:Nat->Prop)
  (qcI:a.eval p=.pointer (some ⟨g,o',none⟩)) (hoff:o'=i.toNat*d.sz+j) (hx:a.eval x=u) (hu:u.cells.toList=seg) (ht:(P.info? t).map (·.size)=some seg.length) (h1:∀ q∈seg,q.oneCell'=true)
  (HO:d.R e W base ok (.slice (some ⟨g,0,none⟩) n cap) xs) (h0:0<=i) (hi:i<n) (hcl:c.length=d.sz) (hcc:∀ j u,c[j]?=some u->W.cell? ⟨g,i.toNat*d.sz+j,none⟩=some u)
  (hj:j+seg.length<=d.sz) (hM:d.M W base nE x' (c.take j++seg++c.drop (j+seg.length))) (vQ:∀ k,nE k->ok k∧k≠g) (HB:Below base w0 W)
  (h:∀ w1,d.R e w1 base ok (.slice (some ⟨g,0,none⟩) n cap) (xs.set i.toNat x')->Below base w0 w1->W.grownBy w1 (some g)->wpList P ops Q rest a w1):wpList P ops Q (o::rest) a W:=by
 subst hoff;obtain ⟨hrow,hg⟩:=qcH HO i h0 hi hcl hcc hj hM vQ;have hbg:base<=g:=iF HO g (by simp [Value.ownBlock]);have hnx:n=xs.length:=(eB HO).1;obtain ⟨_,inner,hown,hr⟩:=HO
 have hil:i.toNat<n:=by omega
 have hB:Below base w0 (W.setCells g (i.toNat*d.sz+j) seg):=HB.trans ⟨hg.os,hg.tape,hg.output,hg.size,fun k hk=>by
  have hlt:k<W.heap.size∨W.heap.size<=k:=Nat.lt_or_ge _ _
  rcases hlt with hlt|hge
  ·exact hg.block k hlt (fun he=>by injection he with he;omega)
  ·exact jT seg _ k (by omega)⟩
 refine wpList_plain hgd fun K hK=>?_
 have hrun:(Instr.storeAt t (.pointer (some ⟨g,i.toNat*d.sz+j,none⟩)) u).run P W=.ok () (W.setCells g (i.toNat*d.sz+j) seg):=by
  rcases hown.2 with ⟨hv,_⟩|⟨g',cap',cur,hv,hb,hh,hnc,hcm,hcs,_⟩
  ·cases hv
  injection hv with ha _ hc
  injection ha with ha
  injection ha with hg'
  subst hg';subst hc;refine qx t u seg hh hu ht ?_ h1
  have h2:i.toNat*d.sz+d.sz<=n*d.sz:=by rw [← Nat.succ_mul];exact Nat.mul_le_mul_right _ hil
  have h3:n*d.sz<=cap*d.sz:=Nat.mul_le_mul_right _ (by omega)
  omega
 unfold Oper.wp execOp
 simp only [ho,qcI,hx,Sem.run_bind,Sem.run_pure,Result.andThen_ok,hrun]
 show K (a.put o.dst undef) _
 rw [hN];exact hK a _ (h _ hrow hB hg)
end
end Kd
theorem add_add (a:Addr) (i j:Nat):(a.add i).add j=a.add (i+j):=by
 unfold Addr.add
 by_cases h1:i=0<;>by_cases h2:j=0<;>simp [h1,h2,Nat.add_assoc]
namespace Kd
section
variable {α:Type} {k:Kd α} {w:World} {A:Option Addr} {xs:List α} {m c:Nat}
theorem qaj (h:k.C w A xs.length xs) (hm:m<=xs.length):k.C w A (xs.take m).length (xs.take m):=by
 have hl:(xs.take m).length=m:=by rw [List.length_take];omega
 refine ⟨rfl,by rw [hl];have:=h.2.1;omega,fun hp=>?_⟩;obtain ⟨ad,e,hc⟩:=h.2.2 (by omega);refine ⟨ad,e,fun j p hj=>hc j p ?_⟩;rw [List.getElem?_take] at hj
 split at hj
 ·exact hj
 ·cases hj
end
end Kd
theorem bD {w W:World} (h:Below w.heap.size w W):w.heap.size<=W.heap.size:=h.size
theorem aV {w W w2:World} (h:Below w.heap.size w W) (k:Below W.heap.size W w2):Below w.heap.size w w2:=LB h h.size k
theorem kI.nil (W:World) (k:IntKind):kI W k none ([]:List Int).length []:=⟨rfl,by simp,fun h=>absurd h (Nat.lt_irrefl 0)⟩
theorem kI.drewN {W:World} {k:IntKind} {A:Option Addr} {n:Nat} {xs:List Int} (h:kI W k A n xs) (m:Nat):kI (W.drewN m) k A n xs:=h
theorem QN {w W:World} {g j:Nat} {v:Value} (h:Below w.heap.size w W) (hg:w.heap.size<=g):Below w.heap.size w (W.setCell ⟨g,j,none⟩ v):=h.setCell hg _
theorem add_block (a:Addr) (i:Nat):(a.add i).block=a.block:=by unfold Addr.add;split<;>rfl
theorem kr.nil {α:Type} (enc:α->Value) (d:α) (W:World):kr enc d W none ([]:List α).length []:=⟨rfl,by simp,fun h=>absurd h (Nat.lt_irrefl 0)⟩
theorem kr.drewN {α:Type} {enc:α->Value} {d:α} {W:World} {A:Option Addr} {n:Nat} {xs:List α} (h:kr enc d W A n xs) (m:Nat):kr enc d (W.drewN m) A n xs:=h
theorem dO {w:World} {g:Nat} {t:TypeId} {cs cs':Array Value} (h:w.heap[g]?=some (.cells cs t (0,0))) (i:Nat) (u:Value) (e:cs.setIfInBounds i u=cs'):(w.setCell ⟨g,i,none⟩ u).heap[g]?=some (.cells cs' t (0,0)):=e ▸ Oc h i u
theorem jD {base:Nat} {w W:World} (h:Below base w W):Below base w W.drew:=h.drew
namespace Kd
end Kd
namespace Kd
section
variable {α:Type} {d:Kd α} {e base g:Nat} {ok:Nat->Prop} {w w1:World} {v:Value} {xs:List α} {o:Obj}
theorem LJ (hb:w.heap[g]?=some o):∀ k,w.heap.size<=k->k≠g:=fun k hk=>by have:=bZ hb;omega
end
end Kd
section
variable {P:Program} {ops:Array Oper} {rest:List Oper} {o:Oper} {a:Act} {Q:Exit->Act->World->Prop}
theorem ou {W:World} (hgd:o.guard=none) {N:Tmp} (_hd:o.dst=some N) {cs:Array Value} {t:TypeId}
  (hrun:(execOp a.eval o).run P W=.ok (.value (.pointer (some ⟨W.heap.size,0,none⟩))) (W.alloc (.cells cs t (0,0))))
  (h:∀ g,g=W.heap.size->∀ w1,w1.heap[g]?=some (.cells cs t (0,0))->Below W.heap.size W w1->wpList P ops Q rest (a.put o.dst (.pointer (some ⟨g,0,none⟩))) w1):wpList P ops Q (o::rest) a W :=
 Kd.rY hgd hrun (h _ rfl _ (uj W _) (fH (Below.refl _ _) _))
end
namespace Kd
end Kd
section
variable {P:Program} {ops:Array Oper} {rest:List Oper} {o:Oper} {a:Act} {Q:Exit->Act->World->Prop}
theorem BK {W w1:World} (hgd:o.guard=none) {t:TypeId} {p:Tmp} {v:Operand} (_ho:o.op=.store t (.tmp p) v) (hN:o.dst=none)
  (hrun:(execOp a.eval o).run P W=.ok .skip w1) (h:∀ w',w'=w1->wpList P ops Q rest a w'):wpList P ops Q (o::rest) a W:=by
 refine wpList_plain hgd fun K hK=>?_
 unfold Oper.wp
 rw [hrun]
 show K (a.put o.dst undef) w1
 rw [hN];exact hK _ _ (h _ rfl)
end
namespace Kd
end Kd
section
variable {P:Program} {ops:Array Oper} {rest:List Oper} {o:Oper} {a:Act} {Q:Exit->Act->World->Prop} {W:World}
theorem au {N:Tmp} (_hN:o.dst=some N) (h:wpList P ops Q (o::rest) a W):wpList P ops Q (o::rest) a W:=h
theorem aY {t:TypeId} {p:Tmp} {v:Operand} (_ho:o.op=.store t (.tmp p) v) (h:wpList P ops Q (o::rest) a W):wpList P ops Q (o::rest) a W:=h
end
section
variable {P:Program} {ops:Array Oper} {o:Oper} {a:Act} {Q:Exit->Act->World->Prop} {Kc:Act->World->Prop}
theorem pX {W w1:World} {v:Value} (hw:Region.wanted o (yielded ops a.tmps)=true) (hrun:(execOp a.eval o).run P W=.ok (.value v) w1) (h:Kc (a.put o.dst v) w1):if Region.wanted o (yielded ops a.tmps)=true then Oper.wp P o a W Kc Q else Kc (a.put o.dst undef) W:=by
 rw [if_pos hw]
 unfold Oper.wp
 rw [hrun];exact h
theorem uW {W:World} (hw:Region.wanted o (yielded ops a.tmps)=true) {N:Tmp} (_hd:o.dst=some N) {cs:Array Value} {t:TypeId}
  (hrun:(execOp a.eval o).run P W=.ok (.value (.pointer (some ⟨W.heap.size,0,none⟩))) (W.alloc (.cells cs t (0,0))))
  (h:∀ g,g=W.heap.size->∀ w1,w1.heap[g]?=some (.cells cs t (0,0))->Below W.heap.size W w1->Kc (a.put o.dst (.pointer (some ⟨g,0,none⟩))) w1):if Region.wanted o (yielded ops a.tmps)=true then Oper.wp P o a W Kc Q else Kc (a.put o.dst undef) W :=
 pX hw hrun (h _ rfl _ (uj W _) (fH (Below.refl _ _) _))
namespace Kd
variable {α:Type}
theorem og (d:Kd α) {w0 W:World} (base e:Nat) (hw:Region.wanted o (yielded ops a.tmps)=true) {N:Tmp} (_hd:o.dst=some N) {xs:List α} {inner:List Value} {ok nE:Nat->Prop}
  (hrun:(execOp a.eval o).run P W=.ok (.value (.slice (some ⟨W.heap.size,0,none⟩) xs.length xs.length)) (W.alloc (.cells inner.toArray e)))
  (hrep:dh (d.M W base nE) d.sz xs inner) (hok:∀ k,nE k->ok k) (hfresh:ok W.heap.size) (HB:Below base w0 W) (hbase:base<=W.heap.size) (hm:xs.length<=9223372036854775807)
  (h:∀ v1 w1,d.R e w1 base ok v1 xs->Below base w0 w1->W.grownBy w1 none->(∃ b,v1.ownBlock=some b∧W.heap.size<=b)->Kc (a.put o.dst v1) w1):if Region.wanted o (yielded ops a.tmps)=true then Oper.wp P o a W Kc Q else Kc (a.put o.dst undef) W:=by
 refine pX hw hrun (h _ _ ⟨fun k hk=>?_,inner,?_,?_⟩ (HB.alloc hbase _) (World.grownBy_alloc W _ none) ⟨W.heap.size,by simp [Value.ownBlock],Nat.le_refl _⟩)
 ·have:W.heap.size=k:=by simpa [Value.ownBlock] using hk
  subst this;exact hfresh
 ·have h2:=World.ownsRow_lit (base:=base) (e:=e) (size:=d.sz) W inner.toArray xs.length hbase (by simpa [maxLen] using hm) (by simpa using hrep.1)
  simpa using h2
 ·refine hrep.uV (fun p c hp=>d.iO (fun k hk=>⟨hok k hk.1,fun he=>?_⟩) (Od (d.iR hp) (fH (Below.refl _ _) _)))
  have h3:k=W.heap.size:=by simpa [Value.ownBlock] using he
  have:=hk.2.2.1
  omega
theorem oh (d:Kd α) {Rr:α->List Value->Prop} {w0 W:World} (base:Nat) (hw:Region.wanted o (yielded ops a.tmps)=true) (s x:Operand) (t e:TypeId) (z:Value) (bytes:Nat)
  (ho:o.op=.call { callee:=.builtin .append,args:=#[s,x],argTypes:=#[t,t] })
  (ht:P.underlying t=some (.slice e)) (hinfo:(P.info? e).map (fun i=>(i.zero,i.size,i.bytes))=some (some z,d.sz,bytes)) (hz:z.cells.size=d.sz) (hs0:0<d.sz) (hb0:0<bytes)
  (v:Value) (xs ys:List α) (A:Option Addr) (m c:Nat) (ok nE:Nat->Prop) (hs:a.eval s=v) (hx:a.eval x=.slice A m c)
  (HO:d.R e W base ok v xs) (HR:jk Rr d.sz W A m ys) (hKM:∀ x cs,Rr x cs->d.M W base nE x cs) (vQ:∀ k,nE k->ok k∧some k≠v.ownBlock) (hfresh:∀ k,W.heap.size<=k->ok k)
  (HB:Below base w0 W) (hbase:base<=W.heap.size) (hl:(xs.length+m)*bytes<=140737488355328)
  (h:∀ v1 w1,d.R e w1 base ok v1 (xs++ys)->Below base w0 w1->W.grownBy w1 v.ownBlock->(v1.ownBlock=v.ownBlock∨∃ b,v1.ownBlock=some b∧W.heap.size<=b)->Kc (a.put o.dst v1) w1) :
  if Region.wanted o (yielded ops a.tmps)=true then Oper.wp P o a W Kc Q else Kc (a.put o.dst undef) W:=by
 obtain ⟨i0,hi,hzz⟩:=Option.map_eq_some_iff.1 hinfo;simp only [Prod.mk.injEq] at hzz;obtain ⟨hz0,hz1,hz2⟩:=hzz;have hm:ys.length=m:=HR.1;have hlen:xs.length+m<=140737488355328:=Nat.le_trans (Nat.le_mul_of_pos_right _ hb0) hl;obtain ⟨hok,inner,hown,hr⟩:=HO
 have hrun:∃ v1 w1,(Builtin.append_ #[t,t] o.type #[v,.slice A m c]).run P W=.ok v1 w1∧d.R e w1 base ok v1 (xs++ys)∧W.grownBy w1 v.ownBlock∧(v1.ownBlock=v.ownBlock∨∃ b,v1.ownBlock=some b∧W.heap.size<=b):=by
  rcases A with _|ad
  ·have h0:m=0:=by
    rcases Nat.eq_zero_or_pos m with h0|h0
    ·exact h0
    ·obtain ⟨ad,h,_⟩:=HR.2.2 h0
     cases h
   subst h0;obtain rfl:ys=[]:=List.eq_nil_of_length_eq_zero hm;refine ⟨v,W,?_,by rw [List.append_nil];exact ⟨hok,inner,hown,hr⟩,World.grownBy.refl W _,.inl rfl⟩
   rcases hown.2 with ⟨rfl,hn⟩|⟨g,cap,cur,rfl,_,_,hnc,_⟩
   ·simp [Builtin.append_,run_underlying ht,sizeOf,typeInfo,hi,Builtin.lenOf,Builtin.firstCells]
   ·simp [Builtin.append_,run_underlying ht,sizeOf,typeInfo,hi,Builtin.lenOf,Builtin.firstCells,hnc,storeCells]
  ·obtain ⟨news,hnr,hnc⟩:=jk.Sm HR
   have VY:dh (d.M W base nE) d.sz ys news:=hnr.uV (fun p c hp=>hKM p c hp)
   have hone:∀ u∈news,u.oneCell'=true:=by
    intro u hu;obtain ⟨q,hq,rfl⟩:=List.mem_iff_getElem.1 hu
    have hql:q / d.sz<ys.length:=by
     rw [Nat.div_lt_iff_lt_mul hs0];rw [← VY.1];exact hq
    have hc:=VY.2 (q / d.sz) _ (List.getElem?_eq_getElem hql);refine d.oq (d.jo hc) _ ?_;rw [List.mem_iff_getElem?];refine ⟨q%d.sz,?_⟩;rw [List.getElem?_take,if_pos (Nat.mod_lt _ hs0),List.getElem?_drop,Nat.mul_comm,Nat.div_add_mod,List.getElem?_eq_getElem hq]
   obtain ⟨v1,w1,hrun,h2,hg,_,hat⟩:=run_append_own_at (P:=P) W base t o.type e i0 z d.sz bytes ht hi hz0 hz1 hz2 hz hs0 v xs.length inner hown ad m c news (by rw [VY.1,hm]) hnc hone (by simp only [maxLen];omega) hl hbase
   have hat':v1.ownBlock=v.ownBlock∨∃ b,v1.ownBlock=some b∧W.heap.size<=b:=by
    rcases hat with hat|hat
    ·exact .inl hat
    ·exact .inr ⟨_,hat,Nat.le_refl _⟩
   have hne:∀ k,some k≠v.ownBlock->k<W.heap.size->some k≠v1.ownBlock:=by
    intro k hk hlt
    rcases hat' with hat|⟨b,hb,hle⟩
    ·rw [hat];exact hk
    ·rw [hb]
     intro he
     injection he with he
     omega
   have step:∀ {q:α} {c:List Value} {o:Nat->Prop},d.M W base o q c->(∀ k,o k->ok k∧some k≠v.ownBlock)->d.M w1 base (fun k=>ok k∧some k≠v1.ownBlock) q c:=by
    intro q c o hq ho;have h1:=d.kJ (w1:=w1) (fun k hk=>hg.block k hk.2.2.1 (ho k hk.1).2) (d.iR hq);exact d.iO (fun k hk=>⟨(ho k hk.1).1,hne k (ho k hk.1).2 hk.2.2.1⟩) h1
   refine ⟨v1,w1,hrun,⟨fun k hk=>?_,inner++news,by rw [List.length_append,hm];exact h2,BJ (hr.uV (fun _ _ hq=>step hq (fun _ hk=>hk))) (VY.uV (fun _ _ hq=>step hq vQ))⟩,hg,hat'⟩
   rcases hat' with hat|⟨b,hb,hle⟩
   ·exact hok k (hat ▸ hk)
   ·rw [hb] at hk
    injection hk with hk
    exact hfresh k (by omega)
 obtain ⟨v1,w1,hr1,h1,hg,hat⟩:=hrun;rw [if_pos hw]
 unfold Oper.wp execOp
 simp only [ho,resolve,invoke,builtin,Sem.run_bind,Sem.run_pure,Result.andThen_ok,List.map_toArray,List.map_cons,List.map_nil,hs,hx,hr1];exact h v1 w1 h1 (HB.grown hg hbase (uU hown)) hg hat
end Kd
end
namespace Kd
end Kd
end Go.Proofs.YtnpfbjnjdngkhaaGreatDoorW.aQ
namespace Go.Proofs.YtnpfbjnjdngkhaaGreatDoorW.bO
section
variable {P:Program} {ops:Array Oper} {Q:Exit->Act->World->Prop} {md:Region.Mode} {S:World->Prop} {ds:List Nat}
def Region.qL (md:Region.Mode) (ops:Array Oper) (i:Nat):Nat->Nat->Bool
 | 0,_=>false
 | fuel+1,d=>match ops[d]? with
  | some o=>o.after.any fun e=>Region.binds md e&&(e.on == i||Region.qL md ops i fuel e.on)
  | none=>false
def Region.zw (md:Region.Mode) (ops:Array Oper) (listed:Array Bool):Bool :=
 (List.range ops.size).all fun j=>!listed.getD j false||match ops[j]? with
  | some o=>o.after.all fun e=>!Region.binds md e||listed.getD e.on false
  | none=>true
def Region.lastB (md:Region.Mode) (ops:Array Oper) (listed:Array Bool) (ds:List Nat) (i:Nat):Bool :=
 ds.all fun d=>listed.getD d true||Region.qL md ops i ops.size d
def lq (md:Region.Mode) (ops:Array Oper) (listed:Array Bool):Prop :=
 ∀ j oj,ops[j]?=some oj->listed.getD j false=true->∀ e∈oj.after,Region.binds md e=true->listed.getD e.on false=true
theorem Region.Gv {listed:Array Bool} (h:Region.zw md ops listed=true):lq md ops listed:=by
 intro j oj hj hl e he hb;have hlt:j<ops.size:=(Array.getElem?_eq_some_iff.1 hj).1;have h1:=List.all_eq_true.1 h j (List.mem_range.2 hlt);simp only [hl,hj,Bool.not_true,Bool.false_or] at h1;have h2:=Array.all_eq_true_iff_forall_mem.1 h1 e he
 simpa [hb] using h2
theorem lq.set {listed:Array Bool} {i:Nat} (h:lq md ops listed) (hi:i∈Region.ready md ops listed):lq md ops (listed.setIfInBounds i true):=by
 obtain ⟨_,oi,hoi,hall⟩:=mem_ready.1 hi;intro j oj hj hl e he hb
 by_cases hij:i=j
 ·subst hij
  have:oj=oi:=Option.some.inj (hj.symm.trans hoi);subst this;exact getD_set_true (hall e he hb)
 ·rw [getD_set_ne false hij] at hl
  exact getD_set_true (h j oj hj hl e he hb)
theorem Region.zx {listed:Array Bool} {i:Nat} (hc:lq md ops listed):∀ (fuel d:Nat),Region.qL md ops i fuel d=true->listed.getD d false=true->listed.getD i false=true
 | 0,_,h,_=>by simp [Region.qL] at h
 | fuel+1,d,h,hl=>by
  unfold Region.qL at h
  cases ho:ops[d]? with
  | none=>rw [ho] at h;simp at h
  | some o =>
   rw [ho] at h;obtain ⟨e,he,h1⟩:=Array.any_eq_true'.1 h;simp only [Bool.and_eq_true,Bool.or_eq_true,beq_iff_eq] at h1;have hle:=hc d o ho hl e he h1.1
   rcases h1.2 with h2|h2
   ·rw [← h2];exact hle
   ·exact Region.zx hc fuel e.on h2 hle
theorem Region.Cz {listed:Array Bool} {i d fuel:Nat} (hc:lq md ops listed) (hr:Region.qL md ops i fuel d=true) (hun:listed.getD i true=false):d∉Region.ready md ops listed:=by
 intro hd;obtain ⟨_,o,ho,hall⟩:=mem_ready.1 hd
 have hi:listed.getD i false=true:=by
  cases fuel with
  | zero=>simp [Region.qL] at hr
  | succ n =>
   unfold Region.qL at hr
   rw [ho] at hr;obtain ⟨e,he,h1⟩:=Array.any_eq_true'.1 hr;simp only [Bool.and_eq_true,Bool.or_eq_true,beq_iff_eq] at h1;have hle:=hall e he h1.1
   rcases h1.2 with h2|h2
   ·rw [← h2];exact hle
   ·exact Region.zx hc n e.on h2 hle
 rcases Nat.lt_or_ge i listed.size with h' | h'
 ·simp [h'] at hun hi
  rw [hun] at hi
  cases hi
 ·simp [Array.getElem?_eq_none h'] at hun
def cB (P:Program) (md:Region.Mode) (ops:Array Oper) (Q:Exit->Act->World->Prop) (S:World->Prop) (ds:List Nat):Nat->Array Bool->Act->World->Prop
 | 0,listed,a,w=>Region.ready md ops listed=[]∧Q .normal a w
 | fuel+1,listed,a,w =>
  (Region.ready md ops listed=[]->Q .normal a w) ∧
  ∀ i∈Region.ready md ops listed,wpOp P ops Q i (fun a' w'=>(i∉ds->S w->S w')∧cB P md ops Q S ds fuel (listed.setIfInBounds i true) a' w') a w
theorem uN:∀ (fuel:Nat) (listed:Array Bool) (a:Act) (w:World),cB P md ops Q S ds fuel listed a w->wpAny P md ops Q fuel listed a w
 | 0,_,_,_,h=>h
 | fuel+1,_,_,_,h=>⟨h.1,fun i hi=>wpOp_mono (fun a' w' h'=>uN fuel _ a' w' h'.2) (h.2 i hi)⟩
theorem CB {i:Nat} {oi:Oper} {v:Value} (hi:ops[i]?=some oi) (hsel:∀ (j:Nat) (o:Oper) cs b,ops[j]?=some o->o.op≠.select cs b)
  (hQ:∀ c a w,Q (.panic c) (a.put oi.dst v) w->Q (.panic c) a w) (n:Nat) :
  ∀ (fuel:Nat) (listed:Array Bool) (a:Act) (w:World),
   (∀ j oj,ops[j]?=some oj->j≠i->listed.getD j true=false->(∀ e∈oj.after,Region.binds md e=true->e.on≠i)->oi.apart ops oj=true) ->
   lq md ops listed->(∀ d∈ds,listed.getD d true=false->Region.qL md ops i n d=true) ->
   i∈Region.ready md ops listed->YieldsIf P ops S oi v a->S w ->
   cB P md ops Q S ds fuel (listed.setIfInBounds i true) (a.put oi.dst v) w->cB P md ops Q S ds (fuel+1) listed a w:=by
 intro fuel
 induction fuel with
 | zero =>
  intro listed a w _ _ _ hr hy hS H;refine ⟨fun h=>(by rw [h] at hr;cases hr),fun j hj=>?_⟩
  by_cases hji:j=i
  ·subst hji;exact hy.wpOp hi hS ⟨fun _ h=>h,H⟩
  ·have:=ready_mono hj hji
   rw [H.1] at this
   cases this
 | succ fuel ih =>
  intro listed a w hfree hc hd hr hy hS H;refine ⟨fun h=>(by rw [h] at hr;cases hr),fun j hj=>?_⟩
  by_cases hji:j=i
  ·subst hji;exact hy.wpOp hi hS ⟨fun _ h=>h,H⟩
  ·have h1:=H.2 j (ready_mono hj hji)
   obtain ⟨hjun,oj,hoj,hall⟩:=mem_ready.1 hj;have QO:=(mem_ready.1 hr).1
   have hnot:∀ e∈oj.after,Region.binds md e=true->e.on≠i:=fun e he hb heq=>by
    have h1:=hall e he hb;rw [heq] at h1
    rcases Nat.lt_or_ge i listed.size with h' | h'
    ·simp [h'] at QO h1;rw [QO] at h1;cases h1
    ·simp [Array.getElem?_eq_none h'] at h1
   have hjd:j∉ds:=fun hm=>Region.Cz hc (hd j hm hjun) QO hj
   have h2:=wpOp_putIf hoj (hfree j oj hoj hji hjun hnot) (fun cs b=>hsel i oi cs b hi) (fun cs b=>hsel j oj cs b hoj) hQ hy h1
   have hfree':∀ k ok,ops[k]?=some ok->k≠i->(listed.setIfInBounds j true).getD k true=false ->
     (∀ e∈ok.after,Region.binds md e=true->e.on≠i)->oi.apart ops ok=true:=fun k ok hk hki hun hno=>by
    refine hfree k ok hk hki ?_ hno
    by_cases hjk:j=k
    ·subst hjk;exact hjun
    ·rw [getD_set_ne true hjk] at hun;exact hun
   have hd':∀ d∈ds,(listed.setIfInBounds j true).getD d true=false->Region.qL md ops i n d=true:=fun d hm hun=>by
    refine hd d hm ?_
    by_cases hjk:j=d
    ·subst hjk;exact hjun
    ·rw [getD_set_ne true hjk] at hun;exact hun
   refine wpOp_mono (fun a' w' h3=>⟨h3.2.1,ih (listed.setIfInBounds j true) a' w' hfree' (hc.set hj) hd' (ready_mono hr (Ne.symm hji)) h3.1 (h3.2.1 hjd hS) ?_⟩) h2;rw [Array.setIfInBounds_comm _ _ hji];exact h3.2.2
theorem Fx {i:Nat} {oi:Oper} {v:Value} (hi:ops[i]?=some oi) (hsel:∀ (j:Nat) (o:Oper) cs b,ops[j]?=some o->o.op≠.select cs b)
  (hQ:∀ c a w,Q (.panic c) (a.put oi.dst v) w->Q (.panic c) a w) :
  ∀ (fuel:Nat) (listed:Array Bool) (a:Act) (w:World),
   (∀ j oj,ops[j]?=some oj->j≠i->listed.getD j true=false->(∀ e∈oj.after,Region.binds md e=true->e.on≠i)->oi.apart ops oj=true) ->
   i∈Region.ready md ops listed->Yields P ops oi v a ->
   cB P md ops Q S ds fuel (listed.setIfInBounds i true) (a.put oi.dst v) w->cB P md ops Q S ds (fuel+1) listed a w:=by
 intro fuel
 induction fuel with
 | zero =>
  intro listed a w _ hr hy H;refine ⟨fun h=>(by rw [h] at hr;cases hr),fun j hj=>?_⟩
  by_cases hji:j=i
  ·subst hji;exact (hy.yieldsIf (S:=fun _=>True)).wpOp hi trivial ⟨fun _ h=>h,H⟩
  ·have:=ready_mono hj hji
   rw [H.1] at this
   cases this
 | succ fuel ih =>
  intro listed a w hfree hr hy H;refine ⟨fun h=>(by rw [h] at hr;cases hr),fun j hj=>?_⟩
  by_cases hji:j=i
  ·subst hji;exact (hy.yieldsIf (S:=fun _=>True)).wpOp hi trivial ⟨fun _ h=>h,H⟩
  ·have h1:=H.2 j (ready_mono hj hji)
   obtain ⟨hjun,oj,hoj,hall⟩:=mem_ready.1 hj;have QO:=(mem_ready.1 hr).1
   have hnot:∀ e∈oj.after,Region.binds md e=true->e.on≠i:=fun e he hb heq=>by
    have h1:=hall e he hb;rw [heq] at h1
    rcases Nat.lt_or_ge i listed.size with h' | h'
    ·simp [h'] at QO h1;rw [QO] at h1;cases h1
    ·simp [Array.getElem?_eq_none h'] at h1
   have h2:=wpOp_put hoj (hfree j oj hoj hji hjun hnot) (fun cs b=>hsel i oi cs b hi) (fun cs b=>hsel j oj cs b hoj) hQ hy h1
   have hfree':∀ k ok,ops[k]?=some ok->k≠i->(listed.setIfInBounds j true).getD k true=false ->
     (∀ e∈ok.after,Region.binds md e=true->e.on≠i)->oi.apart ops ok=true:=fun k ok hk hki hun hno=>by
    refine hfree k ok hk hki ?_ hno
    by_cases hjk:j=k
    ·subst hjk;exact hjun
    ·rw [getD_set_ne true hjk] at hun;exact hun
   refine wpOp_mono (fun a' w' h3=>⟨h3.2.1,ih (listed.setIfInBounds j true) a' w' hfree' (ready_mono hr (Ne.symm hji)) h3.1 ?_⟩) h2;rw [Array.setIfInBounds_comm _ _ hji];exact h3.2.2
theorem D7 {i:Nat} {oi:Oper} {v:Value} {fuel:Nat} {listed:Array Bool} {a:Act} {w:World} (hi:ops[i]?=some oi)
  (hs:Region.noSelect ops=true) (hf:Region.free md ops listed i=true) (hr:(Region.ready md ops listed).contains i=true)
  (hc:Region.zw md ops listed=true) (hl:Region.lastB md ops listed ds i=true)
  (hQ:∀ c a w,Q (.panic c) (a.put oi.dst v) w->Q (.panic c) a w) (hy:YieldsIf P ops S oi v a) (hS:S w)
  (h:cB P md ops Q S ds fuel (listed.setIfInBounds i true) (a.put oi.dst v) w):cB P md ops Q S ds (fuel+1) listed a w :=
 CB hi (Region.noSelect_spec hs) hQ ops.size fuel listed a w (Region.free_spec hi hf) (Region.Gv hc)
  (fun d hm hun=>by have:=List.all_eq_true.1 hl d hm;rw [hun] at this;simpa using this) (by simpa using hr) hy hS h
theorem Fy {rs:List Nat} {fuel:Nat} {listed:Array Bool} {a:Act} {w:World} (hr:Region.ready md ops listed=rs) (hne:rs≠[])
  (h:∀ i∈rs,wpOp P ops Q i (fun a' w'=>(i∉ds->S w->S w')∧cB P md ops Q S ds fuel (listed.setIfInBounds i true) a' w') a w):cB P md ops Q S ds (fuel+1) listed a w :=
 ⟨fun h0=>absurd (hr ▸ h0) hne,hr ▸ h⟩
theorem D8 {listed:Array Bool} {a:Act} {w:World} (hr:Region.ready md ops listed=[]) (h:Q .normal a w) :
  ∀ fuel,cB P md ops Q S ds fuel listed a w
 | 0=>⟨hr,h⟩
 | _+1=>⟨fun _=>h,by rw [hr];simp⟩
theorem Ea {id:Nat} {a:Act} {w:World} (hm:P.follows .mixedOrders=true)
  (h:cB P .any ops Q S ds ops.size (Array.replicate ops.size false) a { w with drawn:=w.drawn+1 }):(Code.region id ops true).wp P Q a w :=
 wp_region_any hm (uN _ _ _ _ h)
end
section
variable {P:Program} {ops:Array Oper} {Q:Exit->Act->World->Prop} {md:Region.Mode} {S:World->Prop} {ds:List Nat}
def gN (P:Program) (md:Region.Mode) (ops:Array Oper) (Q:Exit->Act->World->Prop) (S:World->Prop) (ds:List Nat) (fuel:Nat) (listed:Array Bool) (a:Act) (w:World) (rs:List Nat):Prop :=
 ∀ i∈rs,wpOp P ops Q i (fun a' w'=>(i∉ds->S w->S w')∧cB P md ops Q S ds fuel (listed.setIfInBounds i true) a' w') a w
theorem gN.nil {fuel:Nat} {listed:Array Bool} {a:Act} {w:World}:gN P md ops Q S ds fuel listed a w []:=fun _ h=>by cases h
theorem gN.cons {fuel:Nat} {listed:Array Bool} {a:Act} {w:World} {i:Nat} {o:Oper} {rs:List Nat} (ho:ops[i]?=some o) (hd:i∉ds)
  (h:∀ K':Act->World->Prop,Shut (∀ a w,S w->(S w->cB P md ops Q S ds fuel (listed.setIfInBounds i true) a w)->K' a w)->if Region.wanted o (yielded ops a.tmps)=true then Oper.wp P o a w K' Q else K' (a.put o.dst undef) w)
  (hs:gN P md ops Q S ds fuel listed a w rs):gN P md ops Q S ds fuel listed a w (i::rs):=fun j hj=>by
 rcases List.mem_cons.1 hj with rfl|hj
 ·exact wpOp_step ho (fun K' hK=>h K' (fun a w hS hW=>hK a w ⟨fun _ _=>hS,hW hS⟩))
 ·exact hs j hj
theorem gN.QS {fuel:Nat} {listed:Array Bool} {a:Act} {w:World} {i:Nat} {o:Oper} {rs:List Nat} (ho:ops[i]?=some o) (hd:i∈ds)
  (h:∀ K':Act->World->Prop,Shut (∀ a w,cB P md ops Q S ds fuel (listed.setIfInBounds i true) a w->K' a w)->if Region.wanted o (yielded ops a.tmps)=true then Oper.wp P o a w K' Q else K' (a.put o.dst undef) w)
  (hs:gN P md ops Q S ds fuel listed a w rs):gN P md ops Q S ds fuel listed a w (i::rs):=fun j hj=>by
 rcases List.mem_cons.1 hj with rfl|hj
 ·exact wpOp_step ho (fun K' hK=>h K' (fun a w hW=>hK a w ⟨fun hn=>absurd hd hn,hW⟩))
 ·exact hs j hj
theorem nS {rs:List Nat} {fuel:Nat} {listed:Array Bool} {a:Act} {w:World} (hr:Region.ready md ops listed=rs) (hne:rs≠[])
  (h:gN P md ops Q S ds fuel listed a w rs):cB P md ops Q S ds (fuel+1) listed a w:=Fy hr hne h
theorem kK {id n:Nat} {a:Act} {w:World} (l:Array Bool) (hm:P.follows .mixedOrders=true) (hn:ops.size=n) (hl:Array.replicate n false=l) (hS:S w.drew)
  (h:S w.drew->cB P .any ops Q S ds n l a w.drew):(Code.region id ops true).wp P Q a w:=by
 subst hn;subst hl;exact Ea hm (h hS)
def takeB (md:Region.Mode) (ops:Array Oper) (ds:List Nat) (l l':Array Bool) (i:Nat):Bool :=
 Region.noSelect ops&&Region.free md ops l i&&(Region.ready md ops l).contains i&&Region.zw md ops l&&Region.lastB md ops l ds i&&(l.setIfInBounds i true == l')
theorem fF {i:Nat} {N:Option Tmp} {oi:Oper} {v:Value} {fuel:Nat} {l:Array Bool} {a:Act} {w:World} (l':Array Bool) (hi:ops[i]?=some oi) (hN:oi.dst=N) (hc:takeB md ops ds l l' i=true)
  (hQ:∀ c a w,Q (.panic c) (a.put oi.dst v) w->Q (.panic c) a w) (hy:YieldsIf P ops S oi v a) (hS:S w) {a':Act} (ha:a.put N v=a')
  (h:cB P md ops Q S ds fuel l' a' w):cB P md ops Q S ds (fuel+1) l a w:=by
 subst ha;subst hN;simp only [takeB,Bool.and_eq_true,beq_iff_eq] at hc;obtain ⟨⟨⟨⟨⟨h1,h2⟩,h3⟩,h4⟩,h5⟩,h6⟩:=hc;subst h6;exact D7 hi h1 h2 h3 h4 h5 hQ hy hS h
def V3 (md:Region.Mode) (ops:Array Oper) (l l':Array Bool) (i:Nat):Bool :=
 Region.noSelect ops&&Region.free md ops l i&&(Region.ready md ops l).contains i&&(l.setIfInBounds i true == l')
theorem aH {i:Nat} {N:Option Tmp} {oi:Oper} {v:Value} {fuel:Nat} {l:Array Bool} {a:Act} {w:World} (l':Array Bool) (hi:ops[i]?=some oi) (hN:oi.dst=N) (hc:V3 md ops l l' i=true)
  (hQ:∀ c a w,Q (.panic c) (a.put oi.dst v) w->Q (.panic c) a w) (hy:Yields P ops oi v a) {a':Act} (ha:a.put N v=a')
  (h:cB P md ops Q S ds fuel l' a' w):cB P md ops Q S ds (fuel+1) l a w:=by
 subst ha;subst hN;simp only [V3,Bool.and_eq_true,beq_iff_eq] at hc;obtain ⟨⟨⟨h1,h2⟩,h3⟩,h6⟩:=hc;subst h6;exact Fx hi (Region.noSelect_spec h1) hQ fuel l a w (Region.free_spec hi h2) (by simpa using h3) hy h
def Bb (md:Region.Mode) (ops:Array Oper) (l l':Array Bool) (i:Nat):Bool:=(Region.ready md ops l == [i])&&(l.setIfInBounds i true == l')
theorem gZ {i:Nat} {N:Option Tmp} {oi:Oper} {fuel:Nat} {l:Array Bool} {a:Act} {w:World} (l':Array Bool) (hi:ops[i]?=some oi) (hN:oi.dst=N) (hc:Bb md ops l l' i=true) (hd:i∉ds)
  (h:∀ K:Act->World->Prop,Shut (∀ a' w',S w'->(S w'->cB P md ops Q S ds fuel l' a' w')->K a' w')->if Region.wanted oi (yielded ops a.tmps)=true then Oper.wp P oi a w K Q else K (a.put N undef) w) :
  cB P md ops Q S ds (fuel+1) l a w:=by
 subst hN;simp only [Bb,Bool.and_eq_true,beq_iff_eq] at hc;obtain ⟨h1,h2⟩:=hc;subst h2;exact nS h1 (by simp) (gN.cons hi hd (fun K hK=>h K hK) gN.nil)
theorem Sw {i:Nat} {N:Option Tmp} {oi:Oper} {fuel:Nat} {l:Array Bool} {a:Act} {w:World} (l':Array Bool) (hi:ops[i]?=some oi) (hN:oi.dst=N) (hc:Bb md ops l l' i=true) (hd:i∈ds)
  (h:∀ K:Act->World->Prop,Shut (∀ a' w',cB P md ops Q S ds fuel l' a' w'->K a' w')->if Region.wanted oi (yielded ops a.tmps)=true then Oper.wp P oi a w K Q else K (a.put N undef) w) :
  cB P md ops Q S ds (fuel+1) l a w:=by
 subst hN;simp only [Bb,Bool.and_eq_true,beq_iff_eq] at hc;obtain ⟨h1,h2⟩:=hc;subst h2;exact nS h1 (by simp) (gN.QS hi hd (fun K hK=>h K hK) gN.nil)
theorem lK {l:Array Bool} {a:Act} {w:World} {n:Nat} (hr:(Region.ready md ops l == [])=true) (h:Q .normal a w):cB P md ops Q S ds n l a w:=D8 (by simpa using hr) h n
theorem QT {i j:Nat} {Ni Nj:Option Tmp} {oi oj:Oper} {fuel:Nat} {l:Array Bool} {a:Act} {w:World} (li lj:Array Bool) (hi:ops[i]?=some oi) (hj:ops[j]?=some oj) (hNi:oi.dst=Ni) (hNj:oj.dst=Nj)
  (hc:(Region.ready md ops l == [i,j]&&l.setIfInBounds i true == li&&l.setIfInBounds j true == lj)=true) (hdi:i∉ds) (hdj:j∉ds)
  (h1:∀ K:Act->World->Prop,Shut (∀ a' w',S w'->(S w'->cB P md ops Q S ds fuel li a' w')->K a' w')->if Region.wanted oi (yielded ops a.tmps)=true then Oper.wp P oi a w K Q else K (a.put Ni undef) w)
  (h2:∀ K:Act->World->Prop,Shut (∀ a' w',S w'->(S w'->cB P md ops Q S ds fuel lj a' w')->K a' w')->if Region.wanted oj (yielded ops a.tmps)=true then Oper.wp P oj a w K Q else K (a.put Nj undef) w) :
  cB P md ops Q S ds (fuel+1) l a w:=by
 subst hNi;subst hNj;simp only [Bool.and_eq_true,beq_iff_eq] at hc;obtain ⟨⟨h3,h4⟩,h5⟩:=hc;subst h4;subst h5;exact nS h3 (by simp) (gN.cons hi hdi (fun K hK=>h1 K hK) (gN.cons hj hdj (fun K hK=>h2 K hK) gN.nil))
theorem qak {i j k:Nat} {Ni Nj Nk:Option Tmp} {oi oj ok:Oper} {fuel:Nat} {l:Array Bool} {a:Act} {w:World} (li lj lk:Array Bool) (hi:ops[i]?=some oi) (hj:ops[j]?=some oj) (hk:ops[k]?=some ok) (hNi:oi.dst=Ni) (hNj:oj.dst=Nj) (hNk:ok.dst=Nk)
  (hc:(Region.ready md ops l == [i,j,k]&&l.setIfInBounds i true == li&&l.setIfInBounds j true == lj&&l.setIfInBounds k true == lk)=true) (hdi:i∉ds) (hdj:j∉ds) (hdk:k∉ds)
  (h1:∀ K:Act->World->Prop,Shut (∀ a' w',S w'->(S w'->cB P md ops Q S ds fuel li a' w')->K a' w')->if Region.wanted oi (yielded ops a.tmps)=true then Oper.wp P oi a w K Q else K (a.put Ni undef) w)
  (h2:∀ K:Act->World->Prop,Shut (∀ a' w',S w'->(S w'->cB P md ops Q S ds fuel lj a' w')->K a' w')->if Region.wanted oj (yielded ops a.tmps)=true then Oper.wp P oj a w K Q else K (a.put Nj undef) w)
  (h3:∀ K:Act->World->Prop,Shut (∀ a' w',S w'->(S w'->cB P md ops Q S ds fuel lk a' w')->K a' w')->if Region.wanted ok (yielded ops a.tmps)=true then Oper.wp P ok a w K Q else K (a.put Nk undef) w) :
  cB P md ops Q S ds (fuel+1) l a w:=by
 subst hNi;subst hNj;subst hNk;simp only [Bool.and_eq_true,beq_iff_eq] at hc;obtain ⟨⟨⟨h4,h5⟩,h6⟩,h7⟩:=hc;subst h5;subst h6;subst h7;exact nS h4 (by simp) (gN.cons hi hdi (fun K hK=>h1 K hK) (gN.cons hj hdj (fun K hK=>h2 K hK) (gN.cons hk hdk (fun K hK=>h3 K hK) gN.nil)))
def bS:Act->List (Tmp × Value)->Act
 | a,[]=>a
 | a,(n,v)::r=>bS (a.put (some n) v) r
theorem wL {σ:Type} {fuel:Nat} {l:Array Bool} {a:Act} {w:World} (fuel':Nat) (l':Array Bool) (ns:σ->List (Tmp × Value)) (F:σ->World->Prop)
  (hcont:∀ s w',F s w'->cB P md ops Q S ds fuel' l' (bS a (ns s)) w')
  (h:(∀ s w',F s w'->cB P md ops Q S ds fuel' l' (bS a (ns s)) w')->cB P md ops Q S ds fuel l a w):cB P md ops Q S ds fuel l a w:=h hcont
theorem dn {fuel:Nat} {l:Array Bool} {a a':Act} {w:World} (ha:a=a') (h:cB P md ops Q S ds fuel l a' w):cB P md ops Q S ds fuel l a w:=by
 subst ha;exact h
theorem Oi {oi:Oper} {N:Option Tmp} {a:Act} {w:World} {K:Act->World->Prop} (f:FuncId) (args:Array Value) (hw:Region.wanted oi (yielded ops a.tmps)=true) (hN:oi.dst=N) (hrun:(execOp a.eval oi).run P w=.ok (.enter f args) w)
  (h:Calls P f args w fun e w'=>∃ v,e=.returned v∧K (a.put N v) w'):if Region.wanted oi (yielded ops a.tmps)=true then Oper.wp P oi a w K Q else K (a.put N undef) w:=by
 rw [if_pos hw];subst hN
 unfold Oper.wp
 rw [hrun,Oper.upon_enter]
 refine h.mono fun e w'' hh=>?_
 obtain ⟨v,rfl,hk⟩:=hh;exact hk
theorem Oj {f:FuncId} {fn:Func} (hf:P.funcs[f]?=some fn) (hname:(fn.name == "runtime.NumGoroutine")=false) (hb:fn.body.isSome=true) (args:Array Value) (w:World):(callFunc f args).run P w=.ok (.enter f args) w:=by
 have h1:fn.name ≠ "runtime.NumGoroutine" := by simpa using hname
 obtain ⟨c,hc⟩:=Option.isSome_iff_exists.1 hb;simp [callFunc,hf,h1,hc]
theorem gK {oi:Oper} {N:Option Tmp} {a:Act} {w:World} {K:Act->World->Prop} {f:FuncId} {fn:Func} {qrM:Array Operand} {ts:Array TypeId} (hf:P.funcs[f]?=some fn) (hname:(fn.name == "runtime.NumGoroutine")=false) (hb:fn.body.isSome=true) (args:Array Value)
  (hw:Region.wanted oi (yielded ops a.tmps)=true) (hN:oi.dst=N) (hop:oi.op=.call { callee:=.value (.func f),args:=qrM,argTypes:=ts }) (hargs:qrM.map a.eval=args)
  (h:Calls P f args w fun e w'=>∃ v,e=.returned v∧K (a.put N v) w'):if Region.wanted oi (yielded ops a.tmps)=true then Oper.wp P oi a w K Q else K (a.put N undef) w:=by
 refine Oi f args hw hN ?_ h;have he:=Oj hf hname hb args w
 unfold execOp
 simp [hop,resolve,Deferred.ofValue,invoke,Act.eval,hargs,he]
theorem bX {rest:List Oper} {oi:Oper} {a:Act} {w:World} (N:Option Tmp) (hd:oi.dst=N) (hg:oi.guard=none) {f:FuncId} {fn:Func} {qrM:Array Operand} {ts:Array TypeId} (hf:P.funcs[f]?=some fn) (hname:(fn.name == "runtime.NumGoroutine")=false) (hb:fn.body.isSome=true) (args:Array Value)
  (hop:oi.op=.call { callee:=.value (.func f),args:=qrM,argTypes:=ts }) (hargs:qrM.map a.eval=args)
  (h:Calls P f args w fun e w'=>∃ v,e=.returned v∧wpList P ops Q rest (a.put N v) w'):wpList P ops Q (oi::rest) a w:=by
 refine wpList_plain hg fun K hK=>?_
 have he:=Oj hf hname hb args w
 have hrun:(execOp a.eval oi).run P w=.ok (.enter f args) w:=by
  unfold execOp
  simp [hop,resolve,Deferred.ofValue,invoke,Act.eval,hargs,he]
 unfold Oper.wp
 rw [hrun,Oper.upon_enter]
 refine h.mono fun e w'' hh=>?_
 obtain ⟨v,rfl,hk⟩:=hh;subst hd;exact hK _ _ hk
theorem qal {oi:Oper} {N:Option Tmp} {a:Act} {w w1:World} {v:Value} {K:Act->World->Prop} (hw:Region.wanted oi (yielded ops a.tmps)=true) (hN:oi.dst=N) (hrun:(execOp a.eval oi).run P w=.ok (.value v) w1)
  (h:K (a.put N v) w1):if Region.wanted oi (yielded ops a.tmps)=true then Oper.wp P oi a w K Q else K (a.put N undef) w:=by
 rw [if_pos hw];subst hN
 unfold Oper.wp
 rw [hrun];exact h
theorem YM {oi:Oper} {a:Act} {w w1:World} {K:Act->World->Prop} (hw:Region.wanted oi (yielded ops a.tmps)=true) (hN:oi.dst=none) (hrun:(execOp a.eval oi).run P w=.ok .skip w1)
  (h:K a w1):if Region.wanted oi (yielded ops a.tmps)=true then Oper.wp P oi a w K Q else K (a.put none undef) w:=by
 rw [if_pos hw]
 unfold Oper.wp
 rw [hrun]
 show K (a.put oi.dst undef) w1
 rw [hN];exact h
theorem ay (n:Int):IntKind.i64.wrap n=Go.RowKit.wrap64 n:=by unfold Go.RowKit.wrap64;exact IntKind.wrap_i64 n
theorem aA (n:Int):IntKind.i32.wrap n=Go.RowKit.wrap32 n:=by unfold Go.RowKit.wrap32;exact IntKind.wrap_i32 n
end
end Go.Proofs.YtnpfbjnjdngkhaaGreatDoorW.bO
namespace Go.Proofs.YtnpfbjnjdngkhaaGreatDoorW.bO
open Go.Proofs.YtnpfbjnjdngkhaaGreatDoorW.aQ (aj)
def xY (md:Region.Mode) (o:Oper):List Nat:=(o.after.toList.filter (fun e=>Region.binds md e)).map (fun e=>e.on)
def Gw (md:Region.Mode) (ops:Array Oper) (i:Nat) (oi:Oper):List Nat:=(List.range ops.size).filter fun j=>!(j == i)&&match ops[j]? with
 | some oj=>!(oj.after.any (fun e=>Region.binds md e&&e.on == i)||oi.apart ops oj)
 | none=>false
def pQ (md:Region.Mode) (ops:Array Oper):Bool × List (List Nat × List Nat):=(Region.noSelect ops,(List.range ops.size).map fun i=>match ops[i]? with
 | some o=>(xY md o,Gw md ops i o)
 | none=>([],[]))
def uo (T:List (List Nat × List Nat)) (l:List Bool) (i:Nat):Bool:=!l.getD i true&&match T[i]? with
 | some r=>r.1.all (fun j=>l.getD j false)
 | none=>false
def Eb (T:List (List Nat × List Nat)) (l:List Bool):List Nat:=(List.range T.length).filter (uo T l)
def Je (T:List (List Nat × List Nat)) (l:List Bool) (i:Nat):Bool:=match T[i]? with
 | some r=>r.2.all (fun j=>l.getD j true)
 | none=>false
def CV (T:List (List Nat × List Nat)) (l:List Bool):Bool:=(List.range T.length).all fun j=>!l.getD j false||match T[j]? with
 | some r=>r.1.all (fun k=>l.getD k false)
 | none=>true
def Bc (T:List (List Nat × List Nat)) (i:Nat):Nat->Nat->Bool
 | 0,_=>false
 | fuel+1,d=>match T[d]? with
  | some r=>r.1.any fun j=>j == i||Bc T i fuel j
  | none=>false
def lastT (T:List (List Nat × List Nat)) (l:List Bool) (ds:List Nat) (i:Nat):Bool:=ds.all fun d=>l.getD d true||Bc T i T.length d
section
variable {md:Region.Mode} {ops:Array Oper} {T:Bool × List (List Nat × List Nat)} {l l' li lj lk:Array Bool} {ds:List Nat} {i j k:Nat}
theorem gd (l:Array Bool) (j:Nat) (b:Bool):l.getD j b=l.toList.getD j b:=by simp [Array.getD_eq_getD_getElem?,List.getD_eq_getElem?_getD]
theorem FN (o:Oper) (p:Nat->Bool):o.after.all (fun e=>!Region.binds md e||p e.on)=(xY md o).all p:=by
 unfold xY
 rw [← Array.all_toList]
 induction o.after.toList with
 | nil=>rfl
 | cons e r ih =>
  rw [List.all_cons,ih,List.filter_cons]
  cases h:Region.binds md e<;>simp
theorem QU (o:Oper) (p:Nat->Bool):o.after.any (fun e=>Region.binds md e&&p e.on)=(xY md o).any p:=by
 unfold xY
 rw [← Array.any_toList]
 induction o.after.toList with
 | nil=>rfl
 | cons e r ih =>
  rw [List.any_cons,ih,List.filter_cons]
  cases h:Region.binds md e<;>simp
theorem uq:(pQ md ops).2.length=ops.size:=by simp [pQ]
theorem xZ {o:Oper} (h:ops[i]?=some o):(pQ md ops).2[i]?=some (xY md o,Gw md ops i o):=by
 have hi:=(Array.getElem?_eq_some_iff.1 h).1
 unfold pQ
 rw [List.getElem?_map,List.getElem?_range hi,Option.map_some,h]
theorem yc (h:ops[i]?=none):(pQ md ops).2[i]?=none:=by
 have hi:ops.size<=i:=Array.getElem?_eq_none_iff.1 h;exact List.getElem?_eq_none (by rw [uq];exact hi)
theorem LK:uo (pQ md ops).2 l.toList i=(!l.getD i true&&((ops[i]?).map (·.after.all fun e=>!Region.binds md e||l.getD e.on false)).getD false):=by
 unfold uo
 rw [gd]
 cases h:ops[i]? with
 | none=>rw [yc h];rfl
 | some o =>
  rw [xZ h];simp only [Option.map_some,Option.getD_some];rw [← FN];simp only [gd]
theorem ready_eq:Region.ready md ops l=Eb (pQ md ops).2 l.toList:=by
 unfold Region.ready Eb
 rw [uq];refine List.filter_congr (fun i _=>?_);rw [LK]
theorem free_eq:Region.free md ops l i=Je (pQ md ops).2 l.toList i:=by
 unfold Region.free Je
 cases h:ops[i]? with
 | none=>rw [yc h]
 | some oi =>
  rw [xZ h];simp only [Gw];rw [List.all_filter]
  congr 1
  funext j
  rw [gd]
  cases hj:ops[j]? with
  | none=>cases (j == i)<;>cases (l.toList.getD j true)<;>simp
  | some oj =>
   cases (j == i)<;>cases (l.toList.getD j true)<;>cases (oj.after.any (fun e=>Region.binds md e&&e.on == i)||oi.apart ops oj)<;>simp_all
theorem QV:Region.zw md ops l=CV (pQ md ops).2 l.toList:=by
 unfold Region.zw CV
 rw [uq]
 congr 1
 funext j
 rw [gd]
 cases h:ops[j]? with
 | none=>rw [yc h]
 | some o =>
  rw [xZ h];simp only;rw [← FN];simp only [gd]
theorem Jf:∀ (fuel d:Nat),Region.qL md ops i fuel d=Bc (pQ md ops).2 i fuel d
 | 0,_=>rfl
 | fuel+1,d=>by
  unfold Region.qL Bc
  cases h:ops[d]? with
  | none=>rw [yc h]
  | some o =>
   rw [xZ h];simp only;rw [← QU]
   congr 1
   funext e
   rw [Jf fuel]
theorem V4:Region.lastB md ops l ds i=lastT (pQ md ops).2 l.toList ds i:=by
 unfold Region.lastB lastT
 rw [uq]
 congr 1
 funext d
 rw [gd,Jf]
theorem BL (h:uo T.2 l.toList i=true) (hT:pQ md ops=T):(Region.ready md ops l).contains i=true:=by
 subst hT;rw [ready_eq]
 unfold Eb
 rw [List.contains_iff_mem,List.mem_filter,List.mem_range];refine ⟨?_,h⟩
 unfold uo at h
 rw [Bool.and_eq_true] at h
 cases hq:(pQ md ops).2[i]? with
 | none=>rw [hq] at h;simp at h
 | some r=>exact (List.getElem?_eq_some_iff.1 hq).1
theorem LM (h:(l.toList.set i true == l'.toList)=true):(l.setIfInBounds i true == l')=true:=by
 rw [beq_iff_eq] at h ⊢;apply Array.ext';rw [Array.toList_setIfInBounds];exact h
def LP (T:Bool × List (List Nat × List Nat)) (l l':List Bool) (i:Nat):Bool:=T.1&&Je T.2 l i&&uo T.2 l i&&(l.set i true == l')
theorem aW (hT:pQ md ops=T) (h:LP T l.toList l'.toList i=true):V3 md ops l l' i=true:=by
 simp only [LP,Bool.and_eq_true] at h;obtain ⟨⟨⟨h1,h2⟩,h3⟩,h4⟩:=h;have h5:=BL h3 hT;have h6:=LM h4;subst hT;simp only [V3,Bool.and_eq_true];exact ⟨⟨⟨h1,by rw [free_eq];exact h2⟩,h5⟩,h6⟩
def Sy (T:Bool × List (List Nat × List Nat)) (ds:List Nat) (l l':List Bool) (i:Nat):Bool:=T.1&&Je T.2 l i&&uo T.2 l i&&CV T.2 l&&lastT T.2 l ds i&&(l.set i true == l')
theorem V5 (hT:pQ md ops=T) (h:Sy T ds l.toList l'.toList i=true):takeB md ops ds l l' i=true:=by
 simp only [Sy,Bool.and_eq_true] at h;obtain ⟨⟨⟨⟨⟨h1,h2⟩,h3⟩,h4⟩,h5⟩,h6⟩:=h;have h7:=BL h3 hT;have h8:=LM h6;subst hT;simp only [takeB,Bool.and_eq_true];exact ⟨⟨⟨⟨⟨h1,by rw [free_eq];exact h2⟩,h7⟩,by rw [QV];exact h4⟩,by rw [V4];exact h5⟩,h8⟩
theorem jq (hT:pQ md ops=T) (h:(Eb T.2 l.toList == [i]&&l.toList.set i true == l'.toList)=true):Bb md ops l l' i=true:=by
 simp only [Bool.and_eq_true] at h;obtain ⟨h1,h2⟩:=h;subst hT;simp only [Bb,Bool.and_eq_true];exact ⟨by rw [ready_eq];exact h1,LM h2⟩
theorem qU (hT:pQ md ops=T) (h:(Eb T.2 l.toList == [])=true):(Region.ready md ops l == [])=true:=by
 subst hT;rw [ready_eq];exact h
def upM (B:List Nat) (d:Nat):List Nat->Nat
 | []=>0
 | n::r=>(2 ^ n ||| (if n<d then B.getD n 0 else 0)) ||| upM B d r
def nT (T:List (List Nat × List Nat)) (B:List Nat):Bool:=(List.range T.length).all fun d=>match T[d]? with
 | some r=>(B.getD d 0 ||| upM B d r.1) == upM B d r.1
 | none=>false
theorem Ol {B:List Nat} {d i:Nat}:∀ {ns:List Nat},(upM B d ns).testBit i=true->∃ n∈ns,n=i∨(n<d∧(B.getD n 0).testBit i=true)
 | [],h=>by simp [upM] at h
 | n::r,h=>by
  unfold upM at h
  rw [Nat.testBit_or,Nat.testBit_or,Bool.or_eq_true,Bool.or_eq_true] at h
  rcases h with (h|h)|h
  ·rw [Nat.testBit_two_pow] at h
   exact ⟨n,List.mem_cons_self,.inl (by simpa using h)⟩
  ·by_cases hn:n<d
   ·rw [if_pos hn] at h
    exact ⟨n,List.mem_cons_self,.inr ⟨hn,h⟩⟩
   ·rw [if_neg hn] at h
    simp at h
  ·obtain ⟨m,hm,h2⟩:=Ol h
   exact ⟨m,List.mem_cons_of_mem _ hm,h2⟩
theorem FP {T:List (List Nat × List Nat)} {B:List Nat} (hB:nT T B=true):∀ (fuel d:Nat),d<fuel->d<T.length->(B.getD d 0).testBit i=true->Bc T i fuel d=true
 | 0,d,h,_,_=>by omega
 | fuel+1,d,h,hd,hb=>by
  have h1:=List.all_eq_true.1 hB d (List.mem_range.2 hd)
  cases hr:T[d]? with
  | none=>rw [hr] at h1;simp at h1
  | some r =>
   rw [hr] at h1;simp only [beq_iff_eq] at h1
   have h2:(upM B d r.1).testBit i=true:=by rw [← h1,Nat.testBit_or,hb,Bool.true_or]
   obtain ⟨n,hn,h3⟩:=Ol h2
   unfold Bc
   rw [hr];simp only;rw [List.any_eq_true];refine ⟨n,hn,?_⟩
   rcases h3 with rfl|⟨h4,h5⟩
   ·simp
   ·rw [FP hB fuel n (by omega) (by omega) h5,Bool.or_true]
def YN (T:List (List Nat × List Nat)) (B:List Nat) (l:List Bool) (ds:List Nat) (i:Nat):Bool:=ds.all fun d=>l.getD d true||(decide (d<T.length)&&(B.getD d 0).testBit i)
def YO (T:Bool × List (List Nat × List Nat)) (B:List Nat) (ds:List Nat) (l l':List Bool) (i:Nat):Bool:=T.1&&Je T.2 l i&&uo T.2 l i&&CV T.2 l&&YN T.2 B l ds i&&(l.set i true == l')
theorem fQ {B:List Nat} (hT:pQ md ops=T) (hB:nT T.2 B=true) (h:YO T B ds l.toList l'.toList i=true):takeB md ops ds l l' i=true:=by
 refine V5 hT ?_;simp only [YO,Sy,Bool.and_eq_true] at h ⊢;obtain ⟨⟨⟨⟨⟨h1,h2⟩,h3⟩,h4⟩,h5⟩,h6⟩:=h;refine ⟨⟨⟨⟨⟨h1,h2⟩,h3⟩,h4⟩,?_⟩,h6⟩
 unfold YN at h5
 unfold lastT
 rw [List.all_eq_true] at h5 ⊢;intro d hd;have h7:=h5 d hd;rw [Bool.or_eq_true,Bool.and_eq_true,decide_eq_true_eq] at h7
 rcases h7 with h7|⟨h8,h9⟩
 ·rw [h7,Bool.true_or]
 ·rw [FP hB _ d h8 h8 h9,Bool.or_true]
theorem mX {P:Program} {Q:Exit->Act->World->Prop} {S:World->Prop} {n:Nat} {a:Act} {w:World} {B:List Nat} (hT:pQ md ops=T) (hB:nT T.2 B=true) (h:aj (pQ md ops=T)->aj (nT T.2 B=true)->cB P md ops Q S ds n l a w):cB P md ops Q S ds n l a w:=h ⟨hT⟩ ⟨hB⟩
end
def yM:Code->Nat->Option (Array Oper)
 | .region id ops _,k=>if id == k then some ops else none
 | .seq a b,k=>match yM a k with
  | some o=>some o
  | none=>yM b k
 | .cond _ a b,k=>match yM a k with
  | some o=>some o
  | none=>yM b k
 | .block _ c,k=>yM c k
 | .loop c,k=>yM c k
 | .scope c,k=>yM c k
 | .rangeFunc _ _ a b,k=>match yM a k with
  | some o=>some o
  | none=>yM b k
 | _,_=>none
def opsOf (f:Func) (k:Nat):Array Oper:=((f.body.bind fun c=>yM c k)).getD #[]
end Go.Proofs.YtnpfbjnjdngkhaaGreatDoorW.bO
namespace Go.Proofs.YtnpfbjnjdngkhaaGreatDoorW.aQ
open Go.RowKit
namespace Kd
def tag {α:Type} (f:Nat->Nat) (d:Kd α):Kd (α × Nat) where
 sz:=d.sz
 E:=d.E
 K:=fun w x cs=>d.K w x.1 cs
 M:=fun w base ok x cs=>d.M w base (fun k=>ok k∧f k=x.2) x.1 cs
 oP:=fun h=>d.oP h
 oq:=fun h=>d.oq h
 lY:=fun hb h=>d.lY hb h
 jo:=fun h=>d.jo h
 iO:=fun hok h=>d.iO (fun k hk=>⟨hok k hk.1,hk.2⟩) h
 iR:=fun h=>d.iO (fun _ hk=>⟨⟨hk.1.1,hk.2⟩,hk.1.2⟩) (d.iR h)
 kJ:=fun hm h=>d.kJ (fun k hk=>hm k hk.1) h
 lZ:=fun hb h=>d.lZ hb h
def raw (sz:Nat):Kd (List Value) where
 sz:=sz
 E:=[]
 K:=fun _ x cs=>cs=x∧cs.length=sz∧∀ u∈cs,u.oneCell'=true
 M:=fun _ _ _ x cs=>cs=x∧cs.length=sz∧∀ u∈cs,u.oneCell'=true
 oP:=fun h=>h.2.1
 oq:=fun h=>h.2.2
 lY:=fun _ h=>h
 jo:=fun h=>h
 iO:=fun _ h=>h
 iR:=fun h=>h
 kJ:=fun _ h=>h
 lZ:=fun _ h=>h
def S {α:Type} (d:Kd α) (e:Nat) (w:World) (base:Nat) (ok:Nat->Prop) (v:Value) (xs:List α):Prop:=∃ f,(tag f d).R e w base ok v xs.zipIdx
section
variable {α β:Type} {d:Kd α} {d':Kd β} {e e':Nat} {w w1 W:World} {base b:Nat} {ok ok' okv oku:Nat->Prop} {u v:Value} {xs:List α} {ys:List β}
theorem Gy (hE:d.E=[]) (h:d.R e w base ok v xs):d.R e w base (fun k=>some k=v.ownBlock) v xs:=by
 obtain ⟨h0,inner,ho,hr⟩:=h;refine ⟨fun k hk=>hk.symm,inner,ho,hr.uV (fun p c hp=>d.iO (fun k hk=>?_) (d.iR hp))⟩;obtain ⟨_,_,_,q,hq,_⟩:=hk;rw [hE] at hq
 cases hq
theorem wM (d:Kd α) (e:Nat) (w:World) (base:Nat) (ok:Nat->Prop):S d e w base ok (.slice none 0 0) []:=⟨fun _=>0,mI _ _ _ _ _⟩
end
def gap {α:Type} (f:Nat->Nat) (d:Kd α) (i:Nat) (c:List Value):Kd (α × Nat) where
 sz:=d.sz
 E:=d.E
 K:=fun w x cs=>(x.2=i->cs=c∧cs.length=d.sz∧∀ u∈cs,u.oneCell'=true)∧(x.2≠i->d.K w x.1 cs)
 M:=fun w base ok x cs=>(x.2=i->cs=c∧cs.length=d.sz∧∀ u∈cs,u.oneCell'=true)∧(x.2≠i->d.M w base (fun k=>ok k∧f k=x.2) x.1 cs)
 oP:=fun {w x cs} h=>by
  by_cases hx:x.2=i
  ·exact (h.1 hx).2.1
  ·exact d.oP (h.2 hx)
 oq:=fun {w x cs} h=>by
  by_cases hx:x.2=i
  ·exact (h.1 hx).2.2
  ·exact d.oq (h.2 hx)
 lY:=fun hb h=>⟨h.1,fun hx=>d.lY hb (h.2 hx)⟩
 jo:=fun h=>⟨h.1,fun hx=>d.jo (h.2 hx)⟩
 iO:=fun hok h=>⟨h.1,fun hx=>d.iO (fun k hk=>⟨hok k hk.1,hk.2⟩) (h.2 hx)⟩
 iR:=fun h=>⟨h.1,fun hx=>d.iO (fun _ hk=>⟨⟨hk.1.1,hk.2⟩,hk.1.2⟩) (d.iR (h.2 hx))⟩
 kJ:=fun hm h=>⟨h.1,fun hx=>d.kJ (fun k hk=>hm k hk.1) (h.2 hx)⟩
 lZ:=fun hb h=>⟨h.1,fun hx=>d.lZ hb (h.2 hx)⟩
def H {α:Type} (d:Kd α) (e:Nat) (w:World) (base:Nat) (ok:Nat->Prop) (v:Value) (xs:List α) (i:Int) (oki:Nat->Prop) (c:List Value):Prop :=
 (∀ k,oki k->ok k)∧∃ f,(gap f d i.toNat c).R e w base (fun k=>ok k∧¬ oki k) v xs.zipIdx
structure Heap {α:Type} (d:Kd α):Prop where
 K:∀ {w w1:World} {x:α} {cs:List Value},(∀ k,k<w.heap.size->w1.heap[k]?=w.heap[k]?)->d.K w x cs->d.K w1 x cs
theorem QW {w w1:World} (hb:∀ k,k<w.heap.size->w1.heap[k]?=w.heap[k]?) {a:Addr} {v:Value} (h:w.cell? a=some v):w1.cell? a=some v:=by
 have:=hb a.block (World.block_lt_of_cell? w a h)
 simpa [World.cell?,this] using h
theorem Heap.C {α:Type} {d:Kd α} (hd:Heap d) {w w1:World} {A:Option Addr} {n:Nat} {xs:List α} (hb:∀ k,k<w.heap.size->w1.heap[k]?=w.heap[k]?) (h:d.C w A n xs):d.C w1 A n xs :=
 ⟨h.1,h.2.1,fun hn=>by
  obtain ⟨ad,e,hc⟩:=h.2.2 hn;refine ⟨ad,e,fun j p hj=>?_⟩;obtain ⟨c,hs,hr,hcell⟩:=hc j p hj
  exact ⟨c,hs,hd.K hb hr,fun i u hu=>QW hb (hcell i u hu)⟩⟩
theorem uX (k:IntKind):Heap (Kd.int k):=⟨fun _ h=>h⟩
theorem LQ {α:Type} {d:Kd α} (e:Nat) (hd:Heap d):Heap (slice e d):=⟨by
 rintro w w1 x cs hb ⟨A,c,rfl,hl,hr⟩
 exact ⟨A,c,rfl,hl,hd.C hb hr⟩⟩
theorem uY {α β:Type} {a:Kd α} {b:Kd β} (ha:Heap a) (hb':Heap b):Heap (pair a b):=⟨by
 rintro w w1 x cs hb ⟨c0,c1,rfl,h0,h1⟩
 exact ⟨c0,c1,rfl,ha.K hb h0,hb'.K hb h1⟩⟩
theorem Ec {α β:Type} {d:Kd α} (f:β->α) (hd:Heap d):Heap (iso d f):=⟨fun hb h=>hd.K hb h⟩
end Kd
end Go.Proofs.YtnpfbjnjdngkhaaGreatDoorW.aQ
namespace Go.Proofs.YtnpfbjnjdngkhaaGreatDoorW.aQ
open Go.RowKit
def Kept (w W:World) (S:Nat->Prop):Prop:=w.heap.size<=W.heap.size∧∀ i,i<w.heap.size->¬ S i->W.heap[i]?=w.heap[i]?
section
variable {w W W2:World} {S S2 S':Nat->Prop}
theorem Kept.refl (w:World) (S:Nat->Prop):Kept w w S:=⟨Nat.le_refl _,fun _ _ _=>rfl⟩
theorem Kept.of_below (h:Below w.heap.size w W) (S:Nat->Prop):Kept w W S:=⟨h.size,fun i hi _=>h.block i hi⟩
theorem Kept.then_ (h:Kept w W S) (k:Kept W W2 S2) (hs:∀ k,S2 k->S k∨w.heap.size<=k):Kept w W2 S :=
 ⟨Nat.le_trans h.1 k.1,fun i hi hn=>(k.2 i (Nat.lt_of_lt_of_le hi h.1) (fun h2=>(hs i h2).elim hn (fun h3=>by omega))).trans (h.2 i hi hn)⟩
theorem Kept.below (h:Kept w W S) (hb:Below W.heap.size W W2):Kept w W2 S:=h.then_ (Kept.of_below hb (fun _=>False)) (fun _ hk=>hk.elim)
theorem Kept.alloc (h:Kept w W S) (o:Obj):Kept w (W.alloc o) S:=h.below (fH (Below.refl _ _) o)
theorem Kept.drew (h:Kept w W S):Kept w W.drew S:=h
theorem Kept.drewN (h:Kept w W S) (m:Nat):Kept w (W.drewN m) S:=h
theorem Kept.setCell (h:Kept w W S) {p:Addr} (hp:S p.block∨w.heap.size<=p.block) (u:Value):Kept w (W.setCell p u) S :=
 h.then_ (S2:=fun k=>k=p.block) ⟨by simp [World.setCell],fun i _ hn=>Below.heap_setCell W p u i hn⟩ (fun k hk=>by rw [hk];exact hp)
end
namespace Kd
end Kd
def qV (P:World->Prop) (W:World) (ok:Nat->Prop):Prop:=∀ W':World,(∀ k,ok k->k<W.heap.size->W'.heap[k]?=W.heap[k]?)->P W'
theorem V6 {W W1:World} {k:Nat} (h:W1.heap[k]?=W.heap[k]?) (hlt:k<W.heap.size):k<W1.heap.size:=by
 rw [Array.getElem?_eq_getElem hlt] at h;exact (Array.getElem?_eq_some_iff.1 h).1
namespace qV
variable {P Q:World->Prop} {W W1:World} {ok ok':Nat->Prop}
theorem now (h:qV P W ok):P W:=h W (fun _ _ _=>rfl)
theorem mono (h:qV P W ok) (hok:∀ k,ok k->ok' k):qV P W ok':=fun W' hW=>h W' (fun k hk hlt=>hW k (hok k hk) hlt)
theorem bound (h:qV P W ok):qV P W (fun k=>ok k∧k<W.heap.size):=fun W' hW=>h W' (fun k hk hlt=>hW k ⟨hk,hlt⟩ hlt)
theorem step (h:qV P W ok) (hm:∀ k,ok k->k<W.heap.size->W1.heap[k]?=W.heap[k]?):qV P W1 ok:=fun W' hW=>h W' (fun k hk hlt=>(hW k hk (V6 (hm k hk hlt) hlt)).trans (hm k hk hlt))
theorem imp (h:qV P W ok) (hi:∀ W',P W'->Q W'):qV Q W ok:=fun W' hW=>hi W' (h W' hW)
theorem old (h:qV P W ok) (hb:Below W.heap.size W W1):qV P W1 (fun k=>ok k∧k<W.heap.size):=(h.bound).step (fun k _ hlt=>hb.block k hlt)
end qV
namespace Kd
def F {α:Type} (d:Kd α) (W:World) (ok:Nat->Prop) (A:Option Addr) (n:Nat) (xs:List α):Prop:=qV (fun W=>d.C W A n xs) W ok
def FK {α:Type} (d:Kd α) (W:World) (ok:Nat->Prop) (x:α) (c:List Value):Prop:=qV (fun W=>d.K W x c) W ok
section
variable {α β:Type} {d:Kd α} {e base n n' cc g N:Nat} {ok ok' nE S:Nat->Prop} {w w0 w1 W W1:World} {A A':Option Addr} {u v v1:Value} {xs:List α} {xs':List β} {d':Kd β} {x:α} {c:List Value}
theorem YP (h:F d W ok A n xs):d.C W A n xs:=qV.now h
theorem LU (h:F d W ok A n xs) (hok:∀ k,ok k->ok' k):F d W ok' A n xs:=qV.mono h hok
theorem Om (h:F d W ok A n xs):F d W (fun k=>ok k∧k<W.heap.size) A n xs:=qV.bound h
theorem Sz (h:F d W ok A n xs) (hm:∀ k,ok k->k<W.heap.size->W1.heap[k]?=W.heap[k]?):F d W1 ok A n xs:=qV.step h hm
theorem CW (h:F d W ok A n xs) (hb:Below W.heap.size W W1):F d W1 ok A n xs:=Sz h (fun k _ hlt=>hb.block k hlt)
theorem V7 (h:F d W ok A n xs) (o:Obj):F d (W.alloc o) ok A n xs:=CW h (fH (Below.refl _ _) o)
theorem qan (h:F d W ok A n xs):F d W.drew ok A n xs:=CW h (fC (Below.refl _ _))
theorem V8 (h:F d W ok A n xs) (m:Nat):F d (W.drewN m) ok A n xs:=CW h (kG (Below.refl _ _) m)
theorem qcJ (h:F d W ok A n xs) {p:Addr} (hok:∀ k,ok k->k≠p.block) (u:Value):F d (W.setCell p u) ok A n xs:=Sz h (fun k hk _=>Below.heap_setCell W p u k (hok k hk))
theorem qcK (d:Kd α) (W:World) (ok:Nat->Prop):F d W ok none ([]:List α).length []:=fun W' _=>Oh d W'
theorem SA (h:F d W ok A n xs) (a:Nat) (ha:W.heap.size<=a):F d W (fun k=>ok k∧k≠a) A n xs:=LU (Om h) (fun k hk=>⟨hk.1,by have:=hk.2;omega⟩)
theorem V9 (h:F d W (fun k=>ok k∧some k≠v.ownBlock) A n xs) (hg:W.grownBy W1 v.ownBlock) (hat:v1.ownBlock=v.ownBlock∨∃ b,v1.ownBlock=some b∧W.heap.size<=b):F d W1 (fun k=>ok k∧some k≠v1.ownBlock) A n xs:=by
 refine LU (qV.step (Om h) (fun k hk hlt=>hg.block k hlt hk.1.2)) (fun k hk=>⟨hk.1.1,?_⟩)
 rcases hat with hat|⟨b,hb,hle⟩
 ·rw [hat];exact hk.1.2
 ·rw [hb]
  intro he
  injection he with he
  have:=hk.2
  omega
theorem C_F (hd:Heap d) (h:d.C w A n xs):F d w (fun k=>k<w.heap.size) A n xs:=fun _ hW=>hd.C (fun k hlt=>hW k hlt hlt) h
theorem R_F (h:d.R e W base ok (.slice A n cc) xs):F d W ok A n xs:=fun W' hW=>by
 have h2:=eB (DY h hW);rw [h2.1];exact h2.2.2
theorem Bd (h:FK d W ok x c):d.K W x c:=qV.now h
theorem CX (h:FK d W ok x c) (hok:∀ k,ok k->ok' k):FK d W ok' x c:=qV.mono h hok
theorem Ed (h:FK d W ok x c):FK d W (fun k=>ok k∧k<W.heap.size) x c:=qV.bound h
theorem Gz (h:FK d W ok x c) (hm:∀ k,ok k->k<W.heap.size->W1.heap[k]?=W.heap[k]?):FK d W1 ok x c:=qV.step h hm
theorem Wh (h:d.M W base ok x c):FK d W ok x c:=fun _ hW=>d.jo (Sq h hW)
theorem emptied (W:World) (g:Nat):∃ W':World,(∀ k,k≠g->W'.heap[k]?=W.heap[k]?)∧∀ a:Addr,a.block=g->W'.cell? a=none:=by
 refine ⟨{ W with heap:=W.heap.setIfInBounds g (.cells #[] 0) },fun k hk=>by simp [Ne.symm hk],fun a ha=>?_⟩;subst ha
 by_cases hlt:a.block<W.heap.size
 ·simp [World.cell?,hlt]
 ·simp [World.cell?,hlt]
end
end Kd
end Go.Proofs.YtnpfbjnjdngkhaaGreatDoorW.aQ
namespace Go.Proofs.YtnpfbjnjdngkhaaGreatDoorW.aQ
open Go.RowKit
namespace Kd
def chunks (sz:Nat) (n:Nat) (inner:List Value):List (List Value):=(List.range n).map fun j=>(inner.drop (j*sz)).take sz
theorem jE (sz n:Nat) (inner:List Value):(chunks sz n inner).length=n:=by simp [chunks]
theorem QX {sz n:Nat} {inner:List Value} {j:Nat} (hj:j<n):(chunks sz n inner)[j]?=some ((inner.drop (j*sz)).take sz):=by simp [chunks,hj]
theorem yS {sz n:Nat} {inner:List Value} {j:Nat} {c:List Value} (h:(chunks sz n inner)[j]?=some c):c=(inner.drop (j*sz)).take sz:=by
 have hj:j<n:=by have:=(List.getElem?_eq_some_iff.1 h).1;rwa [jE] at this
 rw [QX hj] at h
 injection h with h
 exact h.symm
theorem Jg {α:Type} {Rr:α->List Value->Prop} {sz:Nat} {xs:List α} {inner:List Value} (h:dh Rr sz xs inner) (hR:∀ x c,Rr x c->c.length=sz∧∀ u∈c,u.oneCell'=true):dh (fun x cs=>cs=x∧cs.length=sz∧∀ u∈cs,u.oneCell'=true) sz (chunks sz xs.length inner) inner:=by
 refine ⟨by rw [jE];exact h.1,fun j p hj=>?_⟩
 have hjl:j<xs.length:=by have:=(List.getElem?_eq_some_iff.1 hj).1;rwa [jE] at this
 have hp:=yS hj;exact ⟨hp.symm,hR _ _ (h.2 j _ (List.getElem?_eq_getElem hjl))⟩
section
variable {α:Type} {d:Kd α} {e base n cc g:Nat} {ok ok' nE S:Nat->Prop} {w w1 W W1:World} {A:Option Addr} {u v v1:Value} {xs:List α} {x:α} {c:List Value}
theorem qcL (h:F d W ok A n xs) (z:α) (i:Int) (h0:0<=i) (h1:i<n) :
  ∃ ad c,A=some ad∧c.length=d.sz∧FK d W ok (xs.getD i.toNat z) c∧(∀ j u,c[j]?=some u->W.cell? (ad.add (i.toNat*d.sz+j))=some u)∧(0<d.sz->ok ad.block):=by
 obtain ⟨ad,c,rfl,hcl,hK,hcc⟩:=zq (YP h) z i h0 h1
 have hin:0<d.sz->ok ad.block:=by
  intro hs
  by_cases hk:ok ad.block
  ·exact hk
  ·obtain ⟨W',h2,h3⟩:=emptied W ad.block
   obtain ⟨ad',c',he,hcl',_,qap⟩:=zq (h W' (fun k hk' _=>h2 k (fun e=>hk (e ▸ hk')))) z i h0 h1
   injection he with he
   subst he;have h4:=qap 0 _ (List.getElem?_eq_getElem (by omega));rw [h3 _ (add_block _ _)] at h4
   cases h4
 refine ⟨ad,c,rfl,hcl,fun W' hW=>?_,hcc,hin⟩;obtain ⟨ad',c',he,hcl',hK',qap⟩:=zq (h W' hW) z i h0 h1
 injection he with he
 subst he
 have hc:c=c':=by
  apply List.ext_getElem?;intro j
  by_cases hj:j<d.sz
  ·have hb:W'.heap[ad.block]?=W.heap[ad.block]?:=by
    have h5:=hcc j _ (List.getElem?_eq_getElem (by omega));have h6:=World.block_lt_of_cell? W _ h5;rw [add_block] at h6;exact hW _ (hin (by omega)) h6
   have h5:=hcc j _ (List.getElem?_eq_getElem (by omega));have h6:=qap j _ (List.getElem?_eq_getElem (by omega))
   have h7:W'.cell? (ad.add (i.toNat*d.sz+j))=W.cell? (ad.add (i.toNat*d.sz+j)):=by simp [World.cell?,add_block,hb]
   rw [h7,h5] at h6;rw [List.getElem?_eq_getElem (by omega),List.getElem?_eq_getElem (by omega)];exact h6
  ·rw [List.getElem?_eq_none (by omega),List.getElem?_eq_none (by omega)]
 rw [hc];exact hK'
def N {α:Type} (d:Kd α) (e:Nat) (w:World) (base:Nat) (ok:Nat->Prop) (v:Value) (xs:List α):Prop :=
 (∀ k,v.ownBlock=some k->ok k)∧∃ rows:List (List Value),rows.length=xs.length∧(raw d.sz).R e w base (fun k=>some k=v.ownBlock) v rows∧∀ (j:Nat) (x:α) (c:List Value),xs[j]?=some x->rows[j]?=some c->FK d w (fun k=>ok k∧some k≠v.ownBlock) x c
theorem FQ {sz:Nat} {rows:List (List Value)} (h:(raw sz).R e w base ok v rows):(raw sz).R e w base (fun k=>some k=v.ownBlock) v rows:=Gy rfl h
theorem Wi {sz:Nat} {rows:List (List Value)} (h:(raw sz).R e w base ok v rows):(raw sz).R e w base (fun _=>True) v rows:=gq h (fun _ _=>trivial)
theorem R_N (h:d.R e w base ok v xs):N d e w base ok v xs:=by
 obtain ⟨h0,inner,ho,hr⟩:=h;refine ⟨h0,chunks d.sz xs.length inner,jE _ _ _,⟨fun k hk=>hk.symm,inner,by rw [jE];exact ho,Jg hr (fun x c hp=>⟨d.oP (d.jo hp),d.oq (d.jo hp)⟩)⟩,fun j x c hx hc=>?_⟩;rw [yS hc];exact Wh (hr.2 j x hx)
theorem wN (d:Kd α) (e:Nat) (w:World) (base:Nat) (ok:Nat->Prop):N d e w base ok (.slice none 0 0) []:=R_N (mI _ _ _ _ _)
theorem sP (h:N d e w base ok v xs) (hok:∀ k,ok k->ok' k):N d e w base ok' v xs:=by
 obtain ⟨h0,rows,hl,hR,hf⟩:=h;exact ⟨fun k hk=>hok k (h0 k hk),rows,hl,hR,fun j x c hx hc=>CX (hf j x c hx hc) (fun k hk=>⟨hok k hk.1,hk.2⟩)⟩
theorem qiU (h:N d e w base ok v xs):∀ k,v.ownBlock=some k->k<w.heap.size:=by
 obtain ⟨_,rows,_,hR,_⟩:=h;exact vR hR
theorem qaq (h:N d e w base ok v xs) (hok:∀ k,ok k->k≠g):some g≠v.ownBlock:=fun he=>hok g (h.1 g he.symm) rfl
theorem Oo (h:N d e w base ok v xs):N d e w base (fun k=>ok k∧k<w.heap.size) v xs:=by
 have hlt:=qiU h;obtain ⟨h0,rows,hl,hR,hf⟩:=h;exact ⟨fun k hk=>⟨h0 k hk,hlt k hk⟩,rows,hl,hR,fun j x c hx hc=>CX (Ed (hf j x c hx hc)) (fun k hk=>⟨⟨hk.1.1,hk.2⟩,hk.1.2⟩)⟩
theorem GI {base':Nat} (h:N d e w base ok v xs) (hb:base'<=base):N d e w base' ok v xs:=by
 obtain ⟨h0,rows,hl,hR,hf⟩:=h;exact ⟨h0,rows,hl,dZ hR hb,hf⟩
theorem SB (h:N d e w base ok v xs) (hm:∀ k,ok k->k<w.heap.size->w1.heap[k]?=w.heap[k]?):N d e w1 base ok v xs:=by
 obtain ⟨h0,rows,hl,hR,hf⟩:=h;exact ⟨h0,rows,hl,DY hR (fun k hk hlt=>hm k (h0 k hk.symm) hlt),fun j x c hx hc=>Gz (hf j x c hx hc) (fun k hk hlt=>hm k hk.1 hlt)⟩
theorem qW (h:N d e w base ok v xs) (hb:Below w.heap.size w w1):N d e w1 base ok v xs:=SB h (fun k _ hk=>hb.block k hk)
theorem l8 (h:N d e w base ok v xs) (o:Obj):N d e (w.alloc o) base ok v xs:=qW h (fH (Below.refl _ _) o)
theorem oQ (h:N d e w base ok v xs):N d e w.drew base ok v xs:=qW h (fC (Below.refl _ _))
theorem l9 (h:N d e w base ok v xs) (m:Nat):N d e (w.drewN m) base ok v xs:=qW h (kG (Below.refl _ _) m)
theorem wO (h:N d e w base ok v xs) {p:Addr} (hok:∀ k,ok k->k≠p.block) (u:Value):N d e (w.setCell p u) base ok v xs:=SB h (fun k ho _=>Below.heap_setCell w p u k (hok k ho))
theorem SC (h:N d e W base ok v xs) (hbase:∀ k,u.ownBlock=some k->W.heap.size<=k) (hb:Below W.heap.size W w1):N d e w1 base (fun k=>ok k∧some k≠u.ownBlock) v xs :=
 sP (qW (Oo h) hb) (fun k hk=>⟨hk.1,fun he=>by have:=hbase k he.symm;have:=hk.2;omega⟩)
theorem Jh (h:N d e w base ok v xs) (a:Nat) (ha:w.heap.size<=a):N d e w base (fun k=>ok k∧k≠a) v xs:=sP (Oo h) (fun k hk=>⟨hk.1,by have:=hk.2;omega⟩)
theorem GJ (h:N d e w base ok v xs):∃ A c,v=.slice A xs.length c:=by
 obtain ⟨_,rows,hl,hR,_⟩:=h;obtain ⟨A,c,he⟩:=jc hR;exact ⟨A,c,by rw [he,hl]⟩
theorem SE {n c:Nat} (h:N d e w base ok (.slice A n c) xs):n=xs.length∧n<=c∧d.C w A xs.length xs:=by
 obtain ⟨_,rows,hl,hR,hf⟩:=h;obtain ⟨hn,hc,hC⟩:=eB hR;refine ⟨by omega,hc,?_⟩;rw [hl] at hC;refine ⟨rfl,hC.2.1,fun hp=>?_⟩;obtain ⟨ad,he,hcell⟩:=hC.2.2 hp;refine ⟨ad,he,fun j p hj=>?_⟩
 have hjl:j<rows.length:=by have:=(List.getElem?_eq_some_iff.1 hj).1;omega
 obtain ⟨c',hcl,hK,hcc⟩:=hcell j _ (List.getElem?_eq_getElem hjl);have hk:=Bd (hf j p _ hj (List.getElem?_eq_getElem hjl));refine ⟨c',hcl,?_,hcc⟩;rw [show c'=rows[j] from hK.1];exact hk
theorem CY (h:N d e w base ok v xs):∃ A c,v=.slice A xs.length c∧xs.length<=c∧d.C w A xs.length xs:=by
 obtain ⟨A,c,rfl⟩:=GJ h;exact ⟨A,c,rfl,(SE h).2⟩
end
end Kd
end Go.Proofs.YtnpfbjnjdngkhaaGreatDoorW.aQ
namespace Go.Proofs.YtnpfbjnjdngkhaaGreatDoorW.aQ
open Go.RowKit
section
variable {P:Program} {d:Nat} {xs ys:Array Value} {f:Field} {fs:List Field} {a b:Value} {r s:Bool} {w:World}
theorem SF (hn:(f.name == "_")=false) (ha:(part f.type xs f.offset).run P w=.ok a w) (hb:(part f.type ys f.offset).run P w=.ok b w) (he:(Op.equalIn d f.type a b).run P w=.ok r w):(Op.eqFields d xs ys [f]).run P w=.ok r w:=by
 have hn':f.name ≠ "_" := by simpa using hn
 simp only [Op.eqFields,if_pos hn',Sem.run_bind,ha,hb,he,Result.andThen_ok]
 cases r<;>simp
theorem SG (hn:(f.name == "_")=false) (ha:(part f.type xs f.offset).run P w=.ok a w) (hb:(part f.type ys f.offset).run P w=.ok b w) (he:(Op.equalIn d f.type a b).run P w=.ok r w) (hr:(Op.eqFields d xs ys fs).run P w=.ok s w):(Op.eqFields d xs ys (f::fs)).run P w=.ok (r&&s) w:=by
 have hn':f.name ≠ "_" := by simpa using hn
 rw [Op.eqFields];simp only [if_pos hn',Sem.run_bind,ha,hb,he,Result.andThen_ok]
 cases r
 ·simp
 ·simpa using hr
theorem qar {t:TypeId} {fs:Array Field} (hu:P.underlying t=some (.struct fs)) (hp:P.stoodInHeld t=false) (h:(Op.eqFields d xs ys fs.toList).run P w=.ok r w):(Op.equalIn (d+1) t (.agg xs) (.agg ys)).run P w=.ok r w:=by
 have hf:P.fieldsOf t=fs:=by simp [Program.fieldsOf,hu]
 rw [run_equalIn_struct (P:=P) w d t xs ys (by rw [hf];exact hu) hp,hf];exact h
end
end Go.Proofs.YtnpfbjnjdngkhaaGreatDoorW.aQ
namespace Go.Proofs.YtnpfbjnjdngkhaaGreatDoorW.aQ
theorem dh.one {α:Type} {R:α->List Value->Prop} {ps:List α} {cs:List Value} {p:α} {v:Value} (hp:R p [v]) (h:dh R 1 ps cs):dh R 1 (p::ps) (v::cs):=by
 refine ⟨by simp [h.1],fun j q hq=>?_⟩
 cases j with
 | zero =>
  simp only [List.getElem?_cons_zero,Option.some.injEq] at hq;subst hq
  simpa using hp
 | succ j =>
  simp only [List.getElem?_cons_succ] at hq;have h1:=h.2 j q hq
  simpa [Nat.mul_one] using h1
theorem dh.front {α:Type} {R:α->List Value->Prop} {size:Nat} {ps:List α} {cs c all:List Value} {p:α} (hp:R p c) (hc:c.length=size) (h:dh R size ps cs) (ha:c++cs=all):dh R size (p::ps) all:=by
 subst ha;refine ⟨by rw [List.length_append,hc,h.1,List.length_cons,Nat.succ_mul,Nat.add_comm],fun j q hq=>?_⟩
 cases j with
 | zero =>
  simp only [List.getElem?_cons_zero,Option.some.injEq] at hq;subst hq;rw [Nat.zero_mul,List.drop_zero,List.take_append_of_le_length (by omega),List.take_of_length_le (by omega)];exact hp
 | succ j =>
  simp only [List.getElem?_cons_succ] at hq;have h1:=h.2 j q hq;rw [Nat.succ_mul,List.drop_append,List.drop_of_length_le (by rw [hc];exact Nat.le_add_left _ _),List.nil_append,hc,Nat.add_sub_cancel];exact h1
theorem dh.c2 {α:Type} {R:α->List Value->Prop} {ps:List α} {cs:List Value} {p:α} {va vb:Value} (hp:R p [va,vb]) (h:dh R 2 ps cs):dh R 2 (p::ps) (va::vb::cs):=dh.front hp rfl h rfl
theorem dh.c3 {α:Type} {R:α->List Value->Prop} {ps:List α} {cs:List Value} {p:α} {va vb vc:Value} (hp:R p [va,vb,vc]) (h:dh R 3 ps cs):dh R 3 (p::ps) (va::vb::vc::cs):=dh.front hp rfl h rfl
theorem dh.c4 {α:Type} {R:α->List Value->Prop} {ps:List α} {cs:List Value} {p:α} {va vb vc vd:Value} (hp:R p [va,vb,vc,vd]) (h:dh R 4 ps cs):dh R 4 (p::ps) (va::vb::vc::vd::cs):=dh.front hp rfl h rfl
theorem dh.c5 {α:Type} {R:α->List Value->Prop} {ps:List α} {cs:List Value} {p:α} {va vb vc vd ve:Value} (hp:R p [va,vb,vc,vd,ve]) (h:dh R 5 ps cs):dh R 5 (p::ps) (va::vb::vc::vd::ve::cs):=dh.front hp rfl h rfl
theorem dh.c6 {α:Type} {R:α->List Value->Prop} {ps:List α} {cs:List Value} {p:α} {va vb vc vd ve vf:Value} (hp:R p [va,vb,vc,vd,ve,vf]) (h:dh R 6 ps cs):dh R 6 (p::ps) (va::vb::vc::vd::ve::vf::cs):=dh.front hp rfl h rfl
theorem dh.c7 {α:Type} {R:α->List Value->Prop} {ps:List α} {cs:List Value} {p:α} {va vb vc vd ve vf qCp:Value} (hp:R p [va,vb,vc,vd,ve,vf,qCp]) (h:dh R 7 ps cs):dh R 7 (p::ps) (va::vb::vc::vd::ve::vf::qCp::cs):=dh.front hp rfl h rfl
theorem dh.c8 {α:Type} {R:α->List Value->Prop} {ps:List α} {cs:List Value} {p:α} {va vb vc vd ve vf qCp vh:Value} (hp:R p [va,vb,vc,vd,ve,vf,qCp,vh]) (h:dh R 8 ps cs):dh R 8 (p::ps) (va::vb::vc::vd::ve::vf::qCp::vh::cs):=dh.front hp rfl h rfl
theorem dh.c9 {α:Type} {R:α->List Value->Prop} {ps:List α} {cs:List Value} {p:α} {va vb vc vd ve vf qCp vh vi:Value} (hp:R p [va,vb,vc,vd,ve,vf,qCp,vh,vi]) (h:dh R 9 ps cs):dh R 9 (p::ps) (va::vb::vc::vd::ve::vf::qCp::vh::vi::cs):=dh.front hp rfl h rfl
theorem dh.c10 {α:Type} {R:α->List Value->Prop} {ps:List α} {cs:List Value} {p:α} {va vb vc vd ve vf qCp vh vi vj:Value} (hp:R p [va,vb,vc,vd,ve,vf,qCp,vh,vi,vj]) (h:dh R 10 ps cs):dh R 10 (p::ps) (va::vb::vc::vd::ve::vf::qCp::vh::vi::vj::cs):=dh.front hp rfl h rfl
end Go.Proofs.YtnpfbjnjdngkhaaGreatDoorW.aQ
namespace Go.Proofs.YtnpfbjnjdngkhaaGreatDoorW.aQ
open Go.RowKit
section
variable {P:Program} {ops:Array Oper} {rest:List Oper} {o:Oper} {a:Act} {Q:Exit->Act->World->Prop} {W:World}
theorem fI (hw:Region.wanted o (yielded ops a.tmps)=true) (h:wpList P ops Q ({ o with guard:=none }::rest) a W):wpList P ops Q (o::rest) a W:=by
 have h1:Region.wanted { o with guard:=none } (yielded ops a.tmps)=true:=rfl
 unfold wpList at h ⊢
 rw [if_pos h1] at h;rw [if_pos hw];exact h
end
end Go.Proofs.YtnpfbjnjdngkhaaGreatDoorW.aQ
namespace Go.Proofs.YtnpfbjnjdngkhaaGreatDoorW.aQ
open Go.RowKit
namespace Kd
section
variable {α:Type} {d:Kd α} {e base n cap g:Nat} {ok ok' nE:Nat->Prop} {w w1 W:World} {v v1:Value} {xs ys:List α}
theorem LV {rows news:List (List Value)} (h0:∀ k,v.ownBlock=some k->ok k) (hl:rows.length=xs.length) (hf:∀ (j:Nat) (x:α) (c:List Value),xs[j]?=some x->rows[j]?=some c->FK d W (fun k=>ok k∧some k≠v.ownBlock) x c)
  (hl2:news.length=ys.length) (hf2:∀ (j:Nat) (x:α) (c:List Value),ys[j]?=some x->news[j]?=some c->FK d W nE x c) (vQ:∀ k,nE k->ok k∧some k≠v.ownBlock) (hfresh:∀ k,W.heap.size<=k->ok k)
  (hR:(raw d.sz).R e w1 base (fun _=>True) v1 (rows++news)) (hg:W.grownBy w1 v.ownBlock) (hat:v1.ownBlock=v.ownBlock∨∃ b,v1.ownBlock=some b∧W.heap.size<=b):N d e w1 base ok v1 (xs++ys):=by
 have hne:∀ k,some k≠v.ownBlock->k<W.heap.size->some k≠v1.ownBlock:=by
  intro k hk hlt
  rcases hat with hat|⟨b,hb,hle⟩
  ·rw [hat];exact hk
  ·rw [hb]
   intro he
   injection he with he
   omega
 have step:∀ {x:α} {c:List Value} {o:Nat->Prop},FK d W o x c->(∀ k,o k->ok k∧some k≠v.ownBlock)->FK d w1 (fun k=>ok k∧some k≠v1.ownBlock) x c:=by
  intro x c o hq ho;exact CX (Gz (Ed hq) (fun k hk hlt=>hg.block k hlt (ho k hk.1).2)) (fun k hk=>⟨(ho k hk.1).1,hne k (ho k hk.1).2 hk.2⟩)
 refine ⟨fun k hk=>?_,rows++news,by rw [List.length_append,List.length_append,hl,hl2],FQ hR,fun j x c hx hc=>?_⟩
 ·rcases hat with hat|⟨b,hb,hle⟩
  ·exact h0 k (hat ▸ hk)
  ·rw [hb] at hk
   injection hk with hk
   exact hfresh k (by omega)
 ·rcases Nat.lt_or_ge j xs.length with hlt|hge
  ·rw [List.getElem?_append_left hlt] at hx
   rw [List.getElem?_append_left (by omega)] at hc;exact step (hf j x c hx hc) (fun _ hk=>hk)
  ·rw [List.getElem?_append_right hge] at hx
   rw [List.getElem?_append_right (by omega),hl] at hc;exact step (hf2 _ x c hx hc) vQ
theorem qas {x:α} {c:List Value} (h:FK d W ok x c):c=c∧c.length=d.sz∧∀ u∈c,u.oneCell'=true:=⟨rfl,d.oP (Bd h),d.oq (Bd h)⟩
theorem qat {rows:List (List Value)} (hR:(raw d.sz).R e w1 base (fun k=>k=W.heap.size) v1 rows) (hg:W.grownBy w1 none) (hat:∃ b,v1.ownBlock=some b∧W.heap.size<=b) (hl:rows.length=xs.length) (hf:∀ (j:Nat) (x:α) (c:List Value),xs[j]?=some x->rows[j]?=some c->FK d W nE x c)
  (hok:∀ k,nE k->ok k) (hfresh:ok W.heap.size):N d e w1 base ok v1 xs:=by
 obtain ⟨b,hb,hle⟩:=hat;refine ⟨fun k hk=>by rw [hR.1 k hk];exact hfresh,rows,hl,FQ hR,fun j x c hx hc=>?_⟩;refine CX (Gz (Ed (hf j x c hx hc)) (fun k hk hlt=>hg.block k hlt (by simp))) (fun k hk=>⟨hok k hk.1,fun he=>?_⟩);rw [hb] at he
 injection he with he
 have:=hk.2
 omega
end
section
variable {P:Program} {ops:Array Oper} {rest:List Oper} {o:Oper} {a:Act} {Q:Exit->Act->World->Prop} {Kc:Act->World->Prop} {α:Type}
theorem SH (d:Kd α) {w0 W:World} (base:Nat) (hgd:o.guard=none) (s x:Operand) (t e:TypeId) (z:Value) (bytes:Nat)
  (ho:o.op=.call { callee:=.builtin .append,args:=#[s,x],argTypes:=#[t,t] })
  (ht:P.underlying t=some (.slice e)) (hinfo:(P.info? e).map (fun i=>(i.zero,i.size,i.bytes))=some (some z,d.sz,bytes)) (hz:z.cells.size=d.sz) (hs0:0<d.sz) (hb0:0<bytes)
  (v:Value) (xs:List α) (p:α) (cs:List Value) (ok nE:Nat->Prop) (hs:a.eval s=v) (hx:a.eval x=.slice (some ⟨W.heap.size,0,none⟩) 1 1) (hp:FK d W nE p cs) (vQ:∀ k,nE k->ok k∧some k≠v.ownBlock) (hfresh:∀ k,W.heap.size<=k->ok k)
  (HO:N d e W base ok v xs) (HB:Below base w0 W) (hbase:base<=W.heap.size) (hl:(xs.length+1)*bytes<=140737488355328)
  (h:∀ v1 w1,N d e w1 base ok v1 (xs++[p])->Below base w0 w1->W.grownBy w1 v.ownBlock->(v1.ownBlock=v.ownBlock∨∃ b,v1.ownBlock=some b∧W.heap.size<=b)->wpList P ops Q rest (a.put o.dst v1) w1) :
  wpList P ops Q (o::rest) a (W.alloc (.cells cs.toArray e)):=by
 obtain ⟨h0,rows,hlr,hR,hf⟩:=HO;refine sO (raw d.sz) base hgd s x t e z bytes ho ht hinfo hz hs0 hb0 v rows cs cs (fun _=>True) (fun _=>False) hs hx (qas hp) (fun _ hk=>hk.elim) (fun _ _=>trivial) (Wi hR) HB hbase (by rw [hlr];exact hl) ?_;intro v1 w1 hr hb hg hat
 exact h v1 w1 (LV h0 hlr hf (ys:=[p]) (news:=[cs]) rfl (fun j y c hy hc=>by
  rcases j with _|j
  ·simp only [List.getElem?_cons_zero,Option.some.injEq] at hy hc
   rw [← hy,← hc];exact hp
  ·simp at hy) vQ hfresh hr hg hat) hb hg hat
theorem SI (d:Kd α) {w0 W:World} (base e:Nat) (hgd:o.guard=none) {N':Tmp} (_hd:o.dst=some N') {xs:List α} {inner:List Value} {ok nE:Nat->Prop}
  (hrun:(execOp a.eval o).run P W=.ok (.value (.slice (some ⟨W.heap.size,0,none⟩) xs.length xs.length)) (W.alloc (.cells inner.toArray e)))
  (hrep:dh (FK d W nE) d.sz xs inner) (hok:∀ k,nE k->ok k) (hfresh:ok W.heap.size) (HB:Below base w0 W) (hbase:base<=W.heap.size) (hm:xs.length<=9223372036854775807)
  (h:∀ v1 w1,N d e w1 base ok v1 xs->Below base w0 w1->W.grownBy w1 none->(∃ b,v1.ownBlock=some b∧W.heap.size<=b)->wpList P ops Q rest (a.put o.dst v1) w1) :
  wpList P ops Q (o::rest) a W:=by
 refine qD (raw d.sz) base e hgd _hd (xs:=chunks d.sz xs.length inner) (inner:=inner) (ok:=fun k=>k=W.heap.size) (nE:=fun _=>False) (by rw [jE];exact hrun) (Jg hrep (fun y c hk=>⟨d.oP (Bd hk),d.oq (Bd hk)⟩)) (fun _ hk=>hk.elim) rfl HB hbase (by rw [jE];exact hm) ?_;intro v1 w1 hr hb hg hat;exact h v1 w1 (qat hr hg hat (jE _ _ _) (fun j y c hy hc=>by rw [yS hc];exact hrep.2 j y hy) hok hfresh) hb hg hat
end
end Kd
end Go.Proofs.YtnpfbjnjdngkhaaGreatDoorW.aQ
namespace Go.Proofs.YtnpfbjnjdngkhaaGreatDoorW.bT
open Go.RowKit Go.Proofs.YtnpfbjnjdngkhaaGreatDoorW.aQ
namespace Kd
open Go.Proofs.YtnpfbjnjdngkhaaGreatDoorW.aQ.Kd
end Kd
namespace Kd
open Go.Proofs.YtnpfbjnjdngkhaaGreatDoorW.aQ.Kd
end Kd
theorem eP (k k':IntKind) (x y:Int):Builtin.max2 (.int k x) (.int k' y)=pure (.int k (if x<y then y else x)):=by simp only [Builtin.max2,gt_iff_lt]
theorem eT (k k':IntKind) (x y:Int):Builtin.min2 (.int k x) (.int k' y)=pure (.int k (if y<x then y else x)):=by simp only [Builtin.min2]
theorem fU (ats:Array TypeId) (ty:TypeId) (a b:Value):Builtin.max_ ats ty #[a,b]=(Builtin.max2 a b >>= fun s=>pure s):=by simp only [Builtin.max_,List.foldlM_cons,List.foldlM_nil]
theorem fV (ats:Array TypeId) (ty:TypeId) (a b:Value):Builtin.min_ ats ty #[a,b]=(Builtin.min2 a b >>= fun s=>pure s):=by simp only [Builtin.min_,List.foldlM_cons,List.foldlM_nil]
theorem dS (ats:Array TypeId) (ty:TypeId) (a b c:Value):Builtin.max_ ats ty #[a,b,c]=(Builtin.max2 a b >>= fun s=>Builtin.max2 s c >>= fun s=>pure s):=by simp only [Builtin.max_,List.foldlM_cons,List.foldlM_nil]
theorem dU (ats:Array TypeId) (ty:TypeId) (a b c:Value):Builtin.min_ ats ty #[a,b,c]=(Builtin.min2 a b >>= fun s=>Builtin.min2 s c >>= fun s=>pure s):=by simp only [Builtin.min_,List.foldlM_cons,List.foldlM_nil]
theorem eU (ats:Array TypeId) (ty:TypeId) (a b c d:Value):Builtin.max_ ats ty #[a,b,c,d]=(Builtin.max2 a b >>= fun s=>Builtin.max2 s c >>= fun s=>Builtin.max2 s d >>= fun s=>pure s):=by simp only [Builtin.max_,List.foldlM_cons,List.foldlM_nil]
theorem eX (ats:Array TypeId) (ty:TypeId) (a b c d:Value):Builtin.min_ ats ty #[a,b,c,d]=(Builtin.min2 a b >>= fun s=>Builtin.min2 s c >>= fun s=>Builtin.min2 s d >>= fun s=>pure s):=by simp only [Builtin.min_,List.foldlM_cons,List.foldlM_nil]
end Go.Proofs.YtnpfbjnjdngkhaaGreatDoorW.bT
namespace Go.Proofs.YtnpfbjnjdngkhaaGreatDoorW.aQ
open Go.RowKit
section
variable {P:Program} {ops:Array Oper} {rest:List Oper} {o:Oper} {a:Act} {Q:Exit->Act->World->Prop} {W:World}
theorem aG {f:FuncId} {qrM:Array Operand} {ts:Array TypeId} (_ho:o.op=.call { callee:=.value (.func f),args:=qrM,argTypes:=ts }) (h:wpList P ops Q (o::rest) a W):wpList P ops Q (o::rest) a W:=h
theorem eY {b:Builtin} {xs:Array Operand} {ts:Array TypeId} (_ho:o.op=.call { callee:=.builtin b,args:=xs,argTypes:=ts }) (h:wpList P ops Q (o::rest) a W):wpList P ops Q (o::rest) a W:=h
end
def mx (a b:Int):Int:=if a<b then b else a
def mn (a b:Int):Int:=if b<a then b else a
def shr (k:IntKind) (x y:Int):Int:=x / 2 ^ min y.toNat k.bits
theorem QY {k:IntKind} {x y j:Int} (h:shr k x y=j) (hy:y<=k.bits):x / 2 ^ y.toNat=j:=by rw [← h];unfold shr;rw [Nat.min_eq_left (by omega)]
namespace Kd
section
variable {α:Type} {d:Kd α} {e base:Nat} {ok:Nat->Prop} {W w1:World} {v:Value} {xs:List α}
theorem SK (h:d.R e W base ok v xs) (hE:d.E=[]) {row:Option Nat} (hg:W.grownBy w1 row) (hne:row≠v.ownBlock):d.R e w1 base ok v xs :=
 gq (Oe (Gy hE h) hg (fun _ hk e_=>hne (e_.symm.trans hk))) (fun k hk=>h.1 k hk.symm)
theorem SL (h:d.R e W base ok v xs) (hE:d.E=[]) {row:Option Nat} (hg:W.grownBy w1 row) (hne:∀ k,row=some k->some k≠v.ownBlock):d.R e w1 base ok v xs :=
 gq (Oe (Gy hE h) hg (fun k hk e_=>hne k e_.symm hk)) (fun k hk=>h.1 k hk.symm)
end
end Kd
end Go.Proofs.YtnpfbjnjdngkhaaGreatDoorW.aQ
namespace Go.Proofs.YtnpfbjnjdngkhaaGreatDoorW.aQ
open Go.RowKit
theorem Kept.Ee {w W W2:World} {S2:Nat->Prop} {g:Nat} (h:lX w W g none) (k:Kept W W2 S2) (hs:∀ k,S2 k->k=g∨w.heap.size<=k):lX w W2 g none :=
 ⟨Nat.le_trans h.1 k.1,fun i hi hg hr=>(k.2 i (Nat.lt_of_lt_of_le hi h.1) (fun h2=>(hs i h2).elim hg (fun h3=>by omega))).trans (h.2 i hi hg hr)⟩
namespace Kd
def V {α:Type} (d:Kd α) (_e:Nat) (W:World) (_base:Nat) (ok:Nat->Prop) (v:Value) (xs:List α):Prop:=∃ A c,v=.slice A xs.length c∧xs.length<=c∧F d W ok A xs.length xs
section
variable {α β:Type} {d:Kd α} {e base base' n m c g N' lo hi:Nat} {ok ok' S:Nat->Prop} {w W w1:World} {A:Option Addr} {ad:Addr} {u v v1:Value} {xs:List α}
theorem BM (h:V d e W base ok v xs) (hF:∀ A,F d W ok A xs.length xs->F d w1 ok' A xs.length xs):V d e w1 base' ok' v xs:=by
 obtain ⟨A,c,hv,hl,hf⟩:=h;exact ⟨A,c,hv,hl,hF A hf⟩
theorem qau (hl:xs.length<=c) (hf:F d W ok A xs.length xs):V d e W base ok (.slice A xs.length c) xs:=⟨A,c,rfl,hl,hf⟩
theorem Wj (h:V d e W base ok (.slice A n c) xs):n=xs.length∧n<=c∧F d W ok A xs.length xs:=by
 obtain ⟨A',c',hv,hl,hf⟩:=h
 injection hv with ha hn hc
 subst ha;subst hc;exact ⟨hn,by rw [hn];exact hl,hf⟩
theorem wZ (h:V d e W base ok (.slice A n c) xs):n=xs.length∧n<=c∧d.C W A xs.length xs:=⟨(Wj h).1,(Wj h).2.1,YP (Wj h).2.2⟩
theorem V_F (h:V d e W base ok (.slice A n c) xs):F d W ok A n xs:=by
 obtain ⟨hn,_,hf⟩:=Wj h;rw [hn];exact hf
theorem wP (d:Kd α) (e:Nat) (W:World) (base:Nat) (ok:Nat->Prop):V d e W base ok (.slice none 0 0) []:=⟨none,0,rfl,Nat.le_refl _,qcK d W ok⟩
theorem pY (h:V d e W base ok v xs) (hok:∀ k,ok k->ok' k):V d e W base ok' v xs:=BM h (fun _ hf=>LU hf hok)
theorem CZ (h:V d e W base ok v xs) (hb:Below W.heap.size W w1):V d e w1 base ok v xs:=BM h (fun _ hf=>CW hf hb)
theorem oU (h:V d e W base ok v xs) (o:Obj):V d e (W.alloc o) base ok v xs:=BM h (fun _ hf=>V7 hf o)
theorem sQ (h:V d e W base ok v xs):V d e W.drew base ok v xs:=BM h (fun _ hf=>qan hf)
theorem oV (h:V d e W base ok v xs) (m:Nat):V d e (W.drewN m) base ok v xs:=BM h (fun _ hf=>V8 hf m)
theorem zy (h:V d e W base ok v xs) {p:Addr} (hok:∀ k,ok k->k≠p.block) (u:Value):V d e (W.setCell p u) base ok v xs:=BM h (fun _ hf=>qcJ hf hok u)
theorem Wl (h:V d e W base (fun k=>ok k∧some k≠u.ownBlock) v xs) (hg:W.grownBy w1 u.ownBlock) (hat:v1.ownBlock=u.ownBlock∨∃ b,v1.ownBlock=some b∧W.heap.size<=b):V d e w1 base (fun k=>ok k∧some k≠v1.ownBlock) v xs:=BM h (fun _ hf=>V9 hf hg hat)
theorem Ji (h:V d e W base (fun k=>ok k∧some k≠v.ownBlock) u xs) (hg:W.grownBy w1 v.ownBlock) (hat:v1.ownBlock=v.ownBlock∨∃ b,v1.ownBlock=some b∧W.heap.size<=b):V d e w1 base (fun k=>ok k∧some k≠v1.ownBlock) u xs:=Wl h hg hat
theorem zA (h:V d e W base ok v xs) (a:Nat) (ha:W.heap.size<=a):V d e W base (fun k=>ok k∧k≠a) v xs:=BM h (fun _ hf=>SA hf a ha)
theorem YQ (h:V d e W base ok (.slice (some ad) n c) xs) (z:α) (i:Int) (h0:0<=i) (h1:i<n) :
  ∃ cs,cs.length=d.sz∧FK d W ok (xs.getD i.toNat z) cs∧∀ j u,cs[j]?=some u->W.cell? (ad.add (i.toNat*d.sz+j))=some u:=by
 obtain ⟨ad',cs,he,hcl,hK,hcc,_⟩:=qcL (V_F h) z i h0 h1
 injection he with he
 subst he;exact ⟨cs,hcl,hK,hcc⟩
theorem xg {M:Nat->Prop} (h:d.R e w1 W.heap.size ok v xs) (hle:w.heap.size<=W.heap.size) (hM:∀ k,w.heap.size<=k->M k):d.R e w1 W.heap.size (fun k=>M k∧ok k) v xs:=gq (vP h) (fun k hk=>⟨hM k (Nat.le_trans hle hk.2.1),hk.1⟩)
end
end Kd
end Go.Proofs.YtnpfbjnjdngkhaaGreatDoorW.aQ
namespace Go.Proofs.YtnpfbjnjdngkhaaGreatDoor.P
open Go.RowKit Go.Proofs.YtnpfbjnjdngkhaaGreatDoorW.aQ Go.Proofs.YtnpfbjnjdngkhaaGreatDoorW.bO Go.Proofs.YtnpfbjnjdngkhaaGreatDoorW.bT
attribute [local go_sem] eP eT fU fV dS dU eU eX
def qcM:Option Int->Value
 | none=>.nilIface
 | some c=>.iface 0 (.int .i64 c)
theorem ow:qcM none=.nilIface:=rfl
theorem oz (c:Int):qcM (some c)=.iface 0 (.int .i64 c):=rfl
theorem info3:(Tryz.prog.info? 3).map (fun i=>(i.zero,i.size,i.bytes))=some (some (.int .i64 0),1,8):=by kernel_rfl
theorem SN:(Tryz.prog.info? 9).map (fun i=>(i.zero,i.size,i.bytes))=some (some (.string ⟨#[]⟩),1,16):=by kernel_rfl
theorem SQ:(Tryz.prog.info? 37).map (fun i=>(i.zero,i.size,i.bytes))=some (some (.agg #[(.int .i64 0),(.int .i64 0)]),2,16):=by kernel_rfl
theorem qav:(Tryz.prog.info? 88).map (fun i=>(i.zero,i.size,i.bytes))=some (some (.int .i64 0),1,8):=by kernel_rfl
theorem Wm:(Tryz.prog.info? 107).map (fun i=>(i.zero,i.size,i.bytes))=some (some (.agg #[(.slice none 0 0),(.int .i64 0),(.int .i64 0)]),3,40):=by kernel_rfl
theorem C8:(Tryz.prog.info? 154).map (fun i=>(i.zero,i.size,i.bytes))=some (some (.agg #[(.int .i64 0),(.int .i64 0),(.int .i64 0),(.int .i64 0)]),4,32):=by kernel_rfl
structure bQ where
 f0:Int
 f1:Int
def z37:bQ:=⟨(0:Int),(0:Int)⟩
def jW:Kd bQ:=Kd.iso (Kd.pair (Kd.int .i64) (Kd.int .i64)) (fun x:bQ=>(x.f0,x.f1))
theorem oW {w:World} {x:bQ} {cs:List Value} (h:jW.K w x cs):cs=[.int .i64 x.f0,.int .i64 x.f1]:=by
 obtain ⟨_,_,rfl,rfl,rfl⟩:=h;exact rfl
theorem QZ {w:World} {base:Nat} {ok:Nat->Prop} {x:bQ} {cs:List Value} (h:jW.M w base ok x cs):cs=[.int .i64 x.f0,.int .i64 x.f1]:=by
 obtain ⟨_,_,rfl,rfl,rfl⟩:=h;exact rfl
theorem LW (w:World) (x:bQ)  : jW.K w x [.int .i64 x.f0,.int .i64 x.f1]:=⟨[.int .i64 x.f0],[.int .i64 x.f1],rfl,rfl,rfl⟩
theorem lu (w:World) (base:Nat) (ok:Nat->Prop) (x:bQ)  : jW.M w base ok x [.int .i64 x.f0,.int .i64 x.f1]:=⟨[.int .i64 x.f0],[.int .i64 x.f1],rfl,rfl,rfl⟩
def bH (xs:List bQ) (i:Int):bQ:=xs.getD i.toNat z37
theorem nI {w:World} {A:Option Addr} {n:Nat} {xs:List bQ} (h:Kd.C jW w A n xs) (i:Int) (h0:0<=i) (h1:i<n):∃ ad ,A=some ad∧w.cell? (ad.add (i.toNat*2))=some (.int .i64 (bH xs i).f0)∧w.cell? ⟨(ad.add (i.toNat*2)).block,(ad.add (i.toNat*2)).off+1,none⟩=some (.int .i64 (bH xs i).f1):=by
 obtain ⟨ad,c,e,_,hK,hc0⟩:=Kd.zq h z37 i h0 h1;have hc:∀ j u,c[j]?=some u->w.cell? (ad.add (i.toNat*2+j))=some u:=hc0;obtain rfl:=oW hK;exact ⟨ad,e,hc 0 _ rfl,by rw [← pV _ _ 1 (by omega)];exact hc 1 _ rfl⟩
structure bI where
 f0:(List bQ)
 f1:Int
def qaw:bI:=⟨([]:List bQ),(0:Int)⟩
def iG:Kd bI:=Kd.iso (Kd.pair (Kd.slice 37 jW) (Kd.int .i64)) (fun x:bI=>(x.f0,x.f1))
theorem FR {w:World} {x:bI} {cs:List Value} (h:iG.K w x cs):∃ A0 c0,cs=[.slice A0 x.f0.length c0,.int .i64 x.f1]∧x.f0.length<=c0∧jW.C w A0 x.f0.length x.f0:=by
 obtain ⟨_,_,rfl,⟨A0,c0,rfl,l0,g0⟩,rfl⟩:=h;exact ⟨A0,c0,rfl,l0,g0⟩
theorem Oq (w:World) (x:bI) {A0:Option Addr} {c0:Nat} (l0:x.f0.length<=c0) (g0:jW.C w A0 x.f0.length x.f0):iG.K w x [.slice A0 x.f0.length c0,.int .i64 x.f1]:=⟨[.slice A0 x.f0.length c0],[.int .i64 x.f1],rfl,⟨A0,c0,rfl,l0,g0⟩,rfl⟩
theorem Jj (W:World) (ok:Nat->Prop) (x:bI) {A0:Option Addr} {c0:Nat} (l0:x.f0.length<=c0) (g0:Kd.F jW W ok A0 x.f0.length x.f0):Kd.FK iG W ok x [.slice A0 x.f0.length c0,.int .i64 x.f1]:=fun W2 hW=>Oq W2 x l0 (g0 W2 hW)
def aX (xs:List bI) (i:Int):bI:=xs.getD i.toNat qaw
theorem jd {w:World} {A:Option Addr} {n:Nat} {xs:List bI} (h:Kd.C iG w A n xs) (i:Int) (h0:0<=i) (h1:i<n):∃ ad A0 c0,A=some ad∧w.cell? (ad.add (i.toNat*2))=some (.slice A0 (aX xs i).f0.length c0)∧w.cell? ⟨(ad.add (i.toNat*2)).block,(ad.add (i.toNat*2)).off+1,none⟩=some (.int .i64 (aX xs i).f1)∧(aX xs i).f0.length<=c0∧jW.C w A0 (aX xs i).f0.length (aX xs i).f0:=by
 obtain ⟨ad,c,e,_,hK,hc0⟩:=Kd.zq h qaw i h0 h1;have hc:∀ j u,c[j]?=some u->w.cell? (ad.add (i.toNat*2+j))=some u:=hc0;obtain ⟨A0,c0,rfl,l0,g0⟩:=FR hK;exact ⟨ad,A0,c0,e,hc 0 _ rfl,by rw [← pV _ _ 1 (by omega)];exact hc 1 _ rfl,l0,g0⟩
structure bB where
 f0:Int
 f1:Int
 f2:bQ
def z154:bB:=⟨(0:Int),(0:Int),z37⟩
def eD:Kd bB:=Kd.iso (Kd.pair (Kd.int .i64) (Kd.pair (Kd.int .i64) jW)) (fun x:bB=>(x.f0,x.f1,x.f2))
theorem rZ {w:World} {x:bB} {cs:List Value} (h:eD.K w x cs):cs=[.int .i64 x.f0,.int .i64 x.f1,.int .i64 x.f2.f0,.int .i64 x.f2.f1]:=by
 obtain ⟨_,_,rfl,rfl,⟨_,_,rfl,rfl,s2⟩⟩:=h;obtain rfl:=oW s2;exact rfl
theorem LX {w:World} {base:Nat} {ok:Nat->Prop} {x:bB} {cs:List Value} (h:eD.M w base ok x cs):cs=[.int .i64 x.f0,.int .i64 x.f1,.int .i64 x.f2.f0,.int .i64 x.f2.f1]:=by
 obtain ⟨_,_,rfl,rfl,⟨_,_,rfl,rfl,s2⟩⟩:=h;obtain rfl:=QZ s2;exact rfl
theorem Ot (w:World) (x:bB)  : eD.K w x [.int .i64 x.f0,.int .i64 x.f1,.int .i64 x.f2.f0,.int .i64 x.f2.f1]:=⟨[.int .i64 x.f0],[.int .i64 x.f1,.int .i64 x.f2.f0,.int .i64 x.f2.f1],rfl,rfl,⟨[.int .i64 x.f1],[.int .i64 x.f2.f0,.int .i64 x.f2.f1],rfl,rfl,(LW w x.f2 )⟩⟩
theorem mK (w:World) (base:Nat) (ok:Nat->Prop) (x:bB)  : eD.M w base ok x [.int .i64 x.f0,.int .i64 x.f1,.int .i64 x.f2.f0,.int .i64 x.f2.f1]:=⟨[.int .i64 x.f0],[.int .i64 x.f1,.int .i64 x.f2.f0,.int .i64 x.f2.f1],rfl,rfl,⟨[.int .i64 x.f1],[.int .i64 x.f2.f0,.int .i64 x.f2.f1],rfl,rfl,(lu w base ok x.f2 )⟩⟩
def aC (xs:List bB) (i:Int):bB:=xs.getD i.toNat z154
theorem lC {w:World} {A:Option Addr} {n:Nat} {xs:List bB} (h:Kd.C eD w A n xs) (i:Int) (h0:0<=i) (h1:i<n):∃ ad ,A=some ad∧w.cell? (ad.add (i.toNat*4))=some (.int .i64 (aC xs i).f0)∧w.cell? ⟨(ad.add (i.toNat*4)).block,(ad.add (i.toNat*4)).off+1,none⟩=some (.int .i64 (aC xs i).f1)∧w.cell? ⟨(ad.add (i.toNat*4)).block,(ad.add (i.toNat*4)).off+2,none⟩=some (.int .i64 (aC xs i).f2.f0)∧w.cell? ⟨(ad.add (i.toNat*4)).block,(ad.add (i.toNat*4)).off+3,none⟩=some (.int .i64 (aC xs i).f2.f1):=by
 obtain ⟨ad,c,e,_,hK,hc0⟩:=Kd.zq h z154 i h0 h1;have hc:∀ j u,c[j]?=some u->w.cell? (ad.add (i.toNat*4+j))=some u:=hc0;obtain rfl:=rZ hK;exact ⟨ad,e,hc 0 _ rfl,by rw [← pV _ _ 1 (by omega)];exact hc 1 _ rfl,by rw [← pV _ _ 2 (by omega)];exact hc 2 _ rfl,by rw [← pV _ _ 3 (by omega)];exact hc 3 _ rfl⟩
structure nJ where
 f0:(List Int)
def z49:nJ:=⟨([]:List Int)⟩
def Bf:Kd nJ:=Kd.iso (Kd.slice 3 (Kd.int .i64)) (fun x:nJ=>x.f0)
theorem Ef {w:World} {x:nJ} {cs:List Value} (h:Bf.K w x cs):∃ A0 c0,cs=[.slice A0 x.f0.length c0]∧x.f0.length<=c0∧(Kd.int .i64).C w A0 x.f0.length x.f0:=by
 obtain ⟨A0,c0,rfl,l0,g0⟩:=h;exact ⟨A0,c0,rfl,l0,g0⟩
theorem GL (w:World) (x:nJ) {A0:Option Addr} {c0:Nat} (l0:x.f0.length<=c0) (g0:(Kd.int .i64).C w A0 x.f0.length x.f0):Bf.K w x [.slice A0 x.f0.length c0]:=⟨A0,c0,rfl,l0,g0⟩
theorem Ou (W:World) (ok:Nat->Prop) (x:nJ) {A0:Option Addr} {c0:Nat} (l0:x.f0.length<=c0) (g0:Kd.F (Kd.int .i64) W ok A0 x.f0.length x.f0):Kd.FK Bf W ok x [.slice A0 x.f0.length c0]:=fun W2 hW=>GL W2 x l0 (g0 W2 hW)
def nK (xs:List nJ) (i:Int):nJ:=xs.getD i.toNat z49
theorem LY {w:World} {A:Option Addr} {n:Nat} {xs:List nJ} (h:Kd.C Bf w A n xs) (i:Int) (h0:0<=i) (h1:i<n):∃ ad A0 c0,A=some ad∧w.cell? (ad.add i.toNat)=some (.slice A0 (nK xs i).f0.length c0)∧(nK xs i).f0.length<=c0∧(Kd.int .i64).C w A0 (nK xs i).f0.length (nK xs i).f0:=by
 obtain ⟨ad,c,e,_,hK,hc0⟩:=Kd.zq h z49 i h0 h1;have hc:∀ j u,c[j]?=some u->w.cell? (ad.add (i.toNat*1+j))=some u:=hc0;obtain ⟨A0,c0,rfl,l0,g0⟩:=Ef hK;exact ⟨ad,A0,c0,e,by have hq:=hc 0 _ rfl;rwa [Nat.mul_one,Nat.add_zero] at hq,l0,g0⟩
structure dD where
 f0:(List bB)
 f1:Int
 f2:Int
def z107:dD:=⟨([]:List bB),(0:Int),(0:Int)⟩
def kS:Kd dD:=Kd.iso (Kd.pair (Kd.slice 154 eD) (Kd.pair (Kd.int .i64) (Kd.int .i64))) (fun x:dD=>(x.f0,x.f1,x.f2))
theorem uZ {w:World} {x:dD} {cs:List Value} (h:kS.K w x cs):∃ A0 c0,cs=[.slice A0 x.f0.length c0,.int .i64 x.f1,.int .i64 x.f2]∧x.f0.length<=c0∧eD.C w A0 x.f0.length x.f0:=by
 obtain ⟨_,_,rfl,⟨A0,c0,rfl,l0,g0⟩,⟨_,_,rfl,rfl,rfl⟩⟩:=h;exact ⟨A0,c0,rfl,l0,g0⟩
theorem Ov (w:World) (x:dD) {A0:Option Addr} {c0:Nat} (l0:x.f0.length<=c0) (g0:eD.C w A0 x.f0.length x.f0):kS.K w x [.slice A0 x.f0.length c0,.int .i64 x.f1,.int .i64 x.f2]:=⟨[.slice A0 x.f0.length c0],[.int .i64 x.f1,.int .i64 x.f2],rfl,⟨A0,c0,rfl,l0,g0⟩,⟨[.int .i64 x.f1],[.int .i64 x.f2],rfl,rfl,rfl⟩⟩
theorem Eh {W:World} {ok:Nat->Prop} {x:dD} {cs:List Value} (h:Kd.FK kS W ok x cs):∃ A0 c0,cs=[.slice A0 x.f0.length c0,.int .i64 x.f1,.int .i64 x.f2]∧x.f0.length<=c0∧Kd.F eD W ok A0 x.f0.length x.f0:=by
 obtain ⟨A0,c0,rfl,l0,_⟩:=uZ (Kd.Bd h);exact ⟨A0,c0,rfl,l0,(fun W' hW=>by obtain ⟨A0_,c0_,he,l0_,g0_⟩:=uZ (h W' hW);injection (Option.some.inj (show some (Value.slice A0 x.f0.length c0)=some (Value.slice A0_ x.f0.length c0_) from congrArg (fun l=>l[0]?) he)) with ha_ _ _;rw [ha_];exact g0_)⟩
theorem zB (W:World) (ok:Nat->Prop) (x:dD) {A0:Option Addr} {c0:Nat} (l0:x.f0.length<=c0) (g0:Kd.F eD W ok A0 x.f0.length x.f0):Kd.FK kS W ok x [.slice A0 x.f0.length c0,.int .i64 x.f1,.int .i64 x.f2]:=fun W2 hW=>Ov W2 x l0 (g0 W2 hW)
def bJ (xs:List dD) (i:Int):dD:=xs.getD i.toNat z107
theorem yg {w:World} {A:Option Addr} {n:Nat} {xs:List dD} (h:Kd.C kS w A n xs) (i:Int) (h0:0<=i) (h1:i<n):∃ ad A0 c0,A=some ad∧w.cell? (ad.add (i.toNat*3))=some (.slice A0 (bJ xs i).f0.length c0)∧w.cell? ⟨(ad.add (i.toNat*3)).block,(ad.add (i.toNat*3)).off+1,none⟩=some (.int .i64 (bJ xs i).f1)∧w.cell? ⟨(ad.add (i.toNat*3)).block,(ad.add (i.toNat*3)).off+2,none⟩=some (.int .i64 (bJ xs i).f2)∧(bJ xs i).f0.length<=c0∧eD.C w A0 (bJ xs i).f0.length (bJ xs i).f0:=by
 obtain ⟨ad,c,e,_,hK,hc0⟩:=Kd.zq h z107 i h0 h1;have hc:∀ j u,c[j]?=some u->w.cell? (ad.add (i.toNat*3+j))=some u:=hc0;obtain ⟨A0,c0,rfl,l0,g0⟩:=uZ hK;exact ⟨ad,A0,c0,e,hc 0 _ rfl,by rw [← pV _ _ 1 (by omega)];exact hc 1 _ rfl,by rw [← pV _ _ 2 (by omega)];exact hc 2 _ rfl,l0,g0⟩
end Go.Proofs.YtnpfbjnjdngkhaaGreatDoor.P
namespace Go.Proofs.YtnpfbjnjdngkhaaGreatDoor.P
open Go.RowKit Go.Proofs.YtnpfbjnjdngkhaaGreatDoorW.aQ Go.Proofs.YtnpfbjnjdngkhaaGreatDoorW.bO Go.Proofs.YtnpfbjnjdngkhaaGreatDoorW.bT
theorem tB {p:Prop} (h:p:=by repeat (first|(with_reducible first|exact HB.out|apply fH|apply kG|apply jD|refine QN ?_ (aj.out (by assumption)))|exact HB.out)):p:=h
theorem tK {p:Prop} (h:p:=by (with_reducible repeat (first|refine aJ ?_ _|refine aN ?_|refine aI ?_ _));exact aj.out (by assumption)):p:=h
theorem tR {p:Prop} (h:p:=by (with_reducible repeat (first|apply Kd.kY|apply Kd.kZ|apply Kd.mJ));exact aj.out (by assumption)):p:=h
theorem qB2 {W W':World} {g:Nat} {o:Obj} (K:aj (W.heap[g]?=some o)) (h:W'.heap[g]?=some o:=by (with_reducible repeat (first|refine aJ ?_ _|refine aN ?_|refine aI ?_ _));exact aj.out (by assumption)):W'.heap[g]?=some o:=h
theorem qCo {α:Type} {d:Kd α} {e base:Nat} {W W':World} {ok:Nat->Prop} {v:Value} {xs:List α} (H:aj (d.R e W base ok v xs)) (h:d.R e W' base ok v xs:=by (with_reducible repeat (first|apply Kd.kY|apply Kd.kZ|apply Kd.mJ));exact aj.out (by assumption)):d.R e W' base ok v xs:=h
theorem tM {p:Prop} (h:p:=by (try simp only [List.map_toArray,List.map_cons,List.map_nil]);first|done|rfl|(simp only [List.length_drop,List.length_take];rfl)):p:=h
theorem tA {p:Prop} (h:p:=by first|(with_reducible assumption)|assumption):p:=h
theorem tG {p:Prop} (h:p:=by first|(go_simp;done)|(go_simp;rfl)):p:=h
theorem tF {p:Prop} (h:p:=by first|rfl|(simp [ow,oz]<;>rfl)|(simp [*,ow,oz]<;>rfl)):p:=h
theorem tS {p:Prop} (h:p:=by first|rfl|(simp;done)|(simp [*];done)):p:=h
theorem tD {p:Prop} (h:p:=by repeat (first|exact gU.refl _|apply gU.step)):p:=h
theorem tX {p:Prop} (h:p:=by kernel_rfl):p:=h
section
variable {w W W0 w1:World} {g:Nat} {o:Obj}
theorem dL (HB:aj (Below w.heap.size w W)) (hb:Below W0.heap.size W0 w1) (h:Below w.heap.size w W0:=by exact tB):aj (Below w.heap.size w w1):=⟨aV h hb⟩
theorem bW (K:aj (W.heap[g]?=some o)) (hb:Below W0.heap.size W0 w1) (h:W0.heap[g]?=some o:=by exact tK):aj (w1.heap[g]?=some o):=⟨aD h hb⟩
theorem cS {α:Type} {d:Kd α} {A:Option Addr} {n:Nat} {xs:List α} (H:aj (d.C w A n xs)) (h:Below w.heap.size w w1:=by exact tB):d.C w1 A n xs:=Kd.ak H.out h
theorem bf {cs:Array Value} {t:TypeId} (K:aj (W.heap[g]?=some (.cells cs t (0,0)))) (i:Nat):W.frozen? ⟨g,i,none⟩=false:=pW K.out i
theorem bc1 {t:TypeId} {a:Value} (h:aj (W.heap[g]?=some (.cells #[a] t (0,0)))):W.cell? ⟨g,0,none⟩=some a:=(aM h.out 0).trans rfl
theorem bc2 {t:TypeId} {a b:Value} (h:aj (W.heap[g]?=some (.cells #[a,b] t (0,0)))):W.cell? ⟨g,0,none⟩=some a∧W.cell? ⟨g,1,none⟩=some b:=⟨(aM h.out 0).trans rfl,(aM h.out 1).trans rfl⟩
theorem bc3 {t:TypeId} {a b c:Value} (h:aj (W.heap[g]?=some (.cells #[a,b,c] t (0,0)))):W.cell? ⟨g,0,none⟩=some a∧W.cell? ⟨g,1,none⟩=some b∧W.cell? ⟨g,2,none⟩=some c:=⟨(aM h.out 0).trans rfl,(aM h.out 1).trans rfl,(aM h.out 2).trans rfl⟩
theorem Fg {t:TypeId} {a b c d:Value} (h:aj (W.heap[g]?=some (.cells #[a,b,c,d] t (0,0)))):W.cell? ⟨g,0,none⟩=some a∧W.cell? ⟨g,1,none⟩=some b∧W.cell? ⟨g,2,none⟩=some c∧W.cell? ⟨g,3,none⟩=some d:=⟨(aM h.out 0).trans rfl,(aM h.out 1).trans rfl,(aM h.out 2).trans rfl,(aM h.out 3).trans rfl⟩
theorem LZ {t:TypeId} {a b c d e:Value} (h:aj (W.heap[g]?=some (.cells #[a,b,c,d,e] t (0,0)))):W.cell? ⟨g,0,none⟩=some a∧W.cell? ⟨g,1,none⟩=some b∧W.cell? ⟨g,2,none⟩=some c∧W.cell? ⟨g,3,none⟩=some d∧W.cell? ⟨g,4,none⟩=some e:=⟨(aM h.out 0).trans rfl,(aM h.out 1).trans rfl,(aM h.out 2).trans rfl,(aM h.out 3).trans rfl,(aM h.out 4).trans rfl⟩
theorem dz {a:Addr} {v:Value} (HB:aj (Below w.heap.size w W)) (h:w.cell? a=some v):W.cell? a=some v:=(HB.out.cell (World.block_lt_of_cell? w _ h)).trans h
theorem tZ {α:Type} {d:Kd α} {e base:Nat} {ok:Nat->Prop} {v:Value} {xs:List α} (H:aj (d.R e W base ok v xs)) (hb:Below W0.heap.size W0 w1) (h:d.R e W0 base ok v xs:=by exact tR):aj (d.R e w1 base ok v xs):=⟨Kd.jS h hb⟩
theorem ltS (K:aj (W.heap[g]?=some o)) {k:Nat} (hg:k=W0.heap.size) (h:W0.heap[g]?=some o:=by exact tK):g<k:=by rw [hg];exact bZ h
theorem Fh (K:aj (W.heap[g]?=some o)) {k:Nat} (hg:k=W0.heap.size) (h:W0.heap[g]?=some o:=by exact tK):aj (g≠k):=⟨Nat.ne_of_lt (ltS K hg h)⟩
theorem Fj (K:aj (W.heap[g]?=some o)) {k:Nat} (hg:k=W0.heap.size) (h:W0.heap[g]?=some o:=by exact tK):aj (k≠g):=⟨Nat.ne_of_gt (ltS K hg h)⟩
end
section
variable {P:Program} {ops:Array Oper} {rest:List Oper} {o:Oper} {a:Act} {Q:Exit->Act->World->Prop} {w W W1:World}
theorem fA (N:Tmp) (cs:Array Value) (t:TypeId) (HB:aj (Below w.heap.size w W1))
  (h:∀ g w1,g=W.heap.size->aj (w1.heap[g]?=some (.cells cs t (0,0)))->aj (w.heap.size<=g)->aj (Below w.heap.size w w1)->Below W.heap.size W w1->wpList P ops Q rest (a.put o.dst (.pointer (some ⟨g,0,none⟩))) w1)
  (hgd:o.guard=none:=by rfl) (hd:o.dst=some N:=by rfl) (hrun:(execOp a.eval o).run P W=.ok (.value (.pointer (some ⟨W.heap.size,0,none⟩))) (W.alloc (.cells cs t (0,0))):=by exact tG) (hW:Below w.heap.size w W:=by exact tB):wpList P ops Q (o::rest) a W :=
 ou hgd hd hrun fun g hg w1 jX hb=>h g w1 hg ⟨jX⟩ ⟨by rw [hg];exact bD hW⟩ ⟨aV hW hb⟩ hb
end
def bA (n m:Nat):Array Bool:=((List.range n).map fun i=>m.testBit i).toArray
theorem nU {α β:Type} {x:Option α} {f:α->Option β} {r:β} (h:x.bind f=some r):∃ a,aj (x=some a)∧f a=some r:=by
 obtain ⟨a,h1,h2⟩:=Option.bind_eq_some_iff.mp h;exact ⟨a,⟨h1⟩,h2⟩
theorem bs {α β:Type} {x:Option α} {f:α->Option β} {r:β} (h:x.bind f=some r):∃ a,x=some a∧f a=some r:=Option.bind_eq_some_iff.mp h
theorem sL {α:Type}:(∀ (l:List α) (i:Nat) (x:α),l.toArray.setIfInBounds i x=(l.set i x).toArray)∧(∀ (a:α) (l:List α) (b:α),(a::l).set 0 b=b::l)∧(∀ (a:α) (l:List α) (n:Nat) (b:α),(a::l).set (n+1) b=a::l.set n b):=⟨fun _ _ _=>List.setIfInBounds_toArray ..,fun _ _ _=>rfl,fun _ _ _ _=>rfl⟩
section
variable {P:Program} {md:Region.Mode} {ops:Array Oper} {Q:Exit->Act->World->Prop} {S:World->Prop} {ds:List Nat} {T:Bool × List (List Nat × List Nat)} {B:List Nat} {fuel:Nat} {l:Array Bool} {a a':Act} {w:World} {oi:Oper} {v:Value}
theorem pS (i:Nat) (N:Tmp) (l':Array Bool) (HT:aj (pQ md ops=T)) (h:cB P md ops Q S ds fuel l' a' w) (hi:ops[i]?=some oi:=by rfl) (hN:oi.dst=some N:=by rfl) (hc:LP T l.toList l'.toList i=true:=by kernel_rfl) (hQ:∀ c a w,Q (.panic c) (a.put oi.dst v) w->Q (.panic c) a w:=by exact fun _ _ _ h=>h)
  (hy:Yields P ops oi v a:=by exact Or.inl ⟨by rfl,by intro w';go_simp;with_reducible rfl⟩) (ha:a.put (some N) v=a':=by simp only [Act.put,sL,ay,aA];rfl):cB P md ops Q S ds (fuel+1) l a w:=aH (v:=v) l' hi hN (aW HT.out hc) hQ hy ha h
theorem qB1 (i:Nat) (N:Tmp) (l':Array Bool) (h:cB P md ops Q S ds fuel l' a' w) (hi:ops[i]?=some oi:=by rfl) (hN:oi.dst=some N:=by rfl) (hc:V3 md ops l l' i=true:=by kernel_rfl) (hQ:∀ c a w,Q (.panic c) (a.put oi.dst v) w->Q (.panic c) a w:=by exact fun _ _ _ h=>h)
  (hy:Yields P ops oi v a:=by exact Or.inl ⟨by rfl,by intro w';go_simp;with_reducible rfl⟩) (ha:a.put (some N) v=a':=by simp only [Act.put,sL,ay,aA];rfl):cB P md ops Q S ds (fuel+1) l a w:=aH (v:=v) l' hi hN hc hQ hy ha h
theorem qB0 (i:Nat) (N:Tmp) (l':Array Bool) (HT:aj (pQ md ops=T)) (h:cB P md ops Q S ds fuel l' a' w) (hi:ops[i]?=some oi:=by rfl) (hN:oi.dst=some N:=by rfl) (hc:LP T l.toList l'.toList i=true:=by kernel_rfl) (hQ:∀ c a w,Q (.panic c) (a.put oi.dst undef) w->Q (.panic c) a w:=by exact fun _ _ _ h=>h)
  (hy:Yields P ops oi undef a:=by exact Or.inr ⟨by rfl,rfl⟩) (ha:a.put (some N) undef=a':=by simp only [Act.put,sL,ay,aA];rfl):cB P md ops Q S ds (fuel+1) l a w:=aH (v:=undef) l' hi hN (aW HT.out hc) hQ hy ha h
theorem qyJ (i:Nat) (N:Tmp) (l':Array Bool) (HT:aj (pQ md ops=T)) (HW:aj (nT T.2 B=true)) (hS:S w) (h:cB P md ops Q S ds fuel l' a' w) (hi:ops[i]?=some oi:=by rfl) (hN:oi.dst=some N:=by rfl) (hc:YO T B ds l.toList l'.toList i=true:=by kernel_rfl) (hQ:∀ c a w,Q (.panic c) (a.put oi.dst v) w->Q (.panic c) a w:=by exact fun _ _ _ h=>h)
  (hy:YieldsIf P ops S oi v a:=by exact Or.inl ⟨by rfl,by intro w' hs_;(repeat (obtain ⟨_,hs_⟩:=hs_));go_simp;with_reducible rfl⟩) (ha:a.put (some N) v=a':=by simp only [Act.put,sL,ay,aA];rfl):cB P md ops Q S ds (fuel+1) l a w:=fF (v:=v) l' hi hN (fQ HT.out HW.out hc) hQ hy hS ha h
theorem qzF (i:Nat) (N:Tmp) (l':Array Bool) (hS:S w) (h:cB P md ops Q S ds fuel l' a' w) (hi:ops[i]?=some oi:=by rfl) (hN:oi.dst=some N:=by rfl) (hc:takeB md ops ds l l' i=true:=by kernel_rfl) (hQ:∀ c a w,Q (.panic c) (a.put oi.dst v) w->Q (.panic c) a w:=by exact fun _ _ _ h=>h)
  (hy:YieldsIf P ops S oi v a:=by exact Or.inl ⟨by rfl,by intro w' hs_;(repeat (obtain ⟨_,hs_⟩:=hs_));go_simp;with_reducible rfl⟩) (ha:a.put (some N) v=a':=by simp only [Act.put,sL,ay,aA];rfl):cB P md ops Q S ds (fuel+1) l a w:=fF (v:=v) l' hi hN hc hQ hy hS ha h
end
end Go.Proofs.YtnpfbjnjdngkhaaGreatDoor.P
namespace Go.Proofs.YtnpfbjnjdngkhaaGreatDoor.P
open Go.RowKit Go.Proofs.YtnpfbjnjdngkhaaGreatDoorW.aQ Go.Proofs.YtnpfbjnjdngkhaaGreatDoorW.bO Go.Proofs.YtnpfbjnjdngkhaaGreatDoorW.bT
attribute [local go_sem] eP eT fU fV dS dU eU eX
def bE.f (a0:Int) (a1:Int):Option (Int × Int):=some (a0,a1)
theorem bE.calls (a0:Int) (a1:Int) (r1:Int) (r2:Int) (w:World) (h:bE.f a0 a1=some (r1,r2)) :
  Calls Tryz.prog 67 #[.int .i64 a0,.int .i64 a1] w fun e w'=>e=.returned (.agg #[.int .i64 r1,.int .i64 r2])∧Below w.heap.size w w':=by
 have jY:=Tryz.underlying37;have HB:=aj.mk (Below.refl w.heap.size w);have H:(some (a0,a1))=some (r1,r2):=h;clear h;simp only [Option.some.injEq,Prod.mk.injEq] at H;obtain ⟨rfl,rfl⟩:=H
 go_enter Tryz.func67,Tryz.ntmps67
 go_wp2_with (first|((with_reducible refine au (N:=4) rfl ?_);refine fA 4 #[.int .i64 0,.int .i64 0] 37 HB ?_;clear HB;intro qcN w3 hg Ow qk4 HB hb;clear hb hg;obtain ⟨yT,Ei⟩:=bc2 Ow;have yU:=bf Ow 0;have Ej:=bf Ow 1))
 refine bodyPost_ret (results_cell_row rfl _ _ qcN 37 #[.int .i64 a0,.int .i64 a1] (0,0) _ rfl (by (with_reducible repeat (first|refine aJ ?_ _|refine aN ?_|refine aI ?_ _));refine dO (cs:=#[.int .i64 a0,.int .i64 0]) ?_ 1 _ rfl;(with_reducible repeat (first|refine aJ ?_ _|refine aN ?_|refine aI ?_ _));refine dO (cs:=#[.int .i64 0,.int .i64 0]) ?_ 0 _ rfl;(with_reducible repeat (first|refine aJ ?_ _|refine aN ?_|refine aI ?_ _));exact Ow.out) Tryz.underlying37 rfl tX) rfl ?_;exact ⟨tF,tB⟩
def bg.f (a0:Int):Option (Int × Int):=(bE.f a0 a0).bind fun Jk=>(some (Jk.1,Jk.2))
theorem bg.calls (a0:Int) (r1:Int) (r2:Int) (w:World) (h:bg.f a0=some (r1,r2)) :
  Calls Tryz.prog 66 #[.int .i64 a0] w fun e w'=>e=.returned (.agg #[.int .i64 r1,.int .i64 r2])∧Below w.heap.size w w':=by
 have jY:=Tryz.underlying37;have HB:=aj.mk (Below.refl w.heap.size w);have H:((bE.f a0 a0).bind fun Jk=>(some (Jk.1,Jk.2)))=some (r1,r2):=h;clear h;obtain ⟨⟨t309,t310⟩,Ox,H⟩:=bs H;have A2:=aj.mk Ox;clear Ox;simp only [Option.some.injEq,Prod.mk.injEq] at H;obtain ⟨rfl,rfl⟩:=H
 go_enter Tryz.func66,Tryz.ntmps66
 go_wp2_with (first|((with_reducible refine au (N:=2) rfl ?_);refine fA 2 #[.int .i64 0,.int .i64 0] 37 HB ?_;clear HB;intro qcO w3 hg FT qk5 HB hb;clear hb hg)|((with_reducible refine aG (f:=67) rfl ?_);refine bX (some 5) rfl rfl Tryz.func67 tX rfl #[.int .i64 a0,.int .i64 a0] rfl tM ?_;(with_reducible refine (bE.calls a0 a0 t309 t310 _ A2.out).mono ?_);rintro e w4 ⟨rfl,hb⟩;refine ⟨_,rfl,?_⟩;replace FT:=bW FT hb;replace HB:=dL HB hb;(try clear hb);obtain ⟨Bg,qax⟩:=bc2 FT;have Bh:=bf FT 0;have qay:=bf FT 1))
 refine bodyPost_ret (results_cell_row rfl _ _ qcO 37 #[.int .i64 t309,.int .i64 t310] (0,0) _ rfl (by (with_reducible repeat (first|refine aJ ?_ _|refine aN ?_|refine aI ?_ _));refine dO (cs:=#[.int .i64 t309,.int .i64 0]) ?_ 1 _ rfl;(with_reducible repeat (first|refine aJ ?_ _|refine aN ?_|refine aI ?_ _));refine dO (cs:=#[.int .i64 0,.int .i64 0]) ?_ 0 _ rfl;(with_reducible repeat (first|refine aJ ?_ _|refine aN ?_|refine aI ?_ _));exact FT.out) Tryz.underlying37 rfl tX) rfl ?_;exact ⟨tF,tB⟩
def qX.f  : Option ((List bI)):=(bE.f 2 3).bind fun Jl=>((bg.f 5).bind fun Jm=>((bE.f 8 10).bind fun Jo=>((bg.f 1).bind fun BN=>((bg.f 2).bind fun BP=>((bg.f 4).bind fun BQ=>(some (([(⟨(([(⟨Jl.1,Jl.2⟩:bQ),(⟨Jm.1,Jm.2⟩:bQ),(⟨Jo.1,Jo.2⟩:bQ)]:List bQ)),40⟩:bI),(⟨(([(⟨BN.1,BN.2⟩:bQ),(⟨BP.1,BP.2⟩:bQ),(⟨BQ.1,BQ.2⟩:bQ)]:List bQ)),20⟩:bI)]:List bI))))))))
theorem qX.calls  (r:List bI) (w:World) (h:qX.f  = some r) :
  Calls Tryz.prog 97 #[] w fun e w'=>∃ lM:Value,e=.returned (.agg #[lM])∧Kd.N iG 102 w' w.heap.size (fun k_=>(w.heap.size<=k_)) lM r∧Below w.heap.size w w':=by
 have qb:=Tryz.underlying24;have SS:=Tryz.underlying102;have HB:=aj.mk (Below.refl w.heap.size w);have H:((bE.f 2 3).bind fun Jl=>((bg.f 5).bind fun Jm=>((bE.f 8 10).bind fun Jo=>((bg.f 1).bind fun BN=>((bg.f 2).bind fun BP=>((bg.f 4).bind fun BQ=>(some (([(⟨(([(⟨Jl.1,Jl.2⟩:bQ),(⟨Jm.1,Jm.2⟩:bQ),(⟨Jo.1,Jo.2⟩:bQ)]:List bQ)),40⟩:bI),(⟨(([(⟨BN.1,BN.2⟩:bQ),(⟨BP.1,BP.2⟩:bQ),(⟨BQ.1,BQ.2⟩:bQ)]:List bQ)),20⟩:bI)]:List bI)))))))))=some r:=h;clear h;obtain ⟨⟨t312,t313⟩,Lp,H⟩:=bs H;have A1:=aj.mk Lp;clear Lp;obtain ⟨⟨t314,t315⟩,Ox,H⟩:=bs H;have A2:=aj.mk Ox;clear Ox;obtain ⟨⟨t316,t317⟩,SV,H⟩:=bs H;have A3:=aj.mk SV;clear SV;obtain ⟨Jp,Jq⟩:∃ y_:List bQ,y_=(([(⟨t312,t313⟩:bQ),(⟨t314,t315⟩:bQ),(⟨t316,t317⟩:bQ)]:List bQ)):=⟨_,rfl⟩
 replace H:((bg.f 1).bind fun BN=>((bg.f 2).bind fun BP=>((bg.f 4).bind fun BQ=>(some (([(⟨Jp,40⟩:bI),(⟨(([(⟨BN.1,BN.2⟩:bQ),(⟨BP.1,BP.2⟩:bQ),(⟨BQ.1,BQ.2⟩:bQ)]:List bQ)),20⟩:bI)]:List bI))))))=some r:=by first|(rw [Jq];with_reducible exact H)|(have jr:=(Option.bind_some _ _).symm.trans H;rw [Jq];with_reducible exact jr)|(have jr:=(Option.bind_some _ _).symm.trans H;with_reducible exact jr)|with_reducible exact H|(rw [Jq];exact H)|exact H
 have YR:=aj.mk Jq;clear Jq;obtain ⟨⟨L6,L8⟩,YS,H⟩:=bs H;have A4:=aj.mk YS;clear YS;obtain ⟨⟨L9,Ma⟩,A50,H⟩:=bs H;have A5:=aj.mk A50;clear A50;obtain ⟨⟨Mc,Md⟩,A60,H⟩:=bs H;have A6:=aj.mk A60;clear A60;obtain ⟨Me,Jr⟩:∃ y_:List bQ,y_=(([(⟨L6,L8⟩:bQ),(⟨L9,Ma⟩:bQ),(⟨Mc,Md⟩:bQ)]:List bQ)):=⟨_,rfl⟩
 replace H:(some (([(⟨Jp,40⟩:bI),(⟨Me,20⟩:bI)]:List bI)))=some r:=by first|(rw [Jr];with_reducible exact H)|(have jr:=(Option.bind_some _ _).symm.trans H;rw [Jr];with_reducible exact jr)|(have jr:=(Option.bind_some _ _).symm.trans H;with_reducible exact jr)|with_reducible exact H|(rw [Jr];exact H)|exact H
 have YT:=aj.mk Jr;clear Jr;obtain ⟨qaz,Js⟩:∃ y_:List bI,y_=(([(⟨Jp,40⟩:bI),(⟨Me,20⟩:bI)]:List bI)):=⟨_,rfl⟩
 replace H:(some qaz)=some r:=by first|(rw [Js];with_reducible exact H)|(have jr:=(Option.bind_some _ _).symm.trans H;rw [Js];with_reducible exact jr)|(have jr:=(Option.bind_some _ _).symm.trans H;with_reducible exact jr)|with_reducible exact H|(rw [Js];exact H)|exact H
 have YU:=aj.mk Js;clear Js;obtain rfl:=Option.some.inj H
 go_enter Tryz.func97,Tryz.ntmps97
 go_wp2_with (first|((with_reducible refine au (N:=0) rfl ?_);refine fA 0 #[.slice none 0 0] 24 HB ?_;clear HB;intro xk w7 hg lN qk7 HB hb;clear hb hg)|((with_reducible refine aG (f:=67) rfl ?_);refine bX (some 1) rfl rfl Tryz.func67 tX rfl #[.int .i64 2,.int .i64 3] rfl tM ?_;(with_reducible refine (bE.calls 2 3 t312 t313 _ A1.out).mono ?_);rintro e w8 ⟨rfl,hb⟩;refine ⟨_,rfl,?_⟩;replace lN:=bW lN hb;replace HB:=dL HB hb;(try clear hb))|((with_reducible refine aG (f:=66) rfl ?_);refine bX (some 2) rfl rfl Tryz.func66 tX rfl #[.int .i64 5] rfl tM ?_;(with_reducible refine (bg.calls 5 t314 t315 _ A2.out).mono ?_);rintro e w9 ⟨rfl,hb⟩;refine ⟨_,rfl,?_⟩;replace lN:=bW lN hb;replace HB:=dL HB hb;(try clear hb))|((with_reducible refine aG (f:=67) rfl ?_);refine bX (some 3) rfl rfl Tryz.func67 tX rfl #[.int .i64 8,.int .i64 10] rfl tM ?_;(with_reducible refine (bE.calls 8 10 t316 t317 _ A3.out).mono ?_);rintro e Lr ⟨rfl,hb⟩;refine ⟨_,rfl,?_⟩;replace lN:=bW lN hb;replace HB:=dL HB hb;(try clear hb))|((with_reducible refine au (N:=4) rfl ?_);refine Kd.qD jW _ 37 ?hg (N:=4) ?hd (xs:=([(⟨t312,t313⟩:bQ),(⟨t314,t315⟩:bQ),(⟨t316,t317⟩:bQ)]:List bQ)) (inner:=[.int .i64 t312,.int .i64 t313,.int .i64 t314,.int .i64 t315,.int .i64 t316,.int .i64 t317]) (ok:=fun _=>True) (nE:=fun _=>True) ?hr ?hp (fun _ hk=>hk) trivial (Below.refl _ _) (Nat.le_refl _) (by simp) ?_;(case hd=>rfl);(case hg=>rfl);(case hr=>first|(go_simp;done)|(go_simp;rfl));(case hp=>exact (dh.c2 (show Kd.M jW _ _ _ (⟨t312,t313⟩:bQ) [.int .i64 t312,.int .i64 t313] from (lu _ _ _ (⟨t312,t313⟩:bQ) )) (dh.c2 (show Kd.M jW _ _ _ (⟨t314,t315⟩:bQ) [.int .i64 t314,.int .i64 t315] from (lu _ _ _ (⟨t314,t315⟩:bQ) )) (dh.c2 (show Kd.M jW _ _ _ (⟨t316,t317⟩:bQ) [.int .i64 t316,.int .i64 t317] from (lu _ _ _ (⟨t316,t317⟩:bQ) )) (dh.none _ _)))));intro qoe Jc El hb sS gV;clear sS gV;(first|rw [← YR.out] at El|(simp only [Int.reduceToNat] at El;rw [← YR.out] at El));have xq:=aj.mk (Kd.dZ (Kd.xg (M:=fun k_=>(w.heap.size<=k_)) El (bD tB) (fun k_ h_=>h_)) (bD tB));replace lN:=bW lN hb;replace HB:=dL HB hb;clear hb El;obtain ⟨qcQ,qcR,qiV⟩:=Kd.jc xq.out;subst qiV)|((with_reducible refine aG (f:=66) rfl ?_);refine bX (some 6) rfl rfl Tryz.func66 tX rfl #[.int .i64 1] rfl tM ?_;(with_reducible refine (bg.calls 1 L6 L8 _ A4.out).mono ?_);rintro e R8 ⟨rfl,hb⟩;refine ⟨_,rfl,?_⟩;replace xq:=tZ xq hb;replace lN:=bW lN hb;replace HB:=dL HB hb;(try clear hb))|((with_reducible refine aG (f:=66) rfl ?_);refine bX (some 7) rfl rfl Tryz.func66 tX rfl #[.int .i64 2] rfl tM ?_;(with_reducible refine (bg.calls 2 L9 Ma _ A5.out).mono ?_);rintro e Mf ⟨rfl,hb⟩;refine ⟨_,rfl,?_⟩;replace xq:=tZ xq hb;replace lN:=bW lN hb;replace HB:=dL HB hb;(try clear hb))|((with_reducible refine aG (f:=66) rfl ?_);refine bX (some 8) rfl rfl Tryz.func66 tX rfl #[.int .i64 4] rfl tM ?_;(with_reducible refine (bg.calls 4 Mc Md _ A6.out).mono ?_);rintro e w16 ⟨rfl,hb⟩;refine ⟨_,rfl,?_⟩;replace xq:=tZ xq hb;replace lN:=bW lN hb;replace HB:=dL HB hb;(try clear hb))|((with_reducible refine au (N:=9) rfl ?_);refine Kd.qD jW _ 37 ?hg (N:=9) ?hd (xs:=([(⟨L6,L8⟩:bQ),(⟨L9,Ma⟩:bQ),(⟨Mc,Md⟩:bQ)]:List bQ)) (inner:=[.int .i64 L6,.int .i64 L8,.int .i64 L9,.int .i64 Ma,.int .i64 Mc,.int .i64 Md]) (ok:=fun _=>True) (nE:=fun _=>True) ?hr ?hp (fun _ hk=>hk) trivial (Below.refl _ _) (Nat.le_refl _) (by simp) ?_;(case hd=>rfl);(case hg=>rfl);(case hr=>first|(go_simp;done)|(go_simp;rfl));(case hp=>exact (dh.c2 (show Kd.M jW _ _ _ (⟨L6,L8⟩:bQ) [.int .i64 L6,.int .i64 L8] from (lu _ _ _ (⟨L6,L8⟩:bQ) )) (dh.c2 (show Kd.M jW _ _ _ (⟨L9,Ma⟩:bQ) [.int .i64 L9,.int .i64 Ma] from (lu _ _ _ (⟨L9,Ma⟩:bQ) )) (dh.c2 (show Kd.M jW _ _ _ (⟨Mc,Md⟩:bQ) [.int .i64 Mc,.int .i64 Md] from (lu _ _ _ (⟨Mc,Md⟩:bQ) )) (dh.none _ _)))));intro qof w17 Q0 hb sS gV;clear sS gV;(first|rw [← YT.out] at Q0|(simp only [Int.reduceToNat] at Q0;rw [← YT.out] at Q0));have Oy:=aj.mk (Kd.dZ (Kd.wY (Kd.xg (M:=fun k_=>(w.heap.size<=k_)) Q0 (bD tB) (fun k_ h_=>h_)) (Kd.vR (qCo xq))) (bD tB));replace xq:=aj.mk (Kd.qE (qCo xq) (Kd.iF Q0) hb);replace lN:=bW lN hb;replace HB:=dL HB hb;clear hb Q0;obtain ⟨Fz,FB,qaB⟩:=Kd.jc Oy.out;subst qaB)|((with_reducible refine au (N:=11) rfl ?_);refine Kd.SI iG _ 102 ?hg (N':=11) ?hd (xs:=([(⟨Jp,40⟩:bI),(⟨Me,20⟩:bI)]:List bI)) (inner:=[.slice qcQ Jp.length qcR,.int .i64 40,.slice Fz Me.length FB,.int .i64 20]) (ok:=(fun k_=>(w.heap.size<=k_)∧k_≠xk)) (nE:=(fun k_=>(w.heap.size<=k_)∧k_≠xk)) ?hr ?hp (fun _ hk=>hk) ((show ∀ k_,w17.heap.size<=k_->(fun k_=>(w.heap.size<=k_)∧k_≠xk) k_ from fun k_ hk=>⟨(Nat.le_trans (bD tB) hk),Kd.LJ (g:=xk) (o:=.cells #[.slice none 0 0] 24 (0,0)) (qB2 lN) k_ hk⟩) _ (Nat.le_refl _)) (Below.refl _ _) (Nat.le_refl _) (by simp) ?_;(case hd=>rfl);(case hg=>rfl);(case hr=>first|(go_simp;done)|(go_simp;rfl));(case hp=>exact (dh.c2 (show Kd.FK iG _ _ (⟨Jp,40⟩:bI) [.slice qcQ Jp.length qcR,.int .i64 40] from (Jj _ _ (⟨Jp,40⟩:bI) (Kd.eB (Kd.gq (ok':=(fun k_=>(w.heap.size<=k_)∧k_≠xk)) (Kd.iZ (xq.out) lN.out (by decide)) (fun k_ hk=>⟨hk.1.1.1,hk.2⟩))).2.1 (Kd.R_F (Kd.gq (ok':=(fun k_=>(w.heap.size<=k_)∧k_≠xk)) (Kd.iZ (xq.out) lN.out (by decide)) (fun k_ hk=>⟨hk.1.1.1,hk.2⟩))))) (dh.c2 (show Kd.FK iG _ _ (⟨Me,20⟩:bI) [.slice Fz Me.length FB,.int .i64 20] from (Jj _ _ (⟨Me,20⟩:bI) (Kd.eB (Kd.gq (ok':=(fun k_=>(w.heap.size<=k_)∧k_≠xk)) (Kd.iZ (Oy.out) lN.out (by decide)) (fun k_ hk=>⟨hk.1.1.1,hk.2⟩))).2.1 (Kd.R_F (Kd.gq (ok':=(fun k_=>(w.heap.size<=k_)∧k_≠xk)) (Kd.iZ (Oy.out) lN.out (by decide)) (fun k_ hk=>⟨hk.1.1.1,hk.2⟩))))) (dh.none _ _))));intro qog w20 SX hb sS gV;clear sS gV;(first|rw [← YU.out] at SX|(simp only [Int.reduceToNat] at SX;rw [← YU.out] at SX));have YV:=aj.mk (Kd.GI SX (bD tB));replace lN:=bW lN hb;replace HB:=dL HB hb;clear xq Oy;clear hb SX;obtain ⟨qcS,qcT,qiW⟩:=Kd.GJ YV.out;subst qiW;have C9:=bc1 lN;have Da:=bf lN 0))
 refine bodyPost_ret (results_cell_row rfl _ _ xk 24 #[.slice qcS qaz.length qcT] (0,0) _ rfl (by (with_reducible repeat (first|refine aJ ?_ _|refine aN ?_|refine aI ?_ _));refine dO (cs:=#[.slice none 0 0]) ?_ 0 _ rfl;(with_reducible repeat (first|refine aJ ?_ _|refine aN ?_|refine aI ?_ _));exact lN.out) Tryz.underlying24 rfl tX) rfl ?_;exact ⟨_,tF,by (with_reducible repeat (first|apply Kd.l8|apply Kd.l9|apply Kd.oQ));exact Kd.sP (Kd.wO (p:=⟨xk,0,none⟩) (Kd.sP YV.out (fun k_ hk=>(⟨hk,hk.2⟩:_∧k_≠xk))) (fun _ hk=>hk.2) (.slice qcS qaz.length qcT)) (fun _ hk=>hk.1.1),tB⟩
end Go.Proofs.YtnpfbjnjdngkhaaGreatDoor.P
