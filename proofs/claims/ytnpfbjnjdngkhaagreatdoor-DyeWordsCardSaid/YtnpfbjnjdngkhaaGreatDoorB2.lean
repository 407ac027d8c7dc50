import Derived.Maps.Own
import Derived.Maps.OwnSet
import Derived.Maps.Views
import Derived.Maps.Range
import Derived.Maps.RangeWalk
import Derived.RangeFuncNested
import Derived.RangeFuncBound
import Derived.RangeFuncCalls
import Derived.RangeFuncLeaves
import Derived.Shelf.RegionOpen
import Derived.WalkKit
import Derived.OwnWalkIn
import Derived.TacticsInMore
import Derived.LoopNIn
import Derived.LoopIn
import Derived.Lib.SliceRun
import Derived.WalkSpells
import Derived.Maps.OwnIn
import Derived.Shelf.Abstract
import Derived.Sort.MapsRangeIn
import Derived.Test.YtnpfbjnjdngkhaaGreatDoorB1
set_option maxHeartbeats 8000000
set_option maxRecDepth 100000
set_option linter.unusedVariables false
set_option linter.unusedSimpArgs false
set_option linter.unusedSectionVars false
namespace Go.Proofs.YtnpfbjnjdngkhaaGreatDoor.P
open Go.RowKit Go.Proofs.YtnpfbjnjdngkhaaGreatDoorW.aQ Go.Proofs.YtnpfbjnjdngkhaaGreatDoorW.bO Go.Proofs.YtnpfbjnjdngkhaaGreatDoorW.bT
attribute [local go_sem] eP eT fU fV dS dU eU eX
abbrev Pm (x:Int):Prop:=(Lit.int .i64 x).wf=true
theorem uO {x:Int} (h0 : -1000000000000000<=x) (h1:x<=1000000000000000):Pm x:=by
 have:x=wrap64 x:=by unfold wrap64;omega
 rw [Pm,this];exact wrap64_wf x
def j6 (w:World) (b n:Nat) (S:List Int):Prop:=∃ D:DataW Unit,w.ownsMap Tryz.prog 3 (plainElem Tryz.prog 4) b n D∧∀ x:Int,Pm x->Maps.has D (.int .i64 x)=decide (x∈S)
theorem j6.made (w:World):j6 (w.alloc (.map #[] 0)) w.heap.size 0 []:=⟨.map [],World.ownsMap_made w _ _ _,fun x _=>by simp [Maps.has]⟩
theorem j6.kept {w w':World} {b n:Nat} {S:List Int} {row:Option Nat} (h:j6 w b n S) (hg:w.grownBy w' row) (hne:some b≠row):j6 w' b n S:=by
 obtain ⟨D,h1,h2⟩:=h;exact ⟨D,h1.kept hg hne,h2⟩
theorem j6.below {w w':World} {b n:Nat} {S:List Int} (h:j6 w b n S) (hb:Below w.heap.size w w'):j6 w' b n S:=h.kept ⟨hb.os,hb.tape,hb.output,hb.size,fun k hk _=>hb.block k hk⟩ (by simp:some b≠none)
theorem j6.lt {w:World} {b n:Nat} {S:List Int} (h:j6 w b n S):b<w.heap.size:=by
 obtain ⟨D,h1,_⟩:=h;exact h1.lt
theorem j6.same {w:World} {b n:Nat} {S S':List Int} (h:j6 w b n S) (hS:∀ x,x∈S↔x∈S'):j6 w b n S':=by
 obtain ⟨D,h1,h2⟩:=h;exact ⟨D,h1,fun x hx=>by rw [h2 x hx];simp [hS x]⟩
theorem TI {x:Int}:WideAt.IsKeyLit (.int .i64 x):=trivial
section
variable {ops:Array Oper} {rest:List Oper} {o:Oper} {a:Act} {Q:Exit->Act->World->Prop} {w:World}
theorem MV (hg:o.guard=none) (m x:Operand) {v:Operand} (hop:o.op=.mapUpdate 199 m x v) {b n:Nat} {S:List Int} (hm:a.eval m=.map (some b)) (hS:j6 w b n S) (hn:n<1000000000000000000) {z:Int} (hz:Pm z) (hx:a.eval x=.int .i64 z) (hv:a.eval v=.bool true)
  (h:∀ w',j6 w' b (n+1) (S++[z])->w.grownBy w' (some b)->wpList Tryz.prog ops Q rest (a.put o.dst undef) w'):wpList Tryz.prog ops Q (o::rest) a w:=by
 obtain ⟨D,h1,h2⟩:=hS
 refine wpList_mapUpdate_own w hg m x v 199 hop 3 4 (Maps.int_keyed Tryz.underlying3) Tryz.underlying199 _ b n D hm h1 (by unfold maxLen;omega) _ _ (.int .i64 z) hx hv (Maps.keyOf_int_mk Tryz.underlying3 hz) _ [] (plainElem_bool Tryz.underlying4 true) fun w' r1 r2=>h w' ⟨_,r1,fun y hy=>?_⟩ r2
 by_cases e:y=z
 ·subst e
  rw [Maps.has_put_same h1.isMap TI];simp
 ·rw [Maps.has_put_other (by intro h;injection h with _ h;exact e h),h2 y hy]
  simp [e]
def iA (w:World) (b r n:Nat) (S V:List Int) (cnt:Nat):Prop:=∃ (D:DataW Unit) (left:Lit->Bool),w.ranges Tryz.prog 3 (plainElem Tryz.prog 4) b r n D left cnt∧(∀ x:Int,Pm x->Maps.has D (.int .i64 x)=decide (x∈S))∧(∀ x:Int,Pm x->left (.int .i64 x)=(decide (x∈S)&&!decide (x∈V)))∧cnt+V.length<=n
theorem iA.kept {w w':World} {b r n cnt:Nat} {S V:List Int} {row:Option Nat} (h:iA w b r n S V cnt) (hg:w.grownBy w' row) (hb:some b≠row) (hr:some r≠row):iA w' b r n S V cnt:=by
 obtain ⟨D,left,h1,h2⟩:=h;exact ⟨D,left,h1.kept hg hb hr,h2⟩
theorem iA.below {w w':World} {b r n cnt:Nat} {S V:List Int} (h:iA w b r n S V cnt) (hb:Below w.heap.size w w'):iA w' b r n S V cnt:=h.kept ⟨hb.os,hb.tape,hb.output,hb.size,fun k hk _=>hb.block k hk⟩ (by simp:some b≠none) (by simp)
theorem iA.set {w:World} {b r n cnt:Nat} {S V:List Int} (h:iA w b r n S V cnt):j6 w b n S:=by
 obtain ⟨D,left,h1,h2,_⟩:=h;exact ⟨D,h1.owns,h2⟩
theorem iA.ne {w:World} {b r n cnt:Nat} {S V:List Int} (h:iA w b r n S V cnt):r≠b:=by
 obtain ⟨D,left,h1,_⟩:=h;exact h1.ne
theorem iA.left {w:World} {b r n cnt:Nat} {S V:List Int} (h:iA w b r n S V cnt):w.rangeLeft b r=cnt:=by
 obtain ⟨D,left,h1,_⟩:=h;exact h1.left_eq
theorem iA.size {w:World} {b r n cnt:Nat} {S V:List Int} (h:iA w b r n S V cnt):cnt+V.length<=n:=by
 obtain ⟨D,left,h1,h2,h3,h4⟩:=h;exact h4
theorem iA.o7 {w:World} {b r n cnt g:Nat} {S V:List Int} {cs:Array Value} {t:TypeId} (h:iA w b r n S V cnt) (hg:aj (w.heap[g]?=some (.cells cs t (0,0)))):g≠b∧g≠r:=by
 obtain ⟨D,left,⟨es,clock,since,seen,c0,hb,_,_,_,hr,_⟩,_⟩:=h;exact ⟨fun e=>(by have h2:=hg.out;rw [e,hb] at h2;cases h2),fun e=>(by have h2:=hg.out;rw [e,hr] at h2;cases h2)⟩
theorem j6.o7 {w:World} {b n g:Nat} {S:List Int} {cs:Array Value} {t:TypeId} (h:j6 w b n S) (hg:aj (w.heap[g]?=some (.cells cs t (0,0)))):g≠b:=by
 obtain ⟨D,⟨es,clock,hb,_⟩,_⟩:=h;intro e;subst e;rw [hg.out] at hb
 cases hb
theorem iA.lt {w:World} {b r n cnt:Nat} {S V:List Int} (h:iA w b r n S V cnt):r<w.heap.size:=by
 obtain ⟨D,left,h1,_⟩:=h;exact h1.lt
theorem vU (hg:o.guard=none) (m:Operand) (hop:o.op=.range 199 m) {b n:Nat} {S:List Int} (hm:a.eval m=.map (some b)) (hS:j6 w b n S)
  (h:∀ w' r cnt,r=w.heap.size->iA w' b r n S [] cnt->Below w.heap.size w w'->wpList Tryz.prog ops Q rest (a.put o.dst (.pointer (some ⟨r,0,none⟩))) w'):wpList Tryz.prog ops Q (o::rest) a w:=by
 obtain ⟨D,h1,h2⟩:=hS
 refine wpList_range_own w hg m 199 hop 3 4 (Maps.int_keyed Tryz.underlying3) Tryz.underlying199 _ b n D hm h1 fun w' r1 r2 _=>h w' _ (Maps.size D) rfl ⟨D,_,r1,h2,fun x hx=>by rw [h2 x hx];simp,by have:=h1.size_le;simp;exact this⟩ ⟨r2.os,r2.tape,r2.output,r2.size,fun k hk=>r2.block k hk (by simp)⟩
theorem vB (hg:o.guard=none) (it:Operand) (hop:o.op=.next it false) {b r n cnt:Nat} {S V:List Int} (hit:a.eval it=.pointer (some ⟨r,0,none⟩)) (hR:iA w b r n S V cnt)
  (hDone:(∀ x,Pm x->x∈S->x∈V)->wpList Tryz.prog ops Q rest (a.put o.dst (.tuple #[.bool false])) w)
  (hMore:∀ (x:Int) (c:Bool) (w':World) (cnt':Nat),Pm x->x∈S->x∉V->iA w' b r n S (V++[x]) cnt'->cnt'<cnt->w.grownBy w' (some r)->w'.heap.size=w.heap.size->(Instr.entry (.pointer (some ⟨r,0,none⟩))).run Tryz.prog w'=.ok (.tuple #[.int .i64 x,.bool c]) w' ->
   wpList Tryz.prog ops Q rest (a.put o.dst (.tuple #[.bool true,.int .i64 x,.bool c])) w'):wpList Tryz.prog ops Q (o::rest) a w:=by
 obtain ⟨D,left,h1,h2,h3,h4⟩:=hR;refine wpList_next_ranges w hg it hop 3 (Maps.int_keyed Tryz.underlying3) (plainElem Tryz.prog 4) (Value.int .i64) Value.bool ?_ ?_ b r n D left cnt hit h1 ?_ ?_
 ·intro key kl hk
  obtain ⟨x,rfl,_⟩:=Maps.keyOf_int_inv Tryz.underlying3 hk;exact ⟨x,rfl⟩
 ·intro v y hv
  unfold plainElem at hv
  rw [Tryz.underlying4] at hv
  cases v<;>simp at hv
  exact ⟨_,rfl⟩
 ·intro h0 hl
  refine hDone fun x hx hm=>?_
  have:=h3 x hx;rw [hl] at this
  simpa [hm] using this.symm
 ·intro x c kl y w' cnt' hk hl hv hat hr hlt hgr hsz hen
  obtain ⟨x',he,rfl,hx⟩:=Maps.keyOf_int_inv Tryz.underlying3 hk
  injection he with _ he
  subst he;have h5:=h3 x hx;rw [hl] at h5
  have h6:x∈S∧x∉V:=by simpa using h5.symm
  refine hMore x c w' cnt' hx h6.1 h6.2 ⟨D,_,hr,h2,fun z hz=>?_,by simp;omega⟩ hlt hgr hsz hen;rw [h3 z hz]
  by_cases e:z=x
  ·subst e
   simp [WideAt.sameKey_self TI]
  ·rw [Maps.sameKey_ne (by intro h;injection h with _ h;exact e h)]
   simp [e]
theorem yG {w0:World} (hgd:o.guard=none) {N:Tmp} (hd:o.dst=some N) (hrun:(execOp a.eval o).run Tryz.prog w=.ok (.value (.map (some w.heap.size))) (w.alloc (.map #[] 0))) (HB:aj (Below w0.heap.size w0 w))
  (h:∀ b w1,aj (j6 w1 b 0 [])->aj (w0.heap.size<=b)->aj (Below w0.heap.size w0 w1)->Below w.heap.size w w1->w.heap.size<=b->wpList Tryz.prog ops Q rest (a.put o.dst (.map (some b))) w1):wpList Tryz.prog ops Q (o::rest) a w :=
 have hx:Below w.heap.size w (w.alloc (.map #[] 0)):=fH (Below.refl _ _) _
 Kd.rY hgd hrun (h _ _ ⟨j6.made w⟩ ⟨bD HB.out⟩ (eH HB hx) hx (Nat.le_refl _))
end
def qbe {α:Type} (P:Program) (g:Nat) (lb:Array Value) (encs:α->Array Value) (Rd:α->World->Prop) (Kp:World->World->Prop) (S:List α->Prop) (N:Nat) (w:World):Prop :=
 ∀ (l:Nat) (J:List α->World->Prop) (W:World),Below w.heap.size w W->OwnFrom W.heap.size J ->
  (∀ pre x W1,J pre W1->Rd x W1->pre.length<N->YieldAt Fence.wide 1 P l (encs x) W1 fun e W'=>e=.returned (.bool true)∧J (pre++[x]) W'∧Kp W1 W')->J [] W ->
  CallsIn Fence.wide 2 P g (#[.func (.yield l) #[] #[]]++lb) W fun e W'=>(∃ v,e=.returned v)∧∃ xs,S xs∧J xs W'
theorem MW {P:Program} {g:Operand} {ps:Array Tmp} {assign body:Code} {Q:Exit->Act->World->Prop} {a:Act} {w:World} {gf:Nat} {lb:Array Value}
  (hg:a.eval g=.func (.func gf) #[] lb) (eg:∀ args w,(callFunc gf args).run P w=.ok (.enter gf args) w)
  {α:Type} {encs:α->Array Value} {Rd:α->World->Prop} {Kp:World->World->Prop} {S:List α->Prop} {N:Nat} {w0:World} (hseq:qbe P gf lb encs Rd Kp S N w0)
  (hKt:∀ {A B C:World},Kp A B->Kp B C->Kp A C) (hKb:∀ (W:World) (o o':Obj),W.heap[w.heap.size+1]?=some o->o.isCells=false->Kp W (W.putObj (w.heap.size+1) o')) (hb0:Below w0.heap.size w0 w) (hps:∀ x,(encs x).size=ps.size)
  (hRd:∀ x,OwnFrom w.heap.size (fun (_:Unit) W=>Rd x W)) (I:List α->World->Prop) (hI:OwnFrom w.heap.size I) (h0:I [] w) (a₁:α->Act)
  (hassign:∀ (l:Nat) (x:α) (W:World) (K:Act->World->Prop),K (a₁ x) W ->
   assign.wpIn (Fence.wide.inRound l) 1 P (Exit.then K (fun _ _ _=>False)) { tmps:=(ps.zip (encs x)).foldl (fun t (p,v)=>t.setIfInBounds p v) a.tmps,defers:=[] } W)
  (hbody:∀ (l:Nat) (pre:List α) (x:α) (W:World),I pre W->Rd x W->pre.length<N->body.wpIn (Fence.wide.inRound l) 1 P (fun e _ W'=>e=.normal∧KeepsFrom w.heap.size W W'∧Kp W W'∧I (pre++[x]) W') (a₁ x) W)
  (hdone:∀ (xs:List α) (W:World),S xs->I xs W->W.heap[w.heap.size]?=some (.deferred (some []))->Q .normal { a with defers:={ target:=.collected w.heap.size,args:=#[] }::a.defers } W) :
  (Code.rangeFunc g ps assign body).wpIn Fence.wide 3 P Q a w:=by
 refine wpIn_rangeFunc fun fn hfn=>?_
 obtain ⟨rec,hrec⟩:∃ rec:LoopState->Option Code->Loop,rec=fun st pe=>{ state:=st,pending:=pe,fn,tmps:=a.tmps,params:=ps,assign,body,defers:=w.heap.size }:=⟨_,rfl⟩
 obtain ⟨W1,hW1⟩:∃ W1,(w.alloc (.deferred (some []))).alloc (.loop (rec .ready none))=W1:=⟨_,rfl⟩
 have hB:Below w.heap.size w W1:=by rw [← hW1];exact ((Below.refl _ w).alloc (Nat.le_refl _) _).alloc (by simp) _
 have hs1:W1.heap.size=w.heap.size+2:=by rw [← hW1];simp
 have hL1:W1.heap[w.heap.size+1]?=some (.loop (rec .ready none)):=by
  have:=World.alloc_heap_new (w.alloc (.deferred (some []))) (.loop (rec .ready none))
  rwa [World.size_alloc,hW1] at this
 have hD1:W1.heap[w.heap.size]?=some (.deferred (some [])):=by
  rw [← hW1];exact (Below.heap_alloc _ _ _ (by simp)).trans (World.alloc_heap_new w _)
 refine ⟨w.heap.size+1,[{ target:=.collected w.heap.size,args:=#[] }],W1,{ target:=.fn (.func gf) lb,args:=#[.func (.yield (w.heap.size+1)) #[] #[]] },W1,gf,#[.func (.yield (w.heap.size+1)) #[] #[]]++lb,W1,?_,?_,fun _ _=>trivial,?_,fun h=>absurd h (by decide),?_⟩
 ·rw [← hW1,hrec]
  exact run_enterLoop_outer _ _ _ _ _
 ·simp only [resolve,hg]
  simp [go_sem]
 ·simp [invoke,go_sem,eg]
 refine (hseq (w.heap.size+1) (fun pre W=>I pre W∧W.heap[w.heap.size+1]?=some (.loop (rec .ready none))∧W.heap[w.heap.size]?=some (.deferred (some []))) W1 (hb0.trans (hB.mono hb0.size)) ?_ ?_ ⟨?_,hL1,hD1⟩).mono ?_
 ·rintro s A B row ⟨hi,hl,hd⟩ hgr hr
  have ne:∀ k,k<w.heap.size+2->some k≠row:=fun k hk e=>by have:=(hr k e.symm).1;omega
  exact ⟨hI s A B row hi hgr fun r e=>⟨by have:=(hr r e).1;omega,(hr r e).2⟩,(hgr.block _ (bZ hl) (ne _ (by omega))).trans hl,(hgr.block _ (bZ hd) (ne _ (by omega))).trans hd⟩
 ·rintro pre x W ⟨hi,hl,hd⟩ hrd hlt
  have hy:=run_yield (P:=P) (args:=encs x) hl (by rw [hrec];exact hps x);rw [hrec] at hy;refine ⟨fn,_,assign,body,hy,roundIn_of_wpIn hfn (hassign _ x W _ ?_)⟩;refine ⟨_,run_beginRound hl (by rw [hrec]),?_⟩;have h2:=World.putObj_heap_same (o:=.loop { rec .ready none with state:=.busy }) (bZ hl);have d2:=(World.putObj_heap_other (w:=W) (r:=w.heap.size+1) (k:=w.heap.size) (o:=.loop { rec .ready none with state:=.busy }) (by omega)).trans hd;refine wpIn_mono (hbody _ pre x _ (hI.putObj _ hi (by omega) hl rfl) ((hRd x).putObj (s:=()) _ hrd (by omega) hl rfl) hlt) ?_;rintro e a3 W3 ⟨rfl,hk3,hkp3,hi3⟩;have hl3:=hk3.same _ _ (by omega) h2 rfl;have hd3:=hk3.same _ _ (Nat.le_refl _) d2 rfl;have hr:=run_endRound (P:=P) none hl3;rw [hrec] at hr;refine ⟨_,_,hr,rfl,⟨hI.putObj _ hi3 (by omega) hl3 rfl,?_,(World.putObj_heap_other (by omega)).trans hd3⟩,hKt (hKb _ _ _ hl rfl) (hKt hkp3 (hKb _ _ _ hl3 rfl))⟩;rw [hrec];exact World.putObj_heap_same (bZ hl3)
 ·rw [← hW1]
  exact hI.alloc _ (hI.alloc _ h0)
 ·rintro e W2 ⟨⟨v,rfl⟩,xs,hS,hi,hl,hd⟩
  have he:=run_endLoop (P:=P) hl (by rw [hrec];simp);rw [hrec] at he;exact ⟨none,_,he,hdone xs _ hS (hI.putObj _ hi (by omega) hl rfl) ((World.putObj_heap_other (by omega)).trans hd)⟩
theorem qjq {P:Program} {row:String} {args:Array Value} {w:World} {R:Value->World->Prop} (ro:Option Nat) (n:Nat) (h:Rows P row args w R):RowsIn { Fence.wide with round:=ro } n P row args w R:=by
 intro c cs _;obtain ⟨v,w',r,s⟩:=h c cs;exact ⟨v,w',r,stepsIn_wide.2 s⟩
theorem opT {P:Program} {o:Oper} {a:Act} {w:World} {K:Act->World->Prop} {Q:Exit->Act->World->Prop} (ro:Option Nat) (n:Nat) (hd:∀ c,o.op≠.defer c) (h:o.wp P a w K Q) :
  o.wpIn { Fence.wide with round:=ro } n P a w K Q:=by
 refine ⟨fun _ _=>trivial,?_⟩;rw [Oper.semAt_eq _ _ _ hd]
 unfold Oper.wp at h
 generalize (execOp a.eval o).run P w=r at *
 cases r with
 | ok x w' =>
  cases x<;>simp only [Oper.upon,Oper.uponIn] at h ⊢
  all_goals first
   | exact h
   | exact h.elim
   | exact ⟨fun h=>absurd h (by decide),callsIn_wide.2 h⟩
   | exact ⟨fun h=>absurd h (by decide),qjq ro _ h⟩
 | halt x w'=>cases x<;>simp only [Oper.upon,Oper.uponIn] at h ⊢<;>exact h
def vV (o:Oper):Bool:=match o.op with | .defer _=>false|_=>true
theorem zP {o:Oper} (h:vV o=true):∀ c,o.op≠.defer c:=by
 intro c hc
 unfold vV at h
 rw [hc] at h;simp at h
theorem LP {P:Program} {md:Region.Mode} {ops:Array Oper} {Q:Exit->Act->World->Prop} (ro:Option Nat) (n:Nat) (hQ:¬ LetsOut Q) (hd:ops.toList.all vV=true):∀ (fuel:Nat) (l:Array Bool) (a:Act) (w:World),wpAny P md ops Q fuel l a w->wpAnyIn { Fence.wide with round:=ro } n P md ops Q fuel l a w
 | 0,_,_,_,h=>h
 | fuel+1,l,a,w,h=>by
  refine ⟨h.1,fun i hi=>?_⟩;have h2:=h.2 i hi
  unfold wpOp at h2
  unfold wpOpIn
  split at h2
  ·rename_i ho
   rw [ho];exact LP ro n hQ hd fuel _ _ _ h2
  ·rename_i o ho
   rw [ho];have hm:vV o=true:=List.all_eq_true.1 hd o (by rw [Array.mem_toList_iff];exact Array.mem_of_getElem? ho);simp only []
   split at h2
   ·rename_i hw
    rw [if_pos hw]
    rcases h2 with h2|h2
    ·exact Oper.wpIn_mono (fun a w=>LP ro n hQ hd fuel _ a w) (opT ro n (zP hm) h2)
    ·exact absurd h2.2 hQ
   ·rename_i hw
    rw [if_neg hw];exact ⟨fun _ _=>trivial,LP ro n hQ hd fuel _ _ _ h2⟩
theorem qdV {P:Program} {id n:Nat} {ops:Array Oper} {Q:Exit->Act->World->Prop} {a:Act} {w:World} (ro:Option Nat) (hm:P.follows .mixedOrders=true) (hQ:¬ LetsOut Q) (hd:ops.toList.all vV=true)
  (h:wpAny P .any ops Q ops.size (Array.replicate ops.size false) a { w with drawn:=w.drawn+1 }):(Code.region id ops true).wpIn { Fence.wide with round:=ro } n P Q a w :=
 wpIn_region_any hm (LP ro n hQ hd _ _ _ _ h)
theorem EF {P:Program} {id n m:Nat} {ops:Array Oper} {Q:Exit->Act->World->Prop} {a:Act} {w:World} {S:World->Prop} {ds:List Nat} (ro:Option Nat) (hQ:¬ LetsOut Q) (hd:ops.toList.all vV=true) (l:Array Bool) (hm:P.follows .mixedOrders=true) (hn:ops.size=m) (hl:Array.replicate m false=l) (hS:S w.drew)
  (h:S w.drew->cB P .any ops Q S ds m l a w.drew):(Code.region id ops true).wpIn { Fence.wide with round:=ro } n P Q a w:=by
 subst hn;subst hl;exact qdV ro hm hQ hd (uN _ _ _ _ (h hS))
def eF.f (l0:List bB):Option (List bB):=if l0.length<=1000000000 then some l0 else none
theorem eF.TJ {l r:List bB} (h:eF.f l=some r):r=l∧l.length<=1000000000:=by
 unfold eF.f at h
 split at h
 ·exact ⟨(Option.some.inj h).symm,‹_›⟩
 ·cases h
theorem eF.calls (A0:Option Addr) (c0:Nat) (l0:List bB) (r:List bB) (w:World) (hr0:Kd.C eD w A0 l0.length l0) (hc0:l0.length<=c0) (h:eF.f l0=some r) :
  Calls Tryz.prog 124 #[.slice A0 l0.length c0] w fun e w'=>∃ lM:Value,e=.returned (lM)∧Kd.R eD 154 w' w.heap.size (fun _=>True) lM r∧Below w.heap.size w w':=by
 obtain ⟨rfl,hl⟩:=eF.TJ h;clear h;have HR:=aj.mk hr0;have HL:=aj.mk hl;have HB:=aj.mk (Below.refl w.heap.size w);clear hl
 have hq:∀ (w:World) (a:Option Addr) (n c n' c':Nat),(binOp .eql 25 (.slice a n c) (.slice none n' c')).run Tryz.prog w=.ok (.bool a.isNone) w:=fun w a n c n' c'=>Lib.run_eql_slice_nil w _ _ a n c n' c' Tryz.underlying25
 rcases A0 with _|ad
 ·obtain rfl:r=[]:=by
   have:=hr0.1;have h2:=hr0.2.2
   rcases r with _|⟨x,r⟩
   ·rfl
   ·obtain ⟨_,h,_⟩:=h2 (by simp)
    cases h
  clear hr0
  go_enter Tryz.func124,Tryz.ntmps124
  go_wp2_with fail
  go_ret
  exact ⟨_,rfl,Kd.mI _ _ _ _ _,HB.out⟩
 ·clear hr0
  go_enter Tryz.func124,Tryz.ntmps124
  go_wp2_with (first|((with_reducible refine au (N:=5) rfl ?_);refine Kd.qD eD w.heap.size 154 rfl (N:=5) rfl (xs:=[]) (inner:=[]) (ok:=fun _=>True) (nE:=fun _=>True) tG (dh.none _ _) (fun _ h=>h) trivial HB.out (Nat.le_refl _) (by simp) ?_;clear HB;intro v1 w1 ho hb hg _;have HO:=aj.mk ho;have HB:=aj.mk hb;clear ho hb hg)|((with_reducible refine eY (b:=.append) (xs:=#[.tmp 5,.tmp 6]) rfl ?_);at_builtin;refine Kd.uM eD (Rr:=eD.K w1) (w0:=w) w.heap.size rfl (.tmp 5) (.tmp 6) 25 154 (.agg #[(.int .i64 0),(.int .i64 0),(.int .i64 0),(.int .i64 0)]) 32 rfl Tryz.underlying25 C8 rfl (by decide) (by omega) v1 [] r (some ad) r.length c0 (fun _=>True) (fun _=>False) rfl rfl HO.out ?aR ?aK (fun _ hk=>hk.elim) (fun _ _=>trivial) HB.out (bD HB.out) (by have:=HL.out;simp;omega) ?_;(case aR=>exact Kd.ak HR.out HB.out);(case aK=>exact fun x cs hx=>by obtain rfl:=rZ hx;exact mK _ _ _ _);clear HO HB;intro v2 w2 ho hb hg hat;have HO:=aj.mk ho;have HB:=aj.mk hb;clear ho hb hg hat))
  go_ret
  exact ⟨_,rfl,HO.out,HB.out⟩
def slices_Clone_int.f (l0:List Int):Option (List Int):=if l0.length<=1000000000 then some l0 else none
theorem slices_Clone_int.TJ {l r:List Int} (h:slices_Clone_int.f l=some r):r=l∧l.length<=1000000000:=by
 unfold slices_Clone_int.f at h
 split at h
 ·exact ⟨(Option.some.inj h).symm,‹_›⟩
 ·cases h
theorem slices_Clone_int.calls (A0:Option Addr) (c0:Nat) (l0:List Int) (r:List Int) (w:World) (hr0:Kd.C (Kd.int .i64) w A0 l0.length l0) (hc0:l0.length<=c0) (h:slices_Clone_int.f l0=some r) :
  Calls Tryz.prog 225 #[.slice A0 l0.length c0] w fun e w'=>∃ lM:Value,e=.returned (lM)∧Kd.R (Kd.int .i64) 3 w' w.heap.size (fun _=>True) lM r∧Below w.heap.size w w':=by
 obtain ⟨rfl,hl⟩:=slices_Clone_int.TJ h;clear h;have HR:=aj.mk hr0;have HL:=aj.mk hl;have HB:=aj.mk (Below.refl w.heap.size w);clear hl
 have hq:∀ (w:World) (a:Option Addr) (n c n' c':Nat),(binOp .eql 47 (.slice a n c) (.slice none n' c')).run Tryz.prog w=.ok (.bool a.isNone) w:=fun w a n c n' c'=>Lib.run_eql_slice_nil w _ _ a n c n' c' Tryz.underlying47
 rcases A0 with _|ad
 ·obtain rfl:r=[]:=by
   have:=hr0.1;have h2:=hr0.2.2
   rcases r with _|⟨x,r⟩
   ·rfl
   ·obtain ⟨_,h,_⟩:=h2 (by simp)
    cases h
  clear hr0
  go_enter Tryz.func225,Tryz.ntmps225
  go_wp2_with fail
  go_ret
  exact ⟨_,rfl,Kd.mI _ _ _ _ _,HB.out⟩
 ·clear hr0
  go_enter Tryz.func225,Tryz.ntmps225
  go_wp2_with (first|((with_reducible refine au (N:=5) rfl ?_);refine Kd.qD (Kd.int .i64) w.heap.size 3 rfl (N:=5) rfl (xs:=[]) (inner:=[]) (ok:=fun _=>True) (nE:=fun _=>True) tG (dh.none _ _) (fun _ h=>h) trivial HB.out (Nat.le_refl _) (by simp) ?_;clear HB;intro v1 w1 ho hb hg _;have HO:=aj.mk ho;have HB:=aj.mk hb;clear ho hb hg)|((with_reducible refine eY (b:=.append) (xs:=#[.tmp 5,.tmp 6]) rfl ?_);at_builtin;refine Kd.uM (Kd.int .i64) (Rr:=(Kd.int .i64).K w1) (w0:=w) w.heap.size rfl (.tmp 5) (.tmp 6) 47 3 (.int .i64 0) 8 rfl Tryz.underlying47 info3 rfl (by decide) (by omega) v1 [] r (some ad) r.length c0 (fun _=>True) (fun _=>False) rfl rfl HO.out ?aR ?aK (fun _ hk=>hk.elim) (fun _ _=>trivial) HB.out (bD HB.out) (by have:=HL.out;simp;omega) ?_;(case aR=>exact Kd.ak HR.out HB.out);(case aK=>exact fun x cs hx=>by exact hx);clear HO HB;intro v2 w2 ho hb hg hat;have HO:=aj.mk ho;have HB:=aj.mk hb;clear ho hb hg hat))
  go_ret
  exact ⟨_,rfl,HO.out,HB.out⟩
end Go.Proofs.YtnpfbjnjdngkhaaGreatDoor.P
namespace Go.Proofs.YtnpfbjnjdngkhaaGreatDoor.P
open Go.RowKit Go.Proofs.YtnpfbjnjdngkhaaGreatDoorW.aQ Go.Proofs.YtnpfbjnjdngkhaaGreatDoorW.bO Go.Proofs.YtnpfbjnjdngkhaaGreatDoorW.bT
attribute [local go_sem] eP eT fU fV dS dU eU eX
attribute [local go_sem] Oper.semAt_some
def EG (lo hi:Int):List Int:=(List.range (hi+1 - lo).toNat).map fun (i:Nat)=>lo+(i:Int)
def lD:List bQ->List (List Int)
 | []=>[[]]
 | s::r=>(EG s.f0 s.f1).flatMap fun n=>(lD r).map (n::·)
structure o8 where
 A:Option Addr
 c:Nat
 xs:List Int
def o8.enc (x:o8):Array Value:=#[.slice x.A x.xs.length x.c]
def o8.Rd (x:o8) (W:World):Prop:=Kd.C (Kd.int .i64) W x.A x.xs.length x.xs∧x.xs.length<=x.c
def mH (Wr:Nat->Prop) (W W':World):Prop:=W.heap.size<=W'.heap.size∧∀ k o,W.heap[k]?=some o->o.isCells=true->¬ Wr k->W'.heap[k]?=some o
theorem mH.refl (Wr:Nat->Prop) (W:World):mH Wr W W:=⟨Nat.le_refl _,fun _ _ h _ _=>h⟩
theorem mH.trans {Wr:Nat->Prop} {A B C:World} (h:mH Wr A B) (k:mH Wr B C):mH Wr A C:=⟨Nat.le_trans h.1 k.1,fun i o hi ho hw=>k.2 i o (h.2 i o hi ho hw) ho hw⟩
theorem mH.below {Wr:Nat->Prop} {W W':World} (h:Below W.heap.size W W'):mH Wr W W':=⟨h.size,fun k o hk _ _=>(h.block k (bZ hk)).trans hk⟩
theorem mH.box {Wr:Nat->Prop} {W W':World} (h:mH Wr W W') {g:Nat} {cs:Array Value} {t:TypeId} (hg:aj (W.heap[g]?=some (.cells cs t (0,0)))) (hw:¬ Wr g):aj (W'.heap[g]?=some (.cells cs t (0,0))):=⟨h.2 g _ hg.out rfl hw⟩
theorem MZ {W W':World} (h:Below W.heap.size W W'):W.grownBy W' none:=⟨h.os,h.tape,h.output,h.size,fun k hk _=>h.block k hk⟩
theorem mH.row {α:Type} {d:Kd α} {Wr:Nat->Prop} {W W':World} {A:Option Addr} {n:Nat} {xs:List α} (hk:mH Wr W W') (hd:∀ {W W':World} {x:α} {cs:List Value},d.K W x cs->d.K W' x cs) (h:d.C W A n xs) (hw:∀ ad,A=some ad->0<n->¬ Wr ad.block):d.C W' A n xs:=by
 refine ⟨h.1,h.2.1,fun hn=>?_⟩;obtain ⟨ad,he,hc⟩:=h.2.2 hn;refine ⟨ad,he,fun j p hj=>?_⟩;obtain ⟨cs,h1,h2,h3⟩:=hc j p hj;refine ⟨cs,h1,hd h2,fun i u hu=>?_⟩;have hcell:=h3 i u hu;obtain ⟨o,ho,hoc⟩:=cells_of_cell hcell;exact (World.cell?_of_block ((hk.2 _ o ho hoc (by rw [add_block];exact hw ad he hn)).trans ho.symm)).trans hcell
theorem TK {W W':World} {x:bQ} {cs:List Value} (h:jW.K W x cs):jW.K W' x cs:=by
 obtain rfl:=oW h;exact LW _ _
theorem vC {W W':World} {x:Int} {cs:List Value} (h:(Kd.int .i64).K W x cs):(Kd.int .i64).K W' x cs:=h
theorem Zk {w:World} {base:Nat} {ok:Nat->Prop} (n:Int):dh ((Kd.int .i64).M w base ok) (Kd.int .i64).sz [n] [.int .i64 n]:=dh.one (show Kd.M (Kd.int .i64) _ _ _ n [.int .i64 n] from rfl) (dh.none _ _)
theorem Pn {lo hi:Int} (h:hi<lo):EG lo hi=[]:=by
 unfold EG
 rw [show (hi+1 - lo).toNat=0 by omega]
 rfl
theorem zQ {lo hi:Int} (h:lo<=hi):EG lo hi=lo::EG (lo+1) hi:=by
 unfold EG
 rw [show (hi+1 - lo).toNat=(hi+1 - (lo+1)).toNat+1 by omega,List.range_succ_eq_map,List.map_cons,List.map_map]
 congr 1
 ·simp
 ·apply List.map_congr_left
  intro i _;simp only [Function.comp]
  omega
theorem Po {lo hi n:Int} (h0:lo<=n) (h1:n<=hi):n∈EG lo hi:=by
 unfold EG
 refine List.mem_map.2 ⟨(n - lo).toNat,List.mem_range.2 (by omega),by omega⟩
theorem WT {lo hi n:Int} (h:n∈EG lo hi):lo<=n∧n<=hi:=by
 unfold EG at h
 obtain ⟨i,hi,rfl⟩:=List.mem_map.1 h;have:=List.mem_range.1 hi
 omega
theorem Ri {l:List bQ} {i:Nat} (h:i<l.length):lD (l.drop i)=(EG (bH l i).f0 (bH l i).f1).flatMap fun n=>(lD (l.drop (i+1))).map (n::·):=by
 rw [List.drop_eq_getElem_cons h,lD,bH,List.getD_eq_getElem?_getD,Int.toNat_natCast,List.getElem?_eq_getElem h]
 rfl
section
variable (gl gy gs l:Nat) (Al:Option Addr) (cl:Nat) (ls:List bQ) (Wr:Nat->Prop) (J:List o8->World->Prop) (B:Nat)
structure Pp (W:World):Prop where
 hl:W.heap[gl]?=some (.cells #[.slice Al ls.length cl] 28 (0,0))
 hy:W.heap[gy]?=some (.cells #[.func (.yield l) #[] #[]] 247 (0,0))
 hs:W.heap[gs]?=some (.cells #[.func (.func 224) #[] #[.pointer (some ⟨gl,0,none⟩),.pointer (some ⟨gy,0,none⟩),.pointer (some ⟨gs,0,none⟩)]] 247 (0,0))
 hr:Kd.C jW W Al ls.length ls
 hB:B<=W.heap.size
theorem Pp.kp {gl gy gs l:Nat} {Al:Option Addr} {cl:Nat} {ls:List bQ} {Wr:Nat->Prop} {B:Nat} {W W':World} (h:Pp gl gy gs l Al cl ls B W) (hk:mH Wr W W') (h1:¬ Wr gl) (h2:¬ Wr gy) (h3:¬ Wr gs) (h4:∀ ad,Al=some ad->¬ Wr ad.block):Pp gl gy gs l Al cl ls B W' :=
 ⟨hk.2 _ _ h.hl rfl h1,hk.2 _ _ h.hy rfl h2,hk.2 _ _ h.hs rfl h3,hk.row TK h.hr (fun ad e _=>h4 ad e),Nat.le_trans h.hB hk.1⟩
end
theorem Ib (gl gy gs l:Nat) (Al:Option Addr) (cl:Nat) (ls:List bQ) (Wr:Nat->Prop) (J:List o8->World->Prop) (B:Nat)
  (hls:ls.length<=1000) (hin:∀ s∈ls,-1000000<=s.f0∧s.f1<=1000000) (hJ:OwnFrom B J) (h1:¬ Wr gl) (h2:¬ Wr gy) (h3:¬ Wr gs) (h4:∀ ad,Al=some ad->¬ Wr ad.block) (h5:∀ k,Wr k->k<B) (P:List Int->Prop) (N:Nat)
  (hY:∀ pre (x:o8) W1,J pre W1->x.Rd W1->P x.xs->(∀ ad,x.A=some ad->¬ Wr ad.block)->pre.length<N->YieldAt Fence.wide 1 Tryz.prog l x.enc W1 fun e W'=>e=.returned (.bool true)∧J (pre++[x]) W'∧mH Wr W1 W') :
  ∀ (m:Nat) (now:List Int) (A:Option Addr) (c:Nat) (pre:List o8) (W:World),now.length+m=ls.length->(∀ zs∈lD (ls.drop now.length),P (now++zs))->pre.length+(lD (ls.drop now.length)).length<=N->J pre W->Pp gl gy gs l Al cl ls B W->Kd.C (Kd.int .i64) W A now.length now->now.length<=c->(∀ ad,A=some ad->¬ Wr ad.block) ->
  Calls Tryz.prog 224 #[.slice A now.length c,.pointer (some ⟨gl,0,none⟩),.pointer (some ⟨gy,0,none⟩),.pointer (some ⟨gs,0,none⟩)] W fun e W'=>e=.returned (.bool true)∧∃ ys:List o8,ys.map o8.xs=(lD (ls.drop now.length)).map (now++·)∧J (pre++ys) W'∧mH Wr W W':=by
 intro m
 induction m with
 | zero =>
  intro now A c pre W hm hP hN hj hS hC hc hA;obtain ⟨fn,tmps,assign,body,hy,hR⟩:=hY pre ⟨A,c,now⟩ W hj ⟨hC,hc⟩ (by have:=hP [] (by rw [List.drop_eq_nil_of_le (by omega)];exact List.mem_singleton.2 rfl);rwa [List.append_nil] at this) hA (by rw [List.drop_eq_nil_of_le (by omega)] at hN;simp [lD] at hN;omega);simp only [o8.enc] at hy;have HR:=aj.mk hR;clear hR hY
  have hq:((now.length:Int) == (ls.length:Int))=true:=by simp;omega
  have c1:=fG hS.hl;have c2:=fG hS.hy;have c3:=fG hS.hs
  go_enter Tryz.func224,Tryz.ntmps224
  refine (wpIn_wide (n:=2)).1 ?_
  gi_wp2
  refine RoundIn.mono HR.out ?_;rintro e W' ⟨rfl,hj',hk⟩
  gi_wp2
  go_ret
  refine ⟨rfl,[⟨A,c,now⟩],?_,hj',hk⟩;rw [List.drop_eq_nil_of_le (by omega)];simp [lD]
 | succ m ih =>
  intro now A c pre W hm hP hN hj hS hC hc hA;have HP:=aj.mk hP;clear hP;obtain ⟨s,hs⟩:∃ s,s=bH ls now.length:=⟨_,rfl⟩
  have hsm:s∈ls:=by rw [hs];exact (getD_at ls z37 now.length (by omega) (by omega)).1
  have hq:((now.length:Int) == (ls.length:Int))=false:=by simp;omega
  have hlt:(now.length:Int)<ls.length:=by omega
  have HI:=aj.mk (hin s hsm);have HJ:=aj.mk hj;have TL:=aj.mk hS;have HC:=aj.mk hC;have HIH:=aj.mk ih;have HS:=aj.mk hs;clear hj hS hC ih hY hsm;obtain ⟨ad,rfl,hx0,hx1⟩:=nI TL.out.hr now.length (by omega) hlt;rw [← HS.out,Int.toNat_natCast] at hx0 hx1;have c1:=fG TL.out.hl;have c2:=fG TL.out.hy;have c3:=fG TL.out.hs;clear hs
  go_enter Tryz.func224,Tryz.ntmps224
  refine (wpIn_wide (n:=2)).1 ?_
  gi_wp2
  have HT:=aj.mk (show lD (ls.drop now.length)=(EG s.f0 s.f1).flatMap (fun n=>(lD (ls.drop (now.length+1))).map (n::·)) by rw [Ri (by omega),← HS.out]);clear hx0 hx1 c1 c2 c3
  gi_loopw [7] (fun i W'=>∃ (n:Int) (ys:List o8),i=.int .i64 n∧s.f0<=n∧aj (n<=s.f1+1∨n=s.f0)∧aj (ys.map o8.xs++((EG n s.f1).flatMap (fun n=>(lD (ls.drop (now.length+1))).map (n::·))).map (now++·)=(lD (ls.drop now.length)).map (now++·))∧aj (J (pre++ys) W')∧aj (mH Wr W W')) (fun i _=>(s.f1+1 - intOf i).toNat)
  case atStart=>exact ⟨s.f0,[],rfl,Int.le_refl _,⟨.inr rfl⟩,⟨by rw [HT.out];simp⟩,⟨by simpa using HJ.out⟩,⟨mH.refl _ _⟩⟩
  case round =>
   obtain ⟨n,ys,rfl,hn0,hn1,HY,HJ2,HK⟩:=hrel;have CJ:=aj.mk (TL.out.kp HK.out h1 h2 h3 h4);obtain ⟨ad2,e2,hx0,hx1⟩:=nI CJ.out.hr now.length (by omega) hlt
   cases e2
   rw [← HS.out,Int.toNat_natCast] at hx0 hx1;have c1:=fG CJ.out.hl;have c2:=fG CJ.out.hy;have c3:=fG CJ.out.hs;have hqi:=HI.out;have hqj:=hn1.out
   by_cases hle:n<=s.f1
   ·have HC2:=aj.mk (HK.out.row (vC) HC.out (fun ad e _=>hA ad e))
    have HCf:=aj.mk (show slices_Clone_int.f now=some now by unfold slices_Clone_int.f;rw [if_pos (by omega)])
    gi_wp2
    refine EF none (fun ⟨_,_,h⟩=>by have h2:Ending.outgrown=Ending.returned (.bool true)∧_:=h;cases h2.1) (by rfl) (S:=fun w'=>w'.cell? ⟨gs,0,none⟩=some (.func (.func 224) #[] #[.pointer (some ⟨gl,0,none⟩),.pointer (some ⟨gy,0,none⟩),.pointer (some ⟨gs,0,none⟩)])) (ds:=[]) (bA 8 0) tX rfl rfl c3 (fun hHeld=>?_);have HB:=aj.mk (fC (Below.refl wr.heap.size wr))
    generalize wr.drew=w6 at HB hHeld ⊢
    refine qB1 1 32 (bA 8 2) ?_;refine qB1 3 34 (bA 8 10) ?_;refine fF (i:=0) (N:=some 31) (v:=?_) (a':=?_) (bA 8 11) rfl rfl tX (fun _ _ _ h=>h) (Or.inl ⟨by rfl,?_⟩) hHeld ?_ ?_;rotate_left
    ·rintro w' s0
     go_simp
     with_reducible rfl
    rotate_left
    ·simp only [Act.put,sL,ay,aA]
     rfl
    refine wL (σ:=Value × Value) 3 (bA 8 31) (fun s_=>[(33,s_.1),(35,s_.2)]) (fun s_ w'=>w'.cell? ⟨gs,0,none⟩=some (.func (.func 224) #[] #[.pointer (some ⟨gl,0,none⟩),.pointer (some ⟨gy,0,none⟩),.pointer (some ⟨gs,0,none⟩)])∧Kd.R (Kd.int .i64) 3 w' wr.heap.size (fun _=>True) s_.1 now∧Kd.R (Kd.int .i64) 3 w' wr.heap.size (fun _=>True) s_.2 [n]∧uh s_.1 s_.2∧Below wr.heap.size wr w') ?_ ?_;rotate_left
    ·intro Zl
     refine QT (i:=2) (j:=4) (Ni:=some 33) (Nj:=some 35) (bA 8 15) (bA 8 27) rfl rfl rfl rfl tX (by decide) (by decide) (fun K hK=>?_) (fun K hK=>?_)
     ·skip
      refine gK Tryz.func225 tX rfl #[.slice A now.length c] (by rfl) rfl rfl (by (try simp only [List.map_toArray,List.map_cons,List.map_nil]);first|done|rfl) ?_;refine (slices_Clone_int.calls A c now now _ (Kd.ak HC2.out HB.out) hc HCf.out).mono ?_;rintro e w7 ⟨v,rfl,ho,hb⟩;refine ⟨_,rfl,?_⟩;have hsz:=HB.out.size;replace HB:=eH HB hb;refine hK.out _ _ (fG (aD CJ.out.hs HB.out)) (fun hHeld=>?_);clear hK K;refine dn (a':=?_) ?_ ?_;rotate_left
      ·show Act.put _ (some 33) _=_
       simp only [bS,Act.put,sL,ay,aA]
       rfl
      refine gZ (i:=4) (N:=some 35) (bA 8 31) rfl rfl tX (by decide) (fun K hK=>?_);refine Kd.og (Kd.int .i64) _ 3 ?hg (N:=35) ?hd (xs:=[n]) (inner:=[.int .i64 n]) (ok:=fun _=>True) (nE:=fun _=>True) ?hr ?hp (fun _ hk=>hk) trivial (Below.refl _ _) (Nat.le_refl _) (by simp) ?_;(case hd=>rfl);(case hg=>rfl);(case hr=>first|(go_simp;done)|(go_simp;rfl));(case hp=>exact Zk n);intro u w8 ho2 hb2 sS gV;clear sS gV;have hsy:=HB.out.size;replace HB:=eH HB hb2;refine hK.out _ _ (fG (aD CJ.out.hs HB.out)) (fun hHeld=>?_);clear hK K;refine dn (a':=?_) ?_ ?_;rotate_left
      ·show Act.put _ (some 35) _=_
       simp only [bS,Act.put,sL,ay,aA]
       rfl
      exact dn (by simp only [bS,Act.put,sL]) (Zl (v,u) _ ⟨hHeld,Kd.dZ (Kd.jS ho hb2) hsz,Kd.dZ ho2 hsy,fun k TM TN=>absurd (Kd.vR ho k TM) (by have:=Kd.iF ho2 k TN;omega),HB.out⟩)
     ·skip
      refine Kd.og (Kd.int .i64) _ 3 ?hg (N:=35) ?hd (xs:=[n]) (inner:=[.int .i64 n]) (ok:=fun _=>True) (nE:=fun _=>True) ?hr ?hp (fun _ hk=>hk) trivial (Below.refl _ _) (Nat.le_refl _) (by simp) ?_;(case hd=>rfl);(case hg=>rfl);(case hr=>first|(go_simp;done)|(go_simp;rfl));(case hp=>exact Zk n);intro u w8 ho2 hb2 sS gV;clear sS gV;have hsz:=HB.out.size;replace HB:=eH HB hb2;refine hK.out _ _ (fG (aD CJ.out.hs HB.out)) (fun hHeld=>?_);clear hK K;refine dn (a':=?_) ?_ ?_;rotate_left
      ·show Act.put _ (some 35) _=_
       simp only [bS,Act.put,sL,ay,aA]
       rfl
      refine gZ (i:=2) (N:=some 33) (bA 8 31) rfl rfl tX (by decide) (fun K hK=>?_);refine gK Tryz.func225 tX rfl #[.slice A now.length c] (by rfl) rfl rfl (by (try simp only [List.map_toArray,List.map_cons,List.map_nil]);first|done|rfl) ?_;refine (slices_Clone_int.calls A c now now _ (Kd.ak HC2.out HB.out) hc HCf.out).mono ?_;rintro e w7 ⟨v,rfl,ho,hb⟩;refine ⟨_,rfl,?_⟩;have hsy:=HB.out.size;replace HB:=eH HB hb;refine hK.out _ _ (fG (aD CJ.out.hs HB.out)) (fun hHeld=>?_);clear hK K;refine dn (a':=?_) ?_ ?_;rotate_left
      ·show Act.put _ (some 33) _=_
       simp only [bS,Act.put,sL,ay,aA]
       rfl
      exact dn (by simp only [bS,Act.put,sL]) (Zl (v,u) _ ⟨hHeld,Kd.dZ ho hsy,Kd.dZ (Kd.jS ho2 hb) hsz,fun k TM TN=>absurd (Kd.vR ho2 k TN) (by have:=Kd.iF ho k TM;omega),HB.out⟩)
    ·rintro ⟨v,u⟩ w7 ⟨hc3,hov,hou,hne,hbw⟩
     have Zm:=aj.mk hbw;obtain ⟨A2,c2',rfl,hl2,hC2⟩:=Kd.fE hou;refine dn (a':=?_) ?_ ?_;rotate_left
     ·show bS _ _=_
      simp only [bS,Act.put,sL,ay,aA]
      rfl
     refine gZ (i:=5) (N:=some 36) (bA 8 63) rfl rfl tX (by decide) (fun K hK=>?_);refine Kd.oh (Kd.int .i64) (Rr:=(Kd.int .i64).K w7) (w0:=wr) wr.heap.size (by rfl) (.tmp 33) (.tmp 35) 47 3 (.int .i64 0) 8 rfl Tryz.underlying47 info3 rfl (by decide) (by omega) v now [n] A2 [n].length c2' (fun _=>True) (fun _=>False) rfl rfl hov hC2 (fun _ _ h=>h) (fun _ h=>h.elim) (fun _ _=>trivial) hbw hbw.size (by simp;omega) ?_;intro v2 w8 ho hb hg hat;clear HB Zm;have HB:=aj.mk hb;refine hK.out _ _ (fG (aD CJ.out.hs HB.out)) (fun hHeld=>?_);clear hK K;refine dn (a':=?_) ?_ ?_;rotate_left
     ·show Act.put _ (some 36) _=_
      simp only [bS,Act.put,sL,ay,aA]
      rfl
     refine gZ (i:=6) (N:=some 37) (bA 8 127) rfl rfl tX (by decide) (fun K hK=>?_);obtain ⟨A3,c3',rfl,hl3,hC3⟩:=Kd.fE ho
     have hA3:∀ ad,A3=some ad->¬ Wr ad.block:=fun ad e hw=>by
      subst e;have q1:=Kd.iF ho ad.block rfl;have q2:=h5 _ hw;have q3:=CJ.out.hB
      omega
     have qjr:=CJ.out.kp (mH.below HB.out) h1 h2 h3 h4;refine Oi 224 #[.slice A3 (now++[n]).length c3',.pointer (some ⟨gl,0,none⟩),.pointer (some ⟨gy,0,none⟩),.pointer (some ⟨gs,0,none⟩)] (by rfl) rfl tG ?_
     refine (HIH.out (now++[n]) A3 c3' (pre++ys) w8 (by simp;omega) (fun zs hz=>by
      rw [List.append_assoc];refine HP.out _ ?_;rw [HT.out];refine List.mem_flatMap.2 ⟨n,Po hn0 hle,List.mem_map.2 ⟨zs,?_,rfl⟩⟩
      simpa using hz) (by
      have q1:=congrArg List.length HY.out;rw [zQ hle] at q1;simp only [List.length_append,List.length_map,List.flatMap_cons] at q1 ⊢;simp only [List.length_cons,List.length_nil,Nat.zero_add]
      omega) (hJ _ _ _ none HJ2.out (MZ HB.out) (fun _ e=>by cases e)) qjr hC3 hl3 hA3).mono ?_
     rintro e w9 ⟨rfl,zs,hz,hj3,hk3⟩;refine ⟨_,rfl,?_⟩;have HK9:=aj.mk ((mH.below (Wr:=Wr) HB.out).trans hk3);refine hK.out _ _ (fG (CJ.out.kp HK9.out h1 h2 h3 h4).hs) (fun hHeld=>?_);clear hK K;refine dn (a':=?_) ?_ ?_;rotate_left
     ·show Act.put _ (some 37) _=_
      simp only [bS,Act.put,sL,ay,aA]
      rfl
     refine qB1 7 38 (bA 8 255) ?_;refine lK tX ?_;have HZ:=aj.mk hz;have HJ9:=aj.mk hj3;clear hz hj3 hk3 HB hb hg hat hHeld c1 c2 c3 hx0 hx1
     gi_wp2
     go_roundw
     case rel=>exact ⟨n+1,ys++zs,by go_num,by omega,⟨by omega⟩,⟨by
      rw [← HY.out,zQ hle,List.map_append,HZ.out]
      simp [List.flatMap_cons,Function.comp_def]⟩,⟨by rw [← List.append_assoc];exact HJ9.out⟩,⟨HK.out.trans HK9.out⟩⟩
     case measure=>simp [intOf];omega
   ·gi_wp2
    go_ret
    exact ⟨rfl,ys,by
     have:=HY.out;rw [Pn (by omega)] at this
     simpa using this,HJ2.out,HK.out⟩
theorem zR (gl:Nat) (Al:Option Addr) (cl:Nat) (ls:List bQ) (Wr:Nat->Prop) (w:World) (hls:ls.length<=1000) (hin:∀ s∈ls,-1000000<=s.f0∧s.f1<=1000000)
  (hl:w.heap[gl]?=some (.cells #[.slice Al ls.length cl] 28 (0,0))) (hr:Kd.C jW w Al ls.length ls) (h1:¬ Wr gl) (h4:∀ ad,Al=some ad->¬ Wr ad.block) (h5:∀ k,Wr k->k<w.heap.size) :
  qbe Tryz.prog 223 #[.pointer (some ⟨gl,0,none⟩)] o8.enc (fun x W=>x.Rd W∧x.xs∈lD ls∧∀ ad,x.A=some ad->¬ Wr ad.block) (mH Wr) (fun ys=>ys.map o8.xs=lD ls) (lD ls).length w:=by
 intro l J W hb hJ hY h0;have HB:=aj.mk (Below.refl W.heap.size W);have HY:=aj.mk hY;have HJ:=aj.mk hJ;have H0:=aj.mk h0;have HL:=aj.mk (aD hl hb);have HR:=aj.mk (Kd.ak hr hb);have H5:=aj.mk (fun k (hk:Wr k)=>Nat.lt_of_lt_of_le (h5 k hk) hb.size);clear hY hJ h0 hl hr h5 hb;refine callsIn_wide.2 ?_
 go_enter Tryz.func223,Tryz.ntmps223
 go_wp2_with (first|((with_reducible refine au (N:=2) rfl ?_);refine jg rfl rfl (cs:=#[.func (.yield l) #[] #[]]) (t:=247) tG HB ?_;clear HB;intro gy w3 Jd GY HB hx hz;replace HL:=dQ HL hx;clear hx hz)|((with_reducible refine au (N:=3) rfl ?_);refine jg rfl rfl (cs:=#[Value.nilFunc]) (t:=247) tG HB ?_;clear HB;intro gs w4 Ke GS HB hx hz;have D:=aj.mk (show gy≠gs∧gl≠gs from ⟨fun e=>by have:=bZ Jd.out;omega,fun e=>by have:=bZ HL.out;omega⟩);replace HL:=dQ HL hx;replace Jd:=dQ Jd hx;clear hx hz)|((with_reducible refine aY (t:=247) (p:=3) rfl ?_);refine iP rfl rfl rfl Ke GS HB (.func (.func 224) #[] #[.pointer (some ⟨gl,0,none⟩),.pointer (some ⟨gy,0,none⟩),.pointer (some ⟨gs,0,none⟩)]) [.func (.func 224) #[] #[.pointer (some ⟨gl,0,none⟩),.pointer (some ⟨gy,0,none⟩),.pointer (some ⟨gs,0,none⟩)]] #[.func (.func 224) #[] #[.pointer (some ⟨gl,0,none⟩),.pointer (some ⟨gy,0,none⟩),.pointer (some ⟨gs,0,none⟩)]] rfl rfl rfl tX (Nat.le_refl _) (by simp [Value.oneCell']) rfl ?_;clear HB Ke;intro w5 Ke HB hx;replace HL:=gM HL hx D.out.2;replace Jd:=gM Jd hx D.out.1;have cs:=fG Ke.out;clear hx))
 refine (Ib gl gy gs l Al cl ls Wr J W.heap.size hls hin HJ.out h1 (fun h=>by have:=H5.out _ h;have:=GY.out;omega) (fun h=>by have:=H5.out _ h;have:=GS.out;omega) h4 H5.out (fun xs=>xs∈lD ls) (lD ls).length (fun pre x W1 hj hr hp hq hn=>HY.out pre x W1 hj ⟨hr,hp,hq⟩ hn) ls.length [] none 0 [] w5 (by simp) (fun zs hz=>by simpa using hz) (by simp) (HJ.out _ _ _ none H0.out (MZ HB.out) (fun _ e=>by cases e)) ⟨HL.out,Jd.out,Ke.out,Kd.ak HR.out HB.out,HB.out.size⟩ (Kd.Oh _ _) (Nat.zero_le _) (fun _ e=>by cases e)).mono ?_;rintro e w6 ⟨rfl,ys,hy,hj,hk⟩;have HZ:=aj.mk hy;have HJ6:=aj.mk hj;clear hy hj hk
 go_wp2_with fail
 go_end0
 exact ⟨⟨_,rfl⟩,ys,by rw [HZ.out];simp,HJ6.out⟩
theorem Cc (gl:Nat) (Al:Option Addr) (cl:Nat) (ls:List bQ) (Wr:Nat->Prop) (w:World) (hls:ls.length<=1000) (hin:∀ s∈ls,-1000000<=s.f0∧s.f1<=1000000)
  (hl:w.heap[gl]?=some (.cells #[.slice Al ls.length cl] 28 (0,0))) (hr:Kd.C jW w Al ls.length ls) (h1:¬ Wr gl) (h4:∀ ad,Al=some ad->¬ Wr ad.block) (h5:∀ k,Wr k->k<w.heap.size) :
  qbe Tryz.prog 223 #[.pointer (some ⟨gl,0,none⟩)] o8.enc (fun x W=>x.Rd W∧x.xs∈lD ls) (mH Wr) (fun ys=>ys.map o8.xs=lD ls) (lD ls).length w :=
 fun l J W hb hJ hY h0=>zR gl Al cl ls Wr w hls hin hl hr h1 h4 h5 l J W hb hJ (fun pre x W1 hj hrd hn=>hY pre x W1 hj ⟨hrd.1,hrd.2.1⟩ hn) h0
theorem uP (A:Option Addr) (c:Nat) (ls:List bQ) (w:World) :
  Calls Tryz.prog 200 #[.slice A ls.length c] w fun e w'=>∃ g,e=.returned (.func (.func 223) #[] #[.pointer (some ⟨g,0,none⟩)])∧w.heap.size<=g∧w'.heap[g]?=some (.cells #[.slice A ls.length c] 28 (0,0))∧Below w.heap.size w w':=by
 have HB:=aj.mk (Below.refl w.heap.size w)
 go_enter Tryz.func200,Tryz.ntmps200
 go_wp2_with (first|((with_reducible refine au (N:=1) rfl ?_);refine jR rfl rfl (cs:=#[.slice A ls.length c]) (t:=28) tG HB ?_;clear HB;intro g w3 HG GG HB hx;clear hx))
 go_ret
 exact ⟨g,rfl,GG.out,HG.out,HB.out⟩
end Go.Proofs.YtnpfbjnjdngkhaaGreatDoor.P
namespace Go.Proofs.YtnpfbjnjdngkhaaGreatDoor.P
open Go.RowKit Go.Proofs.YtnpfbjnjdngkhaaGreatDoorW.aQ Go.Proofs.YtnpfbjnjdngkhaaGreatDoorW.bO Go.Proofs.YtnpfbjnjdngkhaaGreatDoorW.bT
attribute [local go_sem] eP eT fU fV dS dU eU eX
def ownB (l:List bB) (d:Int):List bB:=l.filter fun b=>b.f0 == d
theorem TP (gd:Nat) (d:Int) (x:bB) (w:World) (hb:w.heap[gd]?=some (.cells #[.int .i64 d] 3 (0,0))) :
  Calls Tryz.prog 237 #[.agg #[.int .i64 x.f0,.int .i64 x.f1,.int .i64 x.f2.f0,.int .i64 x.f2.f1],.pointer (some ⟨gd,0,none⟩)] w fun e w'=>e=.returned (.bool (x.f0 != d))∧Below w.heap.size w w':=by
 have HB:=aj.mk (Below.refl w.heap.size w);have HK:=aj.mk hb;clear hb;have hu:=Tryz.underlying154
 go_enter Tryz.func237,Tryz.ntmps237
 go_wp2_with (first|((with_reducible refine au (N:=2) rfl ?_);refine jR rfl rfl (cs:=#[.int .i64 x.f0,.int .i64 x.f1,.int .i64 x.f2.f0,.int .i64 x.f2.f1]) (t:=154) tG HB ?_;clear HB;intro gx w3 HX GX HB hx;replace HK:=dQ HK hx;obtain ⟨c0,c1,c2,c3⟩:=Bl HX.out;have c4:=fG HK.out;clear hx))
 go_ret
 exact ⟨rfl,HB.out⟩
theorem WU (w:World):(zeroValue 154).run Tryz.prog w=.ok (.agg #[.int .i64 0,.int .i64 0,.int .i64 0,.int .i64 0]) w:=by
 obtain ⟨i,hi,hz⟩:=Option.map_eq_some_iff.1 C8;simp only [Prod.mk.injEq] at hz;simp [zeroValue,typeInfo,hi,hz.1]
theorem qbg {P:Program} {ρ:Operand->Value} {xs:Array Operand} {vs:Array Value} {ty:TypeId} {dst:Option Tmp} {pos:String} {after:Array Edge} {guard:Option (Nat × Bool)} {w w':World} {v:Value} (hx:xs.map ρ=vs) (h:(Builtin.clear_ #[25] ty vs).run P w=.ok v w') :
  (execOp ρ { dst,op:=.call { callee:=.builtin .clear,args:=xs,argTypes:=#[25] },type:=ty,pos,after,guard }).run P w=.ok (.value v) w':=by
 rw [BigFrame.execOp_builtin,BigFrame.builtin_clear,hx,Sem.run_bind,h]
 rfl
theorem Rj {P:Program} (W:World) (t e ty:TypeId) (z:Value) (ht:P.underlying t=some (.slice e)) (hz:∀ w,(zeroValue e).run P w=.ok z w) (hz0:0<z.cells.size) (h1:∀ q∈z.cells.toList,q.oneCell'=true) (g off n c:Nat) (cur:Array Value)
  (hh:W.heap[g]?=some (.cells cur e (0,0))) (hfit:off+n*z.cells.size<=cur.size) :
  ∃ seg:List Value,seg.length=n*z.cells.size∧(Builtin.clear_ #[t] ty #[.slice (some ⟨g,off,none⟩) n c]).run P W=.ok (.tuple #[]) (W.setCells g off seg):=by
 refine ⟨(Builtin.zeroCells z.cells n).toList,by rw [Array.length_toList,size_zeroCells],?_⟩
 have hl:(Builtin.zeroCells z.cells n).toList.length=n*z.cells.size:=by rw [Array.length_toList,size_zeroCells]
 have hst:=run_storeCells_cells (P:=P) g off (Builtin.zeroCells z.cells n).toList 0 W (fun j hj=>by rw [cell_of_row W g _ cur e (0,0) hh];simp;omega) (fun j _=>pW hh _) (fun v hv=>by
  simp only [Builtin.zeroCells,Array.toList_map,List.mem_map] at hv;obtain ⟨q,_,rfl⟩:=hv;have hm:q%z.cells.size<z.cells.size:=Nat.mod_lt _ hz0;rw [getElem!_pos z.cells _ hm]
  exact h1 _ (Array.mem_toList_iff.2 (Array.getElem_mem hm)))
 simp only [Nat.add_zero] at hst
 rcases n with _|m
 ·simp [Builtin.clear_,run_underlying ht]
  simp [Builtin.zeroCells,World.setCells]
 ·simp [Builtin.clear_,run_underlying ht,hz,hst]
theorem Rk {W:World} {base g m c off:Nat} {ok:Nat->Prop} {ys:List bB} {seg:List Value} (h:Kd.R eD 154 W base ok (.slice (some ⟨g,0,none⟩) m c) ys) (hoff:ys.length*4<=off) (hfit:off+seg.length<=c*4) :
  Kd.R eD 154 (W.setCells g off seg) base ok (.slice (some ⟨g,0,none⟩) m c) ys∧W.grownBy (W.setCells g off seg) (some g):=by
 obtain ⟨hok,inner,⟨hil,hown⟩,hr⟩:=h;obtain ⟨h,_⟩|⟨g',cap,cur,he,hb,hh,hnc,hcm,hcs,hci⟩:=hown
 ·cases h
 cases he
 have hsz:eD.sz=4:=rfl;rw [hsz] at hcs hci hil hr;obtain ⟨cur',h3,h4,h5⟩:=lg seg off W cur hh (by rw [hcs];exact hfit);obtain ⟨s1,s2,s3,s4⟩:=jV g seg off W;refine ⟨⟨hok,inner,⟨by rw [hsz];exact hil,.inr ⟨g,c,cur',rfl,hb,h3,hnc,hcm,by rw [h4,hsz];exact hcs,?_⟩⟩,hr.uV fun p cs hp=>?_⟩,⟨s1,s2,s3,by rw [s4];exact Nat.le_refl _,fun k _ hk=>jT _ _ k (fun he=>hk (by rw [he]))⟩⟩
 ·rw [hsz,h5,List.append_assoc,List.take_append_of_le_length (by rw [List.length_take,Array.length_toList (xs:=cur),hcs];omega),List.take_take,Nat.min_eq_left (by omega)]
  exact hci
 ·obtain rfl:=LX hp
  exact mK _ _ _ _
theorem FZ {p:bB->Bool} {l:List bB} (h:om p l ≠ -1):om p l<l.length∧0<=om p l∧(∀ x,l[(om p l).toNat]?=some x->p x=true)∧∀ j x,j<(om p l).toNat->l[j]?=some x->p x=false:=by
 unfold om at h ⊢
 cases hf:l.findIdx? p with
 | none=>rw [hf] at h;simp at h
 | some i =>
  rw [List.findIdx?_eq_some_iff_getElem] at hf;obtain ⟨hi,hp,hn⟩:=hf;refine ⟨by simpa using hi,by simp,fun x hx=>?_,fun j x hj hx=>?_⟩
  ·simp only [Int.toNat_natCast,List.getElem?_eq_getElem hi,Option.some.injEq] at hx
   exact hx ▸ hp
  ·simp only [Int.toNat_natCast] at hj
   have:=hn j hj;rw [List.getElem?_eq_getElem (by omega),Option.some.injEq] at hx;subst hx
   simpa using this
theorem TQ {p:bB->Bool} {l:List bB} (h:om p l = -1):∀ x∈l,p x=false:=by
 unfold om at h
 cases hf:l.findIdx? p with
 | none=>exact fun x hx=>by simpa using List.findIdx?_eq_none_iff.1 hf x hx
 | some i=>rw [hf] at h;simp at h
theorem M0 {l:List bB} {d:Int} (h:om (fun x:bB=>x.f0 != d) l ≠ -1):ownB (l.take (om (fun x:bB=>x.f0 != d) l+1).toNat) d=l.take (om (fun x:bB=>x.f0 != d) l).toNat:=by
 obtain ⟨h1,h2,h3,h4⟩:=FZ h
 generalize om (fun x:bB=>x.f0 != d) l=i at *
 rw [show (i+1).toNat=i.toNat+1 by omega,List.take_add_one,ownB,List.filter_append];rw [List.getElem?_eq_getElem (by omega)] at h3 ⊢;have:=h3 _ rfl;rw [List.filter_eq_self.2,Option.toList_some,List.filter_cons_of_neg (by simpa using this)]
 ·simp
 ·intro x hx
  obtain ⟨j,hj,rfl⟩:=List.mem_iff_getElem.1 hx;rw [List.length_take] at hj;have:=h4 j _ (by omega) (List.getElem?_eq_getElem (by omega));rw [List.getElem_take]
  simpa using this
theorem Pq {zs l:List bB} {j:Int} (h0:0<=j) (h2:zs.drop j.toNat=l.drop j.toNat) (hj:j<l.length):l[j.toNat]?=some (aC zs j):=by
 have h:=congrArg (fun l=>l[0]?) h2;simp only [List.getElem?_drop,Nat.add_zero] at h;rw [aC,List.getD_eq_getElem?_getD,h,List.getElem?_eq_getElem (by omega)]
 rfl
theorem F3 {l:List bB} {d:Int} {j:Int} {x:bB} (h0:0<=j) (h:l[j.toNat]?=some x):ownB (l.take (j+1).toNat) d=ownB (l.take j.toNat) d++if x.f0=d then [x] else []:=by
 rw [show (j+1).toNat=j.toNat+1 by omega,List.take_add_one,ownB,List.filter_append,h]
 congr 1
 by_cases e:x.f0=d
 ·rw [if_pos e];simp [e]
 ·rw [if_neg e];simp [e]
theorem F4 {zs l:List bB} {j:Int} (h0:0<=j) (h:zs.drop j.toNat=l.drop j.toNat):zs.drop (j+1).toNat=l.drop (j+1).toNat:=by
 rw [show (j+1).toNat=j.toNat+1 by omega,← List.drop_drop,← List.drop_drop,h]
theorem TS {zs:List bB} {i:Int} {x:bB} (h0:0<=i) (hi:i<zs.length):(zs.set i.toNat x).take (i+1).toNat=zs.take i.toNat++[x]:=by
 rw [show (i+1).toNat=i.toNat+1 by omega,List.take_add_one,List.take_set,List.set_eq_of_length_le (by rw [List.length_take];omega),List.getElem?_set_self (by omega)]
 rfl
theorem set_drop {zs:List bB} {i j:Int} {x:bB} (h0:0<=i) (hi:i<j):(zs.set i.toNat x).drop (j+1).toNat=zs.drop (j+1).toNat:=by
 rw [List.drop_set_of_lt (by omega)]
theorem WV (gd:Nat) (d:Int) (A:Option Addr) (c:Nat) (l:List bB) (w0 w:World) (hb:w.heap[gd]?=some (.cells #[.int .i64 d] 3 (0,0))) (ho:Kd.R eD 154 w w0.heap.size (fun _=>True) (.slice A l.length c) l) (hB:Below w0.heap.size w0 w) (hge:w0.heap.size<=gd) (hl:l.length<=1000000000) :
  Calls Tryz.prog 236 #[.slice A l.length c,.func (.func 237) #[] #[.pointer (some ⟨gd,0,none⟩)]] w fun e w'=>∃ v:Value,e=.returned v∧Kd.R eD 154 w' w0.heap.size (fun _=>True) v (ownB l d)∧Below w0.heap.size w0 w':=by
 obtain ⟨p,hp⟩:∃ p:bB->Bool,p=fun x=>x.f0 != d:=⟨_,rfl⟩
 have HC:=aj.mk (Tc p 237 #[.pointer (some ⟨gd,0,none⟩)] A c l w (Kd.eB ho).2.2 (enters_of Tryz.func237 tX rfl) (fun x _=>⟨fun W cs hbW hK=>by
  obtain rfl:=rZ hK;rw [hp]
  exact TP gd d x W (aD hb hbW)⟩))
 have HP:=aj.mk hp;have HO:=aj.mk ho;have HK:=aj.mk hb;have HB:=aj.mk hB;have HL:=aj.mk hl;obtain ⟨i,hi⟩:∃ i,i=om p l:=⟨_,rfl⟩;have HI:=aj.mk hi;rw [← hi] at HC;clear ho hb hB hl hp hi
 by_cases hneg:i = -1
 ·have hq:(i == -1)=true:=by simp [hneg]
  have HN:=aj.mk (show ownB l d=l from List.filter_eq_self.2 fun x hx=>by
   have:=TQ (by rw [← HI.out];exact hneg) x hx;rw [HP.out] at this
   simpa using this)
  clear hneg
  go_enter Tryz.func236,Tryz.ntmps236
  go_wp2_with (go_at_call 208;refine HC.out.mono ?_;rintro e w3 ⟨rfl,hx⟩;replace HK:=dQ HK hx;replace HO:=qN HO hx;replace HB:=eH HB hx;clear hx)
  go_ret
  exact ⟨_,rfl,by rw [HN.out];exact HO.out,HB.out⟩
 ·have hq:(i == -1)=false:=by simpa using hneg
  have HN:=aj.mk hneg;clear hneg
  go_enter Tryz.func236,Tryz.ntmps236
  go_wp2_with (go_at_call 208;refine HC.out.mono ?_;rintro e w3 ⟨rfl,hx⟩;replace HK:=dQ HK hx;replace HO:=qN HO hx;replace HB:=eH HB hx;clear hx)
  have hi1 : -1<=i:=by rw [HI.out];exact (yV _ _).1
  have hi2:i<l.length:=by rw [HI.out];exact (FZ (by rw [← HI.out];exact HN.out)).1
  have hi0:0<=i:=by have:=HN.out;omega
  obtain ⟨g,cap,hv,hgb,_,cells,hcells⟩:=Kd.qaf HO.out (by omega)
  cases hv
  have HG:=aj.mk hgb
  have HGD:=aj.mk (show gd≠g from fun e=>by
   have:=HK.out;rw [e,hcells] at this
   cases this)
  clear hcells hgb;have hw:=aj.mk (show wrap64 (i+1)=i+1 by have:=HL.out;unfold wrap64;omega)
  go_loopw [5,6,7] (fun v5 v6 _ W=>∃ (i j:Int) (zs:List bB),0<=i∧i<j∧j<=l.length∧v5=.int .i64 i∧v6=.int .i64 j∧aj (zs.length=l.length∧zs.take i.toNat=ownB (l.take j.toNat) d∧zs.drop j.toNat=l.drop j.toNat)∧aj (Kd.R eD 154 W w0.heap.size (fun _=>True) (.slice (some ⟨g,0,none⟩) l.length c) zs)∧aj (W.heap[gd]?=some (.cells #[.int .i64 d] 3 (0,0)))∧aj (Below w0.heap.size w0 W)) (fun _ v6 _ _=>l.length - (intOf v6).toNat)
  case atStart=>exact ⟨i,wrap64 (i+1),l,hi0,by rw [hw.out];omega,by rw [hw.out];omega,rfl,rfl,⟨rfl,by rw [hw.out,HI.out,HP.out];exact (M0 (by rw [← HP.out,← HI.out];exact HN.out)).symm,rfl⟩,HO,HK,HB⟩
  case round =>
   clear HO HK HB;obtain ⟨i2,j,zs,h0,h1,h2,rfl,rfl,HZ,HO,HK,HB⟩:=hrel
   by_cases hlt:j<l.length
   ·obtain ⟨ad,e,hx0,hx1,hx2,hx3⟩:=lC (Kd.eB HO.out).2.2 j (by omega) (by have:=HZ.out.1;omega)
    cases e
    simp only [Addr.add_lit,Nat.zero_add] at hx0 hx1 hx2 hx3;have hu:=Tryz.underlying154;have hlm:=HL.out
    go_wp2_with (first|((with_reducible refine au (N:=7) rfl ?_);refine jg rfl rfl (cs:=#[.int .i64 0,.int .i64 0,.int .i64 0,.int .i64 0]) (t:=154) tG HB ?_;clear HB;intro gx wx HX GX HB hx hz;have DX:=aj.mk (show gd≠gx from fun e=>by have:=bZ HK.out;omega);have MX:=wQ HO hz;replace HK:=dQ HK hx;replace HO:=qN HO hx;clear hx hz)|((with_reducible refine aY (t:=154) (p:=7) rfl ?_);refine iP rfl rfl rfl HX GX HB (.agg #[.int .i64 (aC zs j).f0,.int .i64 (aC zs j).f1,.int .i64 (aC zs j).f2.f0,.int .i64 (aC zs j).f2.f1]) [.int .i64 (aC zs j).f0,.int .i64 (aC zs j).f1,.int .i64 (aC zs j).f2.f0,.int .i64 (aC zs j).f2.f1] #[.int .i64 (aC zs j).f0,.int .i64 (aC zs j).f1,.int .i64 (aC zs j).f2.f0,.int .i64 (aC zs j).f2.f1] rfl rfl rfl tX (Nat.le_refl _) (by simp [Value.oneCell']) rfl ?_;clear HB HX;intro wz HX HB hx;replace HK:=gM HK hx DX.out;replace HO:=Et HO rfl hx MX.out;obtain ⟨d0,d1,d2,d3⟩:=Bl HX.out;clear hx))
    refine (TP gd d (aC zs j) _ HK.out).mono ?_;rintro e w5 ⟨rfl,hx⟩;replace HK:=dQ HK hx;replace HO:=qN HO hx;replace HB:=eH HB hx;replace HX:=dQ HX hx;clear hx hx0 hx1 hx2 hx3 d0 d1 d2 d3;obtain ⟨d0,d1,d2,d3⟩:=Bl HX.out
    cases hp:(aC zs j).f0 != d with
    | false =>
     have HPF:=aj.mk (show (aC zs j).f0=d by simpa using hp);obtain ⟨ad2,cc,e2,hlen,hK2,hc0⟩:=Kd.zq (Kd.eB HO.out).2.2 z154 i2 h0 (by have:=HZ.out.1;omega)
     cases e2
     obtain rfl:=rZ hK2;have HCC:=aj.mk (show ∀ (q:Nat) (u:Value),_->w5.cell? ⟨g,i2.toNat*eD.sz+q,none⟩=some u from fun q u hu=>by have:=hc0 q u hu;rwa [Addr.add_lit,Nat.zero_add] at this);clear hp hlen hK2 hc0
     have hi2:i2<l.length:=by omega
     go_wp2_with ((with_reducible refine aY (t:=154) (p:=33) rfl ?_);refine Kd.VZ eD (w0:=w0) w0.heap.size rfl rfl 154 (.tmp 33) (.tmp 32) rfl 154 (o':=i2.toNat*4) i2 0 zs (aC zs j) (.agg #[.int .i64 (aC zs j).f0,.int .i64 (aC zs j).f1,.int .i64 (aC zs j).f2.f0,.int .i64 (aC zs j).f2.f1]) [.int .i64 (aC zs j).f0,.int .i64 (aC zs j).f1,.int .i64 (aC zs j).f2.f0,.int .i64 (aC zs j).f2.f1] _ (fun _=>True) (fun _=>False) rfl rfl rfl rfl tX (by simp [Value.oneCell']) HO.out h0 hi2 rfl HCC.out (Nat.le_refl _) (mK _ _ _ _) (fun _ h=>h.elim) HB.out ?_;clear HB HO HCC;intro w6 ho hb hx;replace HK:=gM HK hx HGD.out;have HO:=aj.mk ho;have HB:=aj.mk hb;clear ho hb hx)
     go_roundw
     case rel=>exact ⟨i2+1,j+1,zs.set i2.toNat (aC zs j),by omega,by omega,by omega,by go_num,by go_num,⟨by simp;exact HZ.out.1,by rw [TS h0 (by have:=HZ.out.1;omega),HZ.out.2.1,F3 (by omega) (Pq (by omega) HZ.out.2.2 hlt),if_pos HPF.out],by rw [set_drop h0 h1];exact F4 (by omega) HZ.out.2.2⟩,HO,HK,HB⟩
     case measure=>simp [intOf];omega
    | true =>
     have HPF:=aj.mk hp;clear hp
     go_wp2_with fail
     go_roundw
     case rel=>exact ⟨i2,j+1,zs,h0,by omega,by omega,rfl,by go_num,⟨HZ.out.1,by rw [HZ.out.2.1,F3 (by omega) (Pq (by omega) HZ.out.2.2 hlt),if_neg (by have:=HPF.out;simpa using this),List.append_nil],F4 (by omega) HZ.out.2.2⟩,HO,HK,HB⟩
     case measure=>simp [intOf];omega
   ·have hg:¬ j<l.length:=hlt
    have hcc:=(Kd.eB HO.out).2.1;obtain ⟨_,inner,⟨_,hown⟩,_⟩:=HO.out;obtain ⟨hbad,_⟩|⟨g',cap',cur,he,_,hh,_,_,hcs,_⟩:=hown
    ·cases hbad
    injection he with e1 e2 e3
    clear e2
    injection e1 with e1
    injection e1 with e1 e4 e5
    clear e4 e5;subst e1;subst e3;have hsz:eD.sz=4:=rfl;rw [hsz] at hcs
    have hj:j=l.length:=by omega
    obtain ⟨seg,hs1,hs2⟩:=Rj (P:=Tryz.prog) wr 25 154 0 (.agg #[.int .i64 0,.int .i64 0,.int .i64 0,.int .i64 0]) Tryz.underlying25 WU (by decide) (by simp [Value.oneCell',Value.cells]) g (i2.toNat*4) (l.length - i2.toNat) (c - i2.toNat) cur hh (by rw [hcs];show _+_*4<=_;omega);obtain ⟨hR2,hG2⟩:=Rk (off:=i2.toNat*4) (seg:=seg) (Kd.qag HO.out (m:=i2.toNat) (by have:=HZ.out.1;omega)) (by rw [List.length_take];omega) (by rw [hs1];show _+_*4<=_;omega);have HR2:=aj.mk hR2;have HG2:=aj.mk hG2;have HS2:=aj.mk hs2;have HT:=aj.mk (show zs.take i2.toNat=ownB l d by rw [HZ.out.2.1,List.take_of_length_le (by omega)]);clear hcs hh hs2 hR2 hG2 hs1 hsz
    go_wp2_with ((with_reducible refine eY (b:=.clear) (xs:=#[.tmp 38]) rfl ?_);refine Kd.rY rfl (v:=.tuple #[]) (w1:=wr.setCells g (i2.toNat*4) seg) ?hr ?_;(case hr=>exact qbg (by (try simp only [List.map_toArray,List.map_cons,List.map_nil]);first|done|rfl) HS2.out))
    go_ret
    exact ⟨_,rfl,by rw [← HT.out];exact HR2.out,stepG HB HG2.out HG |>.out⟩
theorem Kg (A:Option Addr) (c:Nat) (l:List bB) (d:Int) (w:World) (hr:Kd.C eD w A l.length l) (hc:l.length<=c) (hl:l.length<=1000000000) :
  Calls Tryz.prog 226 #[.slice A l.length c,.int .i64 d] w fun e w'=>∃ v:Value,e=.returned v∧Kd.R eD 154 w' w.heap.size (fun _=>True) v (ownB l d)∧Below w.heap.size w w':=by
 have HR:=aj.mk hr;have HL:=aj.mk hl;have HB:=aj.mk (Below.refl w.heap.size w);have HF:=aj.mk (show eF.f l=some l by unfold eF.f;rw [if_pos hl]);clear hr hl
 go_enter Tryz.func226,Tryz.ntmps226
 go_wp2_with (first|((with_reducible refine au (N:=3) rfl ?_);refine jR rfl rfl (cs:=#[.int .i64 d]) (t:=3) tG HB ?_;clear HB;intro gd w3 HD GD HB hx;clear hx)|(go_at_call 124;refine (eF.calls _ _ _ _ _ (Kd.ak HR.out HB.out) hc HF.out).mono ?_;rintro e w4 ⟨v,rfl,ho,hx⟩;have hsz:=HB.out.size;obtain ⟨A1,c1,rfl,hl1,_⟩:=Kd.fE ho;have HO:=aj.mk (Kd.dZ ho hsz);replace HD:=dQ HD hx;replace HB:=eH HB hx;clear hx ho hsz)|(go_at_call 236;refine (WV gd d A1 c1 l w _ HD.out HO.out HB.out GD.out HL.out).mono ?_;rintro e w5 ⟨v,rfl,ho,hb⟩;have HO2:=aj.mk ho;have HB2:=aj.mk hb;clear ho hb))
 go_ret
 exact ⟨_,rfl,HO2.out,HB2.out⟩
theorem Br {x:Int} (h0 : -1000000000000000<=x) (h1:x<=1000000000000000):wrap64 x=x:=by unfold wrap64;omega
theorem sZ {l:List Int} {i:Nat} (h:i<l.length):rd l (i:Int)=l[i]:=by rw [rd,Int.toNat_natCast,List.getD_eq_getElem?_getD,List.getElem?_eq_getElem h];rfl
theorem F5 {l:List bB} {i:Nat} (h:i<l.length):aC l (i:Int)=l[i]:=by rw [aC,Int.toNat_natCast,List.getD_eq_getElem?_getD,List.getElem?_eq_getElem h];rfl
theorem Kh {l:List bQ} {i:Nat} (h:i<l.length):bH l (i:Int)=l[i]:=by rw [bH,Int.toNat_natCast,List.getD_eq_getElem?_getD,List.getElem?_eq_getElem h];rfl
theorem TT (l:List bB) (hl:l.length<=1000000):∀ (m k i:Nat) (acc:List bQ),i+m=l.length->m<k->acc.length=i->fT.l0 k acc l (l.length:Int) (i:Int)=some (acc++(l.drop i).map bB.f2):=by
 intro m
 induction m with
 | zero =>
  intro k i acc hi hk ha;obtain ⟨k,rfl⟩:∃ k',k=k'+1:=⟨k - 1,by omega⟩;rw [fT.l0,if_neg (by omega),List.drop_eq_nil_of_le (by omega)];simp
 | succ m ih =>
  intro k i acc hi hk ha;obtain ⟨k,rfl⟩:∃ k',k=k'+1:=⟨k - 1,by omega⟩;rw [fT.l0,if_pos (by omega),if_pos (by omega),if_pos (by omega)];rw [if_pos (by omega),Br (by omega) (by omega),F5 (by omega)];rw [show ((i:Int)+1)=((i+1:Nat):Int) by omega,ih k (i+1) _ (by omega) (by omega) (by simp;omega),List.drop_eq_getElem_cons (show i<l.length by omega)];simp only [List.append_assoc,List.map_cons,List.singleton_append]
theorem Pt {k:Nat} {l:List bB} (hl:l.length<=1000000) (hk:l.length<k):fT.f k l=some (l.map bB.f2):=by
 have:=TT l hl l.length k 0 [] (by omega) hk rfl
 simpa [fT.f] using this
theorem WW (l:List bQ) (hl:l.length<=1000000):∀ (m k i:Nat) (acc:List Int),i+m=l.length->m<k->acc.length=i->iy.l0 k acc l (l.length:Int) (i:Int)=some (acc++(l.drop i).map bQ.f0):=by
 intro m
 induction m with
 | zero =>
  intro k i acc hi hk ha;obtain ⟨k,rfl⟩:∃ k',k=k'+1:=⟨k - 1,by omega⟩;rw [iy.l0,if_neg (by omega),List.drop_eq_nil_of_le (by omega)];simp
 | succ m ih =>
  intro k i acc hi hk ha;obtain ⟨k,rfl⟩:∃ k',k=k'+1:=⟨k - 1,by omega⟩;rw [iy.l0,if_pos (by omega),if_pos (by omega),if_pos (by omega)];rw [if_pos (by omega),Br (by omega) (by omega),Kh (by omega)];rw [show ((i:Int)+1)=((i+1:Nat):Int) by omega,ih k (i+1) _ (by omega) (by omega) (by simp;omega),List.drop_eq_getElem_cons (show i<l.length by omega)];simp only [List.append_assoc,List.map_cons,List.singleton_append]
theorem TU {k:Nat} {l:List bQ} (hl:l.length<=1000000) (hk:l.length<k):iy.f k l=some (l.map bQ.f0):=by
 have:=WW l hl l.length k 0 [] (by omega) hk rfl
 simpa [iy.f] using this
theorem TV (l:List bQ) (hl:l.length<=1000000):∀ (m k i:Nat) (acc:List Int),i+m=l.length->m<k->acc.length=i->gH.l0 k acc l (l.length:Int) (i:Int)=some (acc++(l.drop i).map bQ.f1):=by
 intro m
 induction m with
 | zero =>
  intro k i acc hi hk ha;obtain ⟨k,rfl⟩:∃ k',k=k'+1:=⟨k - 1,by omega⟩;rw [gH.l0,if_neg (by omega),List.drop_eq_nil_of_le (by omega)];simp
 | succ m ih =>
  intro k i acc hi hk ha;obtain ⟨k,rfl⟩:∃ k',k=k'+1:=⟨k - 1,by omega⟩;rw [gH.l0,if_pos (by omega),if_pos (by omega),if_pos (by omega)];rw [if_pos (by omega),Br (by omega) (by omega),Kh (by omega)];rw [show ((i:Int)+1)=((i+1:Nat):Int) by omega,ih k (i+1) _ (by omega) (by omega) (by simp;omega),List.drop_eq_getElem_cons (show i<l.length by omega)];simp only [List.append_assoc,List.map_cons,List.singleton_append]
theorem Pv {k:Nat} {l:List bQ} (hl:l.length<=1000000) (hk:l.length<k):gH.f k l=some (l.map bQ.f1):=by
 have:=TV l hl l.length k 0 [] (by omega) hk rfl
 simpa [gH.f] using this
theorem qbh (l:List Int) (hl:l.length<=1000000) (hb:∀ x∈l,0<=x∧x<=1000000):∀ (m k i:Nat) (acc:Int),i+m=l.length->m<k->0<=acc->acc<=i*1000000->jN.l0 k acc l (l.length:Int) (i:Int)=some (acc+(l.drop i).sum):=by
 intro m
 induction m with
 | zero =>
  intro k i acc hi hk _ _;obtain ⟨k,rfl⟩:∃ k',k=k'+1:=⟨k - 1,by omega⟩;rw [jN.l0,if_neg (by omega),List.drop_eq_nil_of_le (by omega)];simp
 | succ m ih =>
  intro k i acc hi hk h0 h1;obtain ⟨k,rfl⟩:∃ k',k=k'+1:=⟨k - 1,by omega⟩;have hx:=hb l[i] (List.getElem_mem _);rw [jN.l0,if_pos (by omega),if_pos (by omega),if_pos (by omega),sZ (by omega),Br (x:=acc+l[i]) (by omega) (by omega),Br (x:=(i:Int)+1) (by omega) (by omega)];rw [show ((i:Int)+1)=((i+1:Nat):Int) by omega,ih k (i+1) _ (by omega) (by omega) (by omega) (by omega),List.drop_eq_getElem_cons (show i<l.length by omega),List.sum_cons,Int.add_assoc]
theorem Zn {k:Nat} {l:List Int} (hl:l.length<=1000000) (hb:∀ x∈l,0<=x∧x<=1000000) (hk:l.length<k):jN.f k l=some l.sum:=by
 have:=qbh l hl hb l.length k 0 0 (by omega) hk (by omega) (by omega)
 simpa [jN.f] using this
def yR (d:Int) (takes:List Int):List bB->List Int->List Int
 | b::l,h::hs=>if b.f0=d then (h*rd takes b.f1)::yR d takes l hs else yR d takes l hs
 | _,_=>[]
def tq (full d:Int) (takes:List Int) (l:List bB) (hours:List Int):Int:=min full (yR d takes l hours).sum
theorem Ki {l:List Int} {B:Int} (h:∀ x∈l,0<=x∧x<=B) (hB:0<=B) (i:Int):0<=rd l i∧rd l i<=B:=by
 rw [rd,List.getD_eq_getElem?_getD]
 by_cases hi:i.toNat<l.length
 ·rw [List.getElem?_eq_getElem hi];exact h _ (List.getElem_mem hi)
 ·rw [List.getElem?_eq_none (by omega)];exact ⟨by decide,hB⟩
theorem Ce {d:Int} {takes:List Int} (ht:∀ x∈takes,0<=x∧x<=1000):∀ (l:List bB) (hours:List Int),(∀ x∈hours,0<=x∧x<=1000)->∀ x∈yR d takes l hours,0<=x∧x<=1000000
 | [],_,_=>by simp [yR]
 | b::l,[],_=>by simp [yR]
 | b::l,h::hs,hh=>by
  rw [yR];have ih:=Ce (d:=d) ht l hs (fun x hx=>hh x (List.mem_cons_of_mem _ hx));have h1:=hh h (List.mem_cons_self ..);have h2:=Ki ht (by decide) b.f1
  split
  ·intro x hx
   rcases List.mem_cons.1 hx with rfl|hx
   ·exact ⟨Int.mul_nonneg h1.1 h2.1,by have:=Int.mul_le_mul h1.2 h2.2 h2.1 (by decide);omega⟩
   ·exact ih x hx
  ·exact ih
theorem TW (a b:Int):mn a b=min a b:=by unfold mn;omega
theorem TY (h:List bI) (d:Int) (takes hours:List Int) (l:List bB) (hd:0<=d∧d<h.length) (hl:l.length<=1000) (hh:hours.length=l.length) (hb:∀ x∈hours,0<=x∧x<=1000) (ht:∀ x∈takes,0<=x∧x<=1000)
  (Zo:∀ b∈l,b.f0=d->0<=b.f1∧b.f1<takes.length):∀ (m k i:Nat) (acc:List Int),i+m=l.length->l.length+m+1<k->acc.length<=i->(∀ x∈acc,0<=x∧x<=1000000) ->
  cK.l0 k d takes hours acc l (l.length:Int) (i:Int) h=some (min (aX h d).f1 (acc++yR d takes (l.drop i) (hours.drop i)).sum):=by
 intro m
 induction m with
 | zero =>
  intro k i acc hi hk ha hab;obtain ⟨k,rfl⟩:∃ k',k=k'+1:=⟨k - 1,by omega⟩;rw [cK.l0,if_neg (by omega),if_pos hd.1,if_pos hd.2,Zn (by omega) hab (by omega),List.drop_eq_nil_of_le (by omega)];simp [yR,TW]
 | succ m ih =>
  intro k i acc hi hk ha hab;obtain ⟨k,rfl⟩:∃ k',k=k'+1:=⟨k - 1,by omega⟩;have h1:=hb (hours[i]'(by omega)) (List.getElem_mem _);rw [cK.l0,if_pos (by omega),if_pos (by omega),if_pos (by omega),F5 (by omega),Br (x:=(i:Int)+1) (by omega) (by omega),show ((i:Int)+1)=((i+1:Nat):Int) by omega];rw [List.drop_eq_getElem_cons (show i<l.length by omega),List.drop_eq_getElem_cons (show i<hours.length by omega),yR]
  by_cases he:(l[i]'(by omega)).f0=d
  ·have h2:=Zo _ (List.getElem_mem _) he
   have h3:=Ki ht (by decide) (l[i]'(by omega)).f1;have h4:=Int.mul_nonneg h1.1 h3.1;have h5:=Int.mul_le_mul h1.2 h3.2 h3.1 (by decide);rw [if_pos he,if_pos (by omega),if_pos h2.1,if_pos h2.2,if_pos (by omega),sZ (by omega),Br (by omega) (by omega),if_pos he]
   rw [ih k (i+1) _ (by omega) (by omega) (by simp;omega) (by
    intro x hx
    rcases List.mem_append.1 hx with hx|hx
    ·exact hab x hx
    ·rw [List.mem_singleton.1 hx];omega)]
   simp
  ·rw [if_neg he,if_neg he,ih k (i+1) _ (by omega) (by omega) (by omega) hab]
theorem Ic {k:Nat} {h:List bI} {d:Int} {takes hours:List Int} {l:List bB} (hd:0<=d∧d<h.length) (hl:l.length<=1000) (hh:hours.length=l.length) (hb:∀ x∈hours,0<=x∧x<=1000) (ht:∀ x∈takes,0<=x∧x<=1000)
  (Zo:∀ b∈l,b.f0=d->0<=b.f1∧b.f1<takes.length) (hk:2*l.length+1<k):cK.f k h l d takes hours=some (tq (aX h d).f1 d takes l hours):=by
 have:=TY h d takes hours l hd hl hh hb ht Zo l.length k 0 [] (by omega) (by omega) (by simp) (by simp)
 simpa [cK.f,tq] using this
end Go.Proofs.YtnpfbjnjdngkhaaGreatDoor.P
namespace Go.Proofs.YtnpfbjnjdngkhaaGreatDoor.P
open Go.RowKit Go.Proofs.YtnpfbjnjdngkhaaGreatDoorW.aQ Go.Proofs.YtnpfbjnjdngkhaaGreatDoorW.bO Go.Proofs.YtnpfbjnjdngkhaaGreatDoorW.bT
attribute [local go_sem] eP eT fU fV dS dU eU eX
attribute [local go_sem] Oper.semAt_some
def ku (h:List bI) (l:List bB) (d:Int) (takes:List Int):List Int:=(lD ((ownB l d).map bB.f2)).map fun hs=>tq (aX h d).f1 d takes (ownB l d) hs
theorem zS {F:Fence} {n':Nat} {ops:Array Oper} {rest:List Oper} {o:Oper} {a:Act} {Q:Exit->Act->World->Prop} {w:World} (hg:o.guard=none) (m x:Operand) {v:Operand} (hop:o.op=.mapUpdate 199 m x v) {b n:Nat} {S:List Int} (hm:a.eval m=.map (some b)) (hS:j6 w b n S) (hn:n<1000000000000000000) {z:Int} (hz:Pm z) (hx:a.eval x=.int .i64 z) (hv:a.eval v=.bool true)
  (h:∀ w',j6 w' b (n+1) (S++[z])->w.grownBy w' (some b)->wpListIn F n' Tryz.prog ops Q rest (a.put o.dst undef) w'):wpListIn F n' Tryz.prog ops Q (o::rest) a w:=by
 obtain ⟨D,h1,h2⟩:=hS
 refine wpListIn_mapUpdate_own w hg m x v 199 hop 3 4 (Maps.int_keyed Tryz.underlying3) Tryz.underlying199 _ b n D hm h1 (by unfold maxLen;omega) _ _ (.int .i64 z) hx hv (Maps.keyOf_int_mk Tryz.underlying3 hz) _ [] (plainElem_bool Tryz.underlying4 true) fun w' r1 r2=>h w' ⟨_,r1,fun y hy=>?_⟩ r2
 by_cases e:y=z
 ·subst e
  rw [Maps.has_put_same h1.isMap TI];simp
 ·rw [Maps.has_put_other (by intro h;injection h with _ h;exact e h),h2 y hy]
  simp [e]
theorem mH.put {W:World} {l:Nat} {o o':Obj} (h:W.heap[l]?=some o) (ho:o.isCells=false):mH (fun _=>False) W (W.putObj l o'):=by
 refine ⟨by simp [World.putObj],fun k q hk hq _=>?_⟩
 have:k≠l:=by
  intro e;subst e;rw [h] at hk
  cases hk
  rw [ho] at hq
  cases hq
 exact (World.putObj_heap_other this).trans hk
theorem mH.own {W W':World} {row:Option Nat} (hg:W.grownBy W' row) (hr:∀ r,row=some r->∃ o:Obj,W.heap[r]?=some o∧o.isCells=false):mH (fun _=>False) W W' :=
 ⟨hg.size,fun _ _ hk hc _=>(grownBy_keeps_cells hg hr hk hc).trans hk⟩
theorem mH.map {W W':World} {b n:Nat} {S:List Int} (hS:j6 W b n S) (hg:W.grownBy W' (some b)):mH (fun _=>False) W W':=by
 obtain ⟨D,⟨es,clock,hb,_⟩,_⟩:=hS
 exact mH.own hg fun r e=>by cases e;exact ⟨_,hb,rfl⟩
theorem Ua (x:o8) (B:Nat):OwnFrom B (fun (_:Unit) W=>x.Rd W):=fun _ W W' row h hg hr =>
 ⟨(mH.own hg fun r e=>(hr r e).2).row vC h.1 (fun _ _ _ h=>h),h.2⟩
theorem Rl {W W':World} {x:bB} {cs:List Value} (h:eD.K W x cs):eD.K W' x cs:=by
 obtain rfl:=rZ h;exact Ot _ _
theorem qG:∀ {ls:List bQ} {x:List Int},x∈lD ls->x.length=ls.length
 | [],x,h=>by rw [List.mem_singleton.1 h];rfl
 | s::r,x,h=>by
  obtain ⟨n,_,hx⟩:=List.mem_flatMap.1 h;obtain ⟨y,hy,rfl⟩:=List.mem_map.1 hx;simp [qG hy]
theorem vW {lo hi:Int}:∀ {ls:List bQ} {x:List Int},x∈lD ls->(∀ s∈ls,lo<=s.f0∧s.f1<=hi)->∀ y∈x,lo<=y∧y<=hi
 | [],x,h,_=>by rw [List.mem_singleton.1 h];simp
 | s::r,x,h,hs=>by
  obtain ⟨n,hn,hx⟩:=List.mem_flatMap.1 h;obtain ⟨y,hy,rfl⟩:=List.mem_map.1 hx;have:=WT hn;have h1:=hs s (List.mem_cons_self ..);intro q hq
  rcases List.mem_cons.1 hq with rfl|hq
  ·omega
  ·exact vW hy (fun s hs'=>hs s (List.mem_cons_of_mem _ hs')) q hq
theorem EH:∀ {l:List Int},(∀ x∈l,0<=x)->0<=l.sum
 | [],_=>by simp
 | x::l,h=>by
  have h1:=h x (List.mem_cons_self ..);have h2:=EH (fun y hy=>h y (List.mem_cons_of_mem _ hy));rw [List.sum_cons];omega
theorem rD {full d B:Int} {takes hours:List Int} {l:List bB} (hf:0<=full∧full<=B) (ht:∀ x∈takes,0<=x∧x<=1000) (hh:∀ x∈hours,0<=x∧x<=1000):0<=tq full d takes l hours∧tq full d takes l hours<=B:=by
 have:=EH (fun x hx=>(Ce (d:=d) ht l hours hh x hx).1)
 unfold tq
 omega
theorem zT (l:List bB) (d:Int):(ownB l d).length<=l.length:=List.length_filter_le _ _
theorem Ie (A:Option Addr) (c:Nat) (h:List bI) (A1:Option Addr) (c1:Nat) (m:List Int) (A2:Option Addr) (c2:Nat) (l:List bB) (d:Int) (A3:Option Addr) (c3:Nat) (takes:List Int) (w:World)
  (hr:Kd.C iG w A h.length h) (hc:h.length<=c) (hr2:Kd.C eD w A2 l.length l) (hc2:l.length<=c2) (hr3:Kd.C (Kd.int .i64) w A3 takes.length takes) (hc3:takes.length<=c3)
  (hd:0<=d∧d<h.length) (hl:l.length<=100) (hlb:∀ b∈l,0<=b.f2.f0∧b.f2.f1<=1000) (ht:∀ x∈takes,0<=x∧x<=1000) (Zo:∀ b∈l,0<=b.f1∧b.f1<takes.length) (hN:(ku h l d takes).length<=1000000) (qju:0<=(aX h d).f1∧(aX h d).f1<=1000000) :
  Calls Tryz.prog 201 #[.agg #[.slice A h.length c,.slice A1 m.length c1],.slice A2 l.length c2,.int .i64 d,.slice A3 takes.length c3] w fun e w'=>∃ b n,e=.returned (.map (some b))∧j6 w' b n (ku h l d takes)∧n<=(ku h l d takes).length∧w.heap.size<=b∧Below w.heap.size w w':=by
 have HB:=aj.mk (Below.refl w.heap.size w);have HR:=aj.mk hr;have HR2:=aj.mk hr2;have HR3:=aj.mk hr3;have HL:=aj.mk hl;have hmm:=@run_makeMap Tryz.prog;clear hr hr2 hr3 hl;refine (callsIn_wide (n:=3)).1 ?_;refine callsIn_of_wp_marks Tryz.func201 rfl trivial ?_ rfl;refine wpIn_wide.2 ?_;simp only [Tryz.ntmps201,List.size_toArray,List.length_cons,List.length_nil,Nat.reduceAdd,Nat.reduceSub,Array.replicate_succ,Array.replicate_zero,List.push_toArray,List.append_toArray,List.nil_append,List.cons_append]
 go_wp2_with (first|((with_reducible refine au (N:=4) rfl ?_);refine jR rfl rfl (cs:=#[.slice A h.length c,.slice A1 m.length c1]) (t:=149) tG HB ?_;clear HB;intro gh wa HH GH HB hx;clear hx)|((with_reducible refine au (N:=6) rfl ?_);refine jR rfl rfl (cs:=#[.int .i64 d]) (t:=3) tG HB ?_;clear HB;intro gd wb HD GD HB hx;replace HH:=dQ HH hx;clear hx)|((with_reducible refine au (N:=7) rfl ?_);refine jR rfl rfl (cs:=#[.slice A3 takes.length c3]) (t:=47) tG HB ?_;clear HB;intro gt wc HT GT HB hx;replace HH:=dQ HH hx;replace HD:=dQ HD hx;have cd:=fG HD.out;clear hx)|(go_at_call 226;refine (Kg A2 c2 l d _ (Kd.ak HR2.out HB.out) hc2 (by have:=HL.out;omega)).mono ?_;rintro e wd ⟨v,rfl,ho,hx⟩;have hsz:=HB.out.size;obtain ⟨Ao,co,rfl,hlo,_⟩:=Kd.fE ho;have HO:=aj.mk (Kd.dZ ho hsz);replace HH:=dQ HH hx;replace HD:=dQ HD hx;replace HT:=dQ HT hx;replace HB:=eH HB hx;clear hx ho hsz cd)|((with_reducible refine au (N:=9) rfl ?_);refine jg rfl rfl (cs:=#[.slice none 0 0]) (t:=25) tG HB ?_;clear HB;intro g9 we H9 G9 HB hx hz;have D9:=aj.mk (show gh≠g9∧gd≠g9∧gt≠g9 from ⟨fun e=>by have:=bZ HH.out;omega,fun e=>by have:=bZ HD.out;omega,fun e=>by have:=bZ HT.out;omega⟩);have M9:=wQ HO hz;replace HH:=dQ HH hx;replace HD:=dQ HD hx;replace HT:=dQ HT hx;replace HO:=qN HO hx;clear hx hz)|((with_reducible refine aY (t:=25) (p:=9) rfl ?_);refine iP rfl rfl rfl H9 G9 HB (.slice Ao (ownB l d).length co) [.slice Ao (ownB l d).length co] #[.slice Ao (ownB l d).length co] rfl rfl rfl tX (Nat.le_refl _) (by simp [Value.oneCell']) rfl ?_;clear HB H9;intro wf H9 HB hx;replace HH:=gM HH hx D9.out.1;replace HD:=gM HD hx D9.out.2.1;replace HT:=gM HT hx D9.out.2.2;replace HO:=Et HO rfl hx M9.out;clear hx D9 M9)|((with_reducible refine au (N:=16) rfl ?_);refine yG rfl rfl tG HB ?_;clear HB;intro b wg HS GB HB hx hz;have MB:=aj.mk (show gh≠b∧gd≠b∧gt≠b∧g9≠b from ⟨fun e=>by have:=bZ HH.out;omega,fun e=>by have:=bZ HD.out;omega,fun e=>by have:=bZ HT.out;omega,fun e=>by have:=bZ H9.out;omega⟩);have MO:=wQ HO hz;replace HH:=dQ HH hx;replace HD:=dQ HD hx;replace HT:=dQ HT hx;replace H9:=dQ H9 hx;replace HO:=qN HO hx;clear hx hz)|((with_reducible refine au (N:=10) rfl ?_);refine jg rfl rfl (cs:=#[.map none]) (t:=199) tG HB ?_;clear HB;intro g10 wi Fq G10 HB hx hz;have WX:=aj.mk (show gh≠g10∧gd≠g10∧gt≠g10∧g9≠g10∧b≠g10 from ⟨fun e=>by have:=bZ HH.out;omega,fun e=>by have:=bZ HD.out;omega,fun e=>by have:=bZ HT.out;omega,fun e=>by have:=bZ H9.out;omega,fun e=>by have:=HS.out.lt;omega⟩);have M10:=wQ HO hz;replace HH:=dQ HH hx;replace HD:=dQ HD hx;replace HT:=dQ HT hx;replace H9:=dQ H9 hx;replace HO:=qN HO hx;have HS2:=aj.mk (HS.out.below hx);clear HS;have HS:=HS2;clear HS2 hx hz)|((with_reducible refine aY (t:=199) (p:=10) rfl ?_);refine iP rfl rfl rfl Fq G10 HB (.map (some b)) [.map (some b)] #[.map (some b)] rfl rfl rfl tX (Nat.le_refl _) (by simp [Value.oneCell']) rfl ?_;clear HB Fq;intro wj Fq HB hx;replace HH:=gM HH hx WX.out.1;replace HD:=gM HD hx WX.out.2.1;replace HT:=gM HT hx WX.out.2.2.1;replace H9:=gM H9 hx WX.out.2.2.2.1;replace HO:=Et HO rfl hx M10.out;have HS2:=aj.mk (HS.out.kept hx (by have:=WX.out.2.2.2.2;intro e;injection e;exact this ‹_›));clear HS;have HS:=HS2;have c9:=fG H9.out;clear HS2 hx M10)|(go_at_call 210;refine (fT.calls 1001 Ao co (ownB l d) _ _ (Kd.eB HO.out).2.2 hlo (Pt (by have:=HL.out;have:=zT l d;omega) (by have:=HL.out;have:=zT l d;omega))).mono ?_;rintro e wk ⟨v,rfl,ho,hx⟩;have hsz:=HB.out.size;obtain ⟨As,cs,rfl,hls,_⟩:=Kd.fE ho;have VP:=aj.mk (Kd.dZ ho hsz);have MS:=aj.mk (show some b≠(Value.slice As ((ownB l d).map bB.f2).length cs).ownBlock from fun e=>absurd (Kd.iF ho b e.symm) (by have:=HS.out.lt;omega));replace HH:=dQ HH hx;replace HD:=dQ HD hx;replace HT:=dQ HT hx;replace H9:=dQ H9 hx;replace Fq:=dQ Fq hx;replace HO:=qN HO hx;have HS2:=aj.mk (HS.out.below hx);clear HS;have HS:=HS2;replace HB:=eH HB hx;clear HS2 hx ho hsz c9)|(go_at_call 200;have hnu:=uP As cs ((ownB l d).map bB.f2) wk;rw [List.length_map] at hnu;refine hnu.mono ?_;rintro e wl ⟨gn,rfl,hgn,jX,hx⟩;have GN:=aj.mk hgn;have HN:=aj.mk jX;replace HH:=dQ HH hx;replace HD:=dQ HD hx;replace HT:=dQ HT hx;replace H9:=dQ H9 hx;replace Fq:=dQ Fq hx;replace HO:=qN HO hx;replace VP:=qN VP hx;have HS2:=aj.mk (HS.out.below hx);clear HS;have HS:=HS2;replace HB:=eH HB hx;clear HS2 hx hgn jX hnu))
 have HL2:=aj.mk (show ((ownB l d).map bB.f2).length<=1000 by have:=HL.out;have:=zT l d;rw [List.length_map];omega);have hbl:=HS.out.lt;refine (wpIn_wide (n:=3)).1 ?_
 refine MW (gf:=223) (lb:=#[.pointer (some ⟨gn,0,none⟩)]) rfl (enters_of Tryz.func223 tX rfl) (Cc gn As cs ((ownB l d).map bB.f2) (fun _=>False) wl HL2.out (fun s hs=>by
   obtain ⟨x,hx,rfl⟩:=List.mem_map.1 hs;have:=hlb x ((List.mem_filter.1 hx).1)
   omega) (by rw [List.length_map];exact HN.out) (Kd.eB VP.out).2.2 (fun h=>h) (fun _ _ h=>h) (fun _ h=>h.elim)) mH.trans (fun W o o' ho hc=>mH.put ho hc) (Below.refl _ _) (fun _=>rfl) (fun x _ W W' row h hg hr=>⟨Ua x _ () W W' row h.1 hg hr,h.2⟩)
  (fun (pre:List o8) W=>j6 W b pre.length (pre.map fun (x:o8)=>tq (aX h d).f1 d takes (ownB l d) x.xs)∧mH (fun _=>False) wl W∧Below w.heap.size w W)
  (fun pre W W' row hi hg hr=>⟨hi.1.kept hg (fun e=>by have:=(hr _ e.symm).1;omega),hi.2.1.trans (mH.own hg fun r e=>(hr r e).2),⟨hg.os.trans hi.2.2.os,hg.tape.trans hi.2.2.tape,hg.output.trans hi.2.2.output,Nat.le_trans hi.2.2.size hg.size,fun k hk=>(hg.block k (Nat.lt_of_lt_of_le hk hi.2.2.size) (fun e=>by have:=(hr _ e.symm).1;have:=HB.out.size;omega)).trans (hi.2.2.block k hk)⟩⟩)
  ⟨by simpa using HS.out,mH.refl _ _,HB.out⟩
  (fun x=>{ tmps:=#[.agg #[.slice A h.length c,.slice A1 m.length c1],.slice A2 l.length c2,.int .i64 d,.slice A3 takes.length c3,.pointer (some ⟨gh,0,none⟩),undef,.pointer (some ⟨gd,0,none⟩),.pointer (some ⟨gt,0,none⟩),.map none,.pointer (some ⟨g9,0,none⟩),.pointer (some ⟨g10,0,none⟩),.slice x.A x.xs.length x.c,undef,.slice A2 l.length c2,.int .i64 d,.slice Ao (ownB l d).length co,.map (some b),.slice Ao (ownB l d).length co,.slice As (ownB l d).length cs,.func (.func 223) #[] #[.pointer (some ⟨gn,0,none⟩)],.slice x.A x.xs.length x.c,undef,undef,undef,undef,undef,undef,undef,undef,undef,undef],defers:=[] }) ?assign ?body ?done
 case assign =>
  intro lp x W K hK
  unfold o8.enc
  gi_wp2
  exact hK
 case body =>
  rintro lp pre x W ⟨hS,hk,hb⟩ hrd hpre;have HPN:=aj.mk (show pre.length<1000000000000000000 by have:=hN;unfold ku at this;rw [List.length_map] at this;omega);clear hpre;have Pw:=aj.mk hk;have TL:=aj.mk hS;have rE:=aj.mk hb;have xu:=aj.mk hrd;clear hS hk hb hrd;have hh:=(qM (Pw.out.box HH (fun h=>h)).out).1;have hd3:=fG (Pw.out.box HD (fun h=>h)).out;have ht4:=fG (Pw.out.box HT (fun h=>h)).out;have h9:=fG (Pw.out.box H9 (fun h=>h)).out;have qb:=Tryz.underlying24;have wR:=Tryz.underlying149
  have hlen:x.xs.length=(ownB l d).length:=by have:=qG xu.out.2;rwa [List.length_map] at this
  have HXB:=aj.mk (show ∀ y∈x.xs,0<=y∧y<=1000 from vW xu.out.2 fun s hs=>by
   obtain ⟨q,hq,rfl⟩:=List.mem_map.1 hs
   exact hlb q (List.mem_filter.1 hq).1)
  obtain ⟨z,hz⟩:∃ z,z=tq (aX h d).f1 d takes (ownB l d) x.xs:=⟨_,rfl⟩;have HZ:=aj.mk hz
  have HF:=aj.mk (show cK.f 1000 h (ownB l d) d takes x.xs=some z by
   have:=zT l d;have:=HL.out
   rw [hz];exact Ic hd (by omega) hlen HXB.out ht (fun b hb _=>Zo b (List.mem_filter.1 hb).1) (by omega))
  have HZB:=aj.mk (show 0<=z∧z<=1000000 by rw [hz];exact rD qju ht HXB.out);clear hz hlen
  gi_wp2
  refine ⟨trivial,?_⟩;refine (CallsIn.inRound lp (callsIn_wide.2 (cK.calls 1000 _ _ h _ _ (ownB l d) d _ _ takes _ _ x.xs z _ (Kd.ak HR.out rE.out) hc (Pw.out.row Rl (Kd.eB HO.out).2.2 (fun _ _ _ h=>h)) hlo (Kd.ak HR3.out rE.out) hc3 xu.out.1.1 xu.out.1.2 HF.out))).mono ?_;rintro e w5 ⟨rfl,hx⟩;have HK5:=aj.mk (Pw.out.trans (mH.below (Wr:=fun _=>False) hx));have HX:=aj.mk hx;have h10:=fG (HK5.out.box Fq (fun h=>h)).out;clear hx hh hd3 ht4 h9
  gi_wp2_with (gi_at_mapUpdate;refine zS rfl _ _ rfl rfl (TL.out.below HX.out) HPN.out (uO (by have:=HZB.out;omega) (by have:=HZB.out;omega)) rfl rfl ?_;intro w6 hs6 M4)
  refine ⟨⟨Nat.le_trans HX.out.size M4.size,fun k o hk0 hk1 _=>?_⟩,(mH.below HX.out).trans (mH.map (TL.out.below HX.out) M4),?_,HK5.out.trans (mH.map (TL.out.below HX.out) M4),(stepG (eH rE HX.out) M4 GB).out⟩
  ·have h5:=(HX.out.block k (bZ hk1)).trans hk1
   exact (M4.block k (bZ h5) (fun e=>by injection e;omega)).trans h5
  ·have:=HZ.out
   subst this
   simpa using hs6
 case done =>
  rintro xs W hxs ⟨hS,hk,hb⟩ hD;have h10:=fG (hk.box Fq (fun h=>h)).out;have HK:=aj.mk hk;have TL:=aj.mk hS;have rE:=aj.mk hb;have HD2:=aj.mk hD;have HXS:=aj.mk hxs;clear hk hS hb hD hxs
  go_wp2_with fail
  refine ⟨by simp,.inl ⟨_,_,rfl,run_takeDeferred HD2.out,?_⟩⟩;have hgr:=grownBy_putObj' W wl.heap.size (.deferred none)
  have hds:xs.map (fun x=>tq (aX h d).f1 d takes (ownB l d) x.xs)=ku h l d takes:=by
   unfold ku
   rw [← HXS.out,List.map_map]
   rfl
  refine ⟨_,results_tmp rfl _ _ _,b,xs.length,rfl,?_,by rw [← hds,List.length_map];exact Nat.le_refl _,GB.out,(stepG rE hgr ⟨HB.out.size⟩).out⟩;rw [← hds];exact TL.out.kept hgr (fun e=>by injection e;omega)
end Go.Proofs.YtnpfbjnjdngkhaaGreatDoor.P
namespace Go.Proofs.YtnpfbjnjdngkhaaGreatDoor.P
open Go.RowKit Go.Proofs.YtnpfbjnjdngkhaaGreatDoorW.aQ Go.Proofs.YtnpfbjnjdngkhaaGreatDoorW.bO Go.Proofs.YtnpfbjnjdngkhaaGreatDoorW.bT
attribute [local go_sem] eP eT fU fV dS dU eU eX
def Bt (h:List bI) (a b:List bB) (d wt:Int) (takes:List Int):List Int:=(ku h a d takes).flatMap fun n=>(ku h b d takes).map fun m=>wt*(n - m)
def F6 (h:List bI) (a b:List bB) (d wt:Int):List Int:=(lD (aX h d).f0).flatMap fun takes=>Bt h a b d wt takes
def ql (h:List bI) (a b:List bB):List Int->Int->List Int->List Int
 | [],_,out=>out
 | wt::ws,d,out=>ql h a b ws (d+1) (out.flatMap fun n=>(F6 h a b d wt).map fun m=>n+m)
structure uw (h:List bI):Prop where
 len:h.length<=3
 takes:∀ x∈h,x.f0.length=3
 span:∀ x∈h,∀ s∈x.f0,0<=s.f0∧s.f1<=20∧s.f1 - s.f0<=2
 full:∀ x∈h,0<=x.f1∧x.f1<=100
structure nW (n:Nat) (l:List bB):Prop where
 len:l.length<=3
 dye:∀ b∈l,0<=b.f0∧b.f0<n
 Ub:∀ b∈l,0<=b.f1∧b.f1<3
 hours:∀ b∈l,0<=b.f2.f0∧b.f2.f1<=12∧b.f2.f1 - b.f2.f0<=2
structure Uc (n:Nat) (ws:List Int):Prop where
 len:ws.length=n
 wt:∀ x∈ws,-9<=x∧x<=9
theorem oH {h:List bI} {d:Int} (hd:0<=d∧d<h.length):aX h d∈h:=(getD_at h qaw d hd.1 hd.2).1
theorem M5 (lo hi:Int):(EG lo hi).length=(hi+1 - lo).toNat:=by simp [EG]
theorem Cg {α β:Type} {f:α->List β} {B:Nat}:∀ {l:List α},(∀ x∈l,(f x).length<=B)->(l.flatMap f).length<=l.length*B
 | [],_=>by simp
 | x::l,h=>by
  have h1:=h x (List.mem_cons_self ..);have h2:=Cg (fun y hy=>h y (List.mem_cons_of_mem _ hy));rw [List.flatMap_cons,List.length_append,List.length_cons,Nat.add_mul,Nat.one_mul]
  omega
theorem zU:∀ {ls:List bQ},(∀ s∈ls,s.f1 - s.f0<=2)->(lD ls).length<=3 ^ ls.length
 | [],_=>by simp [lD]
 | s::r,h=>by
  have h1:=h s (List.mem_cons_self ..);have h2:=zU (fun y hy=>h y (List.mem_cons_of_mem _ hy));have h3:=Cg (f:=fun n=>(lD r).map (n::·)) (B:=3 ^ r.length) (l:=EG s.f0 s.f1) (fun x _=>by rw [List.length_map];exact h2);rw [lD,List.length_cons,Nat.pow_succ];refine Nat.le_trans h3 ?_;rw [M5,Nat.mul_comm];exact Nat.mul_le_mul_left _ (by omega)
theorem Ig {n:Nat} (h:n<=3):3 ^ n<=27:=Nat.le_trans (Nat.pow_le_pow_right (by decide) h) (by decide)
theorem Kj {h:List bI} {l:List bB} {n:Nat} (d:Int) (takes:List Int) (hb:nW n l):(ku h l d takes).length<=27:=by
 unfold ku
 rw [List.length_map];refine Nat.le_trans (zU fun s hs=>?_) (Ig ?_)
 ·obtain ⟨b,hb2,rfl⟩:=List.mem_map.1 hs
  exact (hb.hours b (List.mem_filter.1 hb2).1).2.2
 ·rw [List.length_map]
  exact Nat.le_trans (zT l d) hb.len
theorem Ch {h:List bI} {d:Int} {takes:List Int} (hh:uw h) (hd:0<=d∧d<h.length) (ht:takes∈lD (aX h d).f0):takes.length=3∧∀ x∈takes,0<=x∧x<=20 :=
 ⟨by rw [qG ht];exact hh.takes _ (oH hd),vW ht fun s hs=>⟨(hh.span _ (oH hd) s hs).1,(hh.span _ (oH hd) s hs).2.1⟩⟩
theorem qy {h:List bI} {l:List bB} {n:Nat} {d:Int} {takes:List Int} (hh:uw h) (hd:0<=d∧d<h.length) (hb:nW n l) (ht:takes∈lD (aX h d).f0):∀ x∈ku h l d takes,0<=x∧x<=100:=by
 intro x hx;obtain ⟨hs,hm,rfl⟩:=List.mem_map.1 hx;refine rD (hh.full _ (oH hd)) (fun x hx=>?_) (fun x hx=>?_)
 ·have:=(Ch hh hd ht).2 x hx
  omega
 ·have:=vW (lo:=0) (hi:=12) hm (fun s hs2=>by
   obtain ⟨b,hb2,rfl⟩:=List.mem_map.1 hs2
   exact ⟨(hb.hours b (List.mem_filter.1 hb2).1).1,(hb.hours b (List.mem_filter.1 hb2).1).2.1⟩) x hx
  omega
theorem zV {h:List bI} {a b:List bB} {n:Nat} {d wt:Int} {takes:List Int} (hh:uw h) (hd:0<=d∧d<h.length) (ha:nW n a) (hb:nW n b) (hw : -9<=wt∧wt<=9) (ht:takes∈lD (aX h d).f0):∀ x∈Bt h a b d wt takes,-900<=x∧x<=900:=by
 intro x hx;obtain ⟨p,hp,hx⟩:=List.mem_flatMap.1 hx;obtain ⟨q,hq,rfl⟩:=List.mem_map.1 hx;have h1:=qy hh hd ha ht p hp;have h2:=qy hh hd hb ht q hq
 have h3 : -100<=p - q∧p - q<=100:=by omega
 generalize p - q=z at h3
 have:wt = -9∨wt = -8∨wt = -7∨wt = -6∨wt = -5∨wt = -4∨wt = -3∨wt = -2∨wt = -1∨wt=0∨wt=1∨wt=2∨wt=3∨wt=4∨wt=5∨wt=6∨wt=7∨wt=8∨wt=9:=by omega
 rcases this with rfl|rfl|rfl|rfl|rfl|rfl|rfl|rfl|rfl|rfl|rfl|rfl|rfl|rfl|rfl|rfl|rfl|rfl|rfl<;>omega
theorem Kk {h:List bI} {a b:List bB} {n:Nat} {d wt:Int} (hh:uw h) (hd:0<=d∧d<h.length) (ha:nW n a) (hb:nW n b) (hw : -9<=wt∧wt<=9):∀ x∈F6 h a b d wt,-900<=x∧x<=900:=by
 intro x hx;obtain ⟨t,ht,hx⟩:=List.mem_flatMap.1 hx;exact zV hh hd ha hb hw ht x hx
def iq (n:Nat) (l:List bB):Bool:=decide (l.length<=3)&&!(l.any (rA n))
theorem F7 (h:List bI) (l:List bB):eZ.f h l=some (iq h.length l):=by
 unfold eZ.f iq sw.f
 by_cases hl:(l.length:Int)<=3
 ·rw [if_pos hl];simp [show l.length<=3 by omega]
 ·rw [if_neg hl];simp [show ¬ l.length<=3 by omega]
def vD (n:Nat) (x:dD):Bool:=!(iq n x.f0)||(!(oN x.f1 0 99)||!(oN x.f2 0 999))
theorem M6 (gb:Nat) (A:Option Addr) (c:Nat) (l:List bI) (A1:Option Addr) (c1:Nat) (x:dD) (w:World) (hb:w.heap[gb]?=some (.cells #[.slice A l.length c] 24 (0,0)))
  (hr:Kd.C iG w A l.length l) (hc:l.length<=c) (hr1:Kd.C eD w A1 x.f0.length x.f0) (hc1:x.f0.length<=c1) :
  Calls Tryz.prog 181 #[.agg #[.slice A1 x.f0.length c1,.int .i64 x.f1,.int .i64 x.f2],.pointer (some ⟨gb,0,none⟩)] w fun e w'=>e=.returned (.bool (vD l.length x))∧Below w.heap.size w w':=by
 have HB:=aj.mk (Below.refl w.heap.size w);have HK:=aj.mk hb;have HR:=aj.mk hr;have HR1:=aj.mk hr1;have HI1:=aj.mk (rC x.f1 0 99);have HI2:=aj.mk (rC x.f2 0 999);have HI3:=aj.mk (F7 l x.f0);obtain ⟨b1,hb1⟩:∃ b,b=oN x.f1 0 99:=⟨_,rfl⟩;obtain ⟨b2,hb2⟩:∃ b,b=oN x.f2 0 999:=⟨_,rfl⟩;obtain ⟨b3,hb3⟩:∃ b,b=iq l.length x.f0:=⟨_,rfl⟩;rw [← hb1] at HI1;rw [← hb2] at HI2;rw [← hb3] at HI3;have HX:=aj.mk (show vD l.length x=(!b3||(!b1||!b2)) by rw [hb1,hb2,hb3];rfl);rw [HX.out];clear hb hb1 hb2 hb3 HX hr hr1;have qb:=Tryz.underlying24;have Eo:=Tryz.underlying107
 cases b3<;>cases b1
 all_goals
  go_enter Tryz.func181,Tryz.ntmps181
  go_wp2_with (first|((with_reducible refine au (N:=2) rfl ?_);refine ou ?hg (N:=2) ?hd (cs:=#[.slice A1 x.f0.length c1,.int .i64 x.f1,.int .i64 x.f2]) (t:=107) ?hr ?_;(case hd=>rfl);(case hg=>rfl);(case hr=>first|(go_simp;done)|(go_simp;rfl));intro gx hg w3 jX hx;replace HB:=eH HB hx;replace HK:=dQ HK hx;have HX:=aj.mk jX;obtain ⟨c0,c1,c2⟩:=Q7 jX;have c4:=fG HK.out;clear hg hx jX)|(go_at_call 113;(with_reducible first|refine (HI1.out _).mono ?_|refine (HI2.out _).mono ?_);rintro e w4 ⟨rfl,hx⟩;replace HB:=eH HB hx;replace HK:=dQ HK hx;replace HX:=dQ HX hx;clear hx c0 c1 c2 c4;obtain ⟨c0,c1,c2⟩:=Q7 HX.out;have c4:=fG HK.out)|(go_at_call 106;(with_reducible refine (eZ.calls _ _ _ _ _ _ _ _ (Kd.ak HR.out HB.out) hc (Kd.ak HR1.out HB.out) hc1 HI3.out).mono ?_);rintro e w4 ⟨rfl,hx⟩;replace HB:=eH HB hx;replace HK:=dQ HK hx;replace HX:=dQ HX hx;clear hx c0 c1 c2 c4;obtain ⟨c0,c1,c2⟩:=Q7 HX.out;have c4:=fG HK.out))
  go_ret
  exact ⟨rfl,HB.out⟩
def sF.f (l0:List dD) (bF:List bI):Option Bool:=some (l0.any (vD bF.length))
theorem sF.calls {Hy:Nat} (A0:Option Addr) (c0:Nat) (l0:List dD) (fP:Option Addr) (fK:Nat) (bF:List bI) (r:Bool) (w:World) (hr0:Kd.C kS w A0 l0.length l0) (hc0:l0.length<=c0) (jU:Kd.C iG w fP bF.length bF) (mM:bF.length<=fK) (hb0:w.heap[Hy]?=some (.cells #[.slice fP bF.length fK] 24 (0,0))) (h:sF.f l0 bF=some r) :
  Calls Tryz.prog 180 #[.slice A0 l0.length c0,.func (.func 181) #[] #[.pointer (some ⟨Hy,0,none⟩)]] w fun e w'=>e=.returned (.bool r)∧Below w.heap.size w w':=by
 obtain rfl:=Option.some.inj h;refine Zc (vD bF.length) 181 #[.pointer (some ⟨Hy,0,none⟩)] A0 c0 l0 w hr0 (enters_of Tryz.func181 tX rfl) (fun x hx=>⟨fun W cs hb hK=>?_⟩);obtain ⟨A1,c1,rfl,hl,hC⟩:=uZ hK;exact M6 Hy _ _ _ A1 c1 x W (aD hb0 hb) (Kd.ak jU hb) mM hC hl
def mP.f (bq:Int) (aU:Int):Option Bool:=(fJ.f bq aU (-3000) 3000 6000).bind fun t197=>(some t197)
theorem mP.calls (bq:Int) (aU:Int) (r:Bool) (w:World) (h:mP.f bq aU=some r) :
  Calls Tryz.prog 122 #[.agg #[.int .i64 bq,.int .i64 aU]] w fun e w'=>e=.returned (.bool r)∧Below w.heap.size w w':=by
 have jY:=Tryz.underlying37;have HB:=aj.mk (Below.refl w.heap.size w);have H:((fJ.f bq aU (-3000) 3000 6000).bind fun t197=>(some t197))=some r:=h;clear h;obtain ⟨t197,A2,H⟩:=nU H;obtain rfl:=Option.some.inj H
 go_enter Tryz.func122,Tryz.ntmps122
 go_wp2_with (first|((with_reducible refine au (N:=1) rfl ?_);refine fA 1 #[.int .i64 bq,.int .i64 aU] 37 HB ?_;clear HB;intro qlP w3 hg Kl qlQ HB hb;clear hb hg;obtain ⟨yT,Ei⟩:=bc2 Kl;have yU:=bf Kl 0;have Ej:=bf Kl 1)|((with_reducible refine aG (f:=167) rfl ?_);refine bX (some 4) rfl rfl Tryz.func167 tX rfl #[.agg #[.int .i64 bq,.int .i64 aU],.int .i64 (-3000),.int .i64 3000,.int .i64 6000] rfl tM ?_;(with_reducible refine (fJ.calls bq aU (-3000) 3000 6000 t197 _ A2.out).mono ?_);rintro e w5 ⟨rfl,hb⟩;refine ⟨_,rfl,?_⟩;replace Kl:=bW Kl hb;replace HB:=dL HB hb;(try clear hb)))
 go_ret
 exact ⟨tF,tB⟩
def ng.f (bq:Int) (aU:Int):Option Bool:=(mP.f bq aU).bind fun t214=>(some (!t214))
theorem ng.calls (bq:Int) (aU:Int) (r:Bool) (w:World) (h:ng.f bq aU=some r) :
  Calls Tryz.prog 179 #[.agg #[.int .i64 bq,.int .i64 aU]] w fun e w'=>e=.returned (.bool r)∧Below w.heap.size w w':=by
 have jY:=Tryz.underlying37;have HB:=aj.mk (Below.refl w.heap.size w);have H:((mP.f bq aU).bind fun t214=>(some (!t214)))=some r:=h;clear h;obtain ⟨t214,A2,H⟩:=nU H;obtain rfl:=Option.some.inj H
 go_enter Tryz.func179,Tryz.ntmps179
 go_wp2_with (first|((with_reducible refine au (N:=1) rfl ?_);refine fA 1 #[.int .i64 bq,.int .i64 aU] 37 HB ?_;clear HB;intro qlR w3 hg Km qlS HB hb;clear hb hg;obtain ⟨yT,Ei⟩:=bc2 Km;have yU:=bf Km 0;have Ej:=bf Km 1)|((with_reducible refine aG (f:=122) rfl ?_);refine bX (some 4) rfl rfl Tryz.func122 tX rfl #[.agg #[.int .i64 bq,.int .i64 aU]] rfl tM ?_;(with_reducible refine (mP.calls bq aU t214 _ A2.out).mono ?_);rintro e w5 ⟨rfl,hb⟩;refine ⟨_,rfl,?_⟩;replace Km:=bW Km hb;replace HB:=dL HB hb;(try clear hb)))
 go_ret
 exact ⟨tF,tB⟩
def oI.f (l0:List bQ):Option Bool:=CG (fun x=>ng.f x.f0 x.f1) l0
theorem oI.calls (A0:Option Addr) (c0:Nat) (l0:List bQ) (r:Bool) (w:World) (hr0:Kd.C jW w A0 l0.length l0) (hc0:l0.length<=c0) (h:oI.f l0=some r) :
  Calls Tryz.prog 165 #[.slice A0 l0.length c0,.func (.func 179) #[] #[]] w fun e w'=>e=.returned (.bool r)∧Below w.heap.size w w':=by
 obtain ⟨hs,rfl⟩:=qc h;refine qaH (fun x=>ng.f x.f0 x.f1 == some true) 179 #[] A0 c0 l0 w hr0 (enters_of Tryz.func179 tX rfl) (fun x hx=>⟨fun W cs hb hK=>?_⟩);obtain rfl:=oW hK
 exact (ng.calls _ _ _ W (hs x hx)).mono fun e w' h=>h
def tu.f (av:List bI) (bF:List nJ) (gT:Int) (iY:Int) (gX:List bQ) (kg:Int):Option Bool:=(dW.f (bF.length:Int) 1 3).bind fun t217=>(if t217=true then ((lS.f bF av).bind fun t218=>(if t218=true then (some false) else ((gJ.f gT iY).bind fun t219=>(if t219=true then (if (gX.length:Int)=(bF.length:Int) then ((oI.f gX).bind fun t220=>(if t220=true then (some false) else ((dW.f kg 1 300).bind fun t221=>(some t221)))) else (some false)) else (some false))))) else (some false))
theorem tu.calls (bC:Option Addr) (aZ:Nat) (av:List bI) (fP:Option Addr) (fK:Nat) (bF:List nJ) (gT:Int) (iY:Int) (vX:Option Addr) (vE:Nat) (gX:List bQ) (kg:Int) (r:Bool) (w:World) (dw:Kd.C iG w bC av.length av) (dG:av.length<=aZ) (jU:Kd.C Bf w fP bF.length bF) (mM:bF.length<=fK) (zW:Kd.C jW w vX gX.length gX) (F8:gX.length<=vE) (h:tu.f av bF gT iY gX kg=some r) :
  Calls Tryz.prog 126 #[.agg #[.slice bC av.length aZ],.agg #[.slice fP bF.length fK,.int .i64 gT,.int .i64 iY,.slice vX gX.length vE,.int .i64 kg]] w fun e w'=>e=.returned (.bool r)∧Below w.heap.size w w':=by
 have qb:=Tryz.underlying24;have Wn:=Tryz.underlying58;have jY:=Tryz.underlying37;have dM:=aj.mk dw;have fu:=aj.mk dG;clear dw dG;have EB:=aj.mk jU;have EC:=aj.mk mM;clear jU mM;have Zp:=aj.mk zW;have Zq:=aj.mk F8;clear zW F8;have HB:=aj.mk (Below.refl w.heap.size w);have H:((dW.f (bF.length:Int) 1 3).bind fun t217=>(if t217=true then ((lS.f bF av).bind fun t218=>(if t218=true then (some false) else ((gJ.f gT iY).bind fun t219=>(if t219=true then (if (gX.length:Int)=(bF.length:Int) then ((oI.f gX).bind fun t220=>(if t220=true then (some false) else ((dW.f kg 1 300).bind fun t221=>(some t221)))) else (some false)) else (some false))))) else (some false)))=some r:=h;clear h;obtain ⟨t217,A3,H⟩:=nU H
 by_cases c4:t217=true
 ·subst c4
  rw [if_pos rfl] at H;obtain ⟨t218,A5,H⟩:=nU H
  by_cases c6:t218=true
  ·subst c6
   rw [if_pos rfl] at H;obtain rfl:=Option.some.inj H
   go_enter Tryz.func126,Tryz.ntmps126
   go_wp2_with (first|((with_reducible refine au (N:=2) rfl ?_);(try (refine fI (by rfl) ?_;dsimp only));refine fA 2 #[.slice bC av.length aZ] 24 HB ?_;clear HB;intro Kn w7 hg gB Ko HB hb;clear hb hg)|((with_reducible refine au (N:=3) rfl ?_);(try (refine fI (by rfl) ?_;dsimp only));refine fA 3 #[.slice fP bF.length fK,.int .i64 gT,.int .i64 iY,.slice vX gX.length vE,.int .i64 kg] 58 HB ?_;clear HB;intro Kq w8 hg bU Kr HB hb;have kM:=Fh gB hg;have kN:=Fj gB hg;replace gB:=bW gB hb;clear hb hg;have qjw:=kN.out;have qjx:=kM.out;obtain ⟨yA,Hr,WY,WZ,qfG⟩:=LZ bU;have yB:=bf bU 0;have Ht:=bf bU 1;have Xa:=bf bU 2;have Xb:=bf bU 3;have qfH:=bf bU 4)|((with_reducible refine aG (f:=113) rfl ?_);refine bX (some 8) rfl rfl Tryz.func113 tX rfl #[.int .i64 (bF.length:Int),.int .i64 1,.int .i64 3] rfl tM ?_;(with_reducible refine (dW.calls (bF.length:Int) 1 3 true _ A3.out).mono ?_);rintro e w' ⟨rfl,⟨nd,rfl⟩⟩;refine ⟨_,rfl,?_⟩)|(go_at_call 114;(with_reducible refine (lS.calls (fP:=bC) (fK:=aZ) _ _ bF av true _ ?bK ?bL ?fM ?fO ?jI A5.out).mono ?_);(case bK=>exact cS EB);(case bL=>exact EC.out);(case fM=>exact cS dM);(case fO=>exact fu.out);(case jI=>exact (qB2 gB));rintro e Jc ⟨rfl,hb⟩;replace gB:=bW gB hb;replace bU:=bW bU hb;replace HB:=dL HB hb;(try clear hb)))
   go_ret
   exact ⟨tF,tB⟩
  ·replace c6:=Bool.eq_false_iff.mpr c6
   subst c6
   have H1:((gJ.f gT iY).bind fun t219=>(if t219=true then (if (gX.length:Int)=(bF.length:Int) then ((oI.f gX).bind fun t220=>(if t220=true then (some false) else ((dW.f kg 1 300).bind fun t221=>(some t221)))) else (some false)) else (some false)))=some r:=by rw [if_neg (show ¬ (false=true) by decide)] at H;exact H
   clear H;have H:=H1;clear H1;obtain ⟨t219,A12,H⟩:=nU H
   by_cases c13:t219=true
   ·subst c13
    rw [if_pos rfl] at H
    by_cases c14:(gX.length:Int)=(bF.length:Int)
    ·rw [if_pos c14] at H
     have qdX:((gX.length:Int) == (bF.length:Int))=true:=beq_iff_eq.mpr c14;have qdY:((gX.length:Int) != (bF.length:Int))=false:=bne_eq_false_iff_eq.mpr c14
     have qdZ:(gX.length == bF.length)=true:=by first|simpa using c14|(simp at c14 ⊢;omega)
     clear c14;obtain ⟨t220,A15,H⟩:=nU H
     by_cases c16:t220=true
     ·subst c16
      rw [if_pos rfl] at H;obtain rfl:=Option.some.inj H
      go_enter Tryz.func126,Tryz.ntmps126
      go_wp2_with (first|((with_reducible refine au (N:=2) rfl ?_);(try (refine fI (by rfl) ?_;dsimp only));refine fA 2 #[.slice bC av.length aZ] 24 HB ?_;clear HB;intro Kn w17 hg gB Ko HB hb;clear hb hg)|((with_reducible refine au (N:=3) rfl ?_);(try (refine fI (by rfl) ?_;dsimp only));refine fA 3 #[.slice fP bF.length fK,.int .i64 gT,.int .i64 iY,.slice vX gX.length vE,.int .i64 kg] 58 HB ?_;clear HB;intro Kq VN hg bU Kr HB hb;have kM:=Fh gB hg;have kN:=Fj gB hg;replace gB:=bW gB hb;clear hb hg;have qlU:=kN.out;have qlV:=kM.out;obtain ⟨OA,Wq,Ws,Wt,Wu⟩:=LZ bU;have OB:=bf bU 0;have Wv:=bf bU 1;have Ww:=bf bU 2;have Wy:=bf bU 3;have Wz:=bf bU 4)|((with_reducible refine aG (f:=113) rfl ?_);refine bX (some 8) rfl rfl Tryz.func113 tX rfl #[.int .i64 (bF.length:Int),.int .i64 1,.int .i64 3] rfl tM ?_;(with_reducible refine (dW.calls (bF.length:Int) 1 3 true _ A3.out).mono ?_);rintro e w' ⟨rfl,⟨nd,rfl⟩⟩;refine ⟨_,rfl,?_⟩)|(go_at_call 114;(with_reducible refine (lS.calls (fP:=bC) (fK:=aZ) _ _ bF av false _ ?bK ?bL ?fM ?fO ?jI A5.out).mono ?_);(case bK=>exact cS EB);(case bL=>exact EC.out);(case fM=>exact cS dM);(case fO=>exact fu.out);(case jI=>exact (qB2 gB));rintro e w21 ⟨rfl,hb⟩;replace gB:=bW gB hb;replace bU:=bW bU hb;replace HB:=dL HB hb;(try clear hb);obtain ⟨Xc,qfI,qfJ,qfK,qfL⟩:=LZ bU;have Xd:=bf bU 0;have qfM:=bf bU 1;have qfN:=bf bU 2;have qfO:=bf bU 3;have qfP:=bf bU 4)|(go_at_call 117;(with_reducible refine (gJ.calls gT iY true _ A12.out).mono ?_);rintro e w23 ⟨rfl,hb⟩;replace gB:=bW gB hb;replace bU:=bW bU hb;replace HB:=dL HB hb;(try clear hb);obtain ⟨qfQ,qfR,qfS,qfT,qfU⟩:=LZ bU;have qfV:=bf bU 0;have qfW:=bf bU 1;have qfX:=bf bU 2;have qfY:=bf bU 3;have qfZ:=bf bU 4)|(go_at_call 165;(with_reducible refine (oI.calls _ _ gX true _ ?bK ?bL A15.out).mono ?_);(case bK=>exact cS Zp);(case bL=>exact Zq.out);rintro e w25 ⟨rfl,hb⟩;replace gB:=bW gB hb;replace bU:=bW bU hb;replace HB:=dL HB hb;(try clear hb)))
      go_ret
      exact ⟨tF,tB⟩
     ·replace c16:=Bool.eq_false_iff.mpr c16
      subst c16
      have H1:((dW.f kg 1 300).bind fun t221=>(some t221))=some r:=by rw [if_neg (show ¬ (false=true) by decide)] at H;exact H
      clear H;have H:=H1;clear H1;obtain ⟨t221,A26,H⟩:=nU H;obtain rfl:=Option.some.inj H
      go_enter Tryz.func126,Tryz.ntmps126
      go_wp2_with (first|((with_reducible refine au (N:=2) rfl ?_);(try (refine fI (by rfl) ?_;dsimp only));refine fA 2 #[.slice bC av.length aZ] 24 HB ?_;clear HB;intro Kn w27 hg gB Ko HB hb;clear hb hg)|((with_reducible refine au (N:=3) rfl ?_);(try (refine fI (by rfl) ?_;dsimp only));refine fA 3 #[.slice fP bF.length fK,.int .i64 gT,.int .i64 iY,.slice vX gX.length vE,.int .i64 kg] 58 HB ?_;clear HB;intro Kq w28 hg bU Kr HB hb;have kM:=Fh gB hg;have kN:=Fj gB hg;replace gB:=bW gB hb;clear hb hg;have qlX:=kN.out;have qlY:=kM.out;obtain ⟨Du,Xe,Xf,Xg,qf0⟩:=LZ bU;have Dv:=bf bU 0;have Xh:=bf bU 1;have Xi:=bf bU 2;have Xj:=bf bU 3;have qf1:=bf bU 4)|((with_reducible refine aG (f:=113) rfl ?_);refine bX (some 8) rfl rfl Tryz.func113 tX rfl #[.int .i64 (bF.length:Int),.int .i64 1,.int .i64 3] rfl tM ?_;(with_reducible refine (dW.calls (bF.length:Int) 1 3 true _ A3.out).mono ?_);rintro e w' ⟨rfl,⟨nd,rfl⟩⟩;refine ⟨_,rfl,?_⟩)|(go_at_call 114;(with_reducible refine (lS.calls (fP:=bC) (fK:=aZ) _ _ bF av false _ ?bK ?bL ?fM ?fO ?jI A5.out).mono ?_);(case bK=>exact cS EB);(case bL=>exact EC.out);(case fM=>exact cS dM);(case fO=>exact fu.out);(case jI=>exact (qB2 gB));rintro e w31 ⟨rfl,hb⟩;replace gB:=bW gB hb;replace bU:=bW bU hb;replace HB:=dL HB hb;(try clear hb);obtain ⟨Ih,Ii,qf2,qf3,qf4⟩:=LZ bU;have Ij:=bf bU 0;have Ik:=bf bU 1;have qf5:=bf bU 2;have qf6:=bf bU 3;have qf7:=bf bU 4)|(go_at_call 117;(with_reducible refine (gJ.calls gT iY true _ A12.out).mono ?_);rintro e w33 ⟨rfl,hb⟩;replace gB:=bW gB hb;replace bU:=bW bU hb;replace HB:=dL HB hb;(try clear hb);obtain ⟨qf8,qf9,qga,qgb,qgc⟩:=LZ bU;have qgd:=bf bU 0;have qge:=bf bU 1;have qgf:=bf bU 2;have qgg:=bf bU 3;have qgh:=bf bU 4)|(go_at_call 165;(with_reducible refine (oI.calls _ _ gX false _ ?bK ?bL A15.out).mono ?_);(case bK=>exact cS Zp);(case bL=>exact Zq.out);rintro e w35 ⟨rfl,hb⟩;replace gB:=bW gB hb;replace bU:=bW bU hb;replace HB:=dL HB hb;(try clear hb);obtain ⟨qgi,qgj,qgk,qgl,qgm⟩:=LZ bU;have qgn:=bf bU 0;have qgo:=bf bU 1;have qgp:=bf bU 2;have qgq:=bf bU 3;have qgr:=bf bU 4)|(go_at_call 113;(with_reducible refine (dW.calls kg 1 300 t221 _ A26.out).mono ?_);rintro e w' ⟨rfl,⟨nd,rfl⟩⟩))
      go_ret
      exact ⟨tF,tB⟩
    ·rw [if_neg c14] at H
     have qdX:((gX.length:Int) == (bF.length:Int))=false:=beq_eq_false_iff_ne.mpr c14;have qdY:((gX.length:Int) != (bF.length:Int))=true:=bne_iff_ne.mpr c14
     have qdZ:(gX.length == bF.length)=false:=by first|simpa using c14|(simp at c14 ⊢;omega)
     obtain rfl:=Option.some.inj H
     go_enter Tryz.func126,Tryz.ntmps126
     go_wp2_with (first|((with_reducible refine au (N:=2) rfl ?_);(try (refine fI (by rfl) ?_;dsimp only));refine fA 2 #[.slice bC av.length aZ] 24 HB ?_;clear HB;intro Kn w37 hg gB Ko HB hb;clear hb hg)|((with_reducible refine au (N:=3) rfl ?_);(try (refine fI (by rfl) ?_;dsimp only));refine fA 3 #[.slice fP bF.length fK,.int .i64 gT,.int .i64 iY,.slice vX gX.length vE,.int .i64 kg] 58 HB ?_;clear HB;intro Kq w38 hg bU Kr HB hb;have kM:=Fh gB hg;have kN:=Fj gB hg;replace gB:=bW gB hb;clear hb hg;have ql0:=kN.out;have ql1:=kM.out;obtain ⟨Il,qgs,qgt,qgu,qgv⟩:=LZ bU;have Im:=bf bU 0;have qgw:=bf bU 1;have qgx:=bf bU 2;have qgy:=bf bU 3;have qgz:=bf bU 4)|((with_reducible refine aG (f:=113) rfl ?_);refine bX (some 8) rfl rfl Tryz.func113 tX rfl #[.int .i64 (bF.length:Int),.int .i64 1,.int .i64 3] rfl tM ?_;(with_reducible refine (dW.calls (bF.length:Int) 1 3 true _ A3.out).mono ?_);rintro e w' ⟨rfl,⟨nd,rfl⟩⟩;refine ⟨_,rfl,?_⟩)|(go_at_call 114;(with_reducible refine (lS.calls (fP:=bC) (fK:=aZ) _ _ bF av false _ ?bK ?bL ?fM ?fO ?jI A5.out).mono ?_);(case bK=>exact cS EB);(case bL=>exact EC.out);(case fM=>exact cS dM);(case fO=>exact fu.out);(case jI=>exact (qB2 gB));rintro e w41 ⟨rfl,hb⟩;replace gB:=bW gB hb;replace bU:=bW bU hb;replace HB:=dL HB hb;(try clear hb);obtain ⟨qgA,qgB,qgC,qgD,qgE⟩:=LZ bU;have qgF:=bf bU 0;have qgG:=bf bU 1;have qgH:=bf bU 2;have qgI:=bf bU 3;have qgJ:=bf bU 4)|(go_at_call 117;(with_reducible refine (gJ.calls gT iY true _ A12.out).mono ?_);rintro e w43 ⟨rfl,hb⟩;replace gB:=bW gB hb;replace bU:=bW bU hb;replace HB:=dL HB hb;(try clear hb);obtain ⟨qgK,qgL,qgM,qgN,qgO⟩:=LZ bU;have qgP:=bf bU 0;have qgQ:=bf bU 1;have qgR:=bf bU 2;have qgS:=bf bU 3;have qgT:=bf bU 4))
     go_ret
     exact ⟨tF,tB⟩
   ·replace c13:=Bool.eq_false_iff.mpr c13
    subst c13
    have H1:(some false)=some r:=by rw [if_neg (show ¬ (false=true) by decide)] at H;exact H
    clear H;have H:=H1;clear H1;obtain rfl:=Option.some.inj H
    go_enter Tryz.func126,Tryz.ntmps126
    go_wp2_with (first|((with_reducible refine au (N:=2) rfl ?_);(try (refine fI (by rfl) ?_;dsimp only));refine fA 2 #[.slice bC av.length aZ] 24 HB ?_;clear HB;intro Kn w45 hg gB Ko HB hb;clear hb hg)|((with_reducible refine au (N:=3) rfl ?_);(try (refine fI (by rfl) ?_;dsimp only));refine fA 3 #[.slice fP bF.length fK,.int .i64 gT,.int .i64 iY,.slice vX gX.length vE,.int .i64 kg] 58 HB ?_;clear HB;intro Kq w46 hg bU Kr HB hb;have kM:=Fh gB hg;have kN:=Fj gB hg;replace gB:=bW gB hb;clear hb hg;have ql2:=kN.out;have ql3:=kM.out;obtain ⟨qgU,qgV,qgW,qgX,qgY⟩:=LZ bU;have qgZ:=bf bU 0;have qg0:=bf bU 1;have qg1:=bf bU 2;have qg2:=bf bU 3;have qg3:=bf bU 4)|((with_reducible refine aG (f:=113) rfl ?_);refine bX (some 8) rfl rfl Tryz.func113 tX rfl #[.int .i64 (bF.length:Int),.int .i64 1,.int .i64 3] rfl tM ?_;(with_reducible refine (dW.calls (bF.length:Int) 1 3 true _ A3.out).mono ?_);rintro e w' ⟨rfl,⟨nd,rfl⟩⟩;refine ⟨_,rfl,?_⟩)|(go_at_call 114;(with_reducible refine (lS.calls (fP:=bC) (fK:=aZ) _ _ bF av false _ ?bK ?bL ?fM ?fO ?jI A5.out).mono ?_);(case bK=>exact cS EB);(case bL=>exact EC.out);(case fM=>exact cS dM);(case fO=>exact fu.out);(case jI=>exact (qB2 gB));rintro e w49 ⟨rfl,hb⟩;replace gB:=bW gB hb;replace bU:=bW bU hb;replace HB:=dL HB hb;(try clear hb);obtain ⟨qg4,qg5,qg6,qg7,qg8⟩:=LZ bU;have qg9:=bf bU 0;have qha:=bf bU 1;have qhb:=bf bU 2;have qhc:=bf bU 3;have qhd:=bf bU 4)|(go_at_call 117;(with_reducible refine (gJ.calls gT iY false _ A12.out).mono ?_);rintro e w51 ⟨rfl,hb⟩;replace gB:=bW gB hb;replace bU:=bW bU hb;replace HB:=dL HB hb;(try clear hb)))
    go_ret
    exact ⟨tF,tB⟩
 ·replace c4:=Bool.eq_false_iff.mpr c4
  subst c4
  have H1:(some false)=some r:=by rw [if_neg (show ¬ (false=true) by decide)] at H;exact H
  clear H;have H:=H1;clear H1;obtain rfl:=Option.some.inj H
  go_enter Tryz.func126,Tryz.ntmps126
  go_wp2_with (first|((with_reducible refine au (N:=2) rfl ?_);(try (refine fI (by rfl) ?_;dsimp only));refine fA 2 #[.slice bC av.length aZ] 24 HB ?_;clear HB;intro Kn w52 hg gB Ko HB hb;clear hb hg)|((with_reducible refine au (N:=3) rfl ?_);(try (refine fI (by rfl) ?_;dsimp only));refine fA 3 #[.slice fP bF.length fK,.int .i64 gT,.int .i64 iY,.slice vX gX.length vE,.int .i64 kg] 58 HB ?_;clear HB;intro Kq w53 hg bU Kr HB hb;have kM:=Fh gB hg;have kN:=Fj gB hg;replace gB:=bW gB hb;clear hb hg;have ql4:=kN.out;have ql5:=kM.out;obtain ⟨qhe,qhf,qhg,qhh,qhi⟩:=LZ bU;have qhj:=bf bU 0;have qhk:=bf bU 1;have qhl:=bf bU 2;have qhm:=bf bU 3;have qhn:=bf bU 4)|((with_reducible refine aG (f:=113) rfl ?_);refine bX (some 8) rfl rfl Tryz.func113 tX rfl #[.int .i64 (bF.length:Int),.int .i64 1,.int .i64 3] rfl tM ?_;(with_reducible refine (dW.calls (bF.length:Int) 1 3 false _ A3.out).mono ?_);rintro e w' ⟨rfl,⟨nd,rfl⟩⟩;refine ⟨_,rfl,?_⟩))
  go_ret
  exact ⟨tF,tB⟩
def iT.f (av:List bI) (l1:List dD) (a2:Int):Option Bool:=(dW.f (l1.length:Int) a2 5).bind fun t223=>(if t223=true then ((sF.f l1 av).bind fun t224=>(some (!t224))) else (some false))
theorem iT.calls (bC:Option Addr) (aZ:Nat) (av:List bI) (A1:Option Addr) (c1:Nat) (l1:List dD) (a2:Int) (r:Bool) (w:World) (dw:Kd.C iG w bC av.length av) (dG:av.length<=aZ) (hr1:Kd.C kS w A1 l1.length l1) (hc1:l1.length<=c1) (h:iT.f av l1 a2=some r) :
  Calls Tryz.prog 127 #[.agg #[.slice bC av.length aZ],.slice A1 l1.length c1,.int .i64 a2] w fun e w'=>e=.returned (.bool r)∧Below w.heap.size w w':=by
 have qb:=Tryz.underlying24;have dM:=aj.mk dw;have fu:=aj.mk dG;clear dw dG;have HR1:=aj.mk hr1;have yE:=aj.mk hc1;clear hr1 hc1;have HB:=aj.mk (Below.refl w.heap.size w);have H:((dW.f (l1.length:Int) a2 5).bind fun t223=>(if t223=true then ((sF.f l1 av).bind fun t224=>(some (!t224))) else (some false)))=some r:=h;clear h;obtain ⟨t223,A4,H⟩:=nU H
 by_cases c5:t223=true
 ·subst c5
  rw [if_pos rfl] at H;obtain ⟨t224,A6,H⟩:=nU H;obtain rfl:=Option.some.inj H
  go_enter Tryz.func127,Tryz.ntmps127
  go_wp2_with (first|((with_reducible refine au (N:=3) rfl ?_);refine fA 3 #[.slice bC av.length aZ] 24 HB ?_;clear HB;intro qd0 w7 hg Ud qd1 HB hb;clear hb hg)|((with_reducible refine aG (f:=113) rfl ?_);refine bX (some 10) rfl rfl Tryz.func113 tX rfl #[.int .i64 (l1.length:Int),.int .i64 a2,.int .i64 5] rfl tM ?_;(with_reducible refine (dW.calls (l1.length:Int) a2 5 true _ A4.out).mono ?_);rintro e w' ⟨rfl,⟨nd,rfl⟩⟩;refine ⟨_,rfl,?_⟩)|(go_at_call 180;(with_reducible refine (sF.calls (fP:=bC) (fK:=aZ) _ _ l1 av t224 _ ?bK ?bL ?fM ?fO ?jI A6.out).mono ?_);(case bK=>exact cS HR1);(case bL=>exact yE.out);(case fM=>exact cS dM);(case fO=>exact fu.out);(case jI=>exact (qB2 Ud));rintro e w8 ⟨rfl,hb⟩;replace Ud:=bW Ud hb;replace HB:=dL HB hb;(try clear hb)))
  go_ret
  exact ⟨tF,tB⟩
 ·replace c5:=Bool.eq_false_iff.mpr c5
  subst c5
  have H1:(some false)=some r:=by rw [if_neg (show ¬ (false=true) by decide)] at H;exact H
  clear H;have H:=H1;clear H1;obtain rfl:=Option.some.inj H
  go_enter Tryz.func127,Tryz.ntmps127
  go_wp2_with (first|((with_reducible refine au (N:=3) rfl ?_);refine fA 3 #[.slice bC av.length aZ] 24 HB ?_;clear HB;intro qd0 w9 hg Ud qd1 HB hb;clear hb hg)|((with_reducible refine aG (f:=113) rfl ?_);refine bX (some 10) rfl rfl Tryz.func113 tX rfl #[.int .i64 (l1.length:Int),.int .i64 a2,.int .i64 5] rfl tM ?_;(with_reducible refine (dW.calls (l1.length:Int) a2 5 false _ A4.out).mono ?_);rintro e w' ⟨rfl,⟨nd,rfl⟩⟩;refine ⟨_,rfl,?_⟩))
  go_ret
  exact ⟨tF,tB⟩
def kP.f (bq:Int) (aU:Int):Option Bool:=(fJ.f bq aU (-3000) 3000 6).bind fun t235=>(some (!t235))
theorem kP.calls (bq:Int) (aU:Int) (r:Bool) (w:World) (h:kP.f bq aU=some r) :
  Calls Tryz.prog 186 #[.agg #[.int .i64 bq,.int .i64 aU]] w fun e w'=>e=.returned (.bool r)∧Below w.heap.size w w':=by
 have jY:=Tryz.underlying37;have HB:=aj.mk (Below.refl w.heap.size w);have H:((fJ.f bq aU (-3000) 3000 6).bind fun t235=>(some (!t235)))=some r:=h;clear h;obtain ⟨t235,A2,H⟩:=nU H;obtain rfl:=Option.some.inj H
 go_enter Tryz.func186,Tryz.ntmps186
 go_wp2_with (first|((with_reducible refine au (N:=1) rfl ?_);refine fA 1 #[.int .i64 bq,.int .i64 aU] 37 HB ?_;clear HB;intro ql6 w3 hg Kt ql7 HB hb;clear hb hg;obtain ⟨yT,Ei⟩:=bc2 Kt;have yU:=bf Kt 0;have Ej:=bf Kt 1)|((with_reducible refine aG (f:=167) rfl ?_);refine bX (some 4) rfl rfl Tryz.func167 tX rfl #[.agg #[.int .i64 bq,.int .i64 aU],.int .i64 (-3000),.int .i64 3000,.int .i64 6] rfl tM ?_;(with_reducible refine (fJ.calls bq aU (-3000) 3000 6 t235 _ A2.out).mono ?_);rintro e w5 ⟨rfl,hb⟩;refine ⟨_,rfl,?_⟩;replace Kt:=bW Kt hb;replace HB:=dL HB hb;(try clear hb)))
 go_ret
 exact ⟨tF,tB⟩
def sG.f (l0:List bQ):Option Bool:=CG (fun x=>kP.f x.f0 x.f1) l0
theorem sG.calls (A0:Option Addr) (c0:Nat) (l0:List bQ) (r:Bool) (w:World) (hr0:Kd.C jW w A0 l0.length l0) (hc0:l0.length<=c0) (h:sG.f l0=some r) :
  Calls Tryz.prog 165 #[.slice A0 l0.length c0,.func (.func 186) #[] #[]] w fun e w'=>e=.returned (.bool r)∧Below w.heap.size w w':=by
 obtain ⟨hs,rfl⟩:=qc h;refine qaH (fun x=>kP.f x.f0 x.f1 == some true) 186 #[] A0 c0 l0 w hr0 (enters_of Tryz.func186 tX rfl) (fun x hx=>⟨fun W cs hb hK=>?_⟩);obtain rfl:=oW hK
 exact (kP.calls _ _ _ W (hs x hx)).mono fun e w' h=>h
def iK.f (bq:Int) (aU:Int) (dN:Int) (cu:List bQ):Option Bool:=(gJ.f bq aU).bind fun t237=>(if t237=true then ((dW.f dN 0 9).bind fun t238=>(if t238=true then ((dW.f (cu.length:Int) 1 4).bind fun t239=>(if t239=true then ((sG.f cu).bind fun t240=>(some (!t240))) else (some false))) else (some false))) else (some false))
theorem iK.calls (bq:Int) (aU:Int) (dN:Int) (jh:Option Addr) (jv:Nat) (cu:List bQ) (r:Bool) (w:World) (o9:Kd.C jW w jh cu.length cu) (xw:cu.length<=jv) (h:iK.f bq aU dN cu=some r) :
  Calls Tryz.prog 138 #[.agg #[.int .i64 bq,.int .i64 aU,.int .i64 dN,.slice jh cu.length jv]] w fun e w'=>e=.returned (.bool r)∧Below w.heap.size w w':=by
 have ME:=Tryz.underlying67;have jY:=Tryz.underlying37;have zX:=aj.mk o9;have zY:=aj.mk xw;clear o9 xw;have HB:=aj.mk (Below.refl w.heap.size w);have H:((gJ.f bq aU).bind fun t237=>(if t237=true then ((dW.f dN 0 9).bind fun t238=>(if t238=true then ((dW.f (cu.length:Int) 1 4).bind fun t239=>(if t239=true then ((sG.f cu).bind fun t240=>(some (!t240))) else (some false))) else (some false))) else (some false)))=some r:=h;clear h;obtain ⟨t237,A2,H⟩:=nU H
 by_cases c3:t237=true
 ·subst c3
  rw [if_pos rfl] at H;obtain ⟨t238,A4,H⟩:=nU H
  by_cases c5:t238=true
  ·subst c5
   rw [if_pos rfl] at H;obtain ⟨t239,A6,H⟩:=nU H
   by_cases c7:t239=true
   ·subst c7
    rw [if_pos rfl] at H;obtain ⟨t240,A8,H⟩:=nU H;obtain rfl:=Option.some.inj H
    go_enter Tryz.func138,Tryz.ntmps138
    go_wp2_with (first|((with_reducible refine au (N:=1) rfl ?_);(try (refine fI (by rfl) ?_;dsimp only));refine fA 1 #[.int .i64 bq,.int .i64 aU,.int .i64 dN,.slice jh cu.length jv] 67 HB ?_;clear HB;intro Ue w9 hg gP Uf HB hb;clear hb hg;obtain ⟨yA,Hr,WY,WZ⟩:=Fg gP;have yB:=bf gP 0;have Ht:=bf gP 1;have Xa:=bf gP 2;have Xb:=bf gP 3)|((with_reducible refine aG (f:=117) rfl ?_);refine bX (some 5) rfl rfl Tryz.func117 tX rfl #[.agg #[.int .i64 bq,.int .i64 aU]] rfl tM ?_;(with_reducible refine (gJ.calls bq aU true _ A2.out).mono ?_);rintro e Jc ⟨rfl,hb⟩;refine ⟨_,rfl,?_⟩;replace gP:=bW gP hb;replace HB:=dL HB hb;(try clear hb);obtain ⟨yC,OD,Xk,Xl⟩:=Fg gP;have yD:=bf gP 0;have OE:=bf gP 1;have Xm:=bf gP 2;have Xn:=bf gP 3)|(go_at_call 113;(with_reducible refine (dW.calls dN 0 9 true _ A4.out).mono ?_);rintro e w' ⟨rfl,⟨nd,rfl⟩⟩)|(go_at_call 113;(with_reducible refine (dW.calls (cu.length:Int) 1 4 true _ A6.out).mono ?_);rintro e w' ⟨rfl,⟨nd,rfl⟩⟩)|(go_at_call 165;(with_reducible refine (sG.calls _ _ cu t240 _ ?bK ?bL A8.out).mono ?_);(case bK=>exact cS zX);(case bL=>exact zY.out);rintro e w13 ⟨rfl,hb⟩;replace gP:=bW gP hb;replace HB:=dL HB hb;(try clear hb)))
    go_ret
    exact ⟨tF,tB⟩
   ·replace c7:=Bool.eq_false_iff.mpr c7
    subst c7
    have H1:(some false)=some r:=by rw [if_neg (show ¬ (false=true) by decide)] at H;exact H
    clear H;have H:=H1;clear H1;obtain rfl:=Option.some.inj H
    go_enter Tryz.func138,Tryz.ntmps138
    go_wp2_with (first|((with_reducible refine au (N:=1) rfl ?_);(try (refine fI (by rfl) ?_;dsimp only));refine fA 1 #[.int .i64 bq,.int .i64 aU,.int .i64 dN,.slice jh cu.length jv] 67 HB ?_;clear HB;intro Ue R8 hg gP Uf HB hb;clear hb hg;obtain ⟨yw,He,qho,qhp⟩:=Fg gP;have yx:=bf gP 0;have Hf:=bf gP 1;have qhq:=bf gP 2;have qhr:=bf gP 3)|((with_reducible refine aG (f:=117) rfl ?_);refine bX (some 5) rfl rfl Tryz.func117 tX rfl #[.agg #[.int .i64 bq,.int .i64 aU]] rfl tM ?_;(with_reducible refine (gJ.calls bq aU true _ A2.out).mono ?_);rintro e w16 ⟨rfl,hb⟩;refine ⟨_,rfl,?_⟩;replace gP:=bW gP hb;replace HB:=dL HB hb;(try clear hb);obtain ⟨WC,WE,WG,WH⟩:=Fg gP;have WI:=bf gP 0;have WJ:=bf gP 1;have WK:=bf gP 2;have WL:=bf gP 3)|(go_at_call 113;(with_reducible refine (dW.calls dN 0 9 true _ A4.out).mono ?_);rintro e w' ⟨rfl,⟨nd,rfl⟩⟩)|(go_at_call 113;(with_reducible refine (dW.calls (cu.length:Int) 1 4 false _ A6.out).mono ?_);rintro e w' ⟨rfl,⟨nd,rfl⟩⟩))
    go_ret
    exact ⟨tF,tB⟩
  ·replace c5:=Bool.eq_false_iff.mpr c5
   subst c5
   have H1:(some false)=some r:=by rw [if_neg (show ¬ (false=true) by decide)] at H;exact H
   clear H;have H:=H1;clear H1;obtain rfl:=Option.some.inj H
   go_enter Tryz.func138,Tryz.ntmps138
   go_wp2_with (first|((with_reducible refine au (N:=1) rfl ?_);(try (refine fI (by rfl) ?_;dsimp only));refine fA 1 #[.int .i64 bq,.int .i64 aU,.int .i64 dN,.slice jh cu.length jv] 67 HB ?_;clear HB;intro Ue VN hg gP Uf HB hb;clear hb hg;obtain ⟨Pg,qhs,qht,qhu⟩:=Fg gP;have Ph:=bf gP 0;have qhv:=bf gP 1;have qhw:=bf gP 2;have qhx:=bf gP 3)|((with_reducible refine aG (f:=117) rfl ?_);refine bX (some 5) rfl rfl Tryz.func117 tX rfl #[.agg #[.int .i64 bq,.int .i64 aU]] rfl tM ?_;(with_reducible refine (gJ.calls bq aU true _ A2.out).mono ?_);rintro e w20 ⟨rfl,hb⟩;refine ⟨_,rfl,?_⟩;replace gP:=bW gP hb;replace HB:=dL HB hb;(try clear hb);obtain ⟨Px,Xo,Xp,Xq⟩:=Fg gP;have Py:=bf gP 0;have Xr:=bf gP 1;have Xt:=bf gP 2;have Xu:=bf gP 3)|(go_at_call 113;(with_reducible refine (dW.calls dN 0 9 false _ A4.out).mono ?_);rintro e w' ⟨rfl,⟨nd,rfl⟩⟩))
   go_ret
   exact ⟨tF,tB⟩
 ·replace c3:=Bool.eq_false_iff.mpr c3
  subst c3
  have H1:(some false)=some r:=by rw [if_neg (show ¬ (false=true) by decide)] at H;exact H
  clear H;have H:=H1;clear H1;obtain rfl:=Option.some.inj H
  go_enter Tryz.func138,Tryz.ntmps138
  go_wp2_with (first|((with_reducible refine au (N:=1) rfl ?_);(try (refine fI (by rfl) ?_;dsimp only));refine fA 1 #[.int .i64 bq,.int .i64 aU,.int .i64 dN,.slice jh cu.length jv] 67 HB ?_;clear HB;intro Ue w22 hg gP Uf HB hb;clear hb hg;obtain ⟨C9,H6,OL,OM⟩:=Fg gP;have Da:=bf gP 0;have Ia:=bf gP 1;have OO:=bf gP 2;have OP:=bf gP 3)|((with_reducible refine aG (f:=117) rfl ?_);refine bX (some 5) rfl rfl Tryz.func117 tX rfl #[.agg #[.int .i64 bq,.int .i64 aU]] rfl tM ?_;(with_reducible refine (gJ.calls bq aU false _ A2.out).mono ?_);rintro e w24 ⟨rfl,hb⟩;refine ⟨_,rfl,?_⟩;replace gP:=bW gP hb;replace HB:=dL HB hb;(try clear hb)))
  go_ret
  exact ⟨tF,tB⟩
end Go.Proofs.YtnpfbjnjdngkhaaGreatDoor.P
namespace Go.Proofs.YtnpfbjnjdngkhaaGreatDoor.P
open Go.RowKit Go.Proofs.YtnpfbjnjdngkhaaGreatDoorW.aQ Go.Proofs.YtnpfbjnjdngkhaaGreatDoorW.bO Go.Proofs.YtnpfbjnjdngkhaaGreatDoorW.bT
def za (x:bI):Bool:=!(decide (x.f0.length=3))||(!(oN x.f1 0 100)||x.f0.any fun s=>!je s 0 20 2)
def iN (h:List bI):Bool:=oN h.length 1 3&&!(h.any za)
def oJ (n:Nat) (ws:List Int):Bool:=decide (ws.length=n)&&!(ws.any fun x=>!oN x (-9) 9)
def M7 (n:Nat) (l:List nJ):Bool:=oN l.length 1 3&&!(l.any fun x=>!oJ n x.f0)
def Ku (s:bQ):Bool:=je s 0 200 4
def Ci (s:bQ):Bool:=je s (-3000) 3000 6000
def zZ (n:Nat) (gD:List nJ) (eye:bQ) (old:List bQ) (need:Int):Bool:=M7 n gD&&(Ku eye&&(decide (old.length=gD.length)&&(!(old.any fun s=>!Ci s)&&oN need 1 300)))
def rF (n:Nat) (l:List dD) (least:Int):Bool:=oN l.length least 5&&!(l.any (vD n))
def rG (eye:bQ) (Bu:Int) (looks:List bQ):Bool:=Ku eye&&(oN Bu 0 9&&(oN looks.length 1 4&&!(looks.any fun s=>!je s (-3000) 3000 6)))
theorem Rm (h:List bI):eG.f h=some (iN h):=by
 have h1:su.f h=some (h.any za):=by
  refine yj fun x _=>?_
  have h2:sj.f x.f0=some (x.f0.any fun s=>!je s 0 20 2):=yj fun s _=>by simp [jQ.f,vv s]
  unfold lQ.f za
  by_cases hl:x.f0.length=3
  ·rw [if_pos (by omega),Eu]
   simp only [Option.bind_some,hl,decide_true,Bool.not_true,Bool.false_or,h2]
   cases oN x.f1 0 100<;>simp
  ·rw [if_neg (by omega)]
   simp [hl]
 unfold eG.f iN
 rw [Eu,Option.bind_some,h1]
 cases oN h.length 1 3<;>simp
theorem Kv (h:List bI) (ws:List Int):iJ.f h ws=some (oJ h.length ws):=by
 have h1:sD.f ws=some (ws.any fun x=>!oN x (-9) 9):=yj fun x _=>by simp [mZ.f,Eu]
 unfold iJ.f oJ
 by_cases hl:ws.length=h.length
 ·rw [if_pos (by omega),h1];simp [hl]
 ·rw [if_neg (by omega)];simp [hl]
theorem Pz (a b:Int):gJ.f a b=some (Ku ⟨a,b⟩):=by
 have:=vv ⟨a,b⟩ 0 200 4
 unfold gJ.f Ku
 rw [this];rfl
theorem Kw (a b:Int):mP.f a b=some (Ci ⟨a,b⟩):=by
 have:=vv ⟨a,b⟩ (-3000) 3000 6000
 unfold mP.f Ci
 rw [this];rfl
theorem Xv (h:List bI) (l:List nJ):CG (fun x:nJ=>(iJ.f h x.f0).map not) l=some (l.any fun x=>!oJ h.length x.f0):=yj fun x _=>by simp [Kv]
theorem Ug (h:List bI) (gD:List nJ) (eye:bQ) (old:List bQ) (need:Int):tu.f h gD eye.f0 eye.f1 old need=some (zZ h.length gD eye old need):=by
 have h1:lS.f gD h=some (gD.any fun x=>!oJ h.length x.f0):=Xv h gD
 have h2:oI.f old=some (old.any fun s=>!Ci s):=yj fun s _=>by simp [ng.f,Kw]
 unfold tu.f zZ M7
 rw [Eu,Option.bind_some,h1,Option.bind_some,Pz,Option.bind_some,h2,Option.bind_some,Eu]
 generalize (old.any fun s=>!Ci s)=b1
 generalize (gD.any fun x=>!oJ h.length x.f0)=b2
 by_cases hl:old.length=gD.length
 ·rw [if_pos (show (old.length:Int)=gD.length by omega)]
  cases oN gD.length 1 3<;>cases b2<;>cases Ku eye<;>cases b1<;>simp [hl]
 ·rw [if_neg (show ¬ (old.length:Int)=gD.length by omega)]
  cases oN gD.length 1 3<;>cases b2<;>cases Ku eye<;>simp [hl]
theorem Ky (h:List bI) (l:List dD) (least:Int):iT.f h l least=some (rF h.length l least):=by
 unfold iT.f rF
 rw [Eu,Option.bind_some]
 unfold sF.f
 cases oN l.length least 5<;>simp
theorem M8 (eye:bQ) (Bu:Int) (looks:List bQ):iK.f eye.f0 eye.f1 Bu looks=some (rG eye Bu looks):=by
 have h1:sG.f looks=some (looks.any fun s=>!je s (-3000) 3000 6):=yj fun s _=>by simp [kP.f,vv s]
 unfold iK.f rG
 rw [Pz,Option.bind_some,Eu,Option.bind_some,Eu,Option.bind_some,h1]
 cases Ku eye<;>cases oN Bu 0 9<;>cases oN looks.length 1 4<;>simp
theorem pq {x lo hi:Int}:oN x lo hi=true↔lo<=x∧x<=hi:=by simp [oN]
theorem oK {s:bQ} {lo hi wide:Int} (h0 : -1000000000<=lo) (h1:hi<=1000000000):je s lo hi wide=true↔lo<=s.f0∧s.f0<=s.f1∧s.f1<=hi∧s.f1 - s.f0<=wide:=by
 unfold je fJ.f
 by_cases a:lo<=s.f0∧s.f0<=s.f1∧s.f1<=hi
 ·have:wrap64 (s.f1 - s.f0)=s.f1 - s.f0:=Br (by omega) (by omega)
  rw [if_pos a.1,if_pos a.2.1,if_pos a.2.2,this];simp [a]
 ·constructor
  ·intro h
   exfalso
   revert h
   repeat' split
   all_goals first|omega|simp
  ·rintro ⟨b1,b2,b3,_⟩
   exact absurd ⟨b1,b2,b3⟩ a
theorem qH {h:List bI} (hh:iN h=true):uw h:=by
 unfold iN at hh
 simp only [Bool.and_eq_true,Bool.not_eq_true',List.any_eq_false,pq] at hh;obtain ⟨⟨_,h1⟩,h2⟩:=hh
 have h3:∀ x∈h,x.f0.length=3∧(0<=x.f1∧x.f1<=100)∧∀ s∈x.f0,je s 0 20 2=true:=by
  intro x hx;have:=h2 x hx
  unfold za at this
  simp only [Bool.or_eq_true,Bool.not_eq_true',decide_eq_false_iff_not,not_or,Decidable.not_not,List.any_eq_true,Bool.not_eq_false,pq,not_exists,not_and] at this;exact this
 refine ⟨by omega,fun x hx=>(h3 x hx).1,fun x hx s hs=>?_,fun x hx=>(h3 x hx).2.1⟩;have:=(oK (by decide) (by decide)).1 ((h3 x hx).2.2 s hs)
 omega
theorem ze {h:List bI} (hh:iN h=true) {x:bI} (hx:x∈h) {s:bQ} (hs:s∈x.f0):s.f0<=s.f1:=by
 unfold iN at hh
 simp only [Bool.and_eq_true,Bool.not_eq_true',List.any_eq_false,pq] at hh;have:=hh.2 x hx
 unfold za at this
 simp only [Bool.or_eq_true,Bool.not_eq_true',decide_eq_false_iff_not,not_or,Decidable.not_not,List.any_eq_true,Bool.not_eq_false,pq,not_exists,not_and] at this;exact ((oK (by decide) (by decide)).1 (this.2.2 s hs)).2.1
theorem PD {n:Nat} {b:bB} (hb:rA n b=false):(0<=b.f0∧b.f0<n)∧(0<=b.f1∧b.f1<3)∧0<=b.f2.f0∧b.f2.f0<=b.f2.f1∧b.f2.f1<=12∧b.f2.f1 - b.f2.f0<=2:=by
 unfold rA at hb
 simp only [Bool.or_eq_false_iff,Bool.not_eq_false',pq] at hb;have:=(oK (by decide) (by decide)).1 hb.2.2
 omega
theorem qI {n:Nat} {l:List bB} (hb:iq n l=true):nW n l:=by
 unfold iq at hb
 simp only [Bool.and_eq_true,Bool.not_eq_true',List.any_eq_false,decide_eq_true_eq] at hb
 have h2:=fun x hx=>PD (n:=n) (b:=x) (by simpa using hb.2 x hx)
 exact ⟨hb.1,fun b hx=>(h2 b hx).1,fun b hx=>(h2 b hx).2.1,fun b hx=>by have:=h2 b hx;omega⟩
theorem zf {n:Nat} {l:List bB} (hb:iq n l=true) {b:bB} (hx:b∈l):b.f2.f0<=b.f2.f1:=by
 unfold iq at hb
 simp only [Bool.and_eq_true,Bool.not_eq_true',List.any_eq_false,decide_eq_true_eq] at hb;exact (PD (n:=n) (b:=b) (by simpa using hb.2 b hx)).2.2.2.1
theorem rH {n:Nat} {ws:List Int} (h:oJ n ws=true):Uc n ws:=by
 unfold oJ at h
 simp only [Bool.and_eq_true,Bool.not_eq_true',List.any_eq_false,decide_eq_true_eq,Bool.not_eq_false,pq] at h;exact ⟨h.1,fun x hx=>h.2 x hx⟩
section
variable (A:Option Addr) (c:Nat) (h:List bI) (w:World) (hr:Kd.C iG w A h.length h) (hc:h.length<=c)
include hr hc
theorem c105:Calls Tryz.prog 105 #[.agg #[.slice A h.length c]] w fun e w'=>e=.returned (.bool (iN h))∧Below w.heap.size w w':=eG.calls A c h _ w hr hc (Rm h)
theorem c116 (A1:Option Addr) (c1:Nat) (ws:List Int) (hr1:Kd.C (Kd.int .i64) w A1 ws.length ws) (hc1:ws.length<=c1):Calls Tryz.prog 116 #[.agg #[.slice A h.length c],.agg #[.slice A1 ws.length c1]] w fun e w'=>e=.returned (.bool (oJ h.length ws))∧Below w.heap.size w w':=iJ.calls A c h A1 c1 ws _ w hr hc hr1 hc1 (Kv h ws)
theorem qbi (A1:Option Addr) (c1:Nat) (l:List bB) (hr1:Kd.C eD w A1 l.length l) (hc1:l.length<=c1):Calls Tryz.prog 106 #[.agg #[.slice A h.length c],.slice A1 l.length c1] w fun e w'=>e=.returned (.bool (iq h.length l))∧Below w.heap.size w w':=eZ.calls A c h A1 c1 l _ w hr hc hr1 hc1 (F7 h l)
theorem c127 (A1:Option Addr) (c1:Nat) (l:List dD) (least:Int) (hr1:Kd.C kS w A1 l.length l) (hc1:l.length<=c1):Calls Tryz.prog 127 #[.agg #[.slice A h.length c],.slice A1 l.length c1,.int .i64 least] w fun e w'=>e=.returned (.bool (rF h.length l least))∧Below w.heap.size w w':=iT.calls A c h A1 c1 l least _ w hr hc hr1 hc1 (Ky h l least)
theorem qjy (A1:Option Addr) (c1:Nat) (l:List nJ) (eye:bQ) (A2:Option Addr) (c2:Nat) (old:List bQ) (need:Int) (hr1:Kd.C Bf w A1 l.length l) (hc1:l.length<=c1) (hr2:Kd.C jW w A2 old.length old) (hc2:old.length<=c2) :
  Calls Tryz.prog 126 #[.agg #[.slice A h.length c],.agg #[.slice A1 l.length c1,.int .i64 eye.f0,.int .i64 eye.f1,.slice A2 old.length c2,.int .i64 need]] w fun e w'=>e=.returned (.bool (zZ h.length l eye old need))∧Below w.heap.size w w':=tu.calls A c h A1 c1 l eye.f0 eye.f1 A2 c2 old need _ w hr hc hr1 hc1 hr2 hc2 (Ug h l eye old need)
end
theorem qjz (a b:Int) (w:World):Calls Tryz.prog 122 #[.agg #[.int .i64 a,.int .i64 b]] w fun e w'=>e=.returned (.bool (Ci ⟨a,b⟩))∧Below w.heap.size w w':=mP.calls a b _ w (Kw a b)
theorem c138 (a b t:Int) (A:Option Addr) (c:Nat) (l:List bQ) (w:World) (hr:Kd.C jW w A l.length l) (hc:l.length<=c):Calls Tryz.prog 138 #[.agg #[.int .i64 a,.int .i64 b,.int .i64 t,.slice A l.length c]] w fun e w'=>e=.returned (.bool (rG ⟨a,b⟩ t l))∧Below w.heap.size w w':=iK.calls a b t A c l _ w hr hc (M8 ⟨a,b⟩ t l)
end Go.Proofs.YtnpfbjnjdngkhaaGreatDoor.P
namespace Go.Proofs.YtnpfbjnjdngkhaaGreatDoor.P
open Go.RowKit Go.Proofs.YtnpfbjnjdngkhaaGreatDoorW.aQ Go.Proofs.YtnpfbjnjdngkhaaGreatDoorW.bO Go.Proofs.YtnpfbjnjdngkhaaGreatDoorW.bT
attribute [local go_sem] eP eT fU fV dS dU eU eX
section
variable {F:Fence} {nF:Nat} {ops:Array Oper} {rest:List Oper} {o:Oper} {a:Act} {Q:Exit->Act->World->Prop} {w:World}
theorem z8 (hg:o.guard=none) (m:Operand) (hop:o.op=.range 199 m) {b n:Nat} {S:List Int} (hm:a.eval m=.map (some b)) (hS:j6 w b n S)
  (h:∀ w' r cnt,r=w.heap.size->iA w' b r n S [] cnt->Below w.heap.size w w'->wpListIn F nF Tryz.prog ops Q rest (a.put o.dst (.pointer (some ⟨r,0,none⟩))) w'):wpListIn F nF Tryz.prog ops Q (o::rest) a w:=by
 obtain ⟨D,h1,h2⟩:=hS
 refine wpListIn_range_own w hg m 199 hop 3 4 (Maps.int_keyed Tryz.underlying3) Tryz.underlying199 _ b n D hm h1 fun w' r1 r2 _=>h w' _ (Maps.size D) rfl ⟨D,_,r1,h2,fun x hx=>by rw [h2 x hx];simp,by have:=h1.size_le;simp;exact this⟩ ⟨r2.os,r2.tape,r2.output,r2.size,fun k hk=>r2.block k hk (by simp)⟩
theorem Cj (hg:o.guard=none) (it:Operand) (hop:o.op=.next it false) {b r n cnt:Nat} {S V:List Int} (hit:a.eval it=.pointer (some ⟨r,0,none⟩)) (hR:iA w b r n S V cnt)
  (hDone:(∀ x,Pm x->x∈S->x∈V)->wpListIn F nF Tryz.prog ops Q rest (a.put o.dst (.tuple #[.bool false])) w)
  (hMore:∀ (x:Int) (c:Bool) (w':World) (cnt':Nat),Pm x->x∈S->x∉V->iA w' b r n S (V++[x]) cnt'->cnt'<cnt->w.grownBy w' (some r)->w'.heap.size=w.heap.size->(Instr.entry (.pointer (some ⟨r,0,none⟩))).run Tryz.prog w'=.ok (.tuple #[.int .i64 x,.bool c]) w' ->
   wpListIn F nF Tryz.prog ops Q rest (a.put o.dst (.tuple #[.bool true,.int .i64 x,.bool c])) w'):wpListIn F nF Tryz.prog ops Q (o::rest) a w:=by
 obtain ⟨D,left,h1,h2,h3,h4⟩:=hR;refine wpListIn_next_ranges w hg it hop 3 (Maps.int_keyed Tryz.underlying3) (plainElem Tryz.prog 4) (Value.int .i64) Value.bool ?_ ?_ b r n D left cnt hit h1 ?_ ?_
 ·intro key kl hk
  obtain ⟨x,rfl,_⟩:=Maps.keyOf_int_inv Tryz.underlying3 hk;exact ⟨x,rfl⟩
 ·intro v y hv
  unfold plainElem at hv
  rw [Tryz.underlying4] at hv
  cases v<;>simp at hv
  exact ⟨_,rfl⟩
 ·intro h0 hl
  refine hDone fun x hx hm=>?_
  have:=h3 x hx;rw [hl] at this
  simpa [hm] using this.symm
 ·intro x c kl y w' cnt' hk hl hv hat hr hlt hgr hsz hen
  obtain ⟨x',he,rfl,hx⟩:=Maps.keyOf_int_inv Tryz.underlying3 hk
  injection he with _ he
  subst he;have h5:=h3 x hx;rw [hl] at h5
  have h6:x∈S∧x∉V:=by simpa using h5.symm
  refine hMore x c w' cnt' hx h6.1 h6.2 ⟨D,_,hr,h2,fun z hz=>?_,by simp;omega⟩ hlt hgr hsz hen;rw [h3 z hz]
  by_cases e:z=x
  ·subst e
   simp [WideAt.sameKey_self TI]
  ·rw [Maps.sameKey_ne (by intro h;injection h with _ h;exact e h)]
   simp [e]
theorem Kz (hg:o.guard=none) (m x:Operand) {v:Operand} (hop:o.op=.insert 199 m x v) {b n:Nat} {S:List Int} (hm:a.eval m=.map (some b)) (hS:j6 w b n S) (hn:n<1000000000000000000) {z:Int} (hz:Pm z) (hx:a.eval x=.int .i64 z) (hv:a.eval v=.bool true)
  (h:∀ w',j6 w' b (n+1) (S++[z])->w.grownBy w' (some b)->wpList Tryz.prog ops Q rest (a.put o.dst undef) w'):wpList Tryz.prog ops Q (o::rest) a w:=by
 obtain ⟨D,h1,h2⟩:=hS
 refine wpList_plain hg fun K' hK'=>?_
 obtain ⟨w',hrun,r1,r2⟩:=h1.update (Maps.int_keyed Tryz.underlying3) Tryz.underlying199 (by unfold maxLen;omega) (Maps.keyOf_int_mk Tryz.underlying3 hz) (plainElem_bool Tryz.underlying4 true)
 unfold Oper.wp
 simp [execOp,hop,hm,hx,hv,hrun,Result.andThen];refine hK' _ _ (h w' ⟨_,r1,fun y hy=>?_⟩ r2)
 by_cases e:y=z
 ·subst e
  rw [Maps.has_put_same h1.isMap TI];simp
 ·rw [Maps.has_put_other (by intro h;injection h with _ h;exact e h),h2 y hy]
  simp [e]
end
end Go.Proofs.YtnpfbjnjdngkhaaGreatDoor.P
namespace Go.Proofs.YtnpfbjnjdngkhaaGreatDoor.P
open Go.RowKit Go.Proofs.YtnpfbjnjdngkhaaGreatDoorW.aQ Go.Proofs.YtnpfbjnjdngkhaaGreatDoorW.bO Go.Proofs.YtnpfbjnjdngkhaaGreatDoorW.bT
attribute [local go_sem] eP eT fU fV dS dU eU eX
attribute [local go_sem] Oper.semAt_some
theorem xA {A B C:World} {g:Nat} {row:Option Nat} (h1:A.grownBy B (some g)) (h2:B.grownBy C row) (hr:∀ k,row=some k->k=g∨A.heap.size<=k):A.grownBy C (some g) :=
 ⟨h2.os.trans h1.os,h2.tape.trans h1.tape,h2.output.trans h1.output,Nat.le_trans h1.size h2.size,fun k hk hne=>(h2.block k (Nat.lt_of_lt_of_le hk h1.size) (fun e=>by
  rcases hr k e.symm with h|h
  ·exact hne (by rw [h])
  ·omega)).trans (h1.block k hk hne)⟩
theorem qjA {v m n N:Nat} (h1:v+1<=n) (h2:m<=20000) (h3:n<=N):v*m<=N*20000:=Nat.mul_le_mul (by omega) h2
theorem mulC {PE nn v m n P R v2:Nat} (h1:PE<=nn+v2) (h2:nn<=v*m) (h3:v+1<=n) (h4:m<=20000) (h5:n<=P) (h6:P*20000=R) (h7:R<=8000000000000) (h8:v2<=20000):PE<1000000000000000000:=by have:=qjA h3 h4 h5;omega
theorem qbj {V V2 Y:List Int} {f:Int->List Int} {g:Int->Int} {p:Int} (hf:f p=Y.map g) (h1:∀ q∈V2,q∈Y) (h2:∀ q∈Y,q∈V2):∀ y,y∈V.flatMap f++V2.map g↔y∈(V++[p]).flatMap f:=by
 intro y
 have:y∈V2.map g↔y∈Y.map g:=by
  simp only [List.mem_map];exact ⟨fun ⟨q,hq,e⟩=>⟨q,h1 q hq,e⟩,fun ⟨q,hq,e⟩=>⟨q,h2 q hq,e⟩⟩
 simp only [List.flatMap_append,List.flatMap_cons,List.flatMap_nil,List.append_nil,hf,List.mem_append,this]
theorem Io {A B:World} {g:Nat} (h:Below A.heap.size A B):A.grownBy B (some g):=⟨h.os,h.tape,h.output,h.size,fun k hk _=>h.block k hk⟩
theorem Uh {wt z:Int} (hw : -9<=wt∧wt<=9) (hz : -100<=z∧z<=100) : -900<=wt*z∧wt*z<=900:=by
 have:wt = -9∨wt = -8∨wt = -7∨wt = -6∨wt = -5∨wt = -4∨wt = -3∨wt = -2∨wt = -1∨wt=0∨wt=1∨wt=2∨wt=3∨wt=4∨wt=5∨wt=6∨wt=7∨wt=8∨wt=9:=by omega
 rcases this with rfl|rfl|rfl|rfl|rfl|rfl|rfl|rfl|rfl|rfl|rfl|rfl|rfl|rfl|rfl|rfl|rfl|rfl|rfl<;>omega
theorem qd2 {T V V2 Y:List Int} {f:Int->List Int} {g:Int->Int} {p:Int} (hf:f p=Y.map g) (h1:∀ q∈V2,q∈Y) (h2:∀ q∈Y,q∈V2):∀ y,y∈T++V.flatMap f++V2.map g↔y∈T++(V++[p]).flatMap f:=by
 intro y
 have:y∈V2.map g↔y∈Y.map g:=by
  simp only [List.mem_map];exact ⟨fun ⟨q,hq,e⟩=>⟨q,h1 q hq,e⟩,fun ⟨q,hq,e⟩=>⟨q,h2 q hq,e⟩⟩
 simp only [List.flatMap_append,List.flatMap_cons,List.flatMap_nil,List.append_nil,hf,List.mem_append,this,or_assoc]
theorem qd3 {T V X:List Int} {f:Int->List Int} (h1:∀ q∈V,q∈X) (h2:∀ q∈X,q∈V):∀ y,y∈T++V.flatMap f↔y∈T++X.flatMap f:=by
 intro y;simp only [List.mem_append,List.mem_flatMap];exact ⟨fun h=>h.imp id fun ⟨q,hq,e⟩=>⟨q,h1 q hq,e⟩,fun h=>h.imp id fun ⟨q,hq,e⟩=>⟨q,h2 q hq,e⟩⟩
theorem Zr {A B C:World} {b g:Nat} {cs:Array Value} {t:TypeId} (hg:aj (B.grownBy C (some b))) (hk:aj (mH (fun _=>False) A B)) (h:aj (A.heap[g]?=some (.cells cs t (0,0)))) (hne:g≠b):aj (C.heap[g]?=some (.cells cs t (0,0))) :=
 have h2:=(hk.out.box h (fun h=>h)).out
 ⟨(hg.out.block g (bZ h2) (fun e=>by injection e with e;exact hne e)).trans h2⟩
theorem Aa {F:Fence} {n:Nat} {P:Program} {fn:Func} {tmps:Array Value} {R:Ending->World->Prop} (Inv:World->Prop) (B:Nat) (hI:∀ W D,B<=D->W.heap[D]?=some (.deferred (some []))->Inv W->Inv (W.putObj D (.deferred none))) :
  ∀ (Ds:List Nat) (W:World),Ds.Nodup->(∀ D∈Ds,B<=D∧W.heap[D]?=some (.deferred (some [])))->Inv W->(∀ W',Inv W'->∃ v,(results fn tmps).run P W'=.ok v W'∧R (.returned v) W')->LeavesInM F n P fn tmps R (Ds.map fun D=>{ target:=Target.collected D,args:=#[] }) .returning W
 | [],W,_,_,hi,h=>h W hi
 | D::Ds,W,hn,hd,hi,h=>by
  have h0:=hd D (List.mem_cons_self ..);have h1:=List.nodup_cons.1 hn;refine ⟨by simp,.inl ⟨D,_,rfl,run_takeDeferred h0.2,?_⟩⟩;exact Aa Inv B hI Ds _ h1.2 (fun k hk=>⟨(hd k (List.mem_cons_of_mem _ hk)).1,(World.putObj_heap_other (r:=D) (k:=k) (fun e=>h1.1 (by rw [← e];exact hk))).trans (hd k (List.mem_cons_of_mem _ hk)).2⟩) (hI W D h0.1 h0.2 hi) h
theorem PG (A:Option Addr) (c:Nat) (h:List bI) (A1:Option Addr) (c1:Nat) (m:List Int) (A2:Option Addr) (c2:Nat) (l:List bB) (d:Int) (A3:Option Addr) (c3:Nat) (takes:List Int) (w:World)
  (hr:Kd.C iG w A h.length h) (hc:h.length<=c) (hr2:Kd.C eD w A2 l.length l) (hc2:l.length<=c2) (hr3:Kd.C (Kd.int .i64) w A3 takes.length takes) (hc3:takes.length<=c3)
  (hh:uw h) (hb:nW h.length l) (hd:0<=d∧d<h.length) (ht:takes∈lD (aX h d).f0) :
  Calls Tryz.prog 201 #[.agg #[.slice A h.length c,.slice A1 m.length c1],.slice A2 l.length c2,.int .i64 d,.slice A3 takes.length c3] w fun e w'=>∃ b n,e=.returned (.map (some b))∧j6 w' b n (ku h l d takes)∧n<=27∧w.heap.size<=b∧Below w.heap.size w w':=by
 have hlen:=Kj (h:=h) d takes hb;have htb:=Ch hh hd ht;refine (Ie A c h A1 c1 m A2 c2 l d A3 c3 takes w hr hc hr2 hc2 hr3 hc3 hd (by have:=hb.len;omega) (fun b hb2=>by have:=hb.hours b hb2;omega) (fun x hx=>by have:=htb.2 x hx;omega) (fun b hb2=>by have:=hb.Ub b hb2;have:=htb.1;omega) (by omega) (by have:=hh.full _ (oH hd);omega)).mono ?_;rintro e w' ⟨b,n,h1,h2,h3,h4,h5⟩;exact ⟨b,n,h1,h2,by omega,h4,h5⟩
theorem Ck (A:Option Addr) (c:Nat) (h:List bI) (A1:Option Addr) (c1:Nat) (ws:List Int) (A2:Option Addr) (c2:Nat) (a:List bB) (A3:Option Addr) (c3:Nat) (b:List bB) (w:World)
  (hr:Kd.C iG w A h.length h) (hc:h.length<=c) (hr1:Kd.C (Kd.int .i64) w A1 ws.length ws) (hc1:ws.length<=c1) (hr2:Kd.C eD w A2 a.length a) (hc2:a.length<=c2) (hr3:Kd.C eD w A3 b.length b) (hc3:b.length<=c3)
  (hh:uw h) (hw:Uc h.length ws) (ha:nW h.length a) (hb:nW h.length b) :
  Calls Tryz.prog 156 #[.agg #[.slice A h.length c,.slice A1 ws.length c1],.slice A2 a.length c2,.slice A3 b.length c3] w fun e w'=>∃ bm n,e=.returned (.map (some bm))∧j6 w' bm n (ql h a b ws 0 [0])∧w.heap.size<=bm∧Below w.heap.size w w':=by
 have HB:=aj.mk (Below.refl w.heap.size w);have HR:=aj.mk hr;have HR1:=aj.mk hr1;have HR2:=aj.mk hr2;have HR3:=aj.mk hr3;have HH:=aj.mk hh;have HW:=aj.mk hw;have HA:=aj.mk ha;have HBB:=aj.mk hb;have hm:ws.length<=9223372036854775807:=hr1.2.1;have hmm:=@run_makeMap Tryz.prog;have qb:=Tryz.underlying24;have GQ:=Tryz.underlying49;have wR:=Tryz.underlying149;clear hr hr1 hr2 hr3 hh hw ha hb;refine (callsIn_wide (n:=3)).1 ?_;refine callsIn_of_wp_marks Tryz.func156 rfl trivial ?_ rfl;refine wpIn_wide.2 ?_;simp only [Tryz.ntmps156,List.size_toArray,List.length_cons,List.length_nil,Nat.reduceAdd,Nat.reduceSub,Array.replicate_succ,Array.replicate_zero,List.push_toArray,List.append_toArray,List.nil_append,List.cons_append]
 go_wp2_with (first|((with_reducible refine au (N:=3) rfl ?_);refine jR rfl rfl (cs:=#[.slice A h.length c,.slice A1 ws.length c1]) (t:=149) tG HB ?_;clear HB;intro gh wa F9 GH HB hx;have FC:=(qM F9.out).2;clear hx)|((with_reducible refine au (N:=4) rfl ?_);refine jR rfl rfl (cs:=#[.slice A2 a.length c2]) (t:=25) tG HB ?_;clear HB;intro ga wb Rn GA HB hx;replace F9:=dQ F9 hx;clear hx FC)|((with_reducible refine au (N:=5) rfl ?_);refine jR rfl rfl (cs:=#[.slice A3 b.length c3]) (t:=25) tG HB ?_;clear HB;intro gb wc Ui GB HB hx;replace F9:=dQ F9 hx;replace Rn:=dQ Rn hx;clear hx)|((with_reducible refine au (N:=19) rfl ?_);refine yG rfl rfl tG HB ?_;clear HB;intro bm wd HS GM HB hx hz;replace F9:=dQ F9 hx;replace Rn:=dQ Rn hx;replace Ui:=dQ Ui hx;clear hx hz)|((with_reducible refine YL (.insert 199 (.tmp 19) (.const (.int .i64 0)) (.const (.bool true))) rfl ?_);refine Kz rfl _ _ rfl rfl HS.out (by decide) (uO (x:=0) (by decide) (by decide)) rfl rfl ?_;intro we hs1 hx;replace F9:=gM F9 hx (HS.out.o7 F9);replace Rn:=gM Rn hx (HS.out.o7 Rn);replace Ui:=gM Ui hx (HS.out.o7 Ui);replace HB:=stepG HB hx GM;clear HS;have HS:=aj.mk hs1;have FC:=(qM F9.out).2;clear hs1 hx))
 obtain ⟨b0,hb0⟩:∃ b0,b0=bm:=⟨_,rfl⟩;refine wp_loop (fun (a':Act) (W:World)=>∃ (u:Nat->Value) (Ds:List Nat) (k:Int) (S:List Int) (bm n:Nat),(0<=k∧k<=ws.length∧aj (ql h a b (ws.drop k.toNat) k S=ql h a b ws 0 [0]∧n<=20000 ^ k.toNat∧∀ x∈S,-1000*k<=x∧x<=1000*k)∧aj (j6 W bm n S)∧aj (w.heap.size<=bm)∧aj (W.heap[gh]?=some (.cells #[.slice A h.length c,.slice A1 ws.length c1] 149 (0,0)))∧aj (W.heap[ga]?=some (.cells #[.slice A2 a.length c2] 25 (0,0)))∧aj (W.heap[gb]?=some (.cells #[.slice A3 b.length c3] 25 (0,0)))∧aj (Below w.heap.size w W)∧aj (Ds.Nodup∧∀ D∈Ds,w.heap.size<=D∧W.heap[D]?=some (.deferred (some []))))∧a'={ tmps:=#[.agg #[.slice A h.length c,.slice A1 ws.length c1],.slice A2 a.length c2,.slice A3 b.length c3,.pointer (some ⟨gh,0,none⟩),.pointer (some ⟨ga,0,none⟩),.pointer (some ⟨gb,0,none⟩),.map none,.map (some bm),u 8,u 9,u 10,u 11,u 12,u 13,u 14,u 15,u 16,u 17,u 18,.map (some b0),.map (some b0),.pointer (some ⟨gh,1,none⟩),.pointer (some ⟨gh,1,none⟩),.slice A1 ws.length c1,.int .i64 ws.length,.int .i64 k,u 26,u 27,u 28,u 29,u 30,u 31,u 32,u 33,u 34,u 35,u 36,u 37,u 38,u 39,u 40,u 41,u 42,u 43,u 44,u 45,u 46,u 47,u 48,u 49,u 50,u 51,u 52,u 53,u 54,u 55,u 56,u 57,u 58,u 59,u 60,u 61,u 62,u 63,u 64,u 65,u 66,u 67,u 68,u 69,u 70,u 71,u 72,u 73,u 74,u 75,u 76,u 77,u 78,u 79,u 80,u 81,u 82,u 83,u 84,u 85,u 86,u 87],defers:=Ds.map fun D=>{ target:=.collected D,args:=#[] } }) (fun a' _=>ws.length - (intOf (a'.tmps.getD 25 undef)).toNat) ?_ ?_
 ·subst hb0
  exact ⟨fun _=>undef,[],0,[0],b0,1,⟨by omega,by omega,⟨rfl,Nat.le_refl _,by simp⟩,HS,GM,F9,Rn,Ui,HB,⟨List.nodup_nil,by simp⟩⟩,rfl⟩
 ·clear HS F9 Rn Ui HB FC GM hb0
  rintro _ wo ⟨u,Ds,k,S,bm,n,⟨hk0,hk,HI,HS,GM,F9,Rn,Ui,HB0,HDs⟩,rfl⟩
  by_cases hlt:k<ws.length
  ·obtain ⟨wt,hwt⟩:∃ wt,wt=rd ws k:=⟨_,rfl⟩
   have hdl:k<h.length:=by have:=HW.out.len;omega
   obtain ⟨Xw,rfl,hw0⟩:=Kd.iE HR1.out k hk0 hlt;replace hw0:=(HB0.out.cell (World.block_lt_of_cell? w _ hw0)).trans hw0;obtain ⟨Sb,Ad,cd,rfl,hd0,_,hdl0,hdC⟩:=jd HR.out k hk0 hdl;replace hd0:=(HB0.out.cell (World.block_lt_of_cell? w _ hd0)).trans hd0;have HDC:=aj.mk (Kd.ak hdC HB0.out);have HD0:=aj.mk hd0;have HWT:=aj.mk (show wt=rd ws k ∧ -9<=wt∧wt<=9 by rw [hwt];exact ⟨rfl,HW.out.wt _ (getD_at ws (0:Int) k hk0 hlt).1⟩);rw [← hwt] at hw0;have HB:=aj.mk (Below.refl wo.heap.size wo);clear hdC hd0 hwt
   go_wp2_with (first|((with_reducible refine au (N:=8) rfl ?_);refine jg rfl rfl (cs:=#[.int .i64 0]) (t:=3) tG HB ?_;clear HB;intro g8 w8 H8 G8 HB hx hz;clear hx hz)|((with_reducible refine au (N:=9) rfl ?_);refine jg rfl rfl (cs:=#[.int .i64 0]) (t:=3) tG HB ?_;clear HB;intro g9 w9 H9 G9 HB hx hz;have D9:=aj.mk (show g8≠g9 from fun e=>by have:=bZ H8.out;omega);replace H8:=dQ H8 hx;clear hx hz)|((with_reducible refine aY (t:=3) (p:=8) rfl ?_);refine iP rfl rfl rfl H8 G8 HB (.int .i64 k) [.int .i64 k] #[.int .i64 k] rfl rfl rfl tX (Nat.le_refl _) (by simp [Value.oneCell']) rfl ?_;clear HB H8;intro wx H8 HB hx;replace H9:=gM H9 hx D9.out.symm;clear hx)|((with_reducible refine aY (t:=3) (p:=9) rfl ?_);refine iP rfl rfl rfl H9 G9 HB (.int .i64 wt) [.int .i64 wt] #[.int .i64 wt] rfl rfl rfl tX (Nat.le_refl _) (by simp [Value.oneCell']) rfl ?_;clear HB H9;intro wy H9 HB hx;replace H8:=gM H8 hx D9.out;clear hx)|((with_reducible refine au (N:=30) rfl ?_);refine yG rfl rfl tG HB ?_;clear HB;intro bh wm Sc GBH HB hx hz;replace H8:=dQ H8 hx;replace H9:=dQ H9 hx;clear hx hz)|((with_reducible refine au (N:=10) rfl ?_);refine jg rfl rfl (cs:=#[.map none]) (t:=199) tG HB ?_;clear HB;intro g10 wi Fq G10 HB hx hz;have WX:=aj.mk (show g8≠g10∧g9≠g10∧bh≠g10 from ⟨fun e=>by have:=bZ H8.out;omega,fun e=>by have:=bZ H9.out;omega,fun e=>by have:=Sc.out.lt;omega⟩);replace H8:=dQ H8 hx;replace H9:=dQ H9 hx;have HS2:=aj.mk (Sc.out.below hx);clear Sc;have Sc:=HS2;clear HS2 hx hz)|((with_reducible refine aY (t:=199) (p:=10) rfl ?_);refine iP rfl rfl rfl Fq G10 HB (.map (some bh)) [.map (some bh)] #[.map (some bh)] rfl rfl rfl tX (Nat.le_refl _) (by simp [Value.oneCell']) rfl ?_;clear HB Fq;intro wj Fq HB hx;replace H8:=gM H8 hx WX.out.1;replace H9:=gM H9 hx WX.out.2.1;have HS2:=aj.mk (Sc.out.kept hx (by have:=WX.out.2.2;intro e;injection e;exact this ‹_›));clear Sc;have Sc:=HS2;have ch0:=(qM (aD F9.out HB.out)).1;have c8:=fG H8.out;have hd0:=(HB.out.cell (World.block_lt_of_cell? wo _ HD0.out)).trans HD0.out;clear HS2 hx)|(go_at_call 200;refine (uP Ad cd (aX h k).f0 _).mono ?_;rintro e wl ⟨gn,rfl,hgn,jX,hx⟩;have GN:=aj.mk hgn;have HN:=aj.mk jX;replace H8:=dQ H8 hx;replace H9:=dQ H9 hx;replace Fq:=dQ Fq hx;have HS2:=aj.mk (Sc.out.below hx);clear Sc;have Sc:=HS2;replace HB:=eH HB hx;clear HS2 hx hgn jX ch0 c8 hd0))
   have hx102:aX h k∈h:=oH ⟨hk0,hdl⟩;have VP:=aj.mk (show (aX h k).f0.length=3∧∀ s∈(aX h k).f0,0<=s.f0∧s.f1<=20∧s.f1 - s.f0<=2 from ⟨HH.out.takes _ hx102,HH.out.span _ hx102⟩);have HBL:=aj.mk Sc.out.lt;clear hx102;refine (wpIn_wide (n:=3)).1 ?_
   refine MW (gf:=223) (lb:=#[.pointer (some ⟨gn,0,none⟩)]) rfl (enters_of Tryz.func223 tX rfl) (Cc gn Ad cd (aX h k).f0 (fun _=>False) wl (by have:=VP.out.1;omega) (fun s hs=>by have:=VP.out.2 s hs;omega) HN.out (Kd.ak HDC.out HB.out) (fun h=>h) (fun _ _ h=>h) (fun _ h=>h.elim)) mH.trans (fun W o o' ho hc=>mH.put ho hc) (Below.refl _ _) (fun _=>rfl) (fun x _ W W' row h hg hr=>⟨Ua x _ () W W' row h.1 hg hr,h.2⟩)
    (fun (pre:List o8) W=>∃ n',j6 W bh n' (pre.flatMap fun (x:o8)=>Bt h a b k wt x.xs)∧n'<=pre.length*729∧mH (fun _=>False) wl W∧Below wo.heap.size wo W)
    (fun pre W W' row hi hg hr=>by
     obtain ⟨n',i1,i2,i3,i4⟩:=hi
     exact ⟨n',i1.kept hg (fun e=>by have:=(hr _ e.symm).1;have:=HBL.out;omega),i2,i3.trans (mH.own hg fun r e=>(hr r e).2),⟨hg.os.trans i4.os,hg.tape.trans i4.tape,hg.output.trans i4.output,Nat.le_trans i4.size hg.size,fun q hq=>(hg.block q (Nat.lt_of_lt_of_le hq i4.size) (fun e=>by have:=(hr _ e.symm).1;have:=HB.out.size;omega)).trans (i4.block q hq)⟩⟩)
    ⟨0,by simpa using Sc.out,by simp,mH.refl _ _,HB.out⟩
    (fun x=>{ tmps:=#[.agg #[.slice (some Sb) h.length c,.slice (some Xw) ws.length c1],.slice A2 a.length c2,.slice A3 b.length c3,.pointer (some ⟨gh,0,none⟩),.pointer (some ⟨ga,0,none⟩),.pointer (some ⟨gb,0,none⟩),.map none,.map (some bm),.pointer (some ⟨g8,0,none⟩),.pointer (some ⟨g9,0,none⟩),.pointer (some ⟨g10,0,none⟩),.slice x.A x.xs.length x.c,u 12,u 13,u 14,u 15,u 16,u 17,u 18,.map (some b0),.map (some b0),.pointer (some ⟨gh,1,none⟩),.pointer (some ⟨gh,1,none⟩),.slice (some Xw) ws.length c1,.int .i64 ws.length,.int .i64 k,.bool true,.int .i64 k,.pointer (some (Xw.add k.toNat)),.int .i64 wt,.map (some bh),.pointer (some ⟨gh,0,none⟩),.pointer (some ⟨gh,0,none⟩),.slice (some Sb) h.length c,.int .i64 k,.pointer (some (Sb.add (k.toNat*2))),.pointer (some (Sb.add (k.toNat*2))),.slice Ad (aX h k).f0.length cd,.func (.func 223) #[] #[.pointer (some ⟨gn,0,none⟩)],.slice x.A x.xs.length x.c,u 40,u 41,u 42,u 43,u 44,u 45,u 46,u 47,u 48,u 49,u 50,u 51,u 52,u 53,u 54,u 55,u 56,u 57,u 58,u 59,u 60,u 61,u 62,u 63,u 64,u 65,u 66,u 67,u 68,u 69,u 70,u 71,u 72,u 73,u 74,u 75,u 76,u 77,u 78,u 79,u 80,u 81,u 82,u 83,u 84,u 85,u 86,u 87],defers:=[] }) ?assign ?body ?done
   case assign =>
    intro lp x W K hK
    unfold o8.enc
    gi_wp2
    exact hK
   case body =>
    rintro lp pre x W ⟨n',i1,i2,i3,i4⟩ hrd hpre;have Pw:=aj.mk i3;have rE:=aj.mk i4;have HI1:=aj.mk i1;have HI2:=aj.mk i2;have xu:=aj.mk hrd;have HPR:=aj.mk hpre;have HB2:=eH HB0 rE.out;clear i1 i2 i3 i4 hrd hpre;have q0:=(qM (aD F9.out rE.out)).1;have q1:=(qM (aD F9.out rE.out)).2;have q2:=fG (aD Rn.out rE.out);have q3:=fG (aD Ui.out rE.out);have q4:=fG (Pw.out.box H8 (fun h=>h)).out;have q0:=(qM (aD F9.out rE.out)).1;have q1:=(qM (aD F9.out rE.out)).2;have q2:=fG (aD Rn.out rE.out);have q3:=fG (aD Ui.out rE.out);have q4:=fG (Pw.out.box H8 (fun h=>h)).out
    gi_wp2
    refine EF (some lp) (fun ⟨_,_,h⟩=>by have h2:Exit.outgrown=Exit.normal∧_:=h;cases h2.1) (by rfl) (S:=fun w'=>w'.cell? ⟨gh,0,none⟩=some (.slice (some Sb) h.length c)∧w'.cell? ⟨gh,1,none⟩=some (.slice (some Xw) ws.length c1)∧w'.cell? ⟨ga,0,none⟩=some (.slice A2 a.length c2)∧w'.cell? ⟨gb,0,none⟩=some (.slice A3 b.length c3)∧w'.cell? ⟨g8,0,none⟩=some (.int .i64 k)) (ds:=[]) (bA 12 0) tX rfl rfl ⟨q0,q1,q2,q3,q4⟩ (fun hHeld=>?_);have Ab:=aj.mk (fC (Below.refl W.heap.size W))
    generalize W.drew=W6 at Ab hHeld ⊢
    refine qB1 3 43 (bA 12 8) ?_;refine qB1 8 48 (bA 12 264) ?_;refine qzF 0 40 (bA 12 265) hHeld ?_;refine qzF 1 41 (bA 12 267) hHeld ?_;refine qzF 2 42 (bA 12 271) hHeld ?_;refine qzF 5 45 (bA 12 303) hHeld ?_;refine qzF 6 46 (bA 12 367) hHeld ?_;refine qzF 7 47 (bA 12 495) hHeld ?_;refine gZ (i:=4) (N:=some 44) (bA 12 511) rfl rfl tX (by decide) (fun K hK=>?_);refine gK Tryz.func201 tX rfl #[.agg #[.slice (some Sb) h.length c,.slice (some Xw) ws.length c1],.slice A2 a.length c2,.int .i64 k,.slice x.A x.xs.length x.c] (by rfl) rfl rfl (by (try simp only [List.map_toArray,List.map_cons,List.map_nil]);first|done|rfl) ?_;refine (PG (some Sb) c h (some Xw) c1 ws A2 c2 a k x.A x.c x.xs W6 (Kd.ak HR.out (eH HB2 Ab.out).out) hc (Kd.ak HR2.out (eH HB2 Ab.out).out) hc2 (Kd.ak xu.out.1.1 Ab.out) xu.out.1.2 HH.out HA.out ⟨hk0,hdl⟩ xu.out.2).mono ?_;rintro e W7 ⟨bx,nx,rfl,hsx,hnx,hbx,hx⟩;refine ⟨_,rfl,?_⟩;have HSX:=aj.mk hsx;have HNX:=aj.mk hnx;have GX:=aj.mk (Nat.le_trans Ab.out.size hbx);replace Ab:=eH Ab hx;clear hsx hnx hbx hx hHeld;refine hK.out _ _ ⟨(Ab.out.cell (World.block_lt_of_cell? _ _ q0)).trans q0,(Ab.out.cell (World.block_lt_of_cell? _ _ q1)).trans q1,(Ab.out.cell (World.block_lt_of_cell? _ _ q2)).trans q2,(Ab.out.cell (World.block_lt_of_cell? _ _ q3)).trans q3,(Ab.out.cell (World.block_lt_of_cell? _ _ q4)).trans q4⟩ (fun hHeld=>?_);clear hK K;refine dn (a':=?_) ?_ ?_;rotate_left
    ·show Act.put _ (some 44) _=_
     simp only [Act.put,sL,ay,aA]
     rfl
    refine gZ (i:=9) (N:=some 49) (bA 12 1023) rfl rfl tX (by decide) (fun K hK=>?_);refine gK Tryz.func201 tX rfl #[.agg #[.slice (some Sb) h.length c,.slice (some Xw) ws.length c1],.slice A3 b.length c3,.int .i64 k,.slice x.A x.xs.length x.c] (by rfl) rfl rfl (by (try simp only [List.map_toArray,List.map_cons,List.map_nil]);first|done|rfl) ?_;refine (PG (some Sb) c h (some Xw) c1 ws A3 c3 b k x.A x.c x.xs W7 (Kd.ak HR.out (eH HB2 Ab.out).out) hc (Kd.ak HR3.out (eH HB2 Ab.out).out) hc3 (Kd.ak xu.out.1.1 Ab.out) xu.out.1.2 HH.out HBB.out ⟨hk0,hdl⟩ xu.out.2).mono ?_;rintro e W8 ⟨bY,nY,rfl,hsx,hnx,hbx,hx⟩;refine ⟨_,rfl,?_⟩;have Ro:=aj.mk hsx;have HNY:=aj.mk hnx;have GY:=aj.mk (Nat.le_trans Ab.out.size hbx);have HS2:=aj.mk (HSX.out.below hx);have DXY:=aj.mk (show bx≠bY from fun e=>by have:=HSX.out.lt;omega);clear HSX;have HSX:=HS2;replace Ab:=eH Ab hx;clear HS2 hsx hnx hbx hx hHeld;refine hK.out _ _ ⟨(Ab.out.cell (World.block_lt_of_cell? _ _ q0)).trans q0,(Ab.out.cell (World.block_lt_of_cell? _ _ q1)).trans q1,(Ab.out.cell (World.block_lt_of_cell? _ _ q2)).trans q2,(Ab.out.cell (World.block_lt_of_cell? _ _ q3)).trans q3,(Ab.out.cell (World.block_lt_of_cell? _ _ q4)).trans q4⟩ (fun hHeld=>?_);clear hK K;refine dn (a':=?_) ?_ ?_;rotate_left
    ·show Act.put _ (some 49) _=_
     simp only [Act.put,sL,ay,aA]
     rfl
    refine qB1 10 12 (bA 12 2047) ?_;refine qB1 11 13 (bA 12 4095) ?_;refine lK tX ?_;clear hHeld q0 q1 q2 q3 q4
    gi_wp2_with (gi_at_range;refine z8 rfl _ rfl rfl HSX.out ?_;intro W9 r1 cnt1 hr1 KA hx;have qz:=aj.mk KA;have Zt:=aj.mk (show W.heap.size<=r1∧bY≠r1 from ⟨by have:=Ab.out.size;omega,fun e=>by have:=Ro.out.lt;omega⟩);have HS2:=aj.mk (Ro.out.below hx);clear Ro;have Ro:=HS2;replace Ab:=eH Ab hx;clear HS2 KA hr1 hx)
    obtain ⟨X,hX⟩:∃ X,X=ku h a k x.xs:=⟨_,rfl⟩;obtain ⟨Y,hY⟩:∃ Y,Y=ku h b k x.xs:=⟨_,rfl⟩
    obtain ⟨f,hf⟩:∃ f:Int->List Int,f=fun p=>Y.map fun q=>wt*(p - q):=⟨_,rfl⟩
    obtain ⟨T,hT⟩:∃ T,T=pre.flatMap fun (x:o8)=>Bt h a b k wt x.xs:=⟨_,rfl⟩
    have HXB:=aj.mk (show ∀ p∈X,0<=p∧p<=100 by rw [hX];exact qy HH.out ⟨hk0,hdl⟩ HA.out xu.out.2);have Jd:=aj.mk (show ∀ p∈Y,0<=p∧p<=100 by rw [hY];exact qy HH.out ⟨hk0,hdl⟩ HBB.out xu.out.2);have HPL:=aj.mk (show Bt h a b k wt x.xs=X.flatMap f by rw [hf,hX,hY];rfl);have HF:=aj.mk hf;have HCT:=aj.mk (show pre.length<=27 from by have a1:=HPR.out;have a2:=zU (ls:=(aX h k).f0) (fun s hs=>(VP.out.2 s hs).2.2);have a3:=Ig (n:=(aX h k).f0.length) (by have:=VP.out.1;omega);omega);rw [← hX] at qz;rw [← hY] at Ro;rw [← hT] at HI1;have HTT:=aj.mk hT;have oO:=aj.mk (Io (g:=bh) Ab.out);have HBH:=aj.mk (show bh≠bx∧bh≠bY∧bh≠r1 from ⟨fun e=>by have:=GX.out;have:=HI1.out.lt;omega,fun e=>by have:=GY.out;have:=HI1.out.lt;omega,fun e=>by have:=Zt.out.1;have:=HI1.out.lt;omega⟩);have CK:=aj.mk (HI1.out.below Ab.out);clear hX hY hf hT HSX Ab
    go_frame
    gi_loopw [14] (fun _ W'=>∃ (V:List Int) (cnt nn:Nat),aj (iA W' bx r1 nx X V cnt)∧aj (j6 W' bY nY Y)∧aj (j6 W' bh nn (T++V.flatMap f))∧aj (nn<=n'+V.length*27∧∀ p∈V,p∈X)∧aj (W.grownBy W' (some bh))) (fun _ W'=>W'.rangeLeft bx r1)
    case atStart=>exact ⟨[],cnt1,n',qz,Ro,⟨by simpa using CK.out⟩,⟨by simp,by simp⟩,oO⟩
    case round =>
     clear qz Ro CK oO;obtain ⟨V,cnt,nn,qz,Ro,CK,Uj,oO⟩:=hrel;have LE1:=aj.mk qz.out.left
     gi_wp2_with (first|(gi_at_next;refine Cj rfl _ rfl rfl qz.out ?nd1 ?nm1;(case' nd1=>(intro hd;have HD:=aj.mk hd;clear hd));(case' nm1=>(intro p cc wn Uk hpw hpS hpV PI hlt3 hgn hsz hen;have Ul:=aj.mk (And.intro hpS hlt3);have NR1:=aj.mk (show bY≠r1∧bh≠r1 from ⟨Zt.out.2,HBH.out.2.2⟩);have HS2:=aj.mk (Ro.out.kept hgn (fun e=>NR1.out.1 (by injection e)));have FD:=aj.mk (CK.out.kept hgn (fun e=>NR1.out.2 (by injection e)));have HG2:=aj.mk (xA oO.out hgn (fun q e=>.inr (by injection e with e;have:=Zt.out.1;omega)));clear Ro CK oO qz;have Ro:=HS2;have CK:=FD;have oO:=HG2;have qz:=aj.mk PI;clear HS2 FD HG2 hpw hpS hpV PI hlt3 hgn hsz)))|(gi_at_range;refine z8 rfl _ rfl rfl Ro.out ?_;intro W10 r2 cnt2 hr2 KA hx;have zh:=aj.mk KA;have Um:=aj.mk (show W.heap.size<=r2∧bx≠r2∧r1≠r2∧bh≠r2 from ⟨by have:=oO.out.size;omega,fun e=>by have:=qz.out.set.lt;omega,fun e=>by have:=qz.out.lt;omega,fun e=>by have:=CK.out.lt;omega⟩);have HS2:=aj.mk (qz.out.below hx);have FD:=aj.mk (CK.out.below hx);have HG2:=aj.mk (xA oO.out (Io (g:=bh) hx) (fun q e=>.inl (by injection e with e;exact e.symm)));clear qz CK oO Ro;have qz:=HS2;have CK:=FD;have oO:=HG2;clear HS2 FD HG2 KA hr2 hx))
     ·have hp:=Ul.out.1
      go_frame
      gi_loopw [15] (fun _ W'=>∃ (V2:List Int) (cnt3 PE:Nat),aj (iA W' bY r2 nY Y V2 cnt3)∧aj (iA W' bx r1 nx X (V++[p]) Uk)∧aj (j6 W' bh PE (T++V.flatMap f++V2.map fun q=>wt*(p - q)))∧aj (PE<=nn+V2.length∧∀ q∈V2,q∈Y)∧aj (W.grownBy W' (some bh))) (fun _ W'=>W'.rangeLeft bY r2)
      case atStart=>exact ⟨[],cnt2,nn,zh,qz,⟨by simpa using CK.out⟩,⟨by simp,by simp⟩,oO⟩
      case round =>
       clear zh qz CK oO;obtain ⟨V2,cnt3,PE,zh,qz,CK,Un,oO⟩:=hrel;have LE2:=aj.mk zh.out.left
       gi_wp2_with (first|(gi_at_next;refine Cj rfl _ rfl rfl zh.out ?nd2 ?nm2;(case' nd2=>(intro hd;have HD2:=aj.mk hd;clear hd));(case' nm2=>(intro q cc2 wn2 qbl hqw Zu hqV hR4 Uo hgn hsz qjK;have HQX:=aj.mk (And.intro Zu Uo);have HS2:=aj.mk (qz.out.kept hgn (fun e=>Um.out.2.1 (by injection e)) (fun e=>Um.out.2.2.1 (by injection e)));have FD:=aj.mk (CK.out.kept hgn (fun e=>Um.out.2.2.2 (by injection e)));have HG2:=aj.mk (xA oO.out hgn (fun q e=>.inr (by injection e with e;have:=Um.out.1;omega)));clear qz CK oO zh;have qz:=HS2;have CK:=FD;have oO:=HG2;have zh:=aj.mk hR4;have c10:=fG (Zr oO Pw Fq (HI1.out.o7 (Pw.out.box Fq (fun h=>h)))).out;have c9:=fG (Zr oO Pw H9 (HI1.out.o7 (Pw.out.box H9 (fun h=>h)))).out;have HZ:=aj.mk (show wrap64 (wt*wrap64 (p - q))=wt*(p - q) ∧ -900<=wt*(p - q)∧wt*(p - q)<=900 from by have b1:=HXB.out p Ul.out.1;have b2:=Jd.out q Zu;have b3:=Uh (z:=p - q) HWT.out.2 (by omega);exact ⟨by rw [Br (x:=p - q) (by omega) (by omega),Br (by omega) (by omega)],b3⟩);clear HS2 FD HG2 hqw Zu hqV hR4 Uo hgn hsz)))|(gi_at_mapUpdate;refine zS rfl _ _ rfl rfl CK.out (by have a1:=Un.out.1;have a2:=Uj.out.1;have a3:=HI2.out;have a4:=HCT.out;have a5:=zh.out.size;have a6:=HNY.out;have a7:=qz.out.size;have a8:=HNX.out;simp only [List.length_append] at a5 a7;omega) (z:=wrap64 (wt*wrap64 (p - q))) (by rw [HZ.out.1];exact uO (by have:=HZ.out;omega) (by have:=HZ.out;omega)) rfl rfl ?_;intro Jc hs6 M4;rw [HZ.out.1] at hs6;have HS2:=aj.mk (qz.out.kept M4 (fun e=>HBH.out.1 (by injection e with e;exact e.symm)) (fun e=>HBH.out.2.2 (by injection e with e;exact e.symm)));have HS4:=aj.mk (zh.out.kept M4 (fun e=>HBH.out.2.1 (by injection e with e;exact e.symm)) (fun e=>Um.out.2.2.2 (by injection e with e;exact e.symm)));have HG2:=aj.mk (xA oO.out M4 (fun q e=>.inl (by injection e with e;exact e.symm)));clear qz zh CK oO c9 c10;have qz:=HS2;have zh:=HS4;have CK:=aj.mk hs6;have oO:=HG2;clear HS2 HS4 HG2 hs6 M4))
       all_goals first
        | exact ⟨⟨_,_,_,_,_,_,_,_,_,_,_,⟨V2++[q],qbl,PE+1,zh,qz,⟨by simpa using CK.out⟩,⟨by have:=Un.out.1;simp;omega,fun y hy=>by rcases List.mem_append.1 hy with hy|hy;exact Un.out.2 y hy;rw [List.mem_singleton.1 hy];exact HQX.out.1⟩,oO⟩,rfl⟩,by rw [zh.out.left,LE2.out];exact HQX.out.2⟩
        | exact ⟨⟨V++[p],Uk,PE,qz,⟨zh.out.set⟩,⟨CK.out.same (qd2 (by rw [HF.out]) Un.out.2 (fun q hq=>HD2.out q (uO (by have:=Jd.out q hq;omega) (by have:=Jd.out q hq;omega)) hq))⟩,⟨by have a1:=Un.out.1;have a2:=Uj.out.1;have a5:=zh.out.size;have a6:=HNY.out;simp;omega,fun y hy=>by rcases List.mem_append.1 hy with hy|hy;exact Uj.out.2 y hy;rw [List.mem_singleton.1 hy];exact Ul.out.1⟩,oO⟩,by rw [qz.out.left,LE1.out];exact Ul.out.2⟩
     ·refine ⟨⟨oO.out.size,fun q o hq0 hq1 _=>(oO.out.block q (bZ hq1) (fun e=>by injection e with e;have:=HBL.out;omega)).trans hq1⟩,mH.map HI1.out oO.out,nn,?_,?_,Pw.out.trans (mH.map HI1.out oO.out),(stepG rE oO.out GBH).out⟩
      ·rw [← HTT.out,HPL.out]
       exact CK.out.same (qd3 Uj.out.2 (fun q hq=>HD.out q (uO (by have:=HXB.out q hq;omega) (by have:=HXB.out q hq;omega)) hq))
      ·have a1:=Uj.out.1
       have a2:=HI2.out;have a3:=qz.out.size;have a4:=HNX.out
       omega
   case done =>
    rintro xs W hxs ⟨n',i1,i2,i3,i4⟩ hD;have Sd:=aj.mk (show xs.flatMap (fun x=>Bt h a b k wt x.xs)=F6 h a b k wt by rw [F6,← hxs,List.flatMap_map]);have HXN:=aj.mk (show n'<=20000 from by have a1:xs.length=(lD (aX h k).f0).length:=by { rw [← hxs,List.length_map] };have a2:=zU (ls:=(aX h k).f0) (fun s hs=>(VP.out.2 s hs).2.2);have a3:=Ig (n:=(aX h k).f0.length) (by have:=VP.out.1;omega);omega);rw [Sd.out] at i1;obtain ⟨Y,hY⟩:∃ Y,Y=F6 h a b k wt:=⟨_,rfl⟩;rw [← hY] at i1;have Jd:=aj.mk (show ∀ q∈Y,-900<=q∧q<=900 by rw [hY];intro q hq;obtain ⟨t,ht,hq⟩:=List.mem_flatMap.1 hq;exact zV HH.out ⟨hk0,hdl⟩ HA.out HBB.out HWT.out.2 ht q hq);have HYY:=aj.mk hY;have HXB:=aj.mk (show ∀ q∈S,-3000<=q∧q<=3000 from fun q hq=>by have a1:=HI.out.2.2 q hq;have a2:=HH.out.len;omega);have HNN:=aj.mk (show n<=20000 ^ k.toNat∧20000 ^ k.toNat*20000=20000 ^ (k+1).toNat∧20000 ^ (k+1).toNat<=8000000000000 from ⟨HI.out.2.1,by rw [← Nat.pow_succ,show (k+1).toNat=k.toNat+1 by omega],Nat.le_trans (Nat.pow_le_pow_right (by decide) (show (k+1).toNat<=3 by have a2:=HH.out.len;omega)) (by decide)⟩);have HK:=aj.mk i3;have HB1:=aj.mk i4;have rE:=eH HB0 i4;have qo5:=aj.mk (show bm<wo.heap.size∧bm≠bh from ⟨HS.out.lt,fun e=>by have:=HS.out.lt;have:=GBH.out;omega⟩);have jJ:=aj.mk (HS.out.below i4);have Ls:=aj.mk i1;have HD1:=aj.mk hD;have c10:=fG (i3.box Fq (fun h=>h)).out;clear HS i1 i2 i3 i4 hD hY
    go_wp2_with (first|((with_reducible refine au (N:=68) rfl ?_);refine yG rfl rfl tG HB1 ?_;clear HB1;intro bn wn FD GBN HB1 hx hz;have uy:=aj.mk (jJ.out.below hx);have Xx:=aj.mk (Ls.out.below hx);have HD2:=dQ HD1 hx;have HBN:=aj.mk (show bn≠bm∧bn≠bh∧bn≠g10∧bn≠wl.heap.size from ⟨fun e=>by have:=jJ.out.lt;omega,fun e=>by have:=Ls.out.lt;omega,fun e=>by have:=bZ (HK.out.box Fq (fun h=>h)).out;omega,fun e=>by have:=bZ HD1.out;omega⟩);clear jJ Ls HD1;have jJ:=uy;have Ls:=Xx;have HD1:=HD2;have qbn:=dQ (HK.out.box Fq (fun h=>h)) hx;have c10:=fG qbn.out;clear uy Xx HD2 hx hz)|((with_reducible refine au (N:=70) rfl ?_);refine vU rfl _ rfl rfl jJ.out ?_;intro wp r1 cnt1 hr1 KA hx;have qz:=aj.mk KA;have Zt:=aj.mk (show wn.heap.size<=r1∧bh≠r1∧bn≠r1 from ⟨by omega,fun e=>by have:=Ls.out.lt;omega,fun e=>by have:=FD.out.lt;omega⟩);have oO:=aj.mk (Io (g:=bn) hx);have Xx:=aj.mk (Ls.out.below hx);have HS2:=aj.mk (FD.out.below hx);clear jJ Ls FD;have Ls:=Xx;have Fu:=HS2;clear Xx HS2 KA hr1 hx))
    obtain ⟨f,hf⟩:∃ f:Int->List Int,f=fun p=>Y.map fun q=>p+q:=⟨_,rfl⟩
    have HF:=aj.mk hf;clear hf
    go_frame
    go_loopw [17] (fun _ W'=>∃ (V:List Int) (cnt nn:Nat),aj (iA W' bm r1 n S V cnt)∧aj (j6 W' bh n' Y)∧aj (j6 W' bn nn (V.flatMap f))∧aj (nn<=V.length*n'∧∀ p∈V,p∈S)∧aj (wn.grownBy W' (some bn))) (fun _ W'=>W'.rangeLeft bm r1)
    case atStart=>exact ⟨[],cnt1,0,qz,Ls,⟨by simpa using Fu.out⟩,⟨by simp,by simp⟩,oO⟩
    case round =>
     clear qz Ls Fu oO;obtain ⟨V,cnt,nn,qz,Ls,Fu,Uj,oO⟩:=hrel;have LE1:=aj.mk qz.out.left;have c10:=fG (gM qbn oO.out HBN.out.2.2.1.symm).out
     go_wp2_with (first|(at_next;refine vB rfl _ rfl rfl qz.out ?nd3 ?nm3;(case' nd3=>(intro hd;have HD:=aj.mk hd;clear hd));(case' nm3=>(intro p cc wn2 Uk hpw hpS hpV PI hlt3 hgn hsz hen;have Ul:=aj.mk (And.intro hpS hlt3);have HS2:=aj.mk (Ls.out.kept hgn (fun e=>Zt.out.2.1 (by injection e)));have FD:=aj.mk (Fu.out.kept hgn (fun e=>Zt.out.2.2 (by injection e)));have HG2:=aj.mk (xA oO.out hgn (fun q e=>.inr (by injection e with e;have:=Zt.out.1;omega)));clear Ls Fu oO qz;have Ls:=HS2;have Fu:=FD;have oO:=HG2;have qz:=aj.mk PI;have c10:=fG (gM qbn oO.out HBN.out.2.2.1.symm).out;clear HS2 FD HG2 hpw hpS hpV PI hlt3 hgn hsz)))|((with_reducible refine au (N:=76) rfl ?_);refine vU rfl _ rfl rfl Ls.out ?_;intro wq r2 cnt2 hr2 KA hx;have zh:=aj.mk KA;have Um:=aj.mk (show wn.heap.size<=r2∧bm≠r2∧r1≠r2∧bn≠r2 from ⟨by have:=oO.out.size;omega,fun e=>by have:=qz.out.set.lt;omega,fun e=>by have:=qz.out.lt;omega,fun e=>by have:=Fu.out.lt;omega⟩);have HS2:=aj.mk (qz.out.below hx);have FD:=aj.mk (Fu.out.below hx);have HG2:=aj.mk (xA oO.out (Io (g:=bn) hx) (fun q e=>.inl (by injection e with e;exact e.symm)));clear qz Ls Fu oO;have qz:=HS2;have Fu:=FD;have oO:=HG2;clear HS2 FD HG2 KA hr2 hx))
     ·go_frame
      go_loopw [18] (fun _ W'=>∃ (V2:List Int) (cnt3 PE:Nat),aj (iA W' bh r2 n' Y V2 cnt3)∧aj (iA W' bm r1 n S (V++[p]) Uk)∧aj (j6 W' bn PE (V.flatMap f++V2.map fun q=>p+q))∧aj (PE<=nn+V2.length∧∀ q∈V2,q∈Y)∧aj (wn.grownBy W' (some bn))) (fun _ W'=>W'.rangeLeft bh r2)
      case atStart=>exact ⟨[],cnt2,nn,zh,qz,⟨by simpa using Fu.out⟩,⟨by simp,by simp⟩,oO⟩
      case round =>
       clear zh qz Fu oO;obtain ⟨V2,cnt3,PE,zh,qz,Fu,Un,oO⟩:=hrel;have LE2:=aj.mk zh.out.left
       go_wp2_with (first|(at_next;refine vB rfl _ rfl rfl zh.out ?nd4 ?nm4;(case' nd4=>(intro hd;have HD2:=aj.mk hd;clear hd));(case' nm4=>(intro q cc2 wn4 qbl hqw Zu hqV hR4 Uo hgn hsz qjK;have HQX:=aj.mk (And.intro Zu Uo);have HZ:=aj.mk (show wrap64 (p+q)=p+q from Br (by have:=HXB.out p Ul.out.1;have:=Jd.out q Zu;omega) (by have:=HXB.out p Ul.out.1;have:=Jd.out q Zu;omega));have HS2:=aj.mk (qz.out.kept hgn (fun e=>Um.out.2.1 (by injection e)) (fun e=>Um.out.2.2.1 (by injection e)));have FD:=aj.mk (Fu.out.kept hgn (fun e=>Um.out.2.2.2 (by injection e)));have HG2:=aj.mk (xA oO.out hgn (fun q e=>.inr (by injection e with e;have:=Um.out.1;omega)));clear qz Fu oO zh;have qz:=HS2;have Fu:=FD;have oO:=HG2;have zh:=aj.mk hR4;clear HS2 FD HG2 hqw Zu hqV hR4 Uo hgn hsz)))|((with_reducible refine YL (.mapUpdate 199 (.tmp 81) (.tmp 84) (.const (.bool true))) rfl ?_);refine MV rfl _ _ rfl rfl Fu.out (mulC Un.out.1 Uj.out.1 (by have a7:=qz.out.size;simp only [List.length_append,List.length_cons,List.length_nil] at a7;omega) HXN.out HNN.out.1 HNN.out.2.1 HNN.out.2.2 (by have a5:=zh.out.size;have a10:=HXN.out;simp only [List.length_append,List.length_cons,List.length_nil] at a5;omega)) (z:=wrap64 (p+q)) (by rw [HZ.out];exact uO (by have:=HXB.out p Ul.out.1;have:=Jd.out q HQX.out.1;omega) (by have:=HXB.out p Ul.out.1;have:=Jd.out q HQX.out.1;omega)) rfl rfl ?_;intro yO hs6 M4;rw [HZ.out] at hs6;have HS2:=aj.mk (qz.out.kept M4 (fun e=>HBN.out.1 (by injection e with e;exact e.symm)) (fun e=>Zt.out.2.2 (by injection e with e;exact e.symm)));have HS4:=aj.mk (zh.out.kept M4 (fun e=>HBN.out.2.1 (by injection e with e;exact e.symm)) (fun e=>Um.out.2.2.2 (by injection e with e;exact e.symm)));have HG2:=aj.mk (xA oO.out M4 (fun q e=>.inl (by injection e with e;exact e.symm)));clear qz zh Fu oO;have qz:=HS2;have zh:=HS4;have Fu:=aj.mk hs6;have oO:=HG2;clear HS2 HS4 HG2 hs6 M4))
       all_goals first
        | exact ⟨⟨_,_,_,_,_,_,_,_,_,⟨V2++[q],qbl,PE+1,zh,qz,⟨by simpa using Fu.out⟩,⟨by have:=Un.out.1;simp;omega,fun y hy=>by rcases List.mem_append.1 hy with hy|hy;exact Un.out.2 y hy;rw [List.mem_singleton.1 hy];exact HQX.out.1⟩,oO⟩,rfl⟩,by rw [zh.out.left,LE2.out];exact HQX.out.2⟩
        | exact ⟨⟨V++[p],Uk,PE,qz,⟨zh.out.set⟩,⟨Fu.out.same (qbj (by rw [HF.out]) Un.out.2 (fun q hq=>HD2.out q (uO (by have:=Jd.out q hq;omega) (by have:=Jd.out q hq;omega)) hq))⟩,⟨by have a1:=Un.out.1;have a2:=Uj.out.1;have a5:=zh.out.size;rw [List.length_append,List.length_cons,List.length_nil,Nat.zero_add,Nat.add_mul,Nat.one_mul];omega,fun y hy=>by rcases List.mem_append.1 hy with hy|hy;exact Uj.out.2 y hy;rw [List.mem_singleton.1 hy];exact Ul.out.1⟩,oO⟩,by rw [qz.out.left,LE1.out];exact Ul.out.2⟩
     ·have HBw:=stepG HB1 oO.out GBN
      have HBz:=eH HB0 HBw.out
      have hS:∀ y,y∈V.flatMap f↔y∈S.flatMap f:=by
       intro y;simp only [List.mem_flatMap];exact ⟨fun ⟨q,hq,e⟩=>⟨q,Uj.out.2 q hq,e⟩,fun ⟨q,hq,e⟩=>⟨q,HD.out q (uO (by have:=HXB.out q hq;omega) (by have:=HXB.out q hq;omega)) hq,e⟩⟩
      have hk2:ws.drop k.toNat=wt::ws.drop (k+1).toNat:=by
       have hkn:k.toNat<ws.length:=by omega
       rw [List.drop_eq_getElem_cons hkn,show (k+1).toNat=k.toNat+1 by omega,HWT.out.1]
       congr 1
       unfold rd
       rw [List.getD_eq_getElem?_getD,List.getElem?_eq_getElem hkn]
       rfl
      have hI:ql h a b (ws.drop (k+1).toNat) (k+1) (S.flatMap f)=ql h a b ws 0 [0]:=by
       rw [← HI.out.1,hk2,ql,HF.out,HYY.out]
      have hX:∀ x∈S.flatMap f,-1000*(k+1)<=x∧x<=1000*(k+1):=by
       intro x hx;obtain ⟨p,hp,hx⟩:=List.mem_flatMap.1 hx;rw [HF.out] at hx;obtain ⟨q,hq,rfl⟩:=List.mem_map.1 hx;have:=HI.out.2.2 p hp;have:=Jd.out q hq
       omega
      have hnn:nn<=20000 ^ (k+1).toNat:=by
       have a1:=qz.out.size;have a2:=HNN.out.2.1;have a3:V.length*n'<=20000 ^ k.toNat*20000:=Nat.mul_le_mul (by have:=HNN.out.1;omega) HXN.out;have a4:=Uj.out.1
       omega
      have hwl:wo.heap.size<=wl.heap.size:=HB.out.size;refine ⟨⟨fun i=>(#[undef,undef,undef,undef,undef,undef,undef,undef,.pointer (some ⟨g8,0,none⟩),.pointer (some ⟨g9,0,none⟩),.pointer (some ⟨g10,0,none⟩),u 11,u 12,u 13,u 14,u 15,.map (some bn),u17,u18,undef,undef,undef,undef,undef,undef,undef,.bool true,.int .i64 k,.pointer (some (Xw.add k.toNat)),.int .i64 wt,.map (some bh),.pointer (some ⟨gh,0,none⟩),.pointer (some ⟨gh,0,none⟩),.slice (some Sb) h.length c,.int .i64 k,.pointer (some (Sb.add (k.toNat*2))),.pointer (some (Sb.add (k.toNat*2))),.slice Ad (aX h k).f0.length cd,.func (.func 223) #[] #[.pointer (some ⟨gn,0,none⟩)],u 39,u 40,u 41,u 42,u 43,u 44,u 45,u 46,u 47,u 48,u 49,u 50,u 51,u 52,u 53,u 54,u 55,u 56,u 57,u 58,u 59,u 60,u 61,u 62,u 63,u 64,u 65,u 66,u 67,.map (some bn),.map (some bm),.pointer (some ⟨r1,0,none⟩),.tuple #[.bool false],.bool false,u73,u74,u75,u76,u77,u78,u79,u80,u81,u82,u83,u84,.map (some bn),.int .i64 (k+1),u 87]:Array Value).getD i undef,wl.heap.size::Ds,k+1,S.flatMap f,bn,nn,⟨by omega,by omega,⟨hI,hnn,hX⟩,⟨Fu.out.same hS⟩,⟨Nat.le_trans HB0.out.size GBN.out⟩,⟨aD F9.out HBw.out⟩,⟨aD Rn.out HBw.out⟩,⟨aD Ui.out HBw.out⟩,HBz,⟨List.nodup_cons.2 ⟨fun hm=>by have:=bZ (HDs.out.2 _ hm).2;omega,HDs.out.1⟩,fun D hD=>?_⟩⟩,rfl⟩,?_⟩
      ·rcases List.mem_cons.1 hD with rfl|hD
       ·exact ⟨by have:=HB0.out.size;omega,(oO.out.block _ (bZ HD1.out) (fun e=>HBN.out.2.2.2 (by injection e with e;exact e.symm))).trans HD1.out⟩
       ·exact ⟨(HDs.out.2 D hD).1,aD (HDs.out.2 D hD).2 HBw.out⟩
      ·show ws.length - (k+1).toNat<ws.length - k.toNat
       omega
  ·obtain rfl:k=ws.length:=by omega
   go_wp2
   have hS:ql h a b ws 0 [0]=S:=by
    rw [← HI.out.1,Int.toNat_natCast,List.drop_length,ql]
   show LeavesInM _ _ _ _ _ _ _ _ _
   refine Aa (fun W=>j6 W bm n S∧Below w.heap.size w W) w.heap.size (fun W D hD hd hi=>?_) Ds wo HDs.out.1 HDs.out.2 ⟨HS.out,HB0.out⟩ (fun W hi=>⟨_,results_tmp rfl _ _ _,bm,rfl,⟨n,by rw [hS];exact hi.1⟩,GM.out,hi.2⟩)
   have hne:D≠bm:=by
    obtain ⟨Dm,⟨es,clock,hb,_⟩,_⟩:=hi.1;intro e;subst e;rw [hd] at hb
    cases hb
   exact ⟨hi.1.kept (grownBy_putObj' W D _) (fun e=>hne (by injection e with e;exact e.symm)),(stepG ⟨hi.2⟩ (grownBy_putObj' W D _) ⟨hD⟩).out⟩
end Go.Proofs.YtnpfbjnjdngkhaaGreatDoor.P
namespace Go.Proofs.YtnpfbjnjdngkhaaGreatDoor.P
open Go.RowKit Go.Proofs.YtnpfbjnjdngkhaaGreatDoorW.aQ Go.Proofs.YtnpfbjnjdngkhaaGreatDoorW.bO Go.Proofs.YtnpfbjnjdngkhaaGreatDoorW.bT
attribute [local go_sem] eP eT fU fV dS dU eU eX
theorem Xy {V:List Int} {l x:Int} (h:l∈V∧∀ y∈V,l<=y) (hx:l<=x):l∈V++[x]∧∀ y∈V++[x],l<=y :=
 ⟨List.mem_append_left _ h.1,fun y hy=>by rcases List.mem_append.1 hy with hy|hy;exact h.2 y hy;rw [List.mem_singleton.1 hy];exact hx⟩
theorem qbo {V:List Int} {l x:Int} (h:l∈V∧∀ y∈V,l<=y) (hx:x<=l):x∈V++[x]∧∀ y∈V++[x],x<=y :=
 ⟨by simp,fun y hy=>by rcases List.mem_append.1 hy with hy|hy;exact Int.le_trans hx (h.2 y hy);rw [List.mem_singleton.1 hy];exact Int.le_refl _⟩
theorem Xz {V:List Int} {l x:Int} (h:l∈V∧∀ y∈V,y<=l) (hx:x<=l):l∈V++[x]∧∀ y∈V++[x],y<=l :=
 ⟨List.mem_append_left _ h.1,fun y hy=>by rcases List.mem_append.1 hy with hy|hy;exact h.2 y hy;rw [List.mem_singleton.1 hy];exact hx⟩
theorem qbp {V:List Int} {l x:Int} (h:l∈V∧∀ y∈V,y<=l) (hx:l<=x):x∈V++[x]∧∀ y∈V++[x],y<=x :=
 ⟨by simp,fun y hy=>by rcases List.mem_append.1 hy with hy|hy;exact Int.le_trans (h.2 y hy) hx;rw [List.mem_singleton.1 hy];exact Int.le_refl _⟩
theorem Na (b n:Nat) (S:List Int) (lo hi:Int) (w:World) (hS:j6 w b n S) (hlo:lo∈S∧∀ x∈S,lo<=x) (hhi:hi∈S∧∀ x∈S,x<=hi) (hw:∀ x∈S,Pm x) :
  Calls Tryz.prog 155 #[.map (some b)] w fun e w'=>e=.returned (.agg #[.int .i64 lo,.int .i64 hi])∧Below w.heap.size w w':=by
 have HB:=aj.mk (Below.refl w.heap.size w);have HS:=aj.mk hS;have Lu:=aj.mk hlo;have HHI:=aj.mk hhi;have HW:=aj.mk hw;clear hS hlo hhi hw;have jY:=Tryz.underlying37
 go_enter Tryz.func155,Tryz.ntmps155
 go_wp2_with (first|((with_reducible refine au (N:=2) rfl ?_);refine jg rfl rfl (cs:=#[.int .i64 0,.int .i64 0]) (t:=37) tG HB ?_;clear HB;intro gr wa HR GR HB hx hz;have HS2:=aj.mk (HS.out.below hx);clear HS;have HS:=HS2;clear HS2 hx hz)|((with_reducible refine au (N:=3) rfl ?_);refine jg rfl rfl (cs:=#[.int .i64 0,.int .i64 0]) (t:=37) tG HB ?_;clear HB;intro go wb HO GO HB hx hz;have D:=aj.mk (show gr≠go from fun e=>by have:=bZ HR.out;omega);replace HR:=dQ HR hx;have HS2:=aj.mk (HS.out.below hx);clear HS;have HS:=HS2;clear HS2 hx hz)|(at_range;refine vU rfl _ rfl rfl HS.out ?_;intro wc r cnt hrr KA hx;have wW:=aj.mk KA;have MR:=aj.mk (show gr≠r∧go≠r∧w.heap.size<=r from ⟨fun e=>by have:=bZ HR.out;omega,fun e=>by have:=bZ HO.out;omega,by have:=HB.out.size;omega⟩);have MB:=aj.mk (show gr≠b∧go≠b from ⟨HS.out.o7 HR,HS.out.o7 HO⟩);replace HR:=dQ HR hx;replace HO:=dQ HO hx;replace HB:=eH HB hx;clear KA hrr hx HS))
 go_frame
 go_loopw [4,5] (fun v4 _ W=>∃ (V:List Int) (f:Bool) (l0 h0:Int) (cnt:Nat),v4=.bool f∧aj ((f=true∧V=[])∨(f=false∧(l0∈V∧∀ x∈V,l0<=x)∧(h0∈V∧∀ x∈V,x<=h0)))∧aj (∀ x∈V,x∈S)∧aj (iA W b r n S V cnt)∧aj (W.heap[go]?=some (.cells #[.int .i64 l0,.int .i64 h0] 37 (0,0)))∧aj (W.heap[gr]?=some (.cells #[.int .i64 0,.int .i64 0] 37 (0,0)))∧aj (Below w.heap.size w W)) (fun _ _ W=>W.rangeLeft b r)
 case atStart=>exact ⟨[],true,0,0,cnt,rfl,⟨.inl ⟨rfl,rfl⟩⟩,⟨by simp⟩,wW,HO,HR,HB⟩
 case round =>
  clear wW HO HR HB;obtain ⟨V,f,l0,h0,cnt2,rfl,HI,HV,wW,HO,HR,HB⟩:=hrel
  rcases HI.out with ⟨rfl,hV⟩|⟨rfl,hlo2,hhi2⟩
  ·subst hV
   clear HI
   go_wp2_with (first|(at_next;refine vB rfl _ rfl rfl wW.out ?nd ?nm;(case' nd=>(intro hd;have HD:=aj.mk hd;clear hd;obtain ⟨c0,c1⟩:=qM HO.out));(case' nm=>(intro x c wn cnt3 hxw XA hxV PI hlt hgn hsz hen;have HX:=aj.mk (And.intro XA hlt);have HLE:=aj.mk wW.out.left;have NB:=aj.mk (wW.out.o7 HO);have NR:=aj.mk (wW.out.o7 HR);replace HO:=gM HO hgn NB.out.2;replace HR:=gM HR hgn NR.out.2;replace HB:=stepG HB hgn ⟨MR.out.2.2⟩;clear wW;have wW:=aj.mk PI;obtain ⟨c0,c1⟩:=qM HO.out;clear hxw XA hxV PI hlt hgn hsz)))|((with_reducible refine aY (t:=37) (p:=3) rfl ?_);refine iP rfl rfl rfl HO GO HB (.agg #[.int .i64 x,.int .i64 x]) [.int .i64 x,.int .i64 x] #[.int .i64 x,.int .i64 x] rfl rfl rfl tX (Nat.le_refl _) (by simp [Value.oneCell']) rfl ?_;clear HB HO c0 c1;intro wz HO HB hx;replace HR:=gM HR hx D.out;have Uq:=aj.mk (wW.out.kept hx (fun e=>NB.out.1 (by injection e;omega)) (fun e=>NB.out.2 (by injection e;omega)));clear wW;have wW:=Uq;obtain ⟨c0,c1⟩:=qM HO.out;clear Uq hx)|((with_reducible refine aY (t:=37) (p:=2) rfl ?_);refine iP rfl rfl rfl HR GR HB (.agg #[.int .i64 l0,.int .i64 h0]) [.int .i64 l0,.int .i64 h0] #[.int .i64 l0,.int .i64 h0] rfl rfl rfl tX (Nat.le_refl _) (by simp [Value.oneCell']) rfl ?_;clear HB HR;intro wz HR HB hx;clear hx))
   case roundEnd=>exact ⟨⟨[x],false,x,x,cnt3,rfl,⟨.inr ⟨rfl,⟨by simp,by simp⟩,by simp,by simp⟩⟩,⟨fun y hy=>by rw [List.mem_singleton.1 hy];exact HX.out.1⟩,wW,HO,HR,HB⟩,by rw [wW.out.left,HLE.out];exact HX.out.2⟩
   exact absurd (HD.out lo (HW.out lo Lu.out.1) Lu.out.1) (by simp)
  ·have XB:=aj.mk hlo2
   have XC:=aj.mk hhi2;clear HI hlo2 hhi2
   go_wp2_with (first|(at_next;refine vB rfl _ rfl rfl wW.out ?nd2 ?nm2;(case' nd2=>(intro hd;have HD:=aj.mk hd;clear hd;obtain ⟨c0,c1⟩:=qM HO.out));(case' nm2=>(intro x c wn cnt3 hxw XA hxV PI hlt hgn hsz hen;have HX:=aj.mk (And.intro XA hlt);have HLE:=aj.mk wW.out.left;have NB:=aj.mk (wW.out.o7 HO);have NR:=aj.mk (wW.out.o7 HR);replace HO:=gM HO hgn NB.out.2;replace HR:=gM HR hgn NR.out.2;replace HB:=stepG HB hgn ⟨MR.out.2.2⟩;clear wW;have wW:=aj.mk PI;obtain ⟨c0,c1⟩:=qM HO.out;clear hxw XA hxV PI hlt hgn hsz)))|((with_reducible refine aY (t:=37) (p:=3) rfl ?_);refine iP rfl rfl rfl HO GO HB (.agg #[.int .i64 (if x<l0 then x else l0),.int .i64 (if h0<x then x else h0)]) [.int .i64 (if x<l0 then x else l0),.int .i64 (if h0<x then x else h0)] #[.int .i64 (if x<l0 then x else l0),.int .i64 (if h0<x then x else h0)] rfl rfl rfl tX (Nat.le_refl _) (by simp [Value.oneCell']) rfl ?_;clear HB HO c0 c1;intro wz HO HB hx;replace HR:=gM HR hx D.out;have Uq:=aj.mk (wW.out.kept hx (fun e=>NB.out.1 (by injection e;omega)) (fun e=>NB.out.2 (by injection e;omega)));clear wW;have wW:=Uq;obtain ⟨c0,c1⟩:=qM HO.out;clear Uq hx)|((with_reducible refine aY (t:=37) (p:=2) rfl ?_);refine iP rfl rfl rfl HR GR HB (.agg #[.int .i64 l0,.int .i64 h0]) [.int .i64 l0,.int .i64 h0] #[.int .i64 l0,.int .i64 h0] rfl rfl rfl tX (Nat.le_refl _) (by simp [Value.oneCell']) rfl ?_;clear HB HR;intro wz HR HB hx;clear hx))
   case roundEnd=>exact ⟨⟨V++[x],false,if x<l0 then x else l0,if h0<x then x else h0,cnt3,rfl,⟨.inr ⟨rfl,by split<;>first|exact Xy XB.out (by omega)|exact qbo XB.out (by omega),by split<;>first|exact Xz XC.out (by omega)|exact qbp XC.out (by omega)⟩⟩,⟨fun y hy=>by rcases List.mem_append.1 hy with hy|hy;exact HV.out y hy;rw [List.mem_singleton.1 hy];exact HX.out.1⟩,wW,HO,HR,HB⟩,by rw [wW.out.left,HLE.out];exact HX.out.2⟩
   refine bodyPost_ret (results_cell_row rfl _ _ gr 37 #[.int .i64 l0,.int .i64 h0] (0,0) _ rfl HR.out Tryz.underlying37 rfl tX) rfl ?_;have e1:l0=lo:=Int.le_antisymm (XB.out.2 lo (HD.out lo (HW.out lo Lu.out.1) Lu.out.1)) (Lu.out.2 l0 (HV.out l0 XB.out.1));have e2:h0=hi:=Int.le_antisymm (HHI.out.2 h0 (HV.out h0 XC.out.1)) (XC.out.2 hi (HD.out hi (HW.out hi HHI.out.1) HHI.out.1));subst e1;subst e2;exact ⟨rfl,HB.out⟩
end Go.Proofs.YtnpfbjnjdngkhaaGreatDoor.P
