import Derived.Maps.OwnIn
import Derived.Shelf.Abstract
import Derived.Test.YtnpfbjnjdngkhaaGreatDoorC1
set_option maxHeartbeats 8000000
set_option maxRecDepth 100000
set_option linter.unusedVariables false
set_option linter.unusedSimpArgs false
namespace Go.Proofs.YtnpfbjnjdngkhaaGreatDoor.P
open Go.RowKit Go.Proofs.YtnpfbjnjdngkhaaGreatDoorW.aW Go.Proofs.YtnpfbjnjdngkhaaGreatDoorW.bZ Go.Proofs.YtnpfbjnjdngkhaaGreatDoorW.dh
attribute [local go_sem] fE fF gU gV eX eY fG fH
attribute [local go_sem] Oper.semAt_some
def kQ (h : List bO) (l : List bg) (d : Int) (takes : List Int) : List Int := (lW ((ownB l d).map bg.f2)).map fun hs => qx (aT h d).f1 d takes (ownB l d) hs
theorem Aa {F : Fence} {n' : Nat} {ops : Array Oper} {rest : List Oper} {o : Oper} {a : Act} {Q : Exit → Act → World → Prop} {w : World} (hg : o.guard = none) (m x : Operand) {v : Operand} (hop : o.op = .mapUpdate 199 m x v) {b n : Nat} {S : List Int} (hm : a.eval m = .map (some b)) (hS : kJ w b n S) (hn : n < 1000000000000000000) {z : Int} (hz : PY z) (hx : a.eval x = .int .i64 z) (hv : a.eval v = .bool true)
  (h : ∀ w', kJ w' b (n + 1) (S ++ [z]) → w.grownBy w' (some b) → wpListIn F n' Tryz.prog ops Q rest (a.put o.dst undef) w') : wpListIn F n' Tryz.prog ops Q (o :: rest) a w := by
 obtain ⟨D, h1, h2⟩ := hS
 refine wpListIn_mapUpdate_own w hg m x v 199 hop 3 4 (Maps.int_keyed Tryz.underlying3) Tryz.underlying199 _ b n D hm h1 (by unfold maxLen; omega) _ _ (.int .i64 z) hx hv (Maps.keyOf_int_mk Tryz.underlying3 hz) _ [] (plainElem_bool Tryz.underlying4 true) fun w' r1 r2 => h w' ⟨_, r1, fun y hy => ?_⟩ r2
 by_cases e : y = z
 ·subst e
  rw [Maps.has_put_same h1.isMap U0]; simp
 ·rw [Maps.has_put_other (by intro h; injection h with _ h; exact e h), h2 y hy]
  simp [e]
theorem mX.put {W : World} {l : Nat} {o o' : Obj} (h : W.heap[l]? = some o) (ho : o.isCells = false) : mX (fun _ => False) W (W.putObj l o') := by
 refine ⟨by simp [World.putObj], fun k q hk hq _ => ?_⟩
 have : k ≠ l := by
  intro e; subst e; rw [h] at hk
  cases hk
  rw [ho] at hq
  cases hq
 exact (World.putObj_heap_other this).trans hk
theorem mX.own {W W' : World} {row : Option Nat} (hg : W.grownBy W' row) (hr : ∀ r, row = some r → ∃ o : Obj, W.heap[r]? = some o ∧ o.isCells = false) : mX (fun _ => False) W W' :=
 ⟨hg.size, fun _ _ hk hc _ => (grownBy_keeps_cells hg hr hk hc).trans hk⟩
theorem mX.map {W W' : World} {b n : Nat} {S : List Int} (hS : kJ W b n S) (hg : W.grownBy W' (some b)) : mX (fun _ => False) W W' := by
 obtain ⟨D, ⟨es, clock, hb, _⟩, _⟩ := hS
 exact mX.own hg fun r e => by cases e; exact ⟨_, hb, rfl⟩
theorem Vm (x : pQ) (B : Nat) : OwnFrom B (fun (_ : Unit) W => x.Rd W) := fun _ W W' row h hg hr =>
 ⟨(mX.own hg fun r e => (hr r e).2).row vG h.1 (fun _ _ _ h => h), h.2⟩
theorem Tf {W W' : World} {x : bg} {cs : List Value} (h : eT.K W x cs) : eT.K W' x cs := by
 obtain rfl := sj h; exact PU _ _
theorem qK : ∀ {ls : List bT} {x : List Int}, x ∈ lW ls → x.length = ls.length
 | [], x, h => by rw [List.mem_singleton.1 h]; rfl
 | s :: r, x, h => by
  obtain ⟨n, _, hx⟩ := List.mem_flatMap.1 h; obtain ⟨y, hy, rfl⟩ := List.mem_map.1 hx; simp [qK hy]
theorem wC {lo hi : Int} : ∀ {ls : List bT} {x : List Int}, x ∈ lW ls → (∀ s ∈ ls, lo ≤ s.f0 ∧ s.f1 ≤ hi) → ∀ y ∈ x, lo ≤ y ∧ y ≤ hi
 | [], x, h, _ => by rw [List.mem_singleton.1 h]; simp
 | s :: r, x, h, hs => by
  obtain ⟨n, hn, hx⟩ := List.mem_flatMap.1 h; obtain ⟨y, hy, rfl⟩ := List.mem_map.1 hx; have := Yk hn; have h1 := hs s (List.mem_cons_self ..); intro q hq
  rcases List.mem_cons.1 hq with rfl | hq
  ·omega
  ·exact wC hy (fun s hs' => hs s (List.mem_cons_of_mem _ hs')) q hq
theorem Fj : ∀ {l : List Int}, (∀ x ∈ l, 0 ≤ x) → 0 ≤ l.sum
 | [], _ => by simp
 | x :: l, h => by
  have h1 := h x (List.mem_cons_self ..); have h2 := Fj (fun y hy => h y (List.mem_cons_of_mem _ hy)); rw [List.sum_cons]; omega
theorem ru {full d B : Int} {takes hours : List Int} {l : List bg} (hf : 0 ≤ full ∧ full ≤ B) (ht : ∀ x ∈ takes, 0 ≤ x ∧ x ≤ 1000) (hh : ∀ x ∈ hours, 0 ≤ x ∧ x ≤ 1000) : 0 ≤ qx full d takes l hours ∧ qx full d takes l hours ≤ B := by
 have := Fj (fun x hx => (CG (d := d) ht l hours hh x hx).1)
 unfold qx
 omega
theorem Ab (l : List bg) (d : Int) : (ownB l d).length ≤ l.length := List.length_filter_le _ _
theorem IC (A : Option Addr) (c : Nat) (h : List bO) (A1 : Option Addr) (c1 : Nat) (m : List Int) (A2 : Option Addr) (c2 : Nat) (l : List bg) (d : Int) (A3 : Option Addr) (c3 : Nat) (takes : List Int) (w : World)
  (hr : Kd.C iM w A h.length h) (hc : h.length ≤ c) (hr2 : Kd.C eT w A2 l.length l) (hc2 : l.length ≤ c2) (hr3 : Kd.C (Kd.int .i64) w A3 takes.length takes) (hc3 : takes.length ≤ c3)
  (hd : 0 ≤ d ∧ d < h.length) (hl : l.length ≤ 100) (hlb : ∀ b ∈ l, 0 ≤ b.f2.f0 ∧ b.f2.f1 ≤ 1000) (ht : ∀ x ∈ takes, 0 ≤ x ∧ x ≤ 1000) (Qs : ∀ b ∈ l, 0 ≤ b.f1 ∧ b.f1 < takes.length) (hN : (kQ h l d takes).length ≤ 1000000) (qlz : 0 ≤ (aT h d).f1 ∧ (aT h d).f1 ≤ 1000000) :
  Calls Tryz.prog 201 #[.agg #[.slice A h.length c, .slice A1 m.length c1], .slice A2 l.length c2, .int .i64 d, .slice A3 takes.length c3] w fun e w' => ∃ b n, e = .returned (.map (some b)) ∧ kJ w' b n (kQ h l d takes) ∧ n ≤ (kQ h l d takes).length ∧ w.heap.size ≤ b ∧ Below w.heap.size w w' := by
 have HB := aj.mk (Below.refl w.heap.size w); have HR := aj.mk hr; have HR2 := aj.mk hr2; have HR3 := aj.mk hr3; have HL := aj.mk hl; have hmm := @run_makeMap Tryz.prog; clear hr hr2 hr3 hl; refine (callsIn_wide (n := 3)).1 ?_; refine callsIn_of_wp_marks Tryz.func201 rfl trivial ?_ rfl; refine wpIn_wide.2 ?_; simp only [Tryz.ntmps201, List.size_toArray, List.length_cons, List.length_nil, Nat.reduceAdd, Nat.reduceSub, Array.replicate_succ, Array.replicate_zero, List.push_toArray, List.append_toArray, List.nil_append, List.cons_append]
 go_wp2_with (first | ((with_reducible refine av (N := 4) rfl ?_); refine ko rfl rfl (cs := #[.slice A h.length c, .slice A1 m.length c1]) (t := 149) tG HB ?_; clear HB; intro gh wa HH GH HB hx; clear hx) | ((with_reducible refine av (N := 6) rfl ?_); refine ko rfl rfl (cs := #[.int .i64 d]) (t := 3) tG HB ?_; clear HB; intro gd wb HD GD HB hx; replace HH := dW HH hx; clear hx) | ((with_reducible refine av (N := 7) rfl ?_); refine ko rfl rfl (cs := #[.slice A3 takes.length c3]) (t := 47) tG HB ?_; clear HB; intro gt wc HT GT HB hx; replace HH := dW HH hx; replace HD := dW HD hx; have cd := fT HD.out; clear hx) | (go_at_call 226; refine (Ka A2 c2 l d _ (Kd.ak HR2.out HB.out) hc2 (by have := HL.out; omega)).mono ?_; rintro e wd ⟨v, rfl, ho, hx⟩; have hsz := HB.out.size; obtain ⟨Ao, co, rfl, hlo, _⟩ := Kd.fO ho; have HO := aj.mk (Kd.dP ho hsz); replace HH := dW HH hx; replace HD := dW HD hx; replace HT := dW HT hx; replace HB := fu HB hx; clear hx ho hsz cd) | ((with_reducible refine av (N := 9) rfl ?_); refine jD rfl rfl (cs := #[.slice none 0 0]) (t := 25) tG HB ?_; clear HB; intro g9 we H9 G9 HB hx hz; have D9 := aj.mk (show gh ≠ g9 ∧ gd ≠ g9 ∧ gt ≠ g9 from ⟨fun e => by have := cZ HH.out; omega, fun e => by have := cZ HD.out; omega, fun e => by have := cZ HT.out; omega⟩); have M9 := wX HO hz; replace HH := dW HH hx; replace HD := dW HD hx; replace HT := dW HT hx; replace HO := qQ HO hx; clear hx hz) | ((with_reducible refine bE (t := 25) (p := 9) rfl ?_); refine je rfl rfl rfl H9 G9 HB (.slice Ao (ownB l d).length co) [.slice Ao (ownB l d).length co] #[.slice Ao (ownB l d).length co] rfl rfl rfl tX (Nat.le_refl _) (by simp [Value.oneCell']) rfl ?_; clear HB H9; intro wf H9 HB hx; replace HH := gW HH hx D9.out.1; replace HD := gW HD hx D9.out.2.1; replace HT := gW HT hx D9.out.2.2; replace HO := EY HO rfl hx M9.out; clear hx D9 M9) | ((with_reducible refine av (N := 16) rfl ?_); refine yG rfl rfl tG HB ?_; clear HB; intro b wg HS GB HB hx hz; have MB := aj.mk (show gh ≠ b ∧ gd ≠ b ∧ gt ≠ b ∧ g9 ≠ b from ⟨fun e => by have := cZ HH.out; omega, fun e => by have := cZ HD.out; omega, fun e => by have := cZ HT.out; omega, fun e => by have := cZ H9.out; omega⟩); have MO := wX HO hz; replace HH := dW HH hx; replace HD := dW HD hx; replace HT := dW HT hx; replace H9 := dW H9 hx; replace HO := qQ HO hx; clear hx hz) | ((with_reducible refine av (N := 10) rfl ?_); refine jD rfl rfl (cs := #[.map none]) (t := 199) tG HB ?_; clear HB; intro g10 wi Gd G10 HB hx hz; have Yy := aj.mk (show gh ≠ g10 ∧ gd ≠ g10 ∧ gt ≠ g10 ∧ g9 ≠ g10 ∧ b ≠ g10 from ⟨fun e => by have := cZ HH.out; omega, fun e => by have := cZ HD.out; omega, fun e => by have := cZ HT.out; omega, fun e => by have := cZ H9.out; omega, fun e => by have := HS.out.lt; omega⟩); have M10 := wX HO hz; replace HH := dW HH hx; replace HD := dW HD hx; replace HT := dW HT hx; replace H9 := dW H9 hx; replace HO := qQ HO hx; have HS2 := aj.mk (HS.out.below hx); clear HS; have HS := HS2; clear HS2 hx hz) | ((with_reducible refine bE (t := 199) (p := 10) rfl ?_); refine je rfl rfl rfl Gd G10 HB (.map (some b)) [.map (some b)] #[.map (some b)] rfl rfl rfl tX (Nat.le_refl _) (by simp [Value.oneCell']) rfl ?_; clear HB Gd; intro wj Gd HB hx; replace HH := gW HH hx Yy.out.1; replace HD := gW HD hx Yy.out.2.1; replace HT := gW HT hx Yy.out.2.2.1; replace H9 := gW H9 hx Yy.out.2.2.2.1; replace HO := EY HO rfl hx M10.out; have HS2 := aj.mk (HS.out.kept hx (by have := Yy.out.2.2.2.2; intro e; injection e; exact this ‹_›)); clear HS; have HS := HS2; have c9 := fT H9.out; clear HS2 hx M10) | (go_at_call 210; refine (gD.calls 1001 Ao co (ownB l d) _ _ (Kd.cO HO.out).2.2 hlo (Qq (by have := HL.out; have := Ab l d; omega) (by have := HL.out; have := Ab l d; omega))).mono ?_; rintro e wk ⟨v, rfl, ho, hx⟩; have hsz := HB.out.size; obtain ⟨As, cs, rfl, hls, _⟩ := Kd.fO ho; have XV := aj.mk (Kd.dP ho hsz); have MS := aj.mk (show some b ≠ (Value.slice As ((ownB l d).map bg.f2).length cs).ownBlock from fun e => absurd (Kd.gH ho b e.symm) (by have := HS.out.lt; omega)); replace HH := dW HH hx; replace HD := dW HD hx; replace HT := dW HT hx; replace H9 := dW H9 hx; replace Gd := dW Gd hx; replace HO := qQ HO hx; have HS2 := aj.mk (HS.out.below hx); clear HS; have HS := HS2; replace HB := fu HB hx; clear HS2 hx ho hsz c9) | (go_at_call 200; have hnu := uT As cs ((ownB l d).map bg.f2) wk; rw [List.length_map] at hnu; refine hnu.mono ?_; rintro e wl ⟨gn, rfl, hgn, kI, hx⟩; have GN := aj.mk hgn; have HN := aj.mk kI; replace HH := dW HH hx; replace HD := dW HD hx; replace HT := dW HT hx; replace H9 := dW H9 hx; replace Gd := dW Gd hx; replace HO := qQ HO hx; replace XV := qQ XV hx; have HS2 := aj.mk (HS.out.below hx); clear HS; have HS := HS2; replace HB := fu HB hx; clear HS2 hx hgn kI hnu))
 have HL2 := aj.mk (show ((ownB l d).map bg.f2).length ≤ 1000 by have := HL.out; have := Ab l d; rw [List.length_map]; omega); have hbl := HS.out.lt; refine (wpIn_wide (n := 3)).1 ?_
 refine Ns (gf := 223) (lb := #[.pointer (some ⟨gn, 0, none⟩)]) rfl (enters_of Tryz.func223 tX rfl) (CB gn As cs ((ownB l d).map bg.f2) (fun _ => False) wl HL2.out (fun s hs => by
   obtain ⟨x, hx, rfl⟩ := List.mem_map.1 hs; have := hlb x ((List.mem_filter.1 hx).1)
   omega) (by rw [List.length_map]; exact HN.out) (Kd.cO XV.out).2.2 (fun h => h) (fun _ _ h => h) (fun _ h => h.elim)) mX.trans (fun W o o' ho hc => mX.put ho hc) (Below.refl _ _) (fun _ => rfl) (fun x _ W W' row h hg hr => ⟨Vm x _ () W W' row h.1 hg hr, h.2⟩)
  (fun (pre : List pQ) W => kJ W b pre.length (pre.map fun (x : pQ) => qx (aT h d).f1 d takes (ownB l d) x.xs) ∧ mX (fun _ => False) wl W ∧ Below w.heap.size w W)
  (fun pre W W' row hi hg hr => ⟨hi.1.kept hg (fun e => by have := (hr _ e.symm).1; omega), hi.2.1.trans (mX.own hg fun r e => (hr r e).2), ⟨hg.os.trans hi.2.2.os, hg.tape.trans hi.2.2.tape, hg.output.trans hi.2.2.output, Nat.le_trans hi.2.2.size hg.size, fun k hk => (hg.block k (Nat.lt_of_lt_of_le hk hi.2.2.size) (fun e => by have := (hr _ e.symm).1; have := HB.out.size; omega)).trans (hi.2.2.block k hk)⟩⟩)
  ⟨by simpa using HS.out, mX.refl _ _, HB.out⟩
  (fun x => { tmps := #[.agg #[.slice A h.length c, .slice A1 m.length c1], .slice A2 l.length c2, .int .i64 d, .slice A3 takes.length c3, .pointer (some ⟨gh, 0, none⟩), undef, .pointer (some ⟨gd, 0, none⟩), .pointer (some ⟨gt, 0, none⟩), .map none, .pointer (some ⟨g9, 0, none⟩), .pointer (some ⟨g10, 0, none⟩), .slice x.A x.xs.length x.c, undef, .slice A2 l.length c2, .int .i64 d, .slice Ao (ownB l d).length co, .map (some b), .slice Ao (ownB l d).length co, .slice As (ownB l d).length cs, .func (.func 223) #[] #[.pointer (some ⟨gn, 0, none⟩)], .slice x.A x.xs.length x.c, undef, undef, undef, undef, undef, undef, undef, undef, undef, undef], defers := [] }) ?assign ?body ?done
 case assign =>
  intro lp x W K hK
  unfold pQ.enc
  gi_wp2
  exact hK
 case body =>
  rintro lp pre x W ⟨hS, hk, hb⟩ hrd hpre; have HPN := aj.mk (show pre.length < 1000000000000000000 by have := hN; unfold kQ at this; rw [List.length_map] at this; omega); clear hpre; have Qt := aj.mk hk; have U3 := aj.mk hS; have rz := aj.mk hb; have xG := aj.mk hrd; clear hS hk hb hrd; have hh := (qP (Qt.out.box HH (fun h => h)).out).1; have hd3 := fT (Qt.out.box HD (fun h => h)).out; have ht4 := fT (Qt.out.box HT (fun h => h)).out; have h9 := fT (Qt.out.box H9 (fun h => h)).out; have o8 := Tryz.underlying24; have wY := Tryz.underlying149
  have hlen : x.xs.length = (ownB l d).length := by have := qK xG.out.2; rwa [List.length_map] at this
  have HXB := aj.mk (show ∀ y ∈ x.xs, 0 ≤ y ∧ y ≤ 1000 from wC xG.out.2 fun s hs => by
   obtain ⟨q, hq, rfl⟩ := List.mem_map.1 hs
   exact hlb q (List.mem_filter.1 hq).1)
  obtain ⟨z, hz⟩ : ∃ z, z = qx (aT h d).f1 d takes (ownB l d) x.xs := ⟨_, rfl⟩; have HZ := aj.mk hz
  have HF := aj.mk (show dB.f 1000 h (ownB l d) d takes x.xs = some z by
   have := Ab l d; have := HL.out
   rw [hz]; exact IB hd (by omega) hlen HXB.out ht (fun b hb _ => Qs b (List.mem_filter.1 hb).1) (by omega))
  have HZB := aj.mk (show 0 ≤ z ∧ z ≤ 1000000 by rw [hz]; exact ru qlz ht HXB.out); clear hz hlen
  gi_wp2
  refine ⟨trivial, ?_⟩; refine (CallsIn.inRound lp (callsIn_wide.2 (dB.calls 1000 _ _ h _ _ (ownB l d) d _ _ takes _ _ x.xs z _ (Kd.ak HR.out rz.out) hc (Qt.out.row Tf (Kd.cO HO.out).2.2 (fun _ _ _ h => h)) hlo (Kd.ak HR3.out rz.out) hc3 xG.out.1.1 xG.out.1.2 HF.out))).mono ?_; rintro e w5 ⟨rfl, hx⟩; have HK5 := aj.mk (Qt.out.trans (mX.below (Wr := fun _ => False) hx)); have HX := aj.mk hx; have h10 := fT (HK5.out.box Gd (fun h => h)).out; clear hx hh hd3 ht4 h9
  gi_wp2_with (gi_at_mapUpdate; refine Aa rfl _ _ rfl rfl (U3.out.below HX.out) HPN.out (uS (by have := HZB.out; omega) (by have := HZB.out; omega)) rfl rfl ?_; intro w6 hs6 NA)
  refine ⟨⟨Nat.le_trans HX.out.size NA.size, fun k o hk0 hk1 _ => ?_⟩, (mX.below HX.out).trans (mX.map (U3.out.below HX.out) NA), ?_, HK5.out.trans (mX.map (U3.out.below HX.out) NA), (stepG (fu rz HX.out) NA GB).out⟩
  ·have h5 := (HX.out.block k (cZ hk1)).trans hk1
   exact (NA.block k (cZ h5) (fun e => by injection e; omega)).trans h5
  ·have := HZ.out
   subst this
   simpa using hs6
 case done =>
  rintro xs W hxs ⟨hS, hk, hb⟩ hD; have h10 := fT (hk.box Gd (fun h => h)).out; have HK := aj.mk hk; have U3 := aj.mk hS; have rz := aj.mk hb; have HD2 := aj.mk hD; have HXS := aj.mk hxs; clear hk hS hb hD hxs
  go_wp2_with fail
  refine ⟨by simp, .inl ⟨_, _, rfl, run_takeDeferred HD2.out, ?_⟩⟩; have hgr := grownBy_putObj' W wl.heap.size (.deferred none)
  have hds : xs.map (fun x => qx (aT h d).f1 d takes (ownB l d) x.xs) = kQ h l d takes := by
   unfold kQ
   rw [← HXS.out, List.map_map]
   rfl
  refine ⟨_, results_tmp rfl _ _ _, b, xs.length, rfl, ?_, by rw [← hds, List.length_map]; exact Nat.le_refl _, GB.out, (stepG rz hgr ⟨HB.out.size⟩).out⟩; rw [← hds]; exact U3.out.kept hgr (fun e => by injection e; omega)
end Go.Proofs.YtnpfbjnjdngkhaaGreatDoor.P
namespace Go.Proofs.YtnpfbjnjdngkhaaGreatDoor.P
open Go.RowKit Go.Proofs.YtnpfbjnjdngkhaaGreatDoorW.aW Go.Proofs.YtnpfbjnjdngkhaaGreatDoorW.bZ Go.Proofs.YtnpfbjnjdngkhaaGreatDoorW.dh
attribute [local go_sem] fE fF gU gV eX eY fG fH
def BX (h : List bO) (a b : List bg) (d wt : Int) (takes : List Int) : List Int := (kQ h a d takes).flatMap fun n => (kQ h b d takes).map fun m => wt * (n - m)
def GU (h : List bO) (a b : List bg) (d wt : Int) : List Int := (lW (aT h d).f0).flatMap fun takes => BX h a b d wt takes
def qy (h : List bO) (a b : List bg) : List Int → Int → List Int → List Int
 | [], _, out => out
 | wt :: ws, d, out => qy h a b ws (d + 1) (out.flatMap fun n => (GU h a b d wt).map fun m => n + m)
structure uz (h : List bO) : Prop where
 len : h.length ≤ 3
 takes : ∀ x ∈ h, x.f0.length = 3
 span : ∀ x ∈ h, ∀ s ∈ x.f0, 0 ≤ s.f0 ∧ s.f1 ≤ 20 ∧ s.f1 - s.f0 ≤ 2
 full : ∀ x ∈ h, 0 ≤ x.f1 ∧ x.f1 ≤ 100
structure oz (n : Nat) (l : List bg) : Prop where
 len : l.length ≤ 3
 dye : ∀ b ∈ l, 0 ≤ b.f0 ∧ b.f0 < n
 NC : ∀ b ∈ l, 0 ≤ b.f1 ∧ b.f1 < 3
 hours : ∀ b ∈ l, 0 ≤ b.f2.f0 ∧ b.f2.f1 ≤ 12 ∧ b.f2.f1 - b.f2.f0 ≤ 2
structure Vn (n : Nat) (ws : List Int) : Prop where
 len : ws.length = n
 wt : ∀ x ∈ ws, -9 ≤ x ∧ x ≤ 9
theorem l9 {h : List bO} {d : Int} (hd : 0 ≤ d ∧ d < h.length) : aT h d ∈ h := (getD_at h qcj d hd.1 hd.2).1
theorem ND (lo hi : Int) : (E5 lo hi).length = (hi + 1 - lo).toNat := by simp [E5]
theorem CJ {α β : Type} {f : α → List β} {B : Nat} : ∀ {l : List α}, (∀ x ∈ l, (f x).length ≤ B) → (l.flatMap f).length ≤ l.length * B
 | [], _ => by simp
 | x :: l, h => by
  have h1 := h x (List.mem_cons_self ..); have h2 := CJ (fun y hy => h y (List.mem_cons_of_mem _ hy)); rw [List.flatMap_cons, List.length_append, List.length_cons, Nat.add_mul, Nat.one_mul]
  omega
theorem Ac : ∀ {ls : List bT}, (∀ s ∈ ls, s.f1 - s.f0 ≤ 2) → (lW ls).length ≤ 3 ^ ls.length
 | [], _ => by simp [lW]
 | s :: r, h => by
  have h1 := h s (List.mem_cons_self ..); have h2 := Ac (fun y hy => h y (List.mem_cons_of_mem _ hy)); have h3 := CJ (f := fun n => (lW r).map (n :: ·)) (B := 3 ^ r.length) (l := E5 s.f0 s.f1) (fun x _ => by rw [List.length_map]; exact h2); rw [lW, List.length_cons, Nat.pow_succ]; refine Nat.le_trans h3 ?_; rw [ND, Nat.mul_comm]; exact Nat.mul_le_mul_left _ (by omega)
theorem IE {n : Nat} (h : n ≤ 3) : 3 ^ n ≤ 27 := Nat.le_trans (Nat.pow_le_pow_right (by decide) h) (by decide)
theorem Kq {h : List bO} {l : List bg} {n : Nat} (d : Int) (takes : List Int) (hb : oz n l) : (kQ h l d takes).length ≤ 27 := by
 unfold kQ
 rw [List.length_map]; refine Nat.le_trans (Ac fun s hs => ?_) (IE ?_)
 ·obtain ⟨b, hb2, rfl⟩ := List.mem_map.1 hs
  exact (hb.hours b (List.mem_filter.1 hb2).1).2.2
 ·rw [List.length_map]
  exact Nat.le_trans (Ab l d) hb.len
theorem CK {h : List bO} {d : Int} {takes : List Int} (hh : uz h) (hd : 0 ≤ d ∧ d < h.length) (ht : takes ∈ lW (aT h d).f0) : takes.length = 3 ∧ ∀ x ∈ takes, 0 ≤ x ∧ x ≤ 20 :=
 ⟨by rw [qK ht]; exact hh.takes _ (l9 hd), wC ht fun s hs => ⟨(hh.span _ (l9 hd) s hs).1, (hh.span _ (l9 hd) s hs).2.1⟩⟩
theorem qE {h : List bO} {l : List bg} {n : Nat} {d : Int} {takes : List Int} (hh : uz h) (hd : 0 ≤ d ∧ d < h.length) (hb : oz n l) (ht : takes ∈ lW (aT h d).f0) : ∀ x ∈ kQ h l d takes, 0 ≤ x ∧ x ≤ 100 := by
 intro x hx; obtain ⟨hs, hm, rfl⟩ := List.mem_map.1 hx; refine ru (hh.full _ (l9 hd)) (fun x hx => ?_) (fun x hx => ?_)
 ·have := (CK hh hd ht).2 x hx
  omega
 ·have := wC (lo := 0) (hi := 12) hm (fun s hs2 => by
   obtain ⟨b, hb2, rfl⟩ := List.mem_map.1 hs2
   exact ⟨(hb.hours b (List.mem_filter.1 hb2).1).1, (hb.hours b (List.mem_filter.1 hb2).1).2.1⟩) x hx
  omega
theorem Ae {h : List bO} {a b : List bg} {n : Nat} {d wt : Int} {takes : List Int} (hh : uz h) (hd : 0 ≤ d ∧ d < h.length) (ha : oz n a) (hb : oz n b) (hw : -9 ≤ wt ∧ wt ≤ 9) (ht : takes ∈ lW (aT h d).f0) : ∀ x ∈ BX h a b d wt takes, -900 ≤ x ∧ x ≤ 900 := by
 intro x hx; obtain ⟨p, hp, hx⟩ := List.mem_flatMap.1 hx; obtain ⟨q, hq, rfl⟩ := List.mem_map.1 hx; have h1 := qE hh hd ha ht p hp; have h2 := qE hh hd hb ht q hq
 have h3 : -100 ≤ p - q ∧ p - q ≤ 100 := by omega
 generalize p - q = z at h3
 have : wt = -9 ∨ wt = -8 ∨ wt = -7 ∨ wt = -6 ∨ wt = -5 ∨ wt = -4 ∨ wt = -3 ∨ wt = -2 ∨ wt = -1 ∨ wt = 0 ∨ wt = 1 ∨ wt = 2 ∨ wt = 3 ∨ wt = 4 ∨ wt = 5 ∨ wt = 6 ∨ wt = 7 ∨ wt = 8 ∨ wt = 9 := by omega
 rcases this with rfl | rfl | rfl | rfl | rfl | rfl | rfl | rfl | rfl | rfl | rfl | rfl | rfl | rfl | rfl | rfl | rfl | rfl | rfl <;> omega
theorem Kr {h : List bO} {a b : List bg} {n : Nat} {d wt : Int} (hh : uz h) (hd : 0 ≤ d ∧ d < h.length) (ha : oz n a) (hb : oz n b) (hw : -9 ≤ wt ∧ wt ≤ 9) : ∀ x ∈ GU h a b d wt, -900 ≤ x ∧ x ≤ 900 := by
 intro x hx; obtain ⟨t, ht, hx⟩ := List.mem_flatMap.1 hx; exact Ae hh hd ha hb hw ht x hx
def eF.f (a0 : Int) (a1 : Int) (a2 : Int) : Option Bool := if a0 ≥ a1 then (some (decide (a0 ≤ a2))) else (some false)
theorem eF.calls (a0 : Int) (a1 : Int) (a2 : Int) (r : Bool) (w : World) (h : eF.f a0 a1 a2 = some r) :
  Calls Tryz.prog 113 #[.int .i64 a0, .int .i64 a1, .int .i64 a2] w fun e w' => e = .returned (.bool r) ∧ iw w w' := by
 have H : (if a0 ≥ a1 then (some (decide (a0 ≤ a2))) else (some false)) = some r := h; clear h
 by_cases c4 : a0 ≥ a1
 ·rw [if_pos c4] at H
  have o7 : decide (a1 ≤ a0) = true := decide_eq_true c4; clear c4; obtain rfl := Option.some.inj H
  go_enter Tryz.func113, Tryz.ntmps113
  go_wp2
  go_ret
  exact ⟨tS, tD⟩
 ·rw [if_neg c4] at H
  have o7 : decide (a1 ≤ a0) = false := decide_eq_false c4; clear c4; obtain rfl := Option.some.inj H
  go_enter Tryz.func113, Tryz.ntmps113
  go_wp2
  go_ret
  exact ⟨tS, tD⟩
def fZ.f (bJ : Int) (aY : Int) (a1 : Int) (a2 : Int) (a3 : Int) : Option Bool := if bJ ≥ a1 then (if bJ ≤ aY then (if aY ≤ a2 then (some (decide ((wrap64 (aY - bJ)) ≤ a3))) else (some false)) else (some false)) else (some false)
theorem fZ.calls (bJ : Int) (aY : Int) (a1 : Int) (a2 : Int) (a3 : Int) (r : Bool) (w : World) (h : fZ.f bJ aY a1 a2 a3 = some r) :
  Calls Tryz.prog 167 #[.agg #[.int .i64 bJ, .int .i64 aY], .int .i64 a1, .int .i64 a2, .int .i64 a3] w fun e w' => e = .returned (.bool r) ∧ Below w.heap.size w w' := by
 have kg := Tryz.underlying37; have HB := aj.mk (Below.refl w.heap.size w); have H : (if bJ ≥ a1 then (if bJ ≤ aY then (if aY ≤ a2 then (some (decide ((wrap64 (aY - bJ)) ≤ a3))) else (some false)) else (some false)) else (some false)) = some r := h; clear h
 by_cases c5 : bJ ≥ a1
 ·rw [if_pos c5] at H
  have y5 : decide (a1 ≤ bJ) = true := decide_eq_true c5; clear c5
  by_cases c6 : bJ ≤ aY
  ·rw [if_pos c6] at H
   have IG : decide (bJ ≤ aY) = true := decide_eq_true c6; clear c6
   by_cases c7 : aY ≤ a2
   ·rw [if_pos c7] at H
    have xu : decide (aY ≤ a2) = true := decide_eq_true c7; clear c7; obtain rfl := Option.some.inj H
    go_enter Tryz.func167, Tryz.ntmps167
    go_wp2_with (first | ((with_reducible refine av (N := 4) rfl ?_); refine fA 4 #[.int .i64 bJ, .int .i64 aY] 37 HB ?_; clear HB; intro Vp w8 hg tu Vq HB hb; clear hb hg; obtain ⟨zn, qcK⟩ := bc2 tu; have zo := bf tu 0; have qcL := bf tu 1))
    go_ret
    exact ⟨tF, tB⟩
   ·rw [if_neg c7] at H
    have xu : decide (aY ≤ a2) = false := decide_eq_false c7; clear c7; obtain rfl := Option.some.inj H
    go_enter Tryz.func167, Tryz.ntmps167
    go_wp2_with (first | ((with_reducible refine av (N := 4) rfl ?_); refine fA 4 #[.int .i64 bJ, .int .i64 aY] 37 HB ?_; clear HB; intro Vp JV hg tu Vq HB hb; clear hb hg; obtain ⟨yJ, II⟩ := bc2 tu; have yK := bf tu 0; have IJ := bf tu 1))
    go_ret
    exact ⟨tF, tB⟩
  ·rw [if_neg c6] at H
   have IG : decide (bJ ≤ aY) = false := decide_eq_false c6; clear c6; obtain rfl := Option.some.inj H
   go_enter Tryz.func167, Tryz.ntmps167
   go_wp2_with (first | ((with_reducible refine av (N := 4) rfl ?_); refine fA 4 #[.int .i64 bJ, .int .i64 aY] 37 HB ?_; clear HB; intro Vp y9 hg tu Vq HB hb; clear hb hg; obtain ⟨wD, Ec⟩ := bc2 tu; have wE := bf tu 0; have Ed := bf tu 1))
   go_ret
   exact ⟨tF, tB⟩
 ·rw [if_neg c5] at H
  have y5 : decide (a1 ≤ bJ) = false := decide_eq_false c5; clear c5; obtain rfl := Option.some.inj H
  go_enter Tryz.func167, Tryz.ntmps167
  go_wp2_with (first | ((with_reducible refine av (N := 4) rfl ?_); refine fA 4 #[.int .i64 bJ, .int .i64 aY] 37 HB ?_; clear HB; intro Vp Uo hg tu Vq HB hb; clear hb hg; obtain ⟨yL, IK⟩ := bc2 tu; have yM := bf tu 0; have IL := bf tu 1))
  go_ret
  exact ⟨tF, tB⟩
def o9 (x lo hi : Int) : Bool := decide (lo ≤ x) && decide (x ≤ hi)
theorem Fp (x lo hi : Int) : eF.f x lo hi = some (o9 x lo hi) := by
 unfold eF.f o9
 by_cases h : x ≥ lo
 ·rw [if_pos h]; simp [show lo ≤ x from h]
 ·rw [if_neg h]; simp [show ¬ lo ≤ x from h]
def jB (s : bT) (lo hi wide : Int) : Bool := (fZ.f s.f0 s.f1 lo hi wide) == some true
theorem vI (s : bT) (lo hi wide : Int) : fZ.f s.f0 s.f1 lo hi wide = some (jB s lo hi wide) := by
 unfold jB fZ.f
 repeat' split
 all_goals simp
def rA (n : Int) (x : bg) : Bool := !(o9 x.f0 0 (n - 1)) || (!(o9 x.f1 0 2) || !(jB x.f2 0 12 2))
theorem rC (x lo hi : Int) (w : World) : Calls Tryz.prog 113 #[.int .i64 x, .int .i64 lo, .int .i64 hi] w fun e w' => e = .returned (.bool (o9 x lo hi)) ∧ Below w.heap.size w w' := pK (eF.calls _ _ _ _ _ (Fp x lo hi))
theorem Vr (gb : Nat) (A : Option Addr) (c : Nat) (n : Nat) (x : bg) (w : World) (hb : w.heap[gb]? = some (.cells #[.slice A n c] 24 (0, 0))) (hn : n ≤ 9223372036854775807) :
  Calls Tryz.prog 169 #[.agg #[.int .i64 x.f0, .int .i64 x.f1, .int .i64 x.f2.f0, .int .i64 x.f2.f1], .pointer (some ⟨gb, 0, none⟩)] w fun e w' => e = .returned (.bool (rA n x)) ∧ Below w.heap.size w w' := by
 have HB := aj.mk (Below.refl w.heap.size w); have HK := aj.mk hb; have HI1 := aj.mk (rC x.f0 0 (n - 1)); have HI2 := aj.mk (rC x.f1 0 2); have HI3 := aj.mk (vI x.f2 0 12 2); obtain ⟨b1, hb1⟩ : ∃ b, b = o9 x.f0 0 (n - 1) := ⟨_, rfl⟩; obtain ⟨b2, hb2⟩ : ∃ b, b = o9 x.f1 0 2 := ⟨_, rfl⟩; obtain ⟨b3, hb3⟩ : ∃ b, b = jB x.f2 0 12 2 := ⟨_, rfl⟩; rw [← hb1] at HI1; rw [← hb2] at HI2; rw [← hb3] at HI3; have HX := aj.mk (show rA n x = (!b1 || (!b2 || !b3)) by rw [hb1, hb2, hb3]; rfl); rw [HX.out]; clear hb hb1 hb2 hb3 HX; have o8 := Tryz.underlying24; have CF := Tryz.underlying154; have kg := Tryz.underlying37
 cases b1 <;> cases b2
 all_goals
  go_enter Tryz.func169, Tryz.ntmps169
  go_wp2_with (first | ((with_reducible refine av (N := 2) rfl ?_); refine oK ?hg (N := 2) ?hd (cs := #[.int .i64 x.f0, .int .i64 x.f1, .int .i64 x.f2.f0, .int .i64 x.f2.f1]) (t := 154) ?hr ?_; (case hd => rfl); (case hg => rfl); (case hr => first | (go_simp; done) | (go_simp; rfl)); intro gx hg w3 kI hx; replace HB := fu HB hx; replace HK := dW HK hx; have HX := aj.mk kI; obtain ⟨c0, c1, c2, c3⟩ := BQ kI; have c4 := fT HK.out; clear hg hx kI) | (go_at_call 113; (with_reducible first | refine (HI1.out _).mono ?_ | refine (HI2.out _).mono ?_); rintro e w4 ⟨rfl, hx⟩; replace HB := fu HB hx; replace HK := dW HK hx; replace HX := dW HX hx; clear hx c0 c1 c2 c3 c4; obtain ⟨c0, c1, c2, c3⟩ := BQ HX.out; have c4 := fT HK.out) | (go_at_call 167; (with_reducible refine (fZ.calls _ _ _ _ _ _ _ HI3.out).mono ?_); rintro e w4 ⟨rfl, hx⟩; replace HB := fu HB hx; clear hx))
  go_ret
  exact ⟨rfl, HB.out⟩
def sw.f (l0 : List bg) (bN : List bO) : Option Bool := some (l0.any (rA bN.length))
theorem sw.calls {IQ : Nat} (A0 : Option Addr) (c0 : Nat) (l0 : List bg) (gu : Option Addr) (gq : Nat) (bN : List bO) (r : Bool) (w : World) (hr0 : Kd.C eT w A0 l0.length l0) (hc0 : l0.length ≤ c0) (kF : Kd.C iM w gu bN.length bN) (nk : bN.length ≤ gq) (hb0 : w.heap[IQ]? = some (.cells #[.slice gu bN.length gq] 24 (0, 0))) (h : sw.f l0 bN = some r) :
  Calls Tryz.prog 168 #[.slice A0 l0.length c0, .func (.func 169) #[] #[.pointer (some ⟨IQ, 0, none⟩)]] w fun e w' => e = .returned (.bool r) ∧ Below w.heap.size w w' := by
 obtain rfl := Option.some.inj h; refine qeZ (rA bN.length) 169 #[.pointer (some ⟨IQ, 0, none⟩)] A0 c0 l0 w hr0 (enters_of Tryz.func169 tX rfl) (fun x hx => ⟨fun W cs hb hK => ?_⟩); obtain rfl := sj hK; exact Vr IQ _ _ _ x W (aG hb0 hb) kF.2.1
def fB.f (au : List bO) (l1 : List bg) : Option Bool := if (l1.length : Int) ≤ 3 then ((sw.f l1 au).bind fun t113 => (some (!t113))) else (some false)
theorem fB.calls (bB : Option Addr) (aZ : Nat) (au : List bO) (A1 : Option Addr) (c1 : Nat) (l1 : List bg) (r : Bool) (w : World) (dx : Kd.C iM w bB au.length au) (dI : au.length ≤ aZ) (hr1 : Kd.C eT w A1 l1.length l1) (hc1 : l1.length ≤ c1) (h : fB.f au l1 = some r) :
  Calls Tryz.prog 106 #[.agg #[.slice bB au.length aZ], .slice A1 l1.length c1] w fun e w' => e = .returned (.bool r) ∧ Below w.heap.size w w' := by
 have o8 := Tryz.underlying24; have dJ := aj.mk dx; have eu := aj.mk dI; clear dx dI; have HR1 := aj.mk hr1; have uU := aj.mk hc1; clear hr1 hc1; have HB := aj.mk (Below.refl w.heap.size w); have H : (if (l1.length : Int) ≤ 3 then ((sw.f l1 au).bind fun t113 => (some (!t113))) else (some false)) = some r := h; clear h
 by_cases c3 : (l1.length : Int) ≤ 3
 ·rw [if_pos c3] at H
  have oZ : decide ((l1.length : Int) ≤ 3) = true := decide_eq_true c3; have zq : decide (l1.length ≤ 3) = true := decide_eq_true (by omega); clear c3; obtain ⟨t113, A4, H⟩ := lV H; obtain rfl := Option.some.inj H
  go_enter Tryz.func106, Tryz.ntmps106
  go_wp2_with (first | ((with_reducible refine av (N := 2) rfl ?_); refine fA 2 #[.slice bB au.length aZ] 24 HB ?_; clear HB; intro qfq w5 hg Vs qfr HB hb; clear hb hg) | (go_at_call 168; (with_reducible refine (sw.calls (gu := bB) (gq := aZ) _ _ l1 au t113 _ ?bF ?bG ?eG ?eH ?jo A4.out).mono ?_); (case bF => repeat (first | exact (Kd.ak HR1.out HB.out) | (with_reducible refine Kd.bC ?_ _) | (with_reducible refine Kd.bD ?_ _) | (with_reducible refine Kd.bQ ?_))); (case bG => exact uU.out); (case eG => repeat (first | exact (Kd.ak dJ.out HB.out) | (with_reducible refine Kd.bC ?_ _) | (with_reducible refine Kd.bD ?_ _) | (with_reducible refine Kd.bQ ?_))); (case eH => exact eu.out); (case jo => exact tK); rintro e w6 ⟨rfl, hb⟩; replace Vs := bV Vs hb; replace HB := dL HB hb; (try clear hb)))
  go_ret
  exact ⟨tF, tB⟩
 ·rw [if_neg c3] at H
  have oZ : decide ((l1.length : Int) ≤ 3) = false := decide_eq_false c3; have zq : decide (l1.length ≤ 3) = false := decide_eq_false (by omega); clear c3; obtain rfl := Option.some.inj H
  go_enter Tryz.func106, Tryz.ntmps106
  go_wp2_with (first | ((with_reducible refine av (N := 2) rfl ?_); refine fA 2 #[.slice bB au.length aZ] 24 HB ?_; clear HB; intro qfq w7 hg Vs qfr HB hb; clear hb hg))
  go_ret
  exact ⟨tF, tB⟩
def gB (n : Nat) (l : List bg) : Bool := decide (l.length ≤ 3) && !(l.any (rA n))
theorem BZ (h : List bO) (l : List bg) : fB.f h l = some (gB h.length l) := by
 unfold fB.f gB sw.f
 by_cases hl : (l.length : Int) ≤ 3
 ·rw [if_pos hl]; simp [show l.length ≤ 3 by omega]
 ·rw [if_neg hl]; simp [show ¬ l.length ≤ 3 by omega]
def vJ (n : Nat) (x : dN) : Bool := !(gB n x.f0) || (!(o9 x.f1 0 99) || !(o9 x.f2 0 999))
theorem NG (gb : Nat) (A : Option Addr) (c : Nat) (l : List bO) (A1 : Option Addr) (c1 : Nat) (x : dN) (w : World) (hb : w.heap[gb]? = some (.cells #[.slice A l.length c] 24 (0, 0)))
  (hr : Kd.C iM w A l.length l) (hc : l.length ≤ c) (hr1 : Kd.C eT w A1 x.f0.length x.f0) (hc1 : x.f0.length ≤ c1) :
  Calls Tryz.prog 181 #[.agg #[.slice A1 x.f0.length c1, .int .i64 x.f1, .int .i64 x.f2], .pointer (some ⟨gb, 0, none⟩)] w fun e w' => e = .returned (.bool (vJ l.length x)) ∧ Below w.heap.size w w' := by
 have HB := aj.mk (Below.refl w.heap.size w); have HK := aj.mk hb; have HR := aj.mk hr; have HR1 := aj.mk hr1; have HI1 := aj.mk (rC x.f1 0 99); have HI2 := aj.mk (rC x.f2 0 999); have HI3 := aj.mk (BZ l x.f0); obtain ⟨b1, hb1⟩ : ∃ b, b = o9 x.f1 0 99 := ⟨_, rfl⟩; obtain ⟨b2, hb2⟩ : ∃ b, b = o9 x.f2 0 999 := ⟨_, rfl⟩; obtain ⟨b3, hb3⟩ : ∃ b, b = gB l.length x.f0 := ⟨_, rfl⟩; rw [← hb1] at HI1; rw [← hb2] at HI2; rw [← hb3] at HI3; have HX := aj.mk (show vJ l.length x = (!b3 || (!b1 || !b2)) by rw [hb1, hb2, hb3]; rfl); rw [HX.out]; clear hb hb1 hb2 hb3 HX hr hr1; have o8 := Tryz.underlying24; have Fq := Tryz.underlying107
 cases b3 <;> cases b1
 all_goals
  go_enter Tryz.func181, Tryz.ntmps181
  go_wp2_with (first | ((with_reducible refine av (N := 2) rfl ?_); refine oK ?hg (N := 2) ?hd (cs := #[.slice A1 x.f0.length c1, .int .i64 x.f1, .int .i64 x.f2]) (t := 107) ?hr ?_; (case hd => rfl); (case hg => rfl); (case hr => first | (go_simp; done) | (go_simp; rfl)); intro gx hg w3 kI hx; replace HB := fu HB hx; replace HK := dW HK hx; have HX := aj.mk kI; obtain ⟨c0, c1, c2⟩ := S9 kI; have c4 := fT HK.out; clear hg hx kI) | (go_at_call 113; (with_reducible first | refine (HI1.out _).mono ?_ | refine (HI2.out _).mono ?_); rintro e w4 ⟨rfl, hx⟩; replace HB := fu HB hx; replace HK := dW HK hx; replace HX := dW HX hx; clear hx c0 c1 c2 c4; obtain ⟨c0, c1, c2⟩ := S9 HX.out; have c4 := fT HK.out) | (go_at_call 106; (with_reducible refine (fB.calls _ _ _ _ _ _ _ _ (Kd.ak HR.out HB.out) hc (Kd.ak HR1.out HB.out) hc1 HI3.out).mono ?_); rintro e w4 ⟨rfl, hx⟩; replace HB := fu HB hx; replace HK := dW HK hx; replace HX := dW HX hx; clear hx c0 c1 c2 c4; obtain ⟨c0, c1, c2⟩ := S9 HX.out; have c4 := fT HK.out))
  go_ret
  exact ⟨rfl, HB.out⟩
def sD.f (l0 : List dN) (bN : List bO) : Option Bool := some (l0.any (vJ bN.length))
theorem sD.calls {IQ : Nat} (A0 : Option Addr) (c0 : Nat) (l0 : List dN) (gu : Option Addr) (gq : Nat) (bN : List bO) (r : Bool) (w : World) (hr0 : Kd.C l7 w A0 l0.length l0) (hc0 : l0.length ≤ c0) (kF : Kd.C iM w gu bN.length bN) (nk : bN.length ≤ gq) (hb0 : w.heap[IQ]? = some (.cells #[.slice gu bN.length gq] 24 (0, 0))) (h : sD.f l0 bN = some r) :
  Calls Tryz.prog 180 #[.slice A0 l0.length c0, .func (.func 181) #[] #[.pointer (some ⟨IQ, 0, none⟩)]] w fun e w' => e = .returned (.bool r) ∧ Below w.heap.size w w' := by
 obtain rfl := Option.some.inj h; refine qaK (vJ bN.length) 181 #[.pointer (some ⟨IQ, 0, none⟩)] A0 c0 l0 w hr0 (enters_of Tryz.func181 tX rfl) (fun x hx => ⟨fun W cs hb hK => ?_⟩); obtain ⟨A1, c1, rfl, hl, hC⟩ := vD hK; exact NG IQ _ _ _ A1 c1 x W (aG hb0 hb) (Kd.ak kF hb) nk hC hl
def kr.f (bJ : Int) (aY : Int) : Option Bool := (fZ.f bJ aY 0 20 2).bind fun t105 => (some (!t105))
theorem kr.calls (bJ : Int) (aY : Int) (r : Bool) (w : World) (h : kr.f bJ aY = some r) :
  Calls Tryz.prog 166 #[.agg #[.int .i64 bJ, .int .i64 aY]] w fun e w' => e = .returned (.bool r) ∧ Below w.heap.size w w' := by
 have kg := Tryz.underlying37; have HB := aj.mk (Below.refl w.heap.size w); have H : ((fZ.f bJ aY 0 20 2).bind fun t105 => (some (!t105))) = some r := h; clear h; obtain ⟨t105, A2, H⟩ := lV H; obtain rfl := Option.some.inj H
 go_enter Tryz.func166, Tryz.ntmps166
 go_wp2_with (first | ((with_reducible refine av (N := 1) rfl ?_); refine fA 1 #[.int .i64 bJ, .int .i64 aY] 37 HB ?_; clear HB; intro qoh w3 hg Kt qoi HB hb; clear hb hg; obtain ⟨zu, Fu⟩ := bc2 Kt; have zw := bf Kt 0; have Fv := bf Kt 1) | ((with_reducible refine aD (f := 167) rfl ?_); refine bW (some 4) rfl rfl Tryz.func167 tX rfl #[.agg #[.int .i64 bJ, .int .i64 aY], .int .i64 0, .int .i64 20, .int .i64 2] rfl tM ?_; (with_reducible refine (fZ.calls bJ aY 0 20 2 t105 _ A2.out).mono ?_); rintro e w5 ⟨rfl, hb⟩; refine ⟨_, rfl, ?_⟩; replace Kt := bV Kt hb; replace HB := dL HB hb; (try clear hb)))
 go_ret
 exact ⟨tF, tB⟩
def sF.f (l0 : List bT) : Option Bool := Dv (fun x => kr.f x.f0 x.f1) l0
theorem sF.calls (A0 : Option Addr) (c0 : Nat) (l0 : List bT) (r : Bool) (w : World) (hr0 : Kd.C j3 w A0 l0.length l0) (hc0 : l0.length ≤ c0) (h : sF.f l0 = some r) :
  Calls Tryz.prog 165 #[.slice A0 l0.length c0, .func (.func 166) #[] #[]] w fun e w' => e = .returned (.bool r) ∧ Below w.heap.size w w' := by
 obtain ⟨hs, rfl⟩ := qw h; refine qcm (fun x => kr.f x.f0 x.f1 == some true) 166 #[] A0 c0 l0 w hr0 (enters_of Tryz.func166 tX rfl) (fun x hx => ⟨fun W cs hb hK => ?_⟩); obtain rfl := vC hK
 exact (kr.calls _ _ _ W (hs x hx)).mono fun e w' h => h
def mg.f (au : List bT) (aY : Int) : Option Bool := if (au.length : Int) = 3 then ((eF.f aY 0 100).bind fun t107 => (if t107 = true then ((sF.f au).bind fun t108 => (some t108)) else (some true))) else (some true)
theorem mg.calls (bB : Option Addr) (aZ : Nat) (au : List bT) (aY : Int) (r : Bool) (w : World) (dx : Kd.C j3 w bB au.length au) (dI : au.length ≤ aZ) (h : mg.f au aY = some r) :
  Calls Tryz.prog 164 #[.agg #[.slice bB au.length aZ, .int .i64 aY]] w fun e w' => e = .returned (.bool r) ∧ Below w.heap.size w w' := by
 have Vt := Tryz.underlying102; have dJ := aj.mk dx; have eu := aj.mk dI; clear dx dI; have HB := aj.mk (Below.refl w.heap.size w); have H : (if (au.length : Int) = 3 then ((eF.f aY 0 100).bind fun t107 => (if t107 = true then ((sF.f au).bind fun t108 => (some t108)) else (some true))) else (some true)) = some r := h; clear h
 by_cases c2 : (au.length : Int) = 3
 ·rw [if_pos c2] at H
  have BS : ((au.length : Int) == 3) = true := beq_iff_eq.mpr c2; have qlB : ((au.length : Int) != 3) = false := bne_eq_false_iff_eq.mpr c2; clear c2; obtain ⟨t107, A3, H⟩ := lV H
  by_cases c4 : t107 = true
  ·subst c4
   rw [if_pos rfl] at H; obtain ⟨t108, A5, H⟩ := lV H; obtain rfl := Option.some.inj H
   go_enter Tryz.func164, Tryz.ntmps164
   go_wp2_with (first | ((with_reducible refine av (N := 1) rfl ?_); refine fA 1 #[.slice bB au.length aZ, .int .i64 aY] 102 HB ?_; clear HB; intro qaR w6 hg vK qaS HB hb; clear hb hg; obtain ⟨zl, Iy⟩ := bc2 vK; have zm := bf vK 0; have Iz := bf vK 1) | (go_at_call 113; (with_reducible refine (eF.calls aY 0 100 true _ A3.out).mono ?_); rintro e w' ⟨rfl, ⟨nd, rfl⟩⟩) | (go_at_call 165; (with_reducible refine (sF.calls _ _ au t108 _ ?bF ?bG A5.out).mono ?_); (case bF => exact cS dJ); (case bG => exact eu.out); rintro e w8 ⟨rfl, hb⟩; replace vK := bV vK hb; replace HB := dL HB hb; (try clear hb)))
   go_ret
   exact ⟨tF, tB⟩
  ·replace c4 := Bool.eq_false_iff.mpr c4
   subst c4
   have H1 : (some true) = some r := by rw [if_neg (show ¬ (false = true) by decide)] at H; exact H
   clear H; have H := H1; clear H1; obtain rfl := Option.some.inj H
   go_enter Tryz.func164, Tryz.ntmps164
   go_wp2_with (first | ((with_reducible refine av (N := 1) rfl ?_); refine fA 1 #[.slice bB au.length aZ, .int .i64 aY] 102 HB ?_; clear HB; intro qaR w9 hg vK qaS HB hb; clear hb hg; obtain ⟨yN, IU⟩ := bc2 vK; have yO := bf vK 0; have IV := bf vK 1) | (go_at_call 113; (with_reducible refine (eF.calls aY 0 100 false _ A3.out).mono ?_); rintro e w' ⟨rfl, ⟨nd, rfl⟩⟩))
   go_ret
   exact ⟨tF, tB⟩
 ·rw [if_neg c2] at H
  have BS : ((au.length : Int) == 3) = false := beq_eq_false_iff_ne.mpr c2; have qlB : ((au.length : Int) != 3) = true := bne_iff_ne.mpr c2; obtain rfl := Option.some.inj H
  go_enter Tryz.func164, Tryz.ntmps164
  go_wp2_with (first | ((with_reducible refine av (N := 1) rfl ?_); refine fA 1 #[.slice bB au.length aZ, .int .i64 aY] 102 HB ?_; clear HB; intro qaR JW hg vK qaS HB hb; clear hb hg; obtain ⟨yP, Qu⟩ := bc2 vK; have yQ := bf vK 0; have Qv := bf vK 1))
  go_ret
  exact ⟨tF, tB⟩
def sG.f (l0 : List bO) : Option Bool := Dv (fun x => mg.f x.f0 x.f1) l0
theorem sG.calls (A0 : Option Addr) (c0 : Nat) (l0 : List bO) (r : Bool) (w : World) (hr0 : Kd.C iM w A0 l0.length l0) (hc0 : l0.length ≤ c0) (h : sG.f l0 = some r) :
  Calls Tryz.prog 163 #[.slice A0 l0.length c0, .func (.func 164) #[] #[]] w fun e w' => e = .returned (.bool r) ∧ Below w.heap.size w w' := by
 obtain ⟨hs, rfl⟩ := qw h; refine qeX (fun x => mg.f x.f0 x.f1 == some true) 164 #[] A0 c0 l0 w hr0 (enters_of Tryz.func164 tX rfl) (fun x hx => ⟨fun W cs hb hK => ?_⟩); obtain ⟨A1, c1, rfl, hl, hC⟩ := Gy hK
 exact (mg.calls A1 c1 _ _ _ W hC hl (hs x hx)).mono fun e w' h => h
def fq.f (au : List bO) : Option Bool := (eF.f (au.length : Int) 1 3).bind fun t110 => (if t110 = true then ((sG.f au).bind fun t111 => (some (!t111))) else (some false))
theorem fq.calls (bB : Option Addr) (aZ : Nat) (au : List bO) (r : Bool) (w : World) (dx : Kd.C iM w bB au.length au) (dI : au.length ≤ aZ) (h : fq.f au = some r) :
  Calls Tryz.prog 105 #[.agg #[.slice bB au.length aZ]] w fun e w' => e = .returned (.bool r) ∧ Below w.heap.size w w' := by
 have o8 := Tryz.underlying24; have dJ := aj.mk dx; have eu := aj.mk dI; clear dx dI; have HB := aj.mk (Below.refl w.heap.size w); have H : ((eF.f (au.length : Int) 1 3).bind fun t110 => (if t110 = true then ((sG.f au).bind fun t111 => (some (!t111))) else (some false))) = some r := h; clear h; obtain ⟨t110, A2, H⟩ := lV H
 by_cases c3 : t110 = true
 ·subst c3
  rw [if_pos rfl] at H; obtain ⟨t111, A4, H⟩ := lV H; obtain rfl := Option.some.inj H
  go_enter Tryz.func105, Tryz.ntmps105
  go_wp2_with (first | ((with_reducible refine av (N := 1) rfl ?_); refine fA 1 #[.slice bB au.length aZ] 24 HB ?_; clear HB; intro qfs w5 hg Fw qft HB hb; clear hb hg; have IW := bc1 Fw; have IX := bf Fw 0) | ((with_reducible refine aD (f := 113) rfl ?_); refine bW (some 6) rfl rfl Tryz.func113 tX rfl #[.int .i64 (au.length : Int), .int .i64 1, .int .i64 3] rfl tM ?_; (with_reducible refine (eF.calls (au.length : Int) 1 3 true _ A2.out).mono ?_); rintro e w' ⟨rfl, ⟨nd, rfl⟩⟩; refine ⟨_, rfl, ?_⟩) | (go_at_call 163; (with_reducible refine (sG.calls _ _ au t111 _ ?bF ?bG A4.out).mono ?_); (case bF => exact cS dJ); (case bG => exact eu.out); rintro e w7 ⟨rfl, hb⟩; replace Fw := bV Fw hb; replace HB := dL HB hb; (try clear hb)))
  go_ret
  exact ⟨tF, tB⟩
 ·replace c3 := Bool.eq_false_iff.mpr c3
  subst c3
  have H1 : (some false) = some r := by rw [if_neg (show ¬ (false = true) by decide)] at H; exact H
  clear H; have H := H1; clear H1; obtain rfl := Option.some.inj H
  go_enter Tryz.func105, Tryz.ntmps105
  go_wp2_with (first | ((with_reducible refine av (N := 1) rfl ?_); refine fA 1 #[.slice bB au.length aZ] 24 HB ?_; clear HB; intro qfs w8 hg Fw qft HB hb; clear hb hg; have zn := bc1 Fw; have zo := bf Fw 0) | ((with_reducible refine aD (f := 113) rfl ?_); refine bW (some 6) rfl rfl Tryz.func113 tX rfl #[.int .i64 (au.length : Int), .int .i64 1, .int .i64 3] rfl tM ?_; (with_reducible refine (eF.calls (au.length : Int) 1 3 false _ A2.out).mono ?_); rintro e w' ⟨rfl, ⟨nd, rfl⟩⟩; refine ⟨_, rfl, ?_⟩))
  go_ret
  exact ⟨tF, tB⟩
def gT.f (bJ : Int) (aY : Int) : Option Bool := (fZ.f bJ aY 0 200 4).bind fun t175 => (some t175)
theorem gT.calls (bJ : Int) (aY : Int) (r : Bool) (w : World) (h : gT.f bJ aY = some r) :
  Calls Tryz.prog 117 #[.agg #[.int .i64 bJ, .int .i64 aY]] w fun e w' => e = .returned (.bool r) ∧ Below w.heap.size w w' := by
 have kg := Tryz.underlying37; have HB := aj.mk (Below.refl w.heap.size w); have H : ((fZ.f bJ aY 0 200 4).bind fun t175 => (some t175)) = some r := h; clear h; obtain ⟨t175, A2, H⟩ := lV H; obtain rfl := Option.some.inj H
 go_enter Tryz.func117, Tryz.ntmps117
 go_wp2_with (first | ((with_reducible refine av (N := 1) rfl ?_); refine fA 1 #[.int .i64 bJ, .int .i64 aY] 37 HB ?_; clear HB; intro qoj w3 hg Ku qok HB hb; clear hb hg; obtain ⟨zu, Fu⟩ := bc2 Ku; have zw := bf Ku 0; have Fv := bf Ku 1) | ((with_reducible refine aD (f := 167) rfl ?_); refine bW (some 4) rfl rfl Tryz.func167 tX rfl #[.agg #[.int .i64 bJ, .int .i64 aY], .int .i64 0, .int .i64 200, .int .i64 4] rfl tM ?_; (with_reducible refine (fZ.calls bJ aY 0 200 4 t175 _ A2.out).mono ?_); rintro e w5 ⟨rfl, hb⟩; refine ⟨_, rfl, ?_⟩; replace Ku := bV Ku hb; replace HB := dL HB hb; (try clear hb)))
 go_ret
 exact ⟨tF, tB⟩
def nG.f (a0 : Int) : Option Bool := (eF.f a0 (-9) 9).bind fun t192 => (some (!t192))
theorem nG.calls (a0 : Int) (r : Bool) (w : World) (h : nG.f a0 = some r) :
  Calls Tryz.prog 173 #[.int .i64 a0] w fun e w' => e = .returned (.bool r) ∧ iw w w' := by
 have H : ((eF.f a0 (-9) 9).bind fun t192 => (some (!t192))) = some r := h; clear h; obtain ⟨t192, A2, H⟩ := lV H; obtain rfl := Option.some.inj H
 go_enter Tryz.func173, Tryz.ntmps173
 go_wp2_with (first | ((with_reducible refine aD (f := 113) rfl ?_); refine bW (some 4) rfl rfl Tryz.func113 tX rfl #[.int .i64 a0, .int .i64 (-9), .int .i64 9] rfl tM ?_; (with_reducible refine (eF.calls a0 (-9) 9 t192 _ A2.out).mono ?_); rintro e w' ⟨rfl, ⟨nd, rfl⟩⟩; refine ⟨_, rfl, ?_⟩))
 go_ret
 exact ⟨tS, tD⟩
def sH.f (l0 : List Int) : Option Bool := Dv (fun x => nG.f x) l0
theorem sH.calls (A0 : Option Addr) (c0 : Nat) (l0 : List Int) (r : Bool) (w : World) (hr0 : Kd.C (Kd.int .i64) w A0 l0.length l0) (hc0 : l0.length ≤ c0) (h : sH.f l0 = some r) :
  Calls Tryz.prog 142 #[.slice A0 l0.length c0, .func (.func 173) #[] #[]] w fun e w' => e = .returned (.bool r) ∧ Below w.heap.size w w' := by
 obtain ⟨hs, rfl⟩ := qw h; refine cf3 (fun x => nG.f x == some true) 173 #[] A0 c0 l0 w hr0 (enters_of Tryz.func173 tX rfl) (fun x hx => ⟨fun W cs hb hK => ?_⟩); obtain rfl := hK
 exact (nG.calls _ _ W (hs x hx)).mono fun e w' h => ⟨h.1, h.2.below⟩
def iP.f (au : List bO) (bN : List Int) : Option Bool := if (bN.length : Int) = (au.length : Int) then ((sH.f bN).bind fun t195 => (some (!t195))) else (some false)
theorem iP.calls (bB : Option Addr) (aZ : Nat) (au : List bO) (gu : Option Addr) (gq : Nat) (bN : List Int) (r : Bool) (w : World) (dx : Kd.C iM w bB au.length au) (dI : au.length ≤ aZ) (kF : Kd.C (Kd.int .i64) w gu bN.length bN) (nk : bN.length ≤ gq) (h : iP.f au bN = some r) :
  Calls Tryz.prog 116 #[.agg #[.slice bB au.length aZ], .agg #[.slice gu bN.length gq]] w fun e w' => e = .returned (.bool r) ∧ Below w.heap.size w w' := by
 have o8 := Tryz.underlying24; have IY := Tryz.underlying49; have dJ := aj.mk dx; have eu := aj.mk dI; clear dx dI; have Fx := aj.mk kF; have Fy := aj.mk nk; clear kF nk; have HB := aj.mk (Below.refl w.heap.size w); have H : (if (bN.length : Int) = (au.length : Int) then ((sH.f bN).bind fun t195 => (some (!t195))) else (some false)) = some r := h; clear h
 by_cases c3 : (bN.length : Int) = (au.length : Int)
 ·rw [if_pos c3] at H
  have oZ : ((bN.length : Int) == (au.length : Int)) = true := beq_iff_eq.mpr c3; have zq : ((bN.length : Int) != (au.length : Int)) = false := bne_eq_false_iff_eq.mpr c3
  have Ca : (bN.length == au.length) = true := by first | simpa using c3 | (simp at c3 ⊢; omega)
  clear c3; obtain ⟨t195, A4, H⟩ := lV H; obtain rfl := Option.some.inj H
  go_enter Tryz.func116, Tryz.ntmps116
  go_wp2_with (first | ((with_reducible refine av (N := 2) rfl ?_); refine fA 2 #[.slice bB au.length aZ] 24 HB ?_; clear HB; intro qfu w5 hg tC qfv HB hb; clear hb hg) | ((with_reducible refine av (N := 3) rfl ?_); refine fA 3 #[.slice gu bN.length gq] 49 HB ?_; clear HB; intro qfw w6 hg Fz qfx HB hb; have Cb := Gb tC hg; have Cc := Gc tC hg; replace tC := bV tC hb; clear hb hg; have qfy := Cc.out; have qfz := Cb.out; have zx := bc1 Fz; have zy := bf Fz 0; have zn := bc1 tC; have zo := bf tC 0) | (go_at_call 142; (with_reducible refine (sH.calls _ _ bN t195 _ ?bF ?bG A4.out).mono ?_); (case bF => repeat (first | exact (Kd.ak Fx.out HB.out) | (with_reducible refine Kd.bC ?_ _) | (with_reducible refine Kd.bD ?_ _) | (with_reducible refine Kd.bQ ?_))); (case bG => exact Fy.out); rintro e JV ⟨rfl, hb⟩; replace tC := bV tC hb; replace Fz := bV Fz hb; replace HB := dL HB hb; (try clear hb)))
  go_ret
  exact ⟨tF, tB⟩
 ·rw [if_neg c3] at H
  have oZ : ((bN.length : Int) == (au.length : Int)) = false := beq_eq_false_iff_ne.mpr c3; have zq : ((bN.length : Int) != (au.length : Int)) = true := bne_iff_ne.mpr c3
  have Ca : (bN.length == au.length) = false := by first | simpa using c3 | (simp at c3 ⊢; omega)
  obtain rfl := Option.some.inj H
  go_enter Tryz.func116, Tryz.ntmps116
  go_wp2_with (first | ((with_reducible refine av (N := 2) rfl ?_); refine fA 2 #[.slice bB au.length aZ] 24 HB ?_; clear HB; intro qfu JW hg tC qfv HB hb; clear hb hg) | ((with_reducible refine av (N := 3) rfl ?_); refine fA 3 #[.slice gu bN.length gq] 49 HB ?_; clear HB; intro qfw y9 hg Fz qfx HB hb; have Cb := Gb tC hg; have Cc := Gc tC hg; replace tC := bV tC hb; clear hb hg; have qfA := Cc.out; have qfB := Cb.out; have IZ := bc1 Fz; have I4 := bf Fz 0; have yL := bc1 tC; have yM := bf tC 0))
  go_ret
  exact ⟨tF, tB⟩
theorem qcM (gb : Nat) (A : Option Addr) (c : Nat) (l : List bO) (A1 : Option Addr) (c1 : Nat) (l1 : List Int) (r : Bool) (w : World) (hb : w.heap[gb]? = some (.cells #[.slice A l.length c] 24 (0, 0)))
  (hr : Kd.C iM w A l.length l) (hc : l.length ≤ c) (hr1 : Kd.C (Kd.int .i64) w A1 l1.length l1) (hc1 : l1.length ≤ c1) (h : iP.f l l1 = some r) :
  Calls Tryz.prog 115 #[.agg #[.slice A1 l1.length c1], .pointer (some ⟨gb, 0, none⟩)] w fun e w' => e = .returned (.bool !r) ∧ Below w.heap.size w w' := by
 have HB := aj.mk (Below.refl w.heap.size w); have HK := aj.mk hb; have HR := aj.mk hr; have HR1 := aj.mk hr1; have HI := aj.mk h; clear hb hr hr1 h; have o8 := Tryz.underlying24; have IY := Tryz.underlying49
 go_enter Tryz.func115, Tryz.ntmps115
 go_wp2_with (first | ((with_reducible refine av (N := 2) rfl ?_); refine oK ?hg (N := 2) ?hd (cs := #[.slice A1 l1.length c1]) (t := 49) ?hr ?_; (case hd => rfl); (case hg => rfl); (case hr => first | (go_simp; done) | (go_simp; rfl)); intro gx hg w3 kI hx; replace HB := fu HB hx; replace HK := dW HK hx; have c1 := fT kI; have c0 := fT HK.out; clear hg hx) | (go_at_call 116; (with_reducible refine (iP.calls _ _ _ _ _ _ r _ (Kd.ak HR.out HB.out) hc (Kd.ak HR1.out HB.out) hc1 HI.out).mono ?_); rintro e w4 ⟨rfl, hx⟩; replace HB := fu HB hx; clear hx))
 go_ret
 exact ⟨rfl, HB.out⟩
theorem qcN (gb : Nat) (A : Option Addr) (c : Nat) (l : List bO) (A1 : Option Addr) (c1 : Nat) (l1 : List Int) (r : Bool) (w : World) (hb : w.heap[gb]? = some (.cells #[.slice A l.length c] 24 (0, 0)))
  (hr : Kd.C iM w A l.length l) (hc : l.length ≤ c) (hr1 : Kd.C (Kd.int .i64) w A1 l1.length l1) (hc1 : l1.length ≤ c1) (h : iP.f l l1 = some r) :
  Calls Tryz.prog 178 #[.agg #[.slice A1 l1.length c1], .pointer (some ⟨gb, 0, none⟩)] w fun e w' => e = .returned (.bool !r) ∧ Below w.heap.size w w' := by
 have HB := aj.mk (Below.refl w.heap.size w); have HK := aj.mk hb; have HR := aj.mk hr; have HR1 := aj.mk hr1; have HI := aj.mk h; clear hb hr hr1 h; have o8 := Tryz.underlying24; have IY := Tryz.underlying49
 go_enter Tryz.func178, Tryz.ntmps178
 go_wp2_with (first | ((with_reducible refine av (N := 2) rfl ?_); refine oK ?hg (N := 2) ?hd (cs := #[.slice A1 l1.length c1]) (t := 49) ?hr ?_; (case hd => rfl); (case hg => rfl); (case hr => first | (go_simp; done) | (go_simp; rfl)); intro gx hg w3 kI hx; replace HB := fu HB hx; replace HK := dW HK hx; have c1 := fT kI; have c0 := fT HK.out; clear hg hx) | (go_at_call 116; (with_reducible refine (iP.calls _ _ _ _ _ _ r _ (Kd.ak HR.out HB.out) hc (Kd.ak HR1.out HB.out) hc1 HI.out).mono ?_); rintro e w4 ⟨rfl, hx⟩; replace HB := fu HB hx; clear hx))
 go_ret
 exact ⟨rfl, HB.out⟩
def oN.f (l0 : List ou) (bN : List bO) : Option Bool := Dv (fun x => (iP.f bN x.f0).map not) l0
theorem oN.calls {IQ : Nat} (A0 : Option Addr) (c0 : Nat) (l0 : List ou) (gu : Option Addr) (gq : Nat) (bN : List bO) (r : Bool) (w : World) (hr0 : Kd.C ET w A0 l0.length l0) (hc0 : l0.length ≤ c0) (kF : Kd.C iM w gu bN.length bN) (nk : bN.length ≤ gq) (hb0 : w.heap[IQ]? = some (.cells #[.slice gu bN.length gq] 24 (0, 0))) (h : oN.f l0 bN = some r) :
  Calls Tryz.prog 114 #[.slice A0 l0.length c0, .func (.func 115) #[] #[.pointer (some ⟨IQ, 0, none⟩)]] w fun e w' => e = .returned (.bool r) ∧ Below w.heap.size w w' := by
 obtain ⟨hs, rfl⟩ := qw h; refine qe1 (fun x => (iP.f bN x.f0).map not == some true) 115 #[.pointer (some ⟨IQ, 0, none⟩)] A0 c0 l0 w hr0 (enters_of Tryz.func115 tX rfl) (fun x hx => ⟨fun W cs hb hK => ?_⟩); obtain ⟨A1, c1, rfl, hl, hC⟩ := EU hK; obtain ⟨b, hf, hb2⟩ := Option.map_eq_some_iff.1 (hs x hx)
 exact (qcM IQ _ _ _ A1 c1 _ b W (aG hb0 hb) (Kd.ak kF hb) nk hC hl hf).mono fun e w' h => ⟨by rw [h.1, hb2], h.2⟩
def mh.f (l0 : List ou) (bN : List bO) : Option Bool := Dv (fun x => (iP.f bN x.f0).map not) l0
theorem mh.calls {IQ : Nat} (A0 : Option Addr) (c0 : Nat) (l0 : List ou) (gu : Option Addr) (gq : Nat) (bN : List bO) (r : Bool) (w : World) (hr0 : Kd.C ET w A0 l0.length l0) (hc0 : l0.length ≤ c0) (kF : Kd.C iM w gu bN.length bN) (nk : bN.length ≤ gq) (hb0 : w.heap[IQ]? = some (.cells #[.slice gu bN.length gq] 24 (0, 0))) (h : mh.f l0 bN = some r) :
  Calls Tryz.prog 114 #[.slice A0 l0.length c0, .func (.func 178) #[] #[.pointer (some ⟨IQ, 0, none⟩)]] w fun e w' => e = .returned (.bool r) ∧ Below w.heap.size w w' := by
 obtain ⟨hs, rfl⟩ := qw h; refine qe1 (fun x => (iP.f bN x.f0).map not == some true) 178 #[.pointer (some ⟨IQ, 0, none⟩)] A0 c0 l0 w hr0 (enters_of Tryz.func178 tX rfl) (fun x hx => ⟨fun W cs hb hK => ?_⟩); obtain ⟨A1, c1, rfl, hl, hC⟩ := EU hK; obtain ⟨b, hf, hb2⟩ := Option.map_eq_some_iff.1 (hs x hx)
 exact (qcN IQ _ _ _ A1 c1 _ b W (aG hb0 hb) (Kd.ak kF hb) nk hC hl hf).mono fun e w' h => ⟨by rw [h.1, hb2], h.2⟩
def nu.f (bJ : Int) (aY : Int) : Option Bool := (fZ.f bJ aY (-3000) 3000 6000).bind fun t197 => (some t197)
theorem nu.calls (bJ : Int) (aY : Int) (r : Bool) (w : World) (h : nu.f bJ aY = some r) :
  Calls Tryz.prog 122 #[.agg #[.int .i64 bJ, .int .i64 aY]] w fun e w' => e = .returned (.bool r) ∧ Below w.heap.size w w' := by
 have kg := Tryz.underlying37; have HB := aj.mk (Below.refl w.heap.size w); have H : ((fZ.f bJ aY (-3000) 3000 6000).bind fun t197 => (some t197)) = some r := h; clear h; obtain ⟨t197, A2, H⟩ := lV H; obtain rfl := Option.some.inj H
 go_enter Tryz.func122, Tryz.ntmps122
 go_wp2_with (first | ((with_reducible refine av (N := 1) rfl ?_); refine fA 1 #[.int .i64 bJ, .int .i64 aY] 37 HB ?_; clear HB; intro qol w3 hg Kv qom HB hb; clear hb hg; obtain ⟨zu, Fu⟩ := bc2 Kv; have zw := bf Kv 0; have Fv := bf Kv 1) | ((with_reducible refine aD (f := 167) rfl ?_); refine bW (some 4) rfl rfl Tryz.func167 tX rfl #[.agg #[.int .i64 bJ, .int .i64 aY], .int .i64 (-3000), .int .i64 3000, .int .i64 6000] rfl tM ?_; (with_reducible refine (fZ.calls bJ aY (-3000) 3000 6000 t197 _ A2.out).mono ?_); rintro e w5 ⟨rfl, hb⟩; refine ⟨_, rfl, ?_⟩; replace Kv := bV Kv hb; replace HB := dL HB hb; (try clear hb)))
 go_ret
 exact ⟨tF, tB⟩
def nH.f (bJ : Int) (aY : Int) : Option Bool := (nu.f bJ aY).bind fun t214 => (some (!t214))
theorem nH.calls (bJ : Int) (aY : Int) (r : Bool) (w : World) (h : nH.f bJ aY = some r) :
  Calls Tryz.prog 179 #[.agg #[.int .i64 bJ, .int .i64 aY]] w fun e w' => e = .returned (.bool r) ∧ Below w.heap.size w w' := by
 have kg := Tryz.underlying37; have HB := aj.mk (Below.refl w.heap.size w); have H : ((nu.f bJ aY).bind fun t214 => (some (!t214))) = some r := h; clear h; obtain ⟨t214, A2, H⟩ := lV H; obtain rfl := Option.some.inj H
 go_enter Tryz.func179, Tryz.ntmps179
 go_wp2_with (first | ((with_reducible refine av (N := 1) rfl ?_); refine fA 1 #[.int .i64 bJ, .int .i64 aY] 37 HB ?_; clear HB; intro qon w3 hg Kw qoo HB hb; clear hb hg; obtain ⟨zu, Fu⟩ := bc2 Kw; have zw := bf Kw 0; have Fv := bf Kw 1) | ((with_reducible refine aD (f := 122) rfl ?_); refine bW (some 4) rfl rfl Tryz.func122 tX rfl #[.agg #[.int .i64 bJ, .int .i64 aY]] rfl tM ?_; (with_reducible refine (nu.calls bJ aY t214 _ A2.out).mono ?_); rintro e w5 ⟨rfl, hb⟩; refine ⟨_, rfl, ?_⟩; replace Kw := bV Kw hb; replace HB := dL HB hb; (try clear hb)))
 go_ret
 exact ⟨tF, tB⟩
def oO.f (l0 : List bT) : Option Bool := Dv (fun x => nH.f x.f0 x.f1) l0
theorem oO.calls (A0 : Option Addr) (c0 : Nat) (l0 : List bT) (r : Bool) (w : World) (hr0 : Kd.C j3 w A0 l0.length l0) (hc0 : l0.length ≤ c0) (h : oO.f l0 = some r) :
  Calls Tryz.prog 165 #[.slice A0 l0.length c0, .func (.func 179) #[] #[]] w fun e w' => e = .returned (.bool r) ∧ Below w.heap.size w w' := by
 obtain ⟨hs, rfl⟩ := qw h; refine qcm (fun x => nH.f x.f0 x.f1 == some true) 179 #[] A0 c0 l0 w hr0 (enters_of Tryz.func179 tX rfl) (fun x hx => ⟨fun W cs hb hK => ?_⟩); obtain rfl := vC hK
 exact (nH.calls _ _ _ W (hs x hx)).mono fun e w' h => h
def tH.f (au : List bO) (bN : List ou) (iq : Int) (jv : Int) (iC : List bT) (kK : Int) : Option Bool := (eF.f (bN.length : Int) 1 3).bind fun t217 => (if t217 = true then ((mh.f bN au).bind fun t218 => (if t218 = true then (some false) else ((gT.f iq jv).bind fun t219 => (if t219 = true then (if (iC.length : Int) = (bN.length : Int) then ((oO.f iC).bind fun t220 => (if t220 = true then (some false) else ((eF.f kK 1 300).bind fun t221 => (some t221)))) else (some false)) else (some false))))) else (some false))
theorem tH.calls (bB : Option Addr) (aZ : Nat) (au : List bO) (gu : Option Addr) (gq : Nat) (bN : List ou) (iq : Int) (jv : Int) (wF : Option Addr) (vL : Nat) (iC : List bT) (kK : Int) (r : Bool) (w : World) (dx : Kd.C iM w bB au.length au) (dI : au.length ≤ aZ) (kF : Kd.C ET w gu bN.length bN) (nk : bN.length ≤ gq) (Af : Kd.C j3 w wF iC.length iC) (GV : iC.length ≤ vL) (h : tH.f au bN iq jv iC kK = some r) :
  Calls Tryz.prog 126 #[.agg #[.slice bB au.length aZ], .agg #[.slice gu bN.length gq, .int .i64 iq, .int .i64 jv, .slice wF iC.length vL, .int .i64 kK]] w fun e w' => e = .returned (.bool r) ∧ Below w.heap.size w w' := by
 have o8 := Tryz.underlying24; have Yz := Tryz.underlying58; have kg := Tryz.underlying37; have dJ := aj.mk dx; have eu := aj.mk dI; clear dx dI; have Fx := aj.mk kF; have Fy := aj.mk nk; clear kF nk; have qaT := aj.mk Af; have qaU := aj.mk GV; clear Af GV; have HB := aj.mk (Below.refl w.heap.size w); have H : ((eF.f (bN.length : Int) 1 3).bind fun t217 => (if t217 = true then ((mh.f bN au).bind fun t218 => (if t218 = true then (some false) else ((gT.f iq jv).bind fun t219 => (if t219 = true then (if (iC.length : Int) = (bN.length : Int) then ((oO.f iC).bind fun t220 => (if t220 = true then (some false) else ((eF.f kK 1 300).bind fun t221 => (some t221)))) else (some false)) else (some false))))) else (some false))) = some r := h; clear h; obtain ⟨t217, A3, H⟩ := lV H
 by_cases c4 : t217 = true
 ·subst c4
  rw [if_pos rfl] at H; obtain ⟨t218, A5, H⟩ := lV H
  by_cases c6 : t218 = true
  ·subst c6
   rw [if_pos rfl] at H; obtain rfl := Option.some.inj H
   go_enter Tryz.func126, Tryz.ntmps126
   go_wp2_with (first | ((with_reducible refine av (N := 2) rfl ?_); (try (refine fK (by rfl) ?_; dsimp only)); refine fA 2 #[.slice bB au.length aZ] 24 HB ?_; clear HB; intro Ky w7 hg gJ Kz HB hb; clear hb hg) | ((with_reducible refine av (N := 3) rfl ?_); (try (refine fK (by rfl) ?_; dsimp only)); refine fA 3 #[.slice gu bN.length gq, .int .i64 iq, .int .i64 jv, .slice wF iC.length vL, .int .i64 kK] 58 HB ?_; clear HB; intro KA w8 hg cB KC HB hb; have lD := Gb gJ hg; have lF := Gc gJ hg; replace gJ := bV gJ hb; clear hb hg; have qlC := lF.out; have qlD := lD.out; obtain ⟨yN, IU, YA, YB, qhX⟩ := Np cB; have yO := bf cB 0; have IV := bf cB 1; have YC := bf cB 2; have YD := bf cB 3; have qhY := bf cB 4) | ((with_reducible refine aD (f := 113) rfl ?_); refine bW (some 8) rfl rfl Tryz.func113 tX rfl #[.int .i64 (bN.length : Int), .int .i64 1, .int .i64 3] rfl tM ?_; (with_reducible refine (eF.calls (bN.length : Int) 1 3 true _ A3.out).mono ?_); rintro e w' ⟨rfl, ⟨nd, rfl⟩⟩; refine ⟨_, rfl, ?_⟩) | (go_at_call 114; (with_reducible refine (mh.calls (gu := bB) (gq := aZ) _ _ bN au true _ ?bF ?bG ?eG ?eH ?jo A5.out).mono ?_); (case bF => exact cS Fx); (case bG => exact Fy.out); (case eG => exact cS dJ); (case eH => exact eu.out); (case jo => exact tK); rintro e JW ⟨rfl, hb⟩; replace gJ := bV gJ hb; replace cB := bV cB hb; replace HB := dL HB hb; (try clear hb)))
   go_ret
   exact ⟨tF, tB⟩
  ·replace c6 := Bool.eq_false_iff.mpr c6
   subst c6
   have H1 : ((gT.f iq jv).bind fun t219 => (if t219 = true then (if (iC.length : Int) = (bN.length : Int) then ((oO.f iC).bind fun t220 => (if t220 = true then (some false) else ((eF.f kK 1 300).bind fun t221 => (some t221)))) else (some false)) else (some false))) = some r := by rw [if_neg (show ¬ (false = true) by decide)] at H; exact H
   clear H; have H := H1; clear H1; obtain ⟨t219, XW, H⟩ := lV H
   by_cases c13 : t219 = true
   ·subst c13
    rw [if_pos rfl] at H
    by_cases c14 : (iC.length : Int) = (bN.length : Int)
    ·rw [if_pos c14] at H
     have qaV : ((iC.length : Int) == (bN.length : Int)) = true := beq_iff_eq.mpr c14; have qfC : ((iC.length : Int) != (bN.length : Int)) = false := bne_eq_false_iff_eq.mpr c14
     have qfD : (iC.length == bN.length) = true := by first | simpa using c14 | (simp at c14 ⊢; omega)
     clear c14; obtain ⟨t220, A15, H⟩ := lV H
     by_cases c16 : t220 = true
     ·subst c16
      rw [if_pos rfl] at H; obtain rfl := Option.some.inj H
      go_enter Tryz.func126, Tryz.ntmps126
      go_wp2_with (first | ((with_reducible refine av (N := 2) rfl ?_); (try (refine fK (by rfl) ?_; dsimp only)); refine fA 2 #[.slice bB au.length aZ] 24 HB ?_; clear HB; intro Ky YE hg gJ Kz HB hb; clear hb hg) | ((with_reducible refine av (N := 3) rfl ?_); (try (refine fK (by rfl) ?_; dsimp only)); refine fA 3 #[.slice gu bN.length gq, .int .i64 iq, .int .i64 jv, .slice wF iC.length vL, .int .i64 kK] 58 HB ?_; clear HB; intro KA Vd hg cB KC HB hb; have lD := Gb gJ hg; have lF := Gc gJ hg; replace gJ := bV gJ hb; clear hb hg; have qoq := lF.out; have qor := lD.out; obtain ⟨Qw, YF, YG, YH, YI⟩ := Np cB; have Qx := bf cB 0; have YJ := bf cB 1; have YK := bf cB 2; have YL := bf cB 3; have YM := bf cB 4) | ((with_reducible refine aD (f := 113) rfl ?_); refine bW (some 8) rfl rfl Tryz.func113 tX rfl #[.int .i64 (bN.length : Int), .int .i64 1, .int .i64 3] rfl tM ?_; (with_reducible refine (eF.calls (bN.length : Int) 1 3 true _ A3.out).mono ?_); rintro e w' ⟨rfl, ⟨nd, rfl⟩⟩; refine ⟨_, rfl, ?_⟩) | (go_at_call 114; (with_reducible refine (mh.calls (gu := bB) (gq := aZ) _ _ bN au false _ ?bF ?bG ?eG ?eH ?jo A5.out).mono ?_); (case bF => exact cS Fx); (case bG => exact Fy.out); (case eG => exact cS dJ); (case eH => exact eu.out); (case jo => exact tK); rintro e w21 ⟨rfl, hb⟩; replace gJ := bV gJ hb; replace cB := bV cB hb; replace HB := dL HB hb; (try clear hb); obtain ⟨YN, qhZ, qh0, qh1, qh2⟩ := Np cB; have YO := bf cB 0; have qh3 := bf cB 1; have qh4 := bf cB 2; have qh5 := bf cB 3; have qh6 := bf cB 4) | (go_at_call 117; (with_reducible refine (gT.calls iq jv true _ XW.out).mono ?_); rintro e w23 ⟨rfl, hb⟩; replace gJ := bV gJ hb; replace cB := bV cB hb; replace HB := dL HB hb; (try clear hb); obtain ⟨qh7, qh8, qh9, qia, qib⟩ := Np cB; have qic := bf cB 0; have qid := bf cB 1; have qie := bf cB 2; have qif := bf cB 3; have qig := bf cB 4) | (go_at_call 165; (with_reducible refine (oO.calls _ _ iC true _ ?bF ?bG A15.out).mono ?_); (case bF => repeat (first | exact (Kd.ak qaT.out HB.out) | (with_reducible refine Kd.bC ?_ _) | (with_reducible refine Kd.bD ?_ _) | (with_reducible refine Kd.bQ ?_))); (case bG => exact qaU.out); rintro e w25 ⟨rfl, hb⟩; replace gJ := bV gJ hb; replace cB := bV cB hb; replace HB := dL HB hb; (try clear hb)))
      go_ret
      exact ⟨tF, tB⟩
     ·replace c16 := Bool.eq_false_iff.mpr c16
      subst c16
      have H1 : ((eF.f kK 1 300).bind fun t221 => (some t221)) = some r := by rw [if_neg (show ¬ (false = true) by decide)] at H; exact H
      clear H; have H := H1; clear H1; obtain ⟨t221, A26, H⟩ := lV H; obtain rfl := Option.some.inj H
      go_enter Tryz.func126, Tryz.ntmps126
      go_wp2_with (first | ((with_reducible refine av (N := 2) rfl ?_); (try (refine fK (by rfl) ?_; dsimp only)); refine fA 2 #[.slice bB au.length aZ] 24 HB ?_; clear HB; intro Ky w27 hg gJ Kz HB hb; clear hb hg) | ((with_reducible refine av (N := 3) rfl ?_); (try (refine fK (by rfl) ?_; dsimp only)); refine fA 3 #[.slice gu bN.length gq, .int .i64 iq, .int .i64 jv, .slice wF iC.length vL, .int .i64 kK] 58 HB ?_; clear HB; intro KA w28 hg cB KC HB hb; have lD := Gb gJ hg; have lF := Gc gJ hg; replace gJ := bV gJ hb; clear hb hg; have qou := lF.out; have qov := lD.out; obtain ⟨Ag, YP, YQ, YR, qih⟩ := Np cB; have Ah := bf cB 0; have YS := bf cB 1; have YT := bf cB 2; have YU := bf cB 3; have qii := bf cB 4) | ((with_reducible refine aD (f := 113) rfl ?_); refine bW (some 8) rfl rfl Tryz.func113 tX rfl #[.int .i64 (bN.length : Int), .int .i64 1, .int .i64 3] rfl tM ?_; (with_reducible refine (eF.calls (bN.length : Int) 1 3 true _ A3.out).mono ?_); rintro e w' ⟨rfl, ⟨nd, rfl⟩⟩; refine ⟨_, rfl, ?_⟩) | (go_at_call 114; (with_reducible refine (mh.calls (gu := bB) (gq := aZ) _ _ bN au false _ ?bF ?bG ?eG ?eH ?jo A5.out).mono ?_); (case bF => exact cS Fx); (case bG => exact Fy.out); (case eG => exact cS dJ); (case eH => exact eu.out); (case jo => exact tK); rintro e w31 ⟨rfl, hb⟩; replace gJ := bV gJ hb; replace cB := bV cB hb; replace HB := dL HB hb; (try clear hb); obtain ⟨I5, I6, qij, qik, qil⟩ := Np cB; have I7 := bf cB 0; have I8 := bf cB 1; have qim := bf cB 2; have qin := bf cB 3; have qio := bf cB 4) | (go_at_call 117; (with_reducible refine (gT.calls iq jv true _ XW.out).mono ?_); rintro e w33 ⟨rfl, hb⟩; replace gJ := bV gJ hb; replace cB := bV cB hb; replace HB := dL HB hb; (try clear hb); obtain ⟨qip, qiq, qir, qis, qit⟩ := Np cB; have qiu := bf cB 0; have qiv := bf cB 1; have qiw := bf cB 2; have qix := bf cB 3; have qiy := bf cB 4) | (go_at_call 165; (with_reducible refine (oO.calls _ _ iC false _ ?bF ?bG A15.out).mono ?_); (case bF => repeat (first | exact (Kd.ak qaT.out HB.out) | (with_reducible refine Kd.bC ?_ _) | (with_reducible refine Kd.bD ?_ _) | (with_reducible refine Kd.bQ ?_))); (case bG => exact qaU.out); rintro e w35 ⟨rfl, hb⟩; replace gJ := bV gJ hb; replace cB := bV cB hb; replace HB := dL HB hb; (try clear hb); obtain ⟨qiz, qiA, qiB, qiC, qiD⟩ := Np cB; have qiE := bf cB 0; have qiF := bf cB 1; have qiG := bf cB 2; have qiH := bf cB 3; have qiI := bf cB 4) | (go_at_call 113; (with_reducible refine (eF.calls kK 1 300 t221 _ A26.out).mono ?_); rintro e w' ⟨rfl, ⟨nd, rfl⟩⟩))
      go_ret
      exact ⟨tF, tB⟩
    ·rw [if_neg c14] at H
     have qaV : ((iC.length : Int) == (bN.length : Int)) = false := beq_eq_false_iff_ne.mpr c14; have qfC : ((iC.length : Int) != (bN.length : Int)) = true := bne_iff_ne.mpr c14
     have qfD : (iC.length == bN.length) = false := by first | simpa using c14 | (simp at c14 ⊢; omega)
     obtain rfl := Option.some.inj H
     go_enter Tryz.func126, Tryz.ntmps126
     go_wp2_with (first | ((with_reducible refine av (N := 2) rfl ?_); (try (refine fK (by rfl) ?_; dsimp only)); refine fA 2 #[.slice bB au.length aZ] 24 HB ?_; clear HB; intro Ky w37 hg gJ Kz HB hb; clear hb hg) | ((with_reducible refine av (N := 3) rfl ?_); (try (refine fK (by rfl) ?_; dsimp only)); refine fA 3 #[.slice gu bN.length gq, .int .i64 iq, .int .i64 jv, .slice wF iC.length vL, .int .i64 kK] 58 HB ?_; clear HB; intro KA w38 hg cB KC HB hb; have lD := Gb gJ hg; have lF := Gc gJ hg; replace gJ := bV gJ hb; clear hb hg; have qox := lF.out; have qoy := lD.out; obtain ⟨I9, qiJ, qiK, qiL, qiM⟩ := Np cB; have Ja := bf cB 0; have qiN := bf cB 1; have qiO := bf cB 2; have qiP := bf cB 3; have qiQ := bf cB 4) | ((with_reducible refine aD (f := 113) rfl ?_); refine bW (some 8) rfl rfl Tryz.func113 tX rfl #[.int .i64 (bN.length : Int), .int .i64 1, .int .i64 3] rfl tM ?_; (with_reducible refine (eF.calls (bN.length : Int) 1 3 true _ A3.out).mono ?_); rintro e w' ⟨rfl, ⟨nd, rfl⟩⟩; refine ⟨_, rfl, ?_⟩) | (go_at_call 114; (with_reducible refine (mh.calls (gu := bB) (gq := aZ) _ _ bN au false _ ?bF ?bG ?eG ?eH ?jo A5.out).mono ?_); (case bF => exact cS Fx); (case bG => exact Fy.out); (case eG => exact cS dJ); (case eH => exact eu.out); (case jo => exact tK); rintro e w41 ⟨rfl, hb⟩; replace gJ := bV gJ hb; replace cB := bV cB hb; replace HB := dL HB hb; (try clear hb); obtain ⟨qiR, qiS, qiT, qiU, qiV⟩ := Np cB; have qiW := bf cB 0; have qiX := bf cB 1; have qiY := bf cB 2; have qiZ := bf cB 3; have qi0 := bf cB 4) | (go_at_call 117; (with_reducible refine (gT.calls iq jv true _ XW.out).mono ?_); rintro e w43 ⟨rfl, hb⟩; replace gJ := bV gJ hb; replace cB := bV cB hb; replace HB := dL HB hb; (try clear hb); obtain ⟨YV, qi1, qi2, qi3, qi4⟩ := Np cB; have YW := bf cB 0; have qi5 := bf cB 1; have qi6 := bf cB 2; have qi7 := bf cB 3; have qi8 := bf cB 4))
     go_ret
     exact ⟨tF, tB⟩
   ·replace c13 := Bool.eq_false_iff.mpr c13
    subst c13
    have H1 : (some false) = some r := by rw [if_neg (show ¬ (false = true) by decide)] at H; exact H
    clear H; have H := H1; clear H1; obtain rfl := Option.some.inj H
    go_enter Tryz.func126, Tryz.ntmps126
    go_wp2_with (first | ((with_reducible refine av (N := 2) rfl ?_); (try (refine fK (by rfl) ?_; dsimp only)); refine fA 2 #[.slice bB au.length aZ] 24 HB ?_; clear HB; intro Ky w45 hg gJ Kz HB hb; clear hb hg) | ((with_reducible refine av (N := 3) rfl ?_); (try (refine fK (by rfl) ?_; dsimp only)); refine fA 3 #[.slice gu bN.length gq, .int .i64 iq, .int .i64 jv, .slice wF iC.length vL, .int .i64 kK] 58 HB ?_; clear HB; intro KA w46 hg cB KC HB hb; have lD := Gb gJ hg; have lF := Gc gJ hg; replace gJ := bV gJ hb; clear hb hg; have qoA := lF.out; have qoB := lD.out; obtain ⟨qi9, qja, qjb, qjc, qjd⟩ := Np cB; have qje := bf cB 0; have qjf := bf cB 1; have qjg := bf cB 2; have qjh := bf cB 3; have qji := bf cB 4) | ((with_reducible refine aD (f := 113) rfl ?_); refine bW (some 8) rfl rfl Tryz.func113 tX rfl #[.int .i64 (bN.length : Int), .int .i64 1, .int .i64 3] rfl tM ?_; (with_reducible refine (eF.calls (bN.length : Int) 1 3 true _ A3.out).mono ?_); rintro e w' ⟨rfl, ⟨nd, rfl⟩⟩; refine ⟨_, rfl, ?_⟩) | (go_at_call 114; (with_reducible refine (mh.calls (gu := bB) (gq := aZ) _ _ bN au false _ ?bF ?bG ?eG ?eH ?jo A5.out).mono ?_); (case bF => exact cS Fx); (case bG => exact Fy.out); (case eG => exact cS dJ); (case eH => exact eu.out); (case jo => exact tK); rintro e w49 ⟨rfl, hb⟩; replace gJ := bV gJ hb; replace cB := bV cB hb; replace HB := dL HB hb; (try clear hb); obtain ⟨qjj, qjk, qjl, qjm, qjn⟩ := Np cB; have qjo := bf cB 0; have qjp := bf cB 1; have qjq := bf cB 2; have qjr := bf cB 3; have qjs := bf cB 4) | (go_at_call 117; (with_reducible refine (gT.calls iq jv false _ XW.out).mono ?_); rintro e w51 ⟨rfl, hb⟩; replace gJ := bV gJ hb; replace cB := bV cB hb; replace HB := dL HB hb; (try clear hb)))
    go_ret
    exact ⟨tF, tB⟩
 ·replace c4 := Bool.eq_false_iff.mpr c4
  subst c4
  have H1 : (some false) = some r := by rw [if_neg (show ¬ (false = true) by decide)] at H; exact H
  clear H; have H := H1; clear H1; obtain rfl := Option.some.inj H
  go_enter Tryz.func126, Tryz.ntmps126
  go_wp2_with (first | ((with_reducible refine av (N := 2) rfl ?_); (try (refine fK (by rfl) ?_; dsimp only)); refine fA 2 #[.slice bB au.length aZ] 24 HB ?_; clear HB; intro Ky w52 hg gJ Kz HB hb; clear hb hg) | ((with_reducible refine av (N := 3) rfl ?_); (try (refine fK (by rfl) ?_; dsimp only)); refine fA 3 #[.slice gu bN.length gq, .int .i64 iq, .int .i64 jv, .slice wF iC.length vL, .int .i64 kK] 58 HB ?_; clear HB; intro KA w53 hg cB KC HB hb; have lD := Gb gJ hg; have lF := Gc gJ hg; replace gJ := bV gJ hb; clear hb hg; have qoC := lF.out; have qoD := lD.out; obtain ⟨qjt, qju, qjv, qjw, qjx⟩ := Np cB; have qjy := bf cB 0; have qjz := bf cB 1; have qjA := bf cB 2; have qjB := bf cB 3; have qjC := bf cB 4) | ((with_reducible refine aD (f := 113) rfl ?_); refine bW (some 8) rfl rfl Tryz.func113 tX rfl #[.int .i64 (bN.length : Int), .int .i64 1, .int .i64 3] rfl tM ?_; (with_reducible refine (eF.calls (bN.length : Int) 1 3 false _ A3.out).mono ?_); rintro e w' ⟨rfl, ⟨nd, rfl⟩⟩; refine ⟨_, rfl, ?_⟩))
  go_ret
  exact ⟨tF, tB⟩
def ji.f (au : List bO) (l1 : List dN) (a2 : Int) : Option Bool := (eF.f (l1.length : Int) a2 5).bind fun t223 => (if t223 = true then ((sD.f l1 au).bind fun t224 => (some (!t224))) else (some false))
theorem ji.calls (bB : Option Addr) (aZ : Nat) (au : List bO) (A1 : Option Addr) (c1 : Nat) (l1 : List dN) (a2 : Int) (r : Bool) (w : World) (dx : Kd.C iM w bB au.length au) (dI : au.length ≤ aZ) (hr1 : Kd.C l7 w A1 l1.length l1) (hc1 : l1.length ≤ c1) (h : ji.f au l1 a2 = some r) :
  Calls Tryz.prog 127 #[.agg #[.slice bB au.length aZ], .slice A1 l1.length c1, .int .i64 a2] w fun e w' => e = .returned (.bool r) ∧ Below w.heap.size w w' := by
 have o8 := Tryz.underlying24; have dJ := aj.mk dx; have eu := aj.mk dI; clear dx dI; have HR1 := aj.mk hr1; have uU := aj.mk hc1; clear hr1 hc1; have HB := aj.mk (Below.refl w.heap.size w); have H : ((eF.f (l1.length : Int) a2 5).bind fun t223 => (if t223 = true then ((sD.f l1 au).bind fun t224 => (some (!t224))) else (some false))) = some r := h; clear h; obtain ⟨t223, A4, H⟩ := lV H
 by_cases c5 : t223 = true
 ·subst c5
  rw [if_pos rfl] at H; obtain ⟨t224, A6, H⟩ := lV H; obtain rfl := Option.some.inj H
  go_enter Tryz.func127, Tryz.ntmps127
  go_wp2_with (first | ((with_reducible refine av (N := 3) rfl ?_); refine fA 3 #[.slice bB au.length aZ] 24 HB ?_; clear HB; intro qfE w7 hg Vu qfF HB hb; clear hb hg) | ((with_reducible refine aD (f := 113) rfl ?_); refine bW (some 10) rfl rfl Tryz.func113 tX rfl #[.int .i64 (l1.length : Int), .int .i64 a2, .int .i64 5] rfl tM ?_; (with_reducible refine (eF.calls (l1.length : Int) a2 5 true _ A4.out).mono ?_); rintro e w' ⟨rfl, ⟨nd, rfl⟩⟩; refine ⟨_, rfl, ?_⟩) | (go_at_call 180; (with_reducible refine (sD.calls (gu := bB) (gq := aZ) _ _ l1 au t224 _ ?bF ?bG ?eG ?eH ?jo A6.out).mono ?_); (case bF => exact cS HR1); (case bG => exact uU.out); (case eG => exact cS dJ); (case eH => exact eu.out); (case jo => exact tK); rintro e w8 ⟨rfl, hb⟩; replace Vu := bV Vu hb; replace HB := dL HB hb; (try clear hb)))
  go_ret
  exact ⟨tF, tB⟩
 ·replace c5 := Bool.eq_false_iff.mpr c5
  subst c5
  have H1 : (some false) = some r := by rw [if_neg (show ¬ (false = true) by decide)] at H; exact H
  clear H; have H := H1; clear H1; obtain rfl := Option.some.inj H
  go_enter Tryz.func127, Tryz.ntmps127
  go_wp2_with (first | ((with_reducible refine av (N := 3) rfl ?_); refine fA 3 #[.slice bB au.length aZ] 24 HB ?_; clear HB; intro qfE w9 hg Vu qfF HB hb; clear hb hg) | ((with_reducible refine aD (f := 113) rfl ?_); refine bW (some 10) rfl rfl Tryz.func113 tX rfl #[.int .i64 (l1.length : Int), .int .i64 a2, .int .i64 5] rfl tM ?_; (with_reducible refine (eF.calls (l1.length : Int) a2 5 false _ A4.out).mono ?_); rintro e w' ⟨rfl, ⟨nd, rfl⟩⟩; refine ⟨_, rfl, ?_⟩))
  go_ret
  exact ⟨tF, tB⟩
def lG.f (bJ : Int) (aY : Int) : Option Bool := (fZ.f bJ aY (-3000) 3000 6).bind fun t235 => (some (!t235))
theorem lG.calls (bJ : Int) (aY : Int) (r : Bool) (w : World) (h : lG.f bJ aY = some r) :
  Calls Tryz.prog 186 #[.agg #[.int .i64 bJ, .int .i64 aY]] w fun e w' => e = .returned (.bool r) ∧ Below w.heap.size w w' := by
 have kg := Tryz.underlying37; have HB := aj.mk (Below.refl w.heap.size w); have H : ((fZ.f bJ aY (-3000) 3000 6).bind fun t235 => (some (!t235))) = some r := h; clear h; obtain ⟨t235, A2, H⟩ := lV H; obtain rfl := Option.some.inj H
 go_enter Tryz.func186, Tryz.ntmps186
 go_wp2_with (first | ((with_reducible refine av (N := 1) rfl ?_); refine fA 1 #[.int .i64 bJ, .int .i64 aY] 37 HB ?_; clear HB; intro qoE w3 hg KE qoF HB hb; clear hb hg; obtain ⟨zu, Fu⟩ := bc2 KE; have zw := bf KE 0; have Fv := bf KE 1) | ((with_reducible refine aD (f := 167) rfl ?_); refine bW (some 4) rfl rfl Tryz.func167 tX rfl #[.agg #[.int .i64 bJ, .int .i64 aY], .int .i64 (-3000), .int .i64 3000, .int .i64 6] rfl tM ?_; (with_reducible refine (fZ.calls bJ aY (-3000) 3000 6 t235 _ A2.out).mono ?_); rintro e w5 ⟨rfl, hb⟩; refine ⟨_, rfl, ?_⟩; replace KE := bV KE hb; replace HB := dL HB hb; (try clear hb)))
 go_ret
 exact ⟨tF, tB⟩
def sI.f (l0 : List bT) : Option Bool := Dv (fun x => lG.f x.f0 x.f1) l0
theorem sI.calls (A0 : Option Addr) (c0 : Nat) (l0 : List bT) (r : Bool) (w : World) (hr0 : Kd.C j3 w A0 l0.length l0) (hc0 : l0.length ≤ c0) (h : sI.f l0 = some r) :
  Calls Tryz.prog 165 #[.slice A0 l0.length c0, .func (.func 186) #[] #[]] w fun e w' => e = .returned (.bool r) ∧ Below w.heap.size w w' := by
 obtain ⟨hs, rfl⟩ := qw h; refine qcm (fun x => lG.f x.f0 x.f1 == some true) 186 #[] A0 c0 l0 w hr0 (enters_of Tryz.func186 tX rfl) (fun x hx => ⟨fun W cs hb hK => ?_⟩); obtain rfl := vC hK
 exact (lG.calls _ _ _ W (hs x hx)).mono fun e w' h => h
def iQ.f (bJ : Int) (aY : Int) (dS : Int) (dn : List bT) : Option Bool := (gT.f bJ aY).bind fun t237 => (if t237 = true then ((eF.f dS 0 9).bind fun t238 => (if t238 = true then ((eF.f (dn.length : Int) 1 4).bind fun t239 => (if t239 = true then ((sI.f dn).bind fun t240 => (some (!t240))) else (some false))) else (some false))) else (some false))
theorem iQ.calls (bJ : Int) (aY : Int) (dS : Int) (jE : Option Addr) (jL : Nat) (dn : List bT) (r : Bool) (w : World) (pV : Kd.C j3 w jE dn.length dn) (xH : dn.length ≤ jL) (h : iQ.f bJ aY dS dn = some r) :
  Calls Tryz.prog 138 #[.agg #[.int .i64 bJ, .int .i64 aY, .int .i64 dS, .slice jE dn.length jL]] w fun e w' => e = .returned (.bool r) ∧ Below w.heap.size w w' := by
 have NH := Tryz.underlying67; have kg := Tryz.underlying37; have Ai := aj.mk pV; have Aj := aj.mk xH; clear pV xH; have HB := aj.mk (Below.refl w.heap.size w); have H : ((gT.f bJ aY).bind fun t237 => (if t237 = true then ((eF.f dS 0 9).bind fun t238 => (if t238 = true then ((eF.f (dn.length : Int) 1 4).bind fun t239 => (if t239 = true then ((sI.f dn).bind fun t240 => (some (!t240))) else (some false))) else (some false))) else (some false))) = some r := h; clear h; obtain ⟨t237, A2, H⟩ := lV H
 by_cases c3 : t237 = true
 ·subst c3
  rw [if_pos rfl] at H; obtain ⟨t238, A4, H⟩ := lV H
  by_cases c5 : t238 = true
  ·subst c5
   rw [if_pos rfl] at H; obtain ⟨t239, A6, H⟩ := lV H
   by_cases c7 : t239 = true
   ·subst c7
    rw [if_pos rfl] at H; obtain ⟨t240, A8, H⟩ := lV H; obtain rfl := Option.some.inj H
    go_enter Tryz.func138, Tryz.ntmps138
    go_wp2_with (first | ((with_reducible refine av (N := 1) rfl ?_); (try (refine fK (by rfl) ?_; dsimp only)); refine fA 1 #[.int .i64 bJ, .int .i64 aY, .int .i64 dS, .slice jE dn.length jL] 67 HB ?_; clear HB; intro Vv w9 hg gY Vw HB hb; clear hb hg; obtain ⟨yN, IU, YA, YB⟩ := Ga gY; have yO := bf gY 0; have IV := bf gY 1; have YC := bf gY 2; have YD := bf gY 3) | ((with_reducible refine aD (f := 117) rfl ?_); refine bW (some 5) rfl rfl Tryz.func117 tX rfl #[.agg #[.int .i64 bJ, .int .i64 aY]] rfl tM ?_; (with_reducible refine (gT.calls bJ aY true _ A2.out).mono ?_); rintro e JW ⟨rfl, hb⟩; refine ⟨_, rfl, ?_⟩; replace gY := bV gY hb; replace HB := dL HB hb; (try clear hb); obtain ⟨yP, Qu, YX, YZ⟩ := Ga gY; have yQ := bf gY 0; have Qv := bf gY 1; have Y0 := bf gY 2; have Y1 := bf gY 3) | (go_at_call 113; (with_reducible refine (eF.calls dS 0 9 true _ A4.out).mono ?_); rintro e w' ⟨rfl, ⟨nd, rfl⟩⟩) | (go_at_call 113; (with_reducible refine (eF.calls (dn.length : Int) 1 4 true _ A6.out).mono ?_); rintro e w' ⟨rfl, ⟨nd, rfl⟩⟩) | (go_at_call 165; (with_reducible refine (sI.calls _ _ dn t240 _ ?bF ?bG A8.out).mono ?_); (case bF => exact cS Ai); (case bG => exact Aj.out); rintro e w13 ⟨rfl, hb⟩; replace gY := bV gY hb; replace HB := dL HB hb; (try clear hb)))
    go_ret
    exact ⟨tF, tB⟩
   ·replace c7 := Bool.eq_false_iff.mpr c7
    subst c7
    have H1 : (some false) = some r := by rw [if_neg (show ¬ (false = true) by decide)] at H; exact H
    clear H; have H := H1; clear H1; obtain rfl := Option.some.inj H
    go_enter Tryz.func138, Tryz.ntmps138
    go_wp2_with (first | ((with_reducible refine av (N := 1) rfl ?_); (try (refine fK (by rfl) ?_; dsimp only)); refine fA 1 #[.int .i64 bJ, .int .i64 aY, .int .i64 dS, .slice jE dn.length jL] 67 HB ?_; clear HB; intro Vv Uo hg gY Vw HB hb; clear hb hg; obtain ⟨yL, IK, qjD, qjE⟩ := Ga gY; have yM := bf gY 0; have IL := bf gY 1; have qjF := bf gY 2; have qjG := bf gY 3) | ((with_reducible refine aD (f := 117) rfl ?_); refine bW (some 5) rfl rfl Tryz.func117 tX rfl #[.agg #[.int .i64 bJ, .int .i64 aY]] rfl tM ?_; (with_reducible refine (gT.calls bJ aY true _ A2.out).mono ?_); rintro e w16 ⟨rfl, hb⟩; refine ⟨_, rfl, ?_⟩; replace gY := bV gY hb; replace HB := dL HB hb; (try clear hb); obtain ⟨Yn, Yo, Yp, Yq⟩ := Ga gY; have Yr := bf gY 0; have Yt := bf gY 1; have Yu := bf gY 2; have Yv := bf gY 3) | (go_at_call 113; (with_reducible refine (eF.calls dS 0 9 true _ A4.out).mono ?_); rintro e w' ⟨rfl, ⟨nd, rfl⟩⟩) | (go_at_call 113; (with_reducible refine (eF.calls (dn.length : Int) 1 4 false _ A6.out).mono ?_); rintro e w' ⟨rfl, ⟨nd, rfl⟩⟩))
    go_ret
    exact ⟨tF, tB⟩
  ·replace c5 := Bool.eq_false_iff.mpr c5
   subst c5
   have H1 : (some false) = some r := by rw [if_neg (show ¬ (false = true) by decide)] at H; exact H
   clear H; have H := H1; clear H1; obtain rfl := Option.some.inj H
   go_enter Tryz.func138, Tryz.ntmps138
   go_wp2_with (first | ((with_reducible refine av (N := 1) rfl ?_); (try (refine fK (by rfl) ?_; dsimp only)); refine fA 1 #[.int .i64 bJ, .int .i64 aY, .int .i64 dS, .slice jE dn.length jL] 67 HB ?_; clear HB; intro Vv Vd hg gY Vw HB hb; clear hb hg; obtain ⟨Qy, qjH, qjI, qjJ⟩ := Ga gY; have Qz := bf gY 0; have qjK := bf gY 1; have qjL := bf gY 2; have qjM := bf gY 3) | ((with_reducible refine aD (f := 117) rfl ?_); refine bW (some 5) rfl rfl Tryz.func117 tX rfl #[.agg #[.int .i64 bJ, .int .i64 aY]] rfl tM ?_; (with_reducible refine (gT.calls bJ aY true _ A2.out).mono ?_); rintro e w20 ⟨rfl, hb⟩; refine ⟨_, rfl, ?_⟩; replace gY := bV gY hb; replace HB := dL HB hb; (try clear hb); obtain ⟨Ee, Y2, Y3, Y4⟩ := Ga gY; have Ef := bf gY 0; have Y5 := bf gY 1; have Y6 := bf gY 2; have Y7 := bf gY 3) | (go_at_call 113; (with_reducible refine (eF.calls dS 0 9 false _ A4.out).mono ?_); rintro e w' ⟨rfl, ⟨nd, rfl⟩⟩))
   go_ret
   exact ⟨tF, tB⟩
 ·replace c3 := Bool.eq_false_iff.mpr c3
  subst c3
  have H1 : (some false) = some r := by rw [if_neg (show ¬ (false = true) by decide)] at H; exact H
  clear H; have H := H1; clear H1; obtain rfl := Option.some.inj H
  go_enter Tryz.func138, Tryz.ntmps138
  go_wp2_with (first | ((with_reducible refine av (N := 1) rfl ?_); (try (refine fK (by rfl) ?_; dsimp only)); refine fA 1 #[.int .i64 bJ, .int .i64 aY, .int .i64 dS, .slice jE dn.length jL] 67 HB ?_; clear HB; intro Vv w22 hg gY Vw HB hb; clear hb hg; obtain ⟨yH, Iu, P9, Qa⟩ := Ga gY; have yI := bf gY 0; have Iw := bf gY 1; have Qb := bf gY 2; have Qc := bf gY 3) | ((with_reducible refine aD (f := 117) rfl ?_); refine bW (some 5) rfl rfl Tryz.func117 tX rfl #[.agg #[.int .i64 bJ, .int .i64 aY]] rfl tM ?_; (with_reducible refine (gT.calls bJ aY false _ A2.out).mono ?_); rintro e w24 ⟨rfl, hb⟩; refine ⟨_, rfl, ?_⟩; replace gY := bV gY hb; replace HB := dL HB hb; (try clear hb)))
  go_ret
  exact ⟨tF, tB⟩
end Go.Proofs.YtnpfbjnjdngkhaaGreatDoor.P
namespace Go.Proofs.YtnpfbjnjdngkhaaGreatDoor.P
open Go.RowKit Go.Proofs.YtnpfbjnjdngkhaaGreatDoorW.aW Go.Proofs.YtnpfbjnjdngkhaaGreatDoorW.bZ Go.Proofs.YtnpfbjnjdngkhaaGreatDoorW.dh
def zA (x : bO) : Bool := !(decide (x.f0.length = 3)) || (!(o9 x.f1 0 100) || x.f0.any fun s => !jB s 0 20 2)
def iA (h : List bO) : Bool := o9 h.length 1 3 && !(h.any zA)
def oP (n : Nat) (ws : List Int) : Bool := decide (ws.length = n) && !(ws.any fun x => !o9 x (-9) 9)
def NI (n : Nat) (l : List ou) : Bool := o9 l.length 1 3 && !(l.any fun x => !oP n x.f0)
def KF (s : bT) : Bool := jB s 0 200 4
def CO (s : bT) : Bool := jB s (-3000) 3000 6000
def Ak (n : Nat) (gK : List ou) (eye : bT) (old : List bT) (need : Int) : Bool := NI n gK && (KF eye && (decide (old.length = gK.length) && (!(old.any fun s => !CO s) && o9 need 1 300)))
def rD (n : Nat) (l : List dN) (least : Int) : Bool := o9 l.length least 5 && !(l.any (vJ n))
def rE (eye : bT) (Ce : Int) (looks : List bT) : Bool := KF eye && (o9 Ce 0 9 && (o9 looks.length 1 4 && !(looks.any fun s => !jB s (-3000) 3000 6)))
theorem GZ (h : List bO) : fq.f h = some (iA h) := by
 have h1 : sG.f h = some (h.any zA) := by
  refine yF fun x _ => ?_
  have h2 : sF.f x.f0 = some (x.f0.any fun s => !jB s 0 20 2) := yF fun s _ => by simp [kr.f, vI s]
  unfold mg.f zA
  by_cases hl : x.f0.length = 3
  ·rw [if_pos (by omega), Fp]
   simp only [Option.bind_some, hl, decide_true, Bool.not_true, Bool.false_or, h2]
   cases o9 x.f1 0 100 <;> simp
  ·rw [if_neg (by omega)]
   simp [hl]
 unfold fq.f iA
 rw [Fp, Option.bind_some, h1]
 cases o9 h.length 1 3 <;> simp
theorem KG (h : List bO) (ws : List Int) : iP.f h ws = some (oP h.length ws) := by
 have h1 : sH.f ws = some (ws.any fun x => !o9 x (-9) 9) := yF fun x _ => by simp [nG.f, Fp]
 unfold iP.f oP
 by_cases hl : ws.length = h.length
 ·rw [if_pos (by omega), h1]; simp [hl]
 ·rw [if_neg (by omega)]; simp [hl]
theorem QA (a b : Int) : gT.f a b = some (KF ⟨a, b⟩) := by
 have := vI ⟨a, b⟩ 0 200 4
 unfold gT.f KF
 rw [this]; rfl
theorem KH (a b : Int) : nu.f a b = some (CO ⟨a, b⟩) := by
 have := vI ⟨a, b⟩ (-3000) 3000 6000
 unfold nu.f CO
 rw [this]; rfl
theorem Y8 (h : List bO) (l : List ou) : Dv (fun x : ou => (iP.f h x.f0).map not) l = some (l.any fun x => !oP h.length x.f0) := yF fun x _ => by simp [KG]
theorem Vx (h : List bO) (gK : List ou) (eye : bT) (old : List bT) (need : Int) : tH.f h gK eye.f0 eye.f1 old need = some (Ak h.length gK eye old need) := by
 have h1 : mh.f gK h = some (gK.any fun x => !oP h.length x.f0) := Y8 h gK
 have h2 : oO.f old = some (old.any fun s => !CO s) := yF fun s _ => by simp [nH.f, KH]
 unfold tH.f Ak NI
 rw [Fp, Option.bind_some, h1, Option.bind_some, QA, Option.bind_some, h2, Option.bind_some, Fp]
 generalize (old.any fun s => !CO s) = b1
 generalize (gK.any fun x => !oP h.length x.f0) = b2
 by_cases hl : old.length = gK.length
 ·rw [if_pos (show (old.length : Int) = gK.length by omega)]
  cases o9 gK.length 1 3 <;> cases b2 <;> cases KF eye <;> cases b1 <;> simp [hl]
 ·rw [if_neg (show ¬ (old.length : Int) = gK.length by omega)]
  cases o9 gK.length 1 3 <;> cases b2 <;> cases KF eye <;> simp [hl]
theorem KI (h : List bO) (l : List dN) (least : Int) : ji.f h l least = some (rD h.length l least) := by
 unfold ji.f rD
 rw [Fp, Option.bind_some]
 unfold sD.f
 cases o9 l.length least 5 <;> simp
theorem NJ (eye : bT) (Ce : Int) (looks : List bT) : iQ.f eye.f0 eye.f1 Ce looks = some (rE eye Ce looks) := by
 have h1 : sI.f looks = some (looks.any fun s => !jB s (-3000) 3000 6) := yF fun s _ => by simp [lG.f, vI s]
 unfold iQ.f rE
 rw [QA, Option.bind_some, Fp, Option.bind_some, Fp, Option.bind_some, h1]
 cases KF eye <;> cases o9 Ce 0 9 <;> cases o9 looks.length 1 4 <;> simp
theorem pW {x lo hi : Int} : o9 x lo hi = true ↔ lo ≤ x ∧ x ≤ hi := by simp [o9]
theorem oQ {s : bT} {lo hi wide : Int} (h0 : -1000000000 ≤ lo) (h1 : hi ≤ 1000000000) : jB s lo hi wide = true ↔ lo ≤ s.f0 ∧ s.f0 ≤ s.f1 ∧ s.f1 ≤ hi ∧ s.f1 - s.f0 ≤ wide := by
 unfold jB fZ.f
 by_cases a : lo ≤ s.f0 ∧ s.f0 ≤ s.f1 ∧ s.f1 ≤ hi
 ·have : wrap64 (s.f1 - s.f0) = s.f1 - s.f0 := z8 (by omega) (by omega)
  rw [if_pos a.1, if_pos a.2.1, if_pos a.2.2, this]; simp [a]
 ·constructor
  ·intro h
   exfalso
   revert h
   repeat' split
   all_goals first | omega | simp
  ·rintro ⟨b1, b2, b3, _⟩
   exact absurd ⟨b1, b2, b3⟩ a
theorem lH {h : List bO} (hh : iA h = true) : uz h := by
 unfold iA at hh
 simp only [Bool.and_eq_true, Bool.not_eq_true', List.any_eq_false, pW] at hh; obtain ⟨⟨_, h1⟩, h2⟩ := hh
 have h3 : ∀ x ∈ h, x.f0.length = 3 ∧ (0 ≤ x.f1 ∧ x.f1 ≤ 100) ∧ ∀ s ∈ x.f0, jB s 0 20 2 = true := by
  intro x hx; have := h2 x hx
  unfold zA at this
  simp only [Bool.or_eq_true, Bool.not_eq_true', decide_eq_false_iff_not, not_or, Decidable.not_not, List.any_eq_true, Bool.not_eq_false, pW, not_exists, not_and] at this; exact this
 refine ⟨by omega, fun x hx => (h3 x hx).1, fun x hx s hs => ?_, fun x hx => (h3 x hx).2.1⟩; have := (oQ (by decide) (by decide)).1 ((h3 x hx).2.2 s hs)
 omega
theorem wG {h : List bO} (hh : iA h = true) {x : bO} (hx : x ∈ h) {s : bT} (hs : s ∈ x.f0) : s.f0 ≤ s.f1 := by
 unfold iA at hh
 simp only [Bool.and_eq_true, Bool.not_eq_true', List.any_eq_false, pW] at hh; have := hh.2 x hx
 unfold zA at this
 simp only [Bool.or_eq_true, Bool.not_eq_true', decide_eq_false_iff_not, not_or, Decidable.not_not, List.any_eq_true, Bool.not_eq_false, pW, not_exists, not_and] at this; exact ((oQ (by decide) (by decide)).1 (this.2.2 s hs)).2.1
theorem QB {n : Nat} {b : bg} (hb : rA n b = false) : (0 ≤ b.f0 ∧ b.f0 < n) ∧ (0 ≤ b.f1 ∧ b.f1 < 3) ∧ 0 ≤ b.f2.f0 ∧ b.f2.f0 ≤ b.f2.f1 ∧ b.f2.f1 ≤ 12 ∧ b.f2.f1 - b.f2.f0 ≤ 2 := by
 unfold rA at hb
 simp only [Bool.or_eq_false_iff, Bool.not_eq_false', pW] at hb; have := (oQ (by decide) (by decide)).1 hb.2.2
 omega
theorem nX {n : Nat} {l : List bg} (hb : gB n l = true) : oz n l := by
 unfold gB at hb
 simp only [Bool.and_eq_true, Bool.not_eq_true', List.any_eq_false, decide_eq_true_eq] at hb
 have h2 := fun x hx => QB (n := n) (b := x) (by simpa using hb.2 x hx)
 exact ⟨hb.1, fun b hx => (h2 b hx).1, fun b hx => (h2 b hx).2.1, fun b hx => by have := h2 b hx; omega⟩
theorem wH {n : Nat} {l : List bg} (hb : gB n l = true) {b : bg} (hx : b ∈ l) : b.f2.f0 ≤ b.f2.f1 := by
 unfold gB at hb
 simp only [Bool.and_eq_true, Bool.not_eq_true', List.any_eq_false, decide_eq_true_eq] at hb; exact (QB (n := n) (b := b) (by simpa using hb.2 b hx)).2.2.2.1
theorem rF {n : Nat} {ws : List Int} (h : oP n ws = true) : Vn n ws := by
 unfold oP at h
 simp only [Bool.and_eq_true, Bool.not_eq_true', List.any_eq_false, decide_eq_true_eq, Bool.not_eq_false, pW] at h; exact ⟨h.1, fun x hx => h.2 x hx⟩
section
variable (A : Option Addr) (c : Nat) (h : List bO) (w : World) (hr : Kd.C iM w A h.length h) (hc : h.length ≤ c)
include hr hc
theorem c105 : Calls Tryz.prog 105 #[.agg #[.slice A h.length c]] w fun e w' => e = .returned (.bool (iA h)) ∧ Below w.heap.size w w' := fq.calls A c h _ w hr hc (GZ h)
theorem c116 (A1 : Option Addr) (c1 : Nat) (ws : List Int) (hr1 : Kd.C (Kd.int .i64) w A1 ws.length ws) (hc1 : ws.length ≤ c1) : Calls Tryz.prog 116 #[.agg #[.slice A h.length c], .agg #[.slice A1 ws.length c1]] w fun e w' => e = .returned (.bool (oP h.length ws)) ∧ Below w.heap.size w w' := iP.calls A c h A1 c1 ws _ w hr hc hr1 hc1 (KG h ws)
theorem qcO (A1 : Option Addr) (c1 : Nat) (l : List bg) (hr1 : Kd.C eT w A1 l.length l) (hc1 : l.length ≤ c1) : Calls Tryz.prog 106 #[.agg #[.slice A h.length c], .slice A1 l.length c1] w fun e w' => e = .returned (.bool (gB h.length l)) ∧ Below w.heap.size w w' := fB.calls A c h A1 c1 l _ w hr hc hr1 hc1 (BZ h l)
theorem c127 (A1 : Option Addr) (c1 : Nat) (l : List dN) (least : Int) (hr1 : Kd.C l7 w A1 l.length l) (hc1 : l.length ≤ c1) : Calls Tryz.prog 127 #[.agg #[.slice A h.length c], .slice A1 l.length c1, .int .i64 least] w fun e w' => e = .returned (.bool (rD h.length l least)) ∧ Below w.heap.size w w' := ji.calls A c h A1 c1 l least _ w hr hc hr1 hc1 (KI h l least)
theorem qlG (A1 : Option Addr) (c1 : Nat) (l : List ou) (eye : bT) (A2 : Option Addr) (c2 : Nat) (old : List bT) (need : Int) (hr1 : Kd.C ET w A1 l.length l) (hc1 : l.length ≤ c1) (hr2 : Kd.C j3 w A2 old.length old) (hc2 : old.length ≤ c2) :
  Calls Tryz.prog 126 #[.agg #[.slice A h.length c], .agg #[.slice A1 l.length c1, .int .i64 eye.f0, .int .i64 eye.f1, .slice A2 old.length c2, .int .i64 need]] w fun e w' => e = .returned (.bool (Ak h.length l eye old need)) ∧ Below w.heap.size w w' := tH.calls A c h A1 c1 l eye.f0 eye.f1 A2 c2 old need _ w hr hc hr1 hc1 hr2 hc2 (Vx h l eye old need)
end
theorem qlH (a b : Int) (w : World) : Calls Tryz.prog 122 #[.agg #[.int .i64 a, .int .i64 b]] w fun e w' => e = .returned (.bool (CO ⟨a, b⟩)) ∧ Below w.heap.size w w' := nu.calls a b _ w (KH a b)
theorem c138 (a b t : Int) (A : Option Addr) (c : Nat) (l : List bT) (w : World) (hr : Kd.C j3 w A l.length l) (hc : l.length ≤ c) : Calls Tryz.prog 138 #[.agg #[.int .i64 a, .int .i64 b, .int .i64 t, .slice A l.length c]] w fun e w' => e = .returned (.bool (rE ⟨a, b⟩ t l)) ∧ Below w.heap.size w w' := iQ.calls a b t A c l _ w hr hc (NJ ⟨a, b⟩ t l)
end Go.Proofs.YtnpfbjnjdngkhaaGreatDoor.P
namespace Go.Proofs.YtnpfbjnjdngkhaaGreatDoor.P
open Go.RowKit Go.Proofs.YtnpfbjnjdngkhaaGreatDoorW.aW Go.Proofs.YtnpfbjnjdngkhaaGreatDoorW.bZ Go.Proofs.YtnpfbjnjdngkhaaGreatDoorW.dh
attribute [local go_sem] fE fF gU gV eX eY fG fH
def iB.f (bJ : Int) (aY : Int) (a1 : Int) (a2 : Int) (a3 : Int) : Option Bool := if bJ ≥ a1 then (if bJ ≤ aY then (if aY ≤ a2 then (some (decide ((wrap64 (aY - bJ)) ≤ a3))) else (some false)) else (some false)) else (some false)
theorem iB.calls (bJ : Int) (aY : Int) (a1 : Int) (a2 : Int) (a3 : Int) (r : Bool) (w : World) (h : iB.f bJ aY a1 a2 a3 = some r) :
  Calls Tryz.prog 108 #[.agg #[.int .i64 bJ, .int .i64 aY], .int .i64 a1, .int .i64 a2, .int .i64 a3] w fun e w' => e = .returned (.bool r) ∧ Below w.heap.size w w' := by
 have kg := Tryz.underlying37; have HB := aj.mk (Below.refl w.heap.size w); have H : (if bJ ≥ a1 then (if bJ ≤ aY then (if aY ≤ a2 then (some (decide ((wrap64 (aY - bJ)) ≤ a3))) else (some false)) else (some false)) else (some false)) = some r := h; clear h
 by_cases c5 : bJ ≥ a1
 ·rw [if_pos c5] at H
  have y5 : decide (a1 ≤ bJ) = true := decide_eq_true c5; clear c5
  by_cases c6 : bJ ≤ aY
  ·rw [if_pos c6] at H
   have IG : decide (bJ ≤ aY) = true := decide_eq_true c6; clear c6
   by_cases c7 : aY ≤ a2
   ·rw [if_pos c7] at H
    have xu : decide (aY ≤ a2) = true := decide_eq_true c7; clear c7; obtain rfl := Option.some.inj H
    go_enter Tryz.func108, Tryz.ntmps108
    go_wp2_with (first | ((with_reducible refine av (N := 4) rfl ?_); refine fA 4 #[.int .i64 bJ, .int .i64 aY] 37 HB ?_; clear HB; intro Vy w8 hg tJ Vz HB hb; clear hb hg; obtain ⟨zn, qcK⟩ := bc2 tJ; have zo := bf tJ 0; have qcL := bf tJ 1))
    go_ret
    exact ⟨tF, tB⟩
   ·rw [if_neg c7] at H
    have xu : decide (aY ≤ a2) = false := decide_eq_false c7; clear c7; obtain rfl := Option.some.inj H
    go_enter Tryz.func108, Tryz.ntmps108
    go_wp2_with (first | ((with_reducible refine av (N := 4) rfl ?_); refine fA 4 #[.int .i64 bJ, .int .i64 aY] 37 HB ?_; clear HB; intro Vy JV hg tJ Vz HB hb; clear hb hg; obtain ⟨yJ, II⟩ := bc2 tJ; have yK := bf tJ 0; have IJ := bf tJ 1))
    go_ret
    exact ⟨tF, tB⟩
  ·rw [if_neg c6] at H
   have IG : decide (bJ ≤ aY) = false := decide_eq_false c6; clear c6; obtain rfl := Option.some.inj H
   go_enter Tryz.func108, Tryz.ntmps108
   go_wp2_with (first | ((with_reducible refine av (N := 4) rfl ?_); refine fA 4 #[.int .i64 bJ, .int .i64 aY] 37 HB ?_; clear HB; intro Vy y9 hg tJ Vz HB hb; clear hb hg; obtain ⟨wD, Ec⟩ := bc2 tJ; have wE := bf tJ 0; have Ed := bf tJ 1))
   go_ret
   exact ⟨tF, tB⟩
 ·rw [if_neg c5] at H
  have y5 : decide (a1 ≤ bJ) = false := decide_eq_false c5; clear c5; obtain rfl := Option.some.inj H
  go_enter Tryz.func108, Tryz.ntmps108
  go_wp2_with (first | ((with_reducible refine av (N := 4) rfl ?_); refine fA 4 #[.int .i64 bJ, .int .i64 aY] 37 HB ?_; clear HB; intro Vy Uo hg tJ Vz HB hb; clear hb hg; obtain ⟨yL, IK⟩ := bc2 tJ; have yM := bf tJ 0; have IL := bf tJ 1))
  go_ret
  exact ⟨tF, tB⟩
def fM.f (a0 : Int) (a1 : Int) (a2 : Int) : Option Bool := if a0 ≥ a1 then (some (decide (a0 ≤ a2))) else (some false)
theorem fM.calls (a0 : Int) (a1 : Int) (a2 : Int) (r : Bool) (w : World) (h : fM.f a0 a1 a2 = some r) :
  Calls Tryz.prog 109 #[.int .i64 a0, .int .i64 a1, .int .i64 a2] w fun e w' => e = .returned (.bool r) ∧ iw w w' := by
 have H : (if a0 ≥ a1 then (some (decide (a0 ≤ a2))) else (some false)) = some r := h; clear h
 by_cases c4 : a0 ≥ a1
 ·rw [if_pos c4] at H
  have o7 : decide (a1 ≤ a0) = true := decide_eq_true c4; clear c4; obtain rfl := Option.some.inj H
  go_enter Tryz.func109, Tryz.ntmps109
  go_wp2
  go_ret
  exact ⟨tS, tD⟩
 ·rw [if_neg c4] at H
  have o7 : decide (a1 ≤ a0) = false := decide_eq_false c4; clear c4; obtain rfl := Option.some.inj H
  go_enter Tryz.func109, Tryz.ntmps109
  go_wp2
  go_ret
  exact ⟨tS, tD⟩
mutual
def bR.l0 : Nat → Int → List bO → Option Bool
 | 0, _, _ => none
 | k + 1, x3, oC => if x3 < (oC.length : Int) then (bR.l1 k x3 0 oC) else ((fM.f (oC.length : Int) 1 3).bind fun qcP => (some qcP))
def bR.l1 : Nat → Int → Int → List bO → Option Bool
 | 0, _, _, _ => none
 | k + 1, x3, x4, oC => if 0 ≤ x3 then (if x3 < (oC.length : Int) then (if x4 < (((aT oC x3).f0).length : Int) then (if 0 ≤ x4 then ((iB.f ((bM ((aT oC x3).f0) x4).f0) ((bM ((aT oC x3).f0) x4).f1) 0 20 2).bind fun qcQ => (if qcQ = true then (bR.l1 k x3 (wrap64 (x4 + 1)) oC) else (some false))) else (none)) else (if (((aT oC x3).f0).length : Int) = 3 then ((fM.f ((aT oC x3).f1) 0 100).bind fun qcR => (if qcR = true then (bR.l0 k (wrap64 (x3 + 1)) oC) else (some false))) else (some false))) else (none)) else (none)
end
def bR.f (k : Nat) (au : List bO) : Option Bool := bR.l0 k 0 au
theorem bR.calls (k : Nat) (bB : Option Addr) (aZ : Nat) (au : List bO) (r : Bool) (w : World) (dx : Kd.C iM w bB au.length au) (dI : au.length ≤ aZ) (h : bR.f k au = some r) :
  Calls Tryz.prog 30 #[.agg #[.slice bB au.length aZ]] w fun e w' => e = .returned (.bool r) ∧ Below w.heap.size w w' := by
 have o8 := Tryz.underlying24; have kg := Tryz.underlying37; have dJ := aj.mk dx; have eu := aj.mk dI; clear dx dI; have HB := aj.mk (Below.refl w.heap.size w); have H : (bR.l0 k 0 au) = some r := h; clear h; have H' := aj.mk H; clear H
 go_enter Tryz.func30, Tryz.ntmps30
 go_wp2_with (first | ((with_reducible refine av (N := 1) rfl ?_); refine fA 1 #[.slice bB au.length aZ] 24 HB ?_; clear HB; intro qaX w2 hg oU qoG HB hb; clear hb hg))
 go_loopg [3] k (fun kq v3 w' => ∃ (dM : Int), v3 = .int .i64 dM ∧ aj (bR.l0 kq dM au = some r) ∧ aj (kq ≤ k) ∧ aj (w'.heap[qaX]? = some (.cells #[(.slice bB au.length aZ)] 24 (0, 0))) ∧ aj (Below w.heap.size w w'))
 case atStart => exact ⟨(0), tS, H', ⟨Nat.le_refl _⟩, ⟨tK⟩, ⟨tB⟩⟩
 case round =>
  clear H'
  try clear p2
  obtain ⟨dM, rfl, HA, ng, oU, HB⟩ := hrel
  cases gk with
  | zero => exact absurd HA.out (by simp [bR.l0])
  | succ k1 =>
   have H := HA.out; clear HA; simp only [bR.l0] at H
   by_cases c3 : dM < (au.length : Int)
   ·rw [if_pos c3] at H
    have oZ : decide (dM < (au.length : Int)) = true := decide_eq_true c3; clear c3; have H' := aj.mk H; clear H; have zu := bc1 oU; have zw := bf oU 0
    go_wp2
    go_loopg [4] k1 (fun kq v4 w' => ∃ (tL : Int), v4 = .int .i64 tL ∧ aj (bR.l1 kq dM tL au = some r) ∧ aj (kq ≤ k1) ∧ aj (w'.heap[qaX]? = some (.cells #[(.slice bB au.length aZ)] 24 (0, 0))) ∧ aj (Below w.heap.size w w'))
    case atStart => exact ⟨(0), tS, H', ⟨Nat.le_refl _⟩, ⟨tK⟩, ⟨tB⟩⟩
    case round =>
     clear H'
     try clear p2
     try clear c3
     try clear oZ
     try clear zu
     try clear zw
     try clear p2
     obtain ⟨tL, rfl, HA, XY, oU, HB⟩ := hrel
     cases gk with
     | zero => exact absurd HA.out (by simp [bR.l1])
     | succ k2 =>
      have H := HA.out; clear HA; simp only [bR.l1] at H
      by_cases c5 : 0 ≤ dM
      ·rw [if_pos c5] at H
       have y5 : decide (0 ≤ dM) = true := decide_eq_true c5; clear c5
       by_cases c6 : dM < (au.length : Int)
       ·rw [if_pos c6] at H
        have IG : decide (dM < (au.length : Int)) = true := decide_eq_true c6; clear c6
        by_cases c7 : tL < (((aT au dM).f0).length : Int)
        ·rw [if_pos c7] at H
         have xu : decide (tL < (((aT au dM).f0).length : Int)) = true := decide_eq_true c7; clear c7
         by_cases c8 : 0 ≤ tL
         ·rw [if_pos c8] at H
          have E8 : decide (0 ≤ tL) = true := decide_eq_true c8; clear c8; obtain ⟨qcQ, A9, H⟩ := lV H
          by_cases c10 : qcQ = true
          ·subst c10
           rw [if_pos rfl] at H; have H' := aj.mk H; clear H; have yJ := bc1 oU; have yK := bf oU 0; have wI : 0 ≤ (dM : Int) := of_decide_eq_true tA; have wJ : dM < (au.length : Int) := of_decide_eq_true tA; obtain ⟨xI, Jb, Jc, Jd, jk, mM, mO, mP⟩ := iZ dJ.out dM wI wJ
           cases Jd
           replace jk := dz HB jk; replace mM := dz HB mM; have Eh := aj.mk mP; have Ei := aj.mk mO; clear mP mO; replace wI := eq_true wI; replace wJ := eq_true wJ; have NK : 0 ≤ (dM : Int) := of_decide_eq_true tA; have NM : dM < (au.length : Int) := of_decide_eq_true tA; obtain ⟨VA, qcS, qcT, qcU, wK, Am, Ap, Au⟩ := iZ dJ.out dM NK NM; obtain rfl : xI = VA := (by injection qcU); replace wK := dz HB wK; replace Am := dz HB Am; have Je := aj.mk Au; have Y9 := aj.mk Ap; clear Au Ap; replace NK := eq_true NK; replace NM := eq_true NM; have Cg := Option.some.inj (jk.symm.trans wK)
           injection Cg with Cg Tg Ti
           subst Cg; subst Ti; clear Tg; have NN : 0 ≤ (tL : Int) := of_decide_eq_true tA; have NP : tL < (((aT au dM).f0).length : Int) := of_decide_eq_true tA; obtain ⟨qfG, qcV, Az, AA⟩ := mD Je.out tL NN NP
           cases qcV
           replace Az := dz HB Az; replace AA := dz HB AA; replace NN := eq_true NN; replace NP := eq_true NP
           go_wp2_with (first | ((with_reducible refine aD (f := 108) rfl ?_); refine bW (some 32) rfl rfl Tryz.func108 tX rfl #[.agg #[.int .i64 ((bM ((aT au dM).f0) tL).f0), .int .i64 ((bM ((aT au dM).f0) tL).f1)], .int .i64 0, .int .i64 20, .int .i64 2] rfl tM ?_; (with_reducible refine (iB.calls ((bM ((aT au dM).f0) tL).f0) ((bM ((aT au dM).f0) tL).f1) 0 20 2 true _ A9.out).mono ?_); rintro e y9 ⟨rfl, hb⟩; refine ⟨_, rfl, ?_⟩; replace oU := bV oU hb; replace HB := dL HB hb; (try clear hb)))
           go_roundg k2
           case measure => have := ng.out; have := XY.out; omega
           case rel => exact ⟨(wrap64 (tL + 1)), tS, H', ⟨by have := ng.out; have := XY.out; omega⟩, ⟨tK⟩, ⟨tB⟩⟩
          ·replace c10 := Bool.eq_false_iff.mpr c10
           subst c10
           have H1 : (some false) = some r := by rw [if_neg (show ¬ (false = true) by decide)] at H; exact H
           clear H; have H := H1; clear H1; obtain rfl := Option.some.inj H; have wD := bc1 oU; have wE := bf oU 0; have wI : 0 ≤ (dM : Int) := of_decide_eq_true tA; have wJ : dM < (au.length : Int) := of_decide_eq_true tA; obtain ⟨xI, Jb, Jc, Jd, jk, mM, mO, mP⟩ := iZ dJ.out dM wI wJ
           cases Jd
           replace jk := dz HB jk; replace mM := dz HB mM; have Eh := aj.mk mP; have Ei := aj.mk mO; clear mP mO; replace wI := eq_true wI; replace wJ := eq_true wJ; have NK : 0 ≤ (dM : Int) := of_decide_eq_true tA; have NM : dM < (au.length : Int) := of_decide_eq_true tA; obtain ⟨VA, qcS, qcT, qcU, wK, Am, Ap, Au⟩ := iZ dJ.out dM NK NM; obtain rfl : xI = VA := (by injection qcU); replace wK := dz HB wK; replace Am := dz HB Am; have Je := aj.mk Au; have Y9 := aj.mk Ap; clear Au Ap; replace NK := eq_true NK; replace NM := eq_true NM; have Cg := Option.some.inj (jk.symm.trans wK)
           injection Cg with Cg Tg Ti
           subst Cg; subst Ti; clear Tg; have NN : 0 ≤ (tL : Int) := of_decide_eq_true tA; have NP : tL < (((aT au dM).f0).length : Int) := of_decide_eq_true tA; obtain ⟨qfG, qcV, Az, AA⟩ := mD Je.out tL NN NP
           cases qcV
           replace Az := dz HB Az; replace AA := dz HB AA; replace NN := eq_true NN; replace NP := eq_true NP
           go_wp2_with (first | ((with_reducible refine aD (f := 108) rfl ?_); refine bW (some 32) rfl rfl Tryz.func108 tX rfl #[.agg #[.int .i64 ((bM ((aT au dM).f0) tL).f0), .int .i64 ((bM ((aT au dM).f0) tL).f1)], .int .i64 0, .int .i64 20, .int .i64 2] rfl tM ?_; (with_reducible refine (iB.calls ((bM ((aT au dM).f0) tL).f0) ((bM ((aT au dM).f0) tL).f1) 0 20 2 false _ A9.out).mono ?_); rintro e Uo ⟨rfl, hb⟩; refine ⟨_, rfl, ?_⟩; replace oU := bV oU hb; replace HB := dL HB hb; (try clear hb)))
           go_ret
           exact ⟨tF, tB⟩
         ·rw [if_neg c8] at H
          exact absurd H (by simp)
        ·rw [if_neg c7] at H
         have xu : decide (tL < (((aT au dM).f0).length : Int)) = false := decide_eq_false c7; clear c7
         by_cases c15 : (((aT au dM).f0).length : Int) = 3
         ·rw [if_pos c15] at H
          have qfH : ((((aT au dM).f0).length : Int) == 3) = true := beq_iff_eq.mpr c15; have qfI : ((((aT au dM).f0).length : Int) != 3) = false := bne_eq_false_iff_eq.mpr c15; clear c15; obtain ⟨qcR, A16, H⟩ := lV H
          by_cases c17 : qcR = true
          ·subst c17
           rw [if_pos rfl] at H; have H' := aj.mk H; clear H; have QC := bc1 oU; have QD := bf oU 0; have wI : 0 ≤ (dM : Int) := of_decide_eq_true tA; have wJ : dM < (au.length : Int) := of_decide_eq_true tA; obtain ⟨xI, Jb, Jc, Jd, jk, mM, mO, mP⟩ := iZ dJ.out dM wI wJ
           cases Jd
           replace jk := dz HB jk; replace mM := dz HB mM; have Eh := aj.mk mP; have Ei := aj.mk mO; clear mP mO; replace wI := eq_true wI; replace wJ := eq_true wJ; have FB : 0 ≤ (dM : Int) := of_decide_eq_true tA; have FC : dM < (au.length : Int) := of_decide_eq_true tA; obtain ⟨KL, VB, VD, VE, pX, uD, uE, uF⟩ := iZ dJ.out dM FB FC; obtain rfl : xI = KL := (by injection VE); replace pX := dz HB pX; replace uD := dz HB uD; have QE := aj.mk uF; have QF := aj.mk uE; clear uF uE; replace FB := eq_true FB; replace FC := eq_true FC; have Cg := Option.some.inj (jk.symm.trans pX)
           injection Cg with Cg Tg Ti
           subst Cg; subst Ti; clear Tg; have NQ : 0 ≤ (dM : Int) := of_decide_eq_true tA; have NS : dM < (au.length : Int) := of_decide_eq_true tA; obtain ⟨VF, qcW, qcX, qcY, wL, AB, AJ, AL⟩ := iZ dJ.out dM NQ NS; obtain rfl : xI = VF := (by injection qcY); replace wL := dz HB wL; replace AB := dz HB AB; have Za := aj.mk AL; have Zb := aj.mk AJ; clear AL AJ; replace NQ := eq_true NQ; replace NS := eq_true NS; have Cg := Option.some.inj (jk.symm.trans wL)
           injection Cg with Cg Tg Ti
           subst Cg; subst Ti; clear Tg
           go_wp2_with (first | (go_at_call 109; (with_reducible refine (fM.calls ((aT au dM).f1) 0 100 true _ A16.out).mono ?_); rintro e w' ⟨rfl, ⟨nd, rfl⟩⟩))
           go_roundg k2
           case measure => have := ng.out; have := XY.out; omega
           case rel => exact ⟨(wrap64 (dM + 1)), tS, H', ⟨by have := ng.out; have := XY.out; omega⟩, ⟨tK⟩, ⟨tB⟩⟩
          ·replace c17 := Bool.eq_false_iff.mpr c17
           subst c17
           have H1 : (some false) = some r := by rw [if_neg (show ¬ (false = true) by decide)] at H; exact H
           clear H; have H := H1; clear H1; obtain rfl := Option.some.inj H; have Qy := bc1 oU; have Qz := bf oU 0; have wI : 0 ≤ (dM : Int) := of_decide_eq_true tA; have wJ : dM < (au.length : Int) := of_decide_eq_true tA; obtain ⟨xI, Jb, Jc, Jd, jk, mM, mO, mP⟩ := iZ dJ.out dM wI wJ
           cases Jd
           replace jk := dz HB jk; replace mM := dz HB mM; have Eh := aj.mk mP; have Ei := aj.mk mO; clear mP mO; replace wI := eq_true wI; replace wJ := eq_true wJ; have FB : 0 ≤ (dM : Int) := of_decide_eq_true tA; have FC : dM < (au.length : Int) := of_decide_eq_true tA; obtain ⟨KL, VB, VD, VE, pX, uD, uE, uF⟩ := iZ dJ.out dM FB FC; obtain rfl : xI = KL := (by injection VE); replace pX := dz HB pX; replace uD := dz HB uD; have QE := aj.mk uF; have QF := aj.mk uE; clear uF uE; replace FB := eq_true FB; replace FC := eq_true FC; have Cg := Option.some.inj (jk.symm.trans pX)
           injection Cg with Cg Tg Ti
           subst Cg; subst Ti; clear Tg; have NQ : 0 ≤ (dM : Int) := of_decide_eq_true tA; have NS : dM < (au.length : Int) := of_decide_eq_true tA; obtain ⟨VF, qcW, qcX, qcY, wL, AB, AJ, AL⟩ := iZ dJ.out dM NQ NS; obtain rfl : xI = VF := (by injection qcY); replace wL := dz HB wL; replace AB := dz HB AB; have Za := aj.mk AL; have Zb := aj.mk AJ; clear AL AJ; replace NQ := eq_true NQ; replace NS := eq_true NS; have Cg := Option.some.inj (jk.symm.trans wL)
           injection Cg with Cg Tg Ti
           subst Cg; subst Ti; clear Tg
           go_wp2_with (first | (go_at_call 109; (with_reducible refine (fM.calls ((aT au dM).f1) 0 100 false _ A16.out).mono ?_); rintro e w' ⟨rfl, ⟨nd, rfl⟩⟩))
           go_ret
           exact ⟨tF, tB⟩
         ·rw [if_neg c15] at H
          have qfH : ((((aT au dM).f0).length : Int) == 3) = false := beq_eq_false_iff_ne.mpr c15; have qfI : ((((aT au dM).f0).length : Int) != 3) = true := bne_iff_ne.mpr c15; obtain rfl := Option.some.inj H; have Qw := bc1 oU; have Qx := bf oU 0; have wI : 0 ≤ (dM : Int) := of_decide_eq_true tA; have wJ : dM < (au.length : Int) := of_decide_eq_true tA; obtain ⟨xI, Jb, Jc, Jd, jk, mM, mO, mP⟩ := iZ dJ.out dM wI wJ
          cases Jd
          replace jk := dz HB jk; replace mM := dz HB mM; have Eh := aj.mk mP; have Ei := aj.mk mO; clear mP mO; replace wI := eq_true wI; replace wJ := eq_true wJ; have FB : 0 ≤ (dM : Int) := of_decide_eq_true tA; have FC : dM < (au.length : Int) := of_decide_eq_true tA; obtain ⟨KL, VB, VD, VE, pX, uD, uE, uF⟩ := iZ dJ.out dM FB FC; obtain rfl : xI = KL := (by injection VE); replace pX := dz HB pX; replace uD := dz HB uD; have QE := aj.mk uF; have QF := aj.mk uE; clear uF uE; replace FB := eq_true FB; replace FC := eq_true FC; have Cg := Option.some.inj (jk.symm.trans pX)
          injection Cg with Cg Tg Ti
          subst Cg; subst Ti; clear Tg
          go_wp2
          go_ret
          exact ⟨tF, tB⟩
       ·rw [if_neg c6] at H
        exact absurd H (by simp)
      ·rw [if_neg c5] at H
       exact absurd H (by simp)
   ·rw [if_neg c3] at H
    have oZ : decide (dM < (au.length : Int)) = false := decide_eq_false c3; clear c3; obtain ⟨qcP, A21, H⟩ := lV H; obtain rfl := Option.some.inj H; have YN := bc1 oU; have YO := bf oU 0
    go_wp2_with (first | ((with_reducible refine aD (f := 109) rfl ?_); refine bW (some 55) rfl rfl Tryz.func109 tX rfl #[.int .i64 (au.length : Int), .int .i64 1, .int .i64 3] rfl tM ?_; (with_reducible refine (fM.calls (au.length : Int) 1 3 qcP _ A21.out).mono ?_); rintro e w' ⟨rfl, ⟨nd, rfl⟩⟩; refine ⟨_, rfl, ?_⟩))
    go_ret
    exact ⟨tF, tB⟩
def iR.f (au : List bO) (a1 : Int) : Option Bool := (fM.f a1 0 (wrap64 ((au.length : Int) - 1))).bind fun VG => (some VG)
theorem iR.calls (bB : Option Addr) (aZ : Nat) (au : List bO) (a1 : Int) (r : Bool) (w : World) (dx : Kd.C iM w bB au.length au) (dI : au.length ≤ aZ) (h : iR.f au a1 = some r) :
  Calls Tryz.prog 42 #[.agg #[.slice bB au.length aZ], .int .i64 a1] w fun e w' => e = .returned (.bool r) ∧ Below w.heap.size w w' := by
 have o8 := Tryz.underlying24; have dJ := aj.mk dx; have eu := aj.mk dI; clear dx dI; have HB := aj.mk (Below.refl w.heap.size w); have H : ((fM.f a1 0 (wrap64 ((au.length : Int) - 1))).bind fun VG => (some VG)) = some r := h; clear h; obtain ⟨VG, A3, H⟩ := lV H; obtain rfl := Option.some.inj H
 go_enter Tryz.func42, Tryz.ntmps42
 go_wp2_with (first | ((with_reducible refine av (N := 2) rfl ?_); refine fA 2 #[.slice bB au.length aZ] 24 HB ?_; clear HB; intro qoI w4 hg qaY qoJ HB hb; clear hb hg; have Ch := bc1 qaY; have Ci := bf qaY 0) | ((with_reducible refine aD (f := 109) rfl ?_); refine bW (some 10) rfl rfl Tryz.func109 tX rfl #[.int .i64 a1, .int .i64 0, .int .i64 (wrap64 ((au.length : Int) - 1))] rfl tM ?_; (with_reducible refine (fM.calls a1 0 (wrap64 ((au.length : Int) - 1)) VG _ A3.out).mono ?_); rintro e w' ⟨rfl, ⟨nd, rfl⟩⟩; refine ⟨_, rfl, ?_⟩))
 go_ret
 exact ⟨tF, tB⟩
def iG.f (a0 : Int) : Option Bool := (fM.f a0 0 2).bind fun VH => (some VH)
theorem iG.calls (a0 : Int) (r : Bool) (w : World) (h : iG.f a0 = some r) :
  Calls Tryz.prog 43 #[.int .i64 a0] w fun e w' => e = .returned (.bool r) ∧ iw w w' := by
 have H : ((fM.f a0 0 2).bind fun VH => (some VH)) = some r := h; clear h; obtain ⟨VH, A2, H⟩ := lV H; obtain rfl := Option.some.inj H
 go_enter Tryz.func43, Tryz.ntmps43
 go_wp2_with (first | ((with_reducible refine aD (f := 109) rfl ?_); refine bW (some 4) rfl rfl Tryz.func109 tX rfl #[.int .i64 a0, .int .i64 0, .int .i64 2] rfl tM ?_; (with_reducible refine (fM.calls a0 0 2 VH _ A2.out).mono ?_); rintro e w' ⟨rfl, ⟨nd, rfl⟩⟩; refine ⟨_, rfl, ?_⟩))
 go_ret
 exact ⟨tS, tD⟩
end Go.Proofs.YtnpfbjnjdngkhaaGreatDoor.P
