import Derived.Shelf.Abstract
import Derived.Maps.Own
import Derived.Maps.OwnSet
import Derived.Maps.Views
import Derived.Maps.Range
import Derived.Maps.RangeWalk
import Derived.RangeFuncNested
import Derived.RangeFuncBound
import Derived.RangeFuncCalls
import Derived.RangeFuncLeaves
import Derived.Shelf.RegionOpen
import Derived.WalkKit
import Derived.OwnWalkIn
import Derived.TacticsInMore
import Derived.LoopNIn
import Derived.LoopIn
import Derived.Lib.SliceRun
import Derived.WalkSpells
import Derived.Test.YtnpfbjnjdngkhaaGreatDoorC0
set_option maxHeartbeats 8000000
set_option maxRecDepth 100000
set_option linter.unusedVariables false
set_option linter.unusedSimpArgs false
namespace Go.Proofs.YtnpfbjnjdngkhaaGreatDoor.P
open Go.RowKit Go.Proofs.YtnpfbjnjdngkhaaGreatDoorW.aW Go.Proofs.YtnpfbjnjdngkhaaGreatDoorW.bZ Go.Proofs.YtnpfbjnjdngkhaaGreatDoorW.dh
theorem tB {p : Prop} (h : p := by repeat (first | (with_reducible first | exact HB.out | apply fU | apply kV | apply iV | refine SH ?_ (aj.out (by assumption))) | exact HB.out)) : p := h
theorem tK {p : Prop} (h : p := by (with_reducible repeat (first | refine aM ?_ _ | refine aN ?_ | refine aJ ?_ _)); exact aj.out (by assumption)) : p := h
theorem tR {p : Prop} (h : p := by (with_reducible repeat (first | apply Kd.ku | apply Kd.kC | apply Kd.j5)); exact aj.out (by assumption)) : p := h
theorem tM {p : Prop} (h : p := by (try simp only [List.map_toArray, List.map_cons, List.map_nil]); first | done | rfl | (simp only [List.length_drop, List.length_take]; rfl)) : p := h
theorem tA {p : Prop} (h : p := by first | (with_reducible assumption) | assumption) : p := h
theorem tG {p : Prop} (h : p := by first | (go_simp; done) | (go_simp; rfl)) : p := h
theorem tF {p : Prop} (h : p := by first | rfl | (simp [lq, lu] <;> rfl) | (simp [*, lq, lu] <;> rfl)) : p := h
theorem tS {p : Prop} (h : p := by first | rfl | (simp; done) | (simp [*]; done)) : p := h
theorem tD {p : Prop} (h : p := by repeat (first | exact iw.refl _ | apply iw.step)) : p := h
theorem tX {p : Prop} (h : p := by kernel_rfl) : p := h
section
variable {w W W0 w1 : World} {g : Nat} {o : Obj}
theorem dL (HB : aj (Below w.heap.size w W)) (hb : Below W0.heap.size W0 w1) (h : Below w.heap.size w W0 := by exact tB) : aj (Below w.heap.size w w1) := ⟨aV h hb⟩
theorem bV (K : aj (W.heap[g]? = some o)) (hb : Below W0.heap.size W0 w1) (h : W0.heap[g]? = some o := by exact tK) : aj (w1.heap[g]? = some o) := ⟨aG h hb⟩
theorem cS {α : Type} {d : Kd α} {A : Option Addr} {n : Nat} {xs : List α} (H : aj (d.C w A n xs)) (h : Below w.heap.size w w1 := by exact tB) : d.C w1 A n xs := Kd.ak H.out h
theorem bf {cs : Array Value} {t : TypeId} (K : aj (W.heap[g]? = some (.cells cs t (0, 0)))) (i : Nat) : W.frozen? ⟨g, i, none⟩ = false := qm K.out i
theorem bc1 {t : TypeId} {a : Value} (h : aj (W.heap[g]? = some (.cells #[a] t (0, 0)))) : W.cell? ⟨g, 0, none⟩ = some a := (aI h.out 0).trans rfl
theorem bc2 {t : TypeId} {a b : Value} (h : aj (W.heap[g]? = some (.cells #[a, b] t (0, 0)))) : W.cell? ⟨g, 0, none⟩ = some a ∧ W.cell? ⟨g, 1, none⟩ = some b := ⟨(aI h.out 0).trans rfl, (aI h.out 1).trans rfl⟩
theorem bc3 {t : TypeId} {a b c : Value} (h : aj (W.heap[g]? = some (.cells #[a, b, c] t (0, 0)))) : W.cell? ⟨g, 0, none⟩ = some a ∧ W.cell? ⟨g, 1, none⟩ = some b ∧ W.cell? ⟨g, 2, none⟩ = some c := ⟨(aI h.out 0).trans rfl, (aI h.out 1).trans rfl, (aI h.out 2).trans rfl⟩
theorem Ga {t : TypeId} {a b c d : Value} (h : aj (W.heap[g]? = some (.cells #[a, b, c, d] t (0, 0)))) : W.cell? ⟨g, 0, none⟩ = some a ∧ W.cell? ⟨g, 1, none⟩ = some b ∧ W.cell? ⟨g, 2, none⟩ = some c ∧ W.cell? ⟨g, 3, none⟩ = some d := ⟨(aI h.out 0).trans rfl, (aI h.out 1).trans rfl, (aI h.out 2).trans rfl, (aI h.out 3).trans rfl⟩
theorem Np {t : TypeId} {a b c d e : Value} (h : aj (W.heap[g]? = some (.cells #[a, b, c, d, e] t (0, 0)))) : W.cell? ⟨g, 0, none⟩ = some a ∧ W.cell? ⟨g, 1, none⟩ = some b ∧ W.cell? ⟨g, 2, none⟩ = some c ∧ W.cell? ⟨g, 3, none⟩ = some d ∧ W.cell? ⟨g, 4, none⟩ = some e := ⟨(aI h.out 0).trans rfl, (aI h.out 1).trans rfl, (aI h.out 2).trans rfl, (aI h.out 3).trans rfl, (aI h.out 4).trans rfl⟩
theorem dz {a : Addr} {v : Value} (HB : aj (Below w.heap.size w W)) (h : w.cell? a = some v) : W.cell? a = some v := (HB.out.cell (World.block_lt_of_cell? w _ h)).trans h
theorem kH {α : Type} {d : Kd α} {e base : Nat} {ok : Nat → Prop} {v : Value} {xs : List α} (H : aj (d.R e W base ok v xs)) (hb : Below W0.heap.size W0 w1) (h : d.R e W0 base ok v xs := by exact tR) : aj (d.R e w1 base ok v xs) := ⟨Kd.jy h hb⟩
theorem ltS (K : aj (W.heap[g]? = some o)) {k : Nat} (hg : k = W0.heap.size) (h : W0.heap[g]? = some o := by exact tK) : g < k := by rw [hg]; exact cZ h
theorem Gb (K : aj (W.heap[g]? = some o)) {k : Nat} (hg : k = W0.heap.size) (h : W0.heap[g]? = some o := by exact tK) : aj (g ≠ k) := ⟨Nat.ne_of_lt (ltS K hg h)⟩
theorem Gc (K : aj (W.heap[g]? = some o)) {k : Nat} (hg : k = W0.heap.size) (h : W0.heap[g]? = some o := by exact tK) : aj (k ≠ g) := ⟨Nat.ne_of_gt (ltS K hg h)⟩
end
section
variable {P : Program} {ops : Array Oper} {rest : List Oper} {o : Oper} {a : Act} {Q : Exit → Act → World → Prop} {w W W1 : World}
theorem fA (N : Tmp) (cs : Array Value) (t : TypeId) (HB : aj (Below w.heap.size w W1))
  (h : ∀ g w1, g = W.heap.size → aj (w1.heap[g]? = some (.cells cs t (0, 0))) → aj (w.heap.size ≤ g) → aj (Below w.heap.size w w1) → Below W.heap.size W w1 → wpList P ops Q rest (a.put o.dst (.pointer (some ⟨g, 0, none⟩))) w1)
  (hgd : o.guard = none := by rfl) (hd : o.dst = some N := by rfl) (hrun : (execOp a.eval o).run P W = .ok (.value (.pointer (some ⟨W.heap.size, 0, none⟩))) (W.alloc (.cells cs t (0, 0))) := by exact tG) (hW : Below w.heap.size w W := by exact tB) : wpList P ops Q (o :: rest) a W :=
 oK hgd hd hrun fun g hg w1 kI hb => h g w1 hg ⟨kI⟩ ⟨by rw [hg]; exact aX hW⟩ ⟨aV hW hb⟩ hb
end
def bA (n m : Nat) : Array Bool := ((List.range n).map fun i => m.testBit i).toArray
theorem lV {α β : Type} {x : Option α} {f : α → Option β} {r : β} (h : x.bind f = some r) : ∃ a, aj (x = some a) ∧ f a = some r := by
 obtain ⟨a, h1, h2⟩ := Option.bind_eq_some_iff.mp h; exact ⟨a, ⟨h1⟩, h2⟩
theorem bs {α β : Type} {x : Option α} {f : α → Option β} {r : β} (h : x.bind f = some r) : ∃ a, x = some a ∧ f a = some r := Option.bind_eq_some_iff.mp h
theorem sL {α : Type} : (∀ (l : List α) (i : Nat) (x : α), l.toArray.setIfInBounds i x = (l.set i x).toArray) ∧ (∀ (a : α) (l : List α) (b : α), (a :: l).set 0 b = b :: l) ∧ (∀ (a : α) (l : List α) (n : Nat) (b : α), (a :: l).set (n + 1) b = a :: l.set n b) := ⟨fun _ _ _ => List.setIfInBounds_toArray .., fun _ _ _ => rfl, fun _ _ _ _ => rfl⟩
end Go.Proofs.YtnpfbjnjdngkhaaGreatDoor.P
namespace Go.Proofs.YtnpfbjnjdngkhaaGreatDoor.P
open Go.RowKit Go.Proofs.YtnpfbjnjdngkhaaGreatDoorW.aW Go.Proofs.YtnpfbjnjdngkhaaGreatDoorW.bZ Go.Proofs.YtnpfbjnjdngkhaaGreatDoorW.dh
attribute [local go_sem] fE fF gU gV eX eY fG fH
def oH {α : Type} (p : α → Bool) (l : List α) : Int := match l.findIdx? p with | some i => (i : Int) | none => -1
structure PredAt {α : Type} (d : Kd α) (F : Nat) (cap : Array Value) (V : List Value → Value) (p : α → Bool) (w : World) (x : α) : Prop where
 out : ∀ (W : World) (cs : List Value), Below w.heap.size w W → d.K W x cs → Calls Tryz.prog F (#[V cs] ++ cap) W fun e W' => e = .returned (.bool (p x)) ∧ Below W.heap.size W W'
theorem vE {α : Type} (p : α → Bool) (l : List α) (k : Nat) (h : k < l.length) (hn : ∀ i (hi : i < l.length), i < k → p (l[i]'hi) = false) (hp : p (l[k]'h) = true) : oH p l = (k : Int) := by
 have : l.findIdx? p = some k := by
  rw [List.findIdx?_eq_some_iff_getElem]; exact ⟨h, hp, fun j hj => by simpa using hn j (by omega) hj⟩
 simp [oH, this]
theorem su {α : Type} (p : α → Bool) (l : List α) (hn : ∀ i (hi : i < l.length), p (l[i]'hi) = false) : oH p l = -1 := by
 have : l.findIdx? p = none := by
  rw [List.findIdx?_eq_none_iff]; intro x hx; obtain ⟨i, hi, rfl⟩ := List.mem_iff_getElem.1 hx; exact hn i hi
 simp [oH, this]
theorem yE {α : Type} (p : α → Bool) (l : List α) : decide (0 ≤ oH p l) = l.any p := by
 unfold oH
 cases h : l.findIdx? p with
 | some i =>
  rw [List.findIdx?_eq_some_iff_getElem] at h; obtain ⟨hi, hp, _⟩ := h; rw [List.any_eq_true.2 ⟨_, List.getElem_mem hi, hp⟩]; simp
 | none =>
  rw [List.findIdx?_eq_none_iff] at h; rw [List.any_eq_false.2 (fun x hx => by simpa using h x hx)]; simp
theorem zk {α : Type} (p : α → Bool) (l : List α) : -1 ≤ oH p l ∧ oH p l ≤ l.length := by
 unfold oH
 cases h : l.findIdx? p with
 | some i =>
  rw [List.findIdx?_eq_some_iff_getElem] at h; obtain ⟨hi, _⟩ := h; simp only []; omega
 | none => simp only []; omega
theorem ow {a b : Int} (h : a = b) : Ending.returned (.int .i64 a) = .returned (.int .i64 b) := by rw [h]
theorem nW {a b : Bool} (h : a = b) : Ending.returned (.bool a) = .returned (.bool b) := by rw [h]
theorem getD_at {α : Type} (l : List α) (z : α) (k : Int) (h0 : 0 ≤ k) (h : k < l.length) : l.getD k.toNat z ∈ l ∧ l.getD k.toNat z = l[k.toNat]'(by omega) := by
 rw [List.getD_eq_getElem?_getD, List.getElem?_eq_getElem (by omega)]; exact ⟨List.getElem_mem _, rfl⟩
def Dv {α : Type} (p : α → Option Bool) (l : List α) : Option Bool := if l.all (fun x => (p x).isSome) then some (l.any fun x => p x == some true) else none
theorem qw {α : Type} {p : α → Option Bool} {l : List α} {r : Bool} (h : Dv p l = some r) : (∀ x ∈ l, p x = some (p x == some true)) ∧ r = l.any fun x => p x == some true := by
 unfold Dv at h
 split at h
 ·rename_i hs
  refine ⟨fun x hx => ?_, by simpa using h.symm⟩; have := List.all_eq_true.1 hs x hx
  cases hp : p x with
  | none => rw [hp] at this; simp at this
  | some b => cases b <;> simp
 ·simp at h
theorem yF {α : Type} {p : α → Option Bool} {q : α → Bool} {l : List α} (h : ∀ x ∈ l, p x = some (q x)) : Dv p l = some (l.any q) := by
 unfold Dv
 rw [if_pos (List.all_eq_true.2 fun x hx => by rw [h x hx]; rfl)]
 congr 1
 rw [Bool.eq_iff_iff, List.any_eq_true, List.any_eq_true]
 constructor
 ·rintro ⟨x, hx, hp⟩; rw [h x hx] at hp; exact ⟨x, hx, by simpa using hp⟩
 ·rintro ⟨x, hx, hp⟩; exact ⟨x, hx, by rw [h x hx, hp]; rfl⟩
theorem qcl (p : bO → Bool) (F : Nat) (cap : Array Value) (A : Option Addr) (c : Nat) (l : List bO) (w : World) (hr : Kd.C iM w A l.length l)
  (he : ∀ args w, (callFunc F args).run Tryz.prog w = .ok (.enter F args) w) (hp : ∀ x ∈ l, PredAt iM F cap (fun cs => .agg cs.toArray) p w x) :
  Calls Tryz.prog 206 #[.slice A l.length c, .func (.func F) #[] cap] w fun e w' => e = .returned (.int .i64 (oH p l)) ∧ Below w.heap.size w w' := by
 have hm : l.length ≤ 9223372036854775807 := hr.2.1; have HR := aj.mk hr; have HP := aj.mk hp; clear hr hp
 go_enter Tryz.func206, Tryz.ntmps206
 go_wp2_with fail
 go_loopw [5, 8] (fun _ i W => ∃ k : Int, 0 ≤ k ∧ k ≤ l.length ∧ i = .int .i64 k ∧ aj (∀ i (hi : i < l.length), (i : Int) < k → p (l[i]'hi) = false) ∧ aj (Below w.heap.size w W)) (fun _ i _ => l.length - (intOf i).toNat)
 case atStart => exact ⟨0, by omega, by omega, rfl, ⟨fun i hi h => absurd h (by omega)⟩, ⟨Below.refl _ _⟩⟩
 case round =>
  obtain ⟨k, hk0, hk, rfl, hn, HB⟩ := hrel
  by_cases hlt : k < l.length
  ·obtain ⟨ad, A0, c0, rfl, hx0, hx1, l0, g0⟩ := iZ HR.out k hk0 hlt
   replace hx0 := dz HB hx0; replace hx1 := dz HB hx1; have hu := Tryz.underlying102; have HM := aj.mk (show aT l k ∈ l ∧ aT l k = l[k.toNat]'(by omega) from getD_at l _ k hk0 hlt); have HK := aj.mk (PS wr (aT l k) l0 (Kd.ak g0 HB.out))
   go_wp2_with fail
   have hb0 := HB.out; refine ((HP.out _ HM.out.1).out wr _ hb0 HK.out).mono ?_; rintro e w2 ⟨rfl, hb⟩; have HB2 := aj.mk (hb0.trans (hb.mono hb0.size)); clear hb hb0 hx0 hx1 HK
   cases hpx : p (aT l k) with
   | true =>
    have HX := aj.mk hpx; clear hpx
    go_wp2_with fail
    go_ret
    exact ⟨ow (by rw [vE p l k.toNat (by omega) (fun i hi h => hn.out i hi (by omega)) (by rw [← HM.out.2]; exact HX.out)]; omega), HB2.out⟩
   | false =>
    have HX := aj.mk hpx; clear hpx
    go_wp2_with fail
    go_roundw
    case rel => exact ⟨k + 1, by omega, by omega, by go_num, ⟨fun i hi h => by
     by_cases e : (i : Int) < k
     ·exact hn.out i hi e
     ·obtain rfl : i = k.toNat := by omega
      rw [← HM.out.2]; exact HX.out⟩, HB2⟩
    case measure => simp [intOf]; omega
  ·have hg : ¬ k < l.length := hlt
   go_wp2_with fail
   go_ret
   exact ⟨ow (su p l (fun i hi => hn.out i hi (by omega))).symm, HB.out⟩
theorem qeX (p : bO → Bool) (F : Nat) (cap : Array Value) (A : Option Addr) (c : Nat) (l : List bO) (w : World) (hr : Kd.C iM w A l.length l)
  (he : ∀ args w, (callFunc F args).run Tryz.prog w = .ok (.enter F args) w) (hp : ∀ x ∈ l, PredAt iM F cap (fun cs => .agg cs.toArray) p w x) :
  Calls Tryz.prog 163 #[.slice A l.length c, .func (.func F) #[] cap] w fun e w' => e = .returned (.bool (l.any p)) ∧ Below w.heap.size w w' := by
 have HC := aj.mk (qcl p F cap A c l w hr he hp); have HG := aj.mk (yE p l); clear hr hp he
 go_enter Tryz.func163, Tryz.ntmps163
 go_wp2_with (go_at_call 206; refine HC.out.mono ?_; rintro e w2 ⟨rfl, hb⟩; have HB := aj.mk hb; clear hb)
 go_ret
 exact ⟨nW (by rw [← HG.out]), HB.out⟩
theorem qeY (p : bT → Bool) (F : Nat) (cap : Array Value) (A : Option Addr) (c : Nat) (l : List bT) (w : World) (hr : Kd.C j3 w A l.length l)
  (he : ∀ args w, (callFunc F args).run Tryz.prog w = .ok (.enter F args) w) (hp : ∀ x ∈ l, PredAt j3 F cap (fun cs => .agg cs.toArray) p w x) :
  Calls Tryz.prog 207 #[.slice A l.length c, .func (.func F) #[] cap] w fun e w' => e = .returned (.int .i64 (oH p l)) ∧ Below w.heap.size w w' := by
 have hm : l.length ≤ 9223372036854775807 := hr.2.1; have HR := aj.mk hr; have HP := aj.mk hp; clear hr hp
 go_enter Tryz.func207, Tryz.ntmps207
 go_wp2_with fail
 go_loopw [5, 8] (fun _ i W => ∃ k : Int, 0 ≤ k ∧ k ≤ l.length ∧ i = .int .i64 k ∧ aj (∀ i (hi : i < l.length), (i : Int) < k → p (l[i]'hi) = false) ∧ aj (Below w.heap.size w W)) (fun _ i _ => l.length - (intOf i).toNat)
 case atStart => exact ⟨0, by omega, by omega, rfl, ⟨fun i hi h => absurd h (by omega)⟩, ⟨Below.refl _ _⟩⟩
 case round =>
  obtain ⟨k, hk0, hk, rfl, hn, HB⟩ := hrel
  by_cases hlt : k < l.length
  ·obtain ⟨ad, rfl, hx0, hx1⟩ := mD HR.out k hk0 hlt
   replace hx0 := dz HB hx0; replace hx1 := dz HB hx1; have hu := Tryz.underlying37; have HM := aj.mk (show bM l k ∈ l ∧ bM l k = l[k.toNat]'(by omega) from getD_at l _ k hk0 hlt); have HK := aj.mk (Nh wr (bM l k))
   go_wp2_with fail
   have hb0 := HB.out; refine ((HP.out _ HM.out.1).out wr _ hb0 HK.out).mono ?_; rintro e w2 ⟨rfl, hb⟩; have HB2 := aj.mk (hb0.trans (hb.mono hb0.size)); clear hb hb0 hx0 hx1 HK
   cases hpx : p (bM l k) with
   | true =>
    have HX := aj.mk hpx; clear hpx
    go_wp2_with fail
    go_ret
    exact ⟨ow (by rw [vE p l k.toNat (by omega) (fun i hi h => hn.out i hi (by omega)) (by rw [← HM.out.2]; exact HX.out)]; omega), HB2.out⟩
   | false =>
    have HX := aj.mk hpx; clear hpx
    go_wp2_with fail
    go_roundw
    case rel => exact ⟨k + 1, by omega, by omega, by go_num, ⟨fun i hi h => by
     by_cases e : (i : Int) < k
     ·exact hn.out i hi e
     ·obtain rfl : i = k.toNat := by omega
      rw [← HM.out.2]; exact HX.out⟩, HB2⟩
    case measure => simp [intOf]; omega
  ·have hg : ¬ k < l.length := hlt
   go_wp2_with fail
   go_ret
   exact ⟨ow (su p l (fun i hi => hn.out i hi (by omega))).symm, HB.out⟩
theorem qcm (p : bT → Bool) (F : Nat) (cap : Array Value) (A : Option Addr) (c : Nat) (l : List bT) (w : World) (hr : Kd.C j3 w A l.length l)
  (he : ∀ args w, (callFunc F args).run Tryz.prog w = .ok (.enter F args) w) (hp : ∀ x ∈ l, PredAt j3 F cap (fun cs => .agg cs.toArray) p w x) :
  Calls Tryz.prog 165 #[.slice A l.length c, .func (.func F) #[] cap] w fun e w' => e = .returned (.bool (l.any p)) ∧ Below w.heap.size w w' := by
 have HC := aj.mk (qeY p F cap A c l w hr he hp); have HG := aj.mk (yE p l); clear hr hp he
 go_enter Tryz.func165, Tryz.ntmps165
 go_wp2_with (go_at_call 207; refine HC.out.mono ?_; rintro e w2 ⟨rfl, hb⟩; have HB := aj.mk hb; clear hb)
 go_ret
 exact ⟨nW (by rw [← HG.out]), HB.out⟩
theorem UW (p : bg → Bool) (F : Nat) (cap : Array Value) (A : Option Addr) (c : Nat) (l : List bg) (w : World) (hr : Kd.C eT w A l.length l)
  (he : ∀ args w, (callFunc F args).run Tryz.prog w = .ok (.enter F args) w) (hp : ∀ x ∈ l, PredAt eT F cap (fun cs => .agg cs.toArray) p w x) :
  Calls Tryz.prog 208 #[.slice A l.length c, .func (.func F) #[] cap] w fun e w' => e = .returned (.int .i64 (oH p l)) ∧ Below w.heap.size w w' := by
 have hm : l.length ≤ 9223372036854775807 := hr.2.1; have HR := aj.mk hr; have HP := aj.mk hp; clear hr hp
 go_enter Tryz.func208, Tryz.ntmps208
 go_wp2_with fail
 go_loopw [5, 8] (fun _ i W => ∃ k : Int, 0 ≤ k ∧ k ≤ l.length ∧ i = .int .i64 k ∧ aj (∀ i (hi : i < l.length), (i : Int) < k → p (l[i]'hi) = false) ∧ aj (Below w.heap.size w W)) (fun _ i _ => l.length - (intOf i).toNat)
 case atStart => exact ⟨0, by omega, by omega, rfl, ⟨fun i hi h => absurd h (by omega)⟩, ⟨Below.refl _ _⟩⟩
 case round =>
  obtain ⟨k, hk0, hk, rfl, hn, HB⟩ := hrel
  by_cases hlt : k < l.length
  ·obtain ⟨ad, rfl, hx0, hx1, hx2, hx3⟩ := jK HR.out k hk0 hlt
   replace hx0 := dz HB hx0; replace hx1 := dz HB hx1; replace hx2 := dz HB hx2; replace hx3 := dz HB hx3; have hu := Tryz.underlying154; have HM := aj.mk (show aC l k ∈ l ∧ aC l k = l[k.toNat]'(by omega) from getD_at l _ k hk0 hlt); have HK := aj.mk (PU wr (aC l k))
   go_wp2_with fail
   have hb0 := HB.out; refine ((HP.out _ HM.out.1).out wr _ hb0 HK.out).mono ?_; rintro e w2 ⟨rfl, hb⟩; have HB2 := aj.mk (hb0.trans (hb.mono hb0.size)); clear hb hb0 hx0 hx1 hx2 hx3 HK
   cases hpx : p (aC l k) with
   | true =>
    have HX := aj.mk hpx; clear hpx
    go_wp2_with fail
    go_ret
    exact ⟨ow (by rw [vE p l k.toNat (by omega) (fun i hi h => hn.out i hi (by omega)) (by rw [← HM.out.2]; exact HX.out)]; omega), HB2.out⟩
   | false =>
    have HX := aj.mk hpx; clear hpx
    go_wp2_with fail
    go_roundw
    case rel => exact ⟨k + 1, by omega, by omega, by go_num, ⟨fun i hi h => by
     by_cases e : (i : Int) < k
     ·exact hn.out i hi e
     ·obtain rfl : i = k.toNat := by omega
      rw [← HM.out.2]; exact HX.out⟩, HB2⟩
    case measure => simp [intOf]; omega
  ·have hg : ¬ k < l.length := hlt
   go_wp2_with fail
   go_ret
   exact ⟨ow (su p l (fun i hi => hn.out i hi (by omega))).symm, HB.out⟩
theorem qeZ (p : bg → Bool) (F : Nat) (cap : Array Value) (A : Option Addr) (c : Nat) (l : List bg) (w : World) (hr : Kd.C eT w A l.length l)
  (he : ∀ args w, (callFunc F args).run Tryz.prog w = .ok (.enter F args) w) (hp : ∀ x ∈ l, PredAt eT F cap (fun cs => .agg cs.toArray) p w x) :
  Calls Tryz.prog 168 #[.slice A l.length c, .func (.func F) #[] cap] w fun e w' => e = .returned (.bool (l.any p)) ∧ Below w.heap.size w w' := by
 have HC := aj.mk (UW p F cap A c l w hr he hp); have HG := aj.mk (yE p l); clear hr hp he
 go_enter Tryz.func168, Tryz.ntmps168
 go_wp2_with (go_at_call 208; refine HC.out.mono ?_; rintro e w2 ⟨rfl, hb⟩; have HB := aj.mk hb; clear hb)
 go_ret
 exact ⟨nW (by rw [← HG.out]), HB.out⟩
theorem qe0 (p : ou → Bool) (F : Nat) (cap : Array Value) (A : Option Addr) (c : Nat) (l : List ou) (w : World) (hr : Kd.C ET w A l.length l)
  (he : ∀ args w, (callFunc F args).run Tryz.prog w = .ok (.enter F args) w) (hp : ∀ x ∈ l, PredAt ET F cap (fun cs => .agg cs.toArray) p w x) :
  Calls Tryz.prog 172 #[.slice A l.length c, .func (.func F) #[] cap] w fun e w' => e = .returned (.int .i64 (oH p l)) ∧ Below w.heap.size w w' := by
 have hm : l.length ≤ 9223372036854775807 := hr.2.1; have HR := aj.mk hr; have HP := aj.mk hp; clear hr hp
 go_enter Tryz.func172, Tryz.ntmps172
 go_wp2_with fail
 go_loopw [5, 8] (fun _ i W => ∃ k : Int, 0 ≤ k ∧ k ≤ l.length ∧ i = .int .i64 k ∧ aj (∀ i (hi : i < l.length), (i : Int) < k → p (l[i]'hi) = false) ∧ aj (Below w.heap.size w W)) (fun _ i _ => l.length - (intOf i).toNat)
 case atStart => exact ⟨0, by omega, by omega, rfl, ⟨fun i hi h => absurd h (by omega)⟩, ⟨Below.refl _ _⟩⟩
 case round =>
  obtain ⟨k, hk0, hk, rfl, hn, HB⟩ := hrel
  by_cases hlt : k < l.length
  ·obtain ⟨ad, A0, c0, rfl, hx0, l0, g0⟩ := Nn HR.out k hk0 hlt
   replace hx0 := dz HB hx0; have hu := Tryz.underlying49; have HM := aj.mk (show nR l k ∈ l ∧ nR l k = l[k.toNat]'(by omega) from getD_at l _ k hk0 hlt); have HK := aj.mk (Iq wr (nR l k) l0 (Kd.ak g0 HB.out))
   go_wp2_with fail
   have hb0 := HB.out; refine ((HP.out _ HM.out.1).out wr _ hb0 HK.out).mono ?_; rintro e w2 ⟨rfl, hb⟩; have HB2 := aj.mk (hb0.trans (hb.mono hb0.size)); clear hb hb0 hx0 HK
   cases hpx : p (nR l k) with
   | true =>
    have HX := aj.mk hpx; clear hpx
    go_wp2_with fail
    go_ret
    exact ⟨ow (by rw [vE p l k.toNat (by omega) (fun i hi h => hn.out i hi (by omega)) (by rw [← HM.out.2]; exact HX.out)]; omega), HB2.out⟩
   | false =>
    have HX := aj.mk hpx; clear hpx
    go_wp2_with fail
    go_roundw
    case rel => exact ⟨k + 1, by omega, by omega, by go_num, ⟨fun i hi h => by
     by_cases e : (i : Int) < k
     ·exact hn.out i hi e
     ·obtain rfl : i = k.toNat := by omega
      rw [← HM.out.2]; exact HX.out⟩, HB2⟩
    case measure => simp [intOf]; omega
  ·have hg : ¬ k < l.length := hlt
   go_wp2_with fail
   go_ret
   exact ⟨ow (su p l (fun i hi => hn.out i hi (by omega))).symm, HB.out⟩
theorem qe1 (p : ou → Bool) (F : Nat) (cap : Array Value) (A : Option Addr) (c : Nat) (l : List ou) (w : World) (hr : Kd.C ET w A l.length l)
  (he : ∀ args w, (callFunc F args).run Tryz.prog w = .ok (.enter F args) w) (hp : ∀ x ∈ l, PredAt ET F cap (fun cs => .agg cs.toArray) p w x) :
  Calls Tryz.prog 114 #[.slice A l.length c, .func (.func F) #[] cap] w fun e w' => e = .returned (.bool (l.any p)) ∧ Below w.heap.size w w' := by
 have HC := aj.mk (qe0 p F cap A c l w hr he hp); have HG := aj.mk (yE p l); clear hr hp he
 go_enter Tryz.func114, Tryz.ntmps114
 go_wp2_with (go_at_call 172; refine HC.out.mono ?_; rintro e w2 ⟨rfl, hb⟩; have HB := aj.mk hb; clear hb)
 go_ret
 exact ⟨nW (by rw [← HG.out]), HB.out⟩
theorem qcn (p : dN → Bool) (F : Nat) (cap : Array Value) (A : Option Addr) (c : Nat) (l : List dN) (w : World) (hr : Kd.C l7 w A l.length l)
  (he : ∀ args w, (callFunc F args).run Tryz.prog w = .ok (.enter F args) w) (hp : ∀ x ∈ l, PredAt l7 F cap (fun cs => .agg cs.toArray) p w x) :
  Calls Tryz.prog 214 #[.slice A l.length c, .func (.func F) #[] cap] w fun e w' => e = .returned (.int .i64 (oH p l)) ∧ Below w.heap.size w w' := by
 have hm : l.length ≤ 9223372036854775807 := hr.2.1; have HR := aj.mk hr; have HP := aj.mk hp; clear hr hp
 go_enter Tryz.func214, Tryz.ntmps214
 go_wp2_with fail
 go_loopw [5, 8] (fun _ i W => ∃ k : Int, 0 ≤ k ∧ k ≤ l.length ∧ i = .int .i64 k ∧ aj (∀ i (hi : i < l.length), (i : Int) < k → p (l[i]'hi) = false) ∧ aj (Below w.heap.size w W)) (fun _ i _ => l.length - (intOf i).toNat)
 case atStart => exact ⟨0, by omega, by omega, rfl, ⟨fun i hi h => absurd h (by omega)⟩, ⟨Below.refl _ _⟩⟩
 case round =>
  obtain ⟨k, hk0, hk, rfl, hn, HB⟩ := hrel
  by_cases hlt : k < l.length
  ·obtain ⟨ad, A0, c0, rfl, hx0, hx1, hx2, l0, g0⟩ := yD HR.out k hk0 hlt
   replace hx0 := dz HB hx0; replace hx1 := dz HB hx1; replace hx2 := dz HB hx2; have hu := Tryz.underlying107; have HM := aj.mk (show bU l k ∈ l ∧ bU l k = l[k.toNat]'(by omega) from getD_at l _ k hk0 hlt); have HK := aj.mk (PW wr (bU l k) l0 (Kd.ak g0 HB.out))
   go_wp2_with fail
   have hb0 := HB.out; refine ((HP.out _ HM.out.1).out wr _ hb0 HK.out).mono ?_; rintro e w2 ⟨rfl, hb⟩; have HB2 := aj.mk (hb0.trans (hb.mono hb0.size)); clear hb hb0 hx0 hx1 hx2 HK
   cases hpx : p (bU l k) with
   | true =>
    have HX := aj.mk hpx; clear hpx
    go_wp2_with fail
    go_ret
    exact ⟨ow (by rw [vE p l k.toNat (by omega) (fun i hi h => hn.out i hi (by omega)) (by rw [← HM.out.2]; exact HX.out)]; omega), HB2.out⟩
   | false =>
    have HX := aj.mk hpx; clear hpx
    go_wp2_with fail
    go_roundw
    case rel => exact ⟨k + 1, by omega, by omega, by go_num, ⟨fun i hi h => by
     by_cases e : (i : Int) < k
     ·exact hn.out i hi e
     ·obtain rfl : i = k.toNat := by omega
      rw [← HM.out.2]; exact HX.out⟩, HB2⟩
    case measure => simp [intOf]; omega
  ·have hg : ¬ k < l.length := hlt
   go_wp2_with fail
   go_ret
   exact ⟨ow (su p l (fun i hi => hn.out i hi (by omega))).symm, HB.out⟩
theorem qaK (p : dN → Bool) (F : Nat) (cap : Array Value) (A : Option Addr) (c : Nat) (l : List dN) (w : World) (hr : Kd.C l7 w A l.length l)
  (he : ∀ args w, (callFunc F args).run Tryz.prog w = .ok (.enter F args) w) (hp : ∀ x ∈ l, PredAt l7 F cap (fun cs => .agg cs.toArray) p w x) :
  Calls Tryz.prog 180 #[.slice A l.length c, .func (.func F) #[] cap] w fun e w' => e = .returned (.bool (l.any p)) ∧ Below w.heap.size w w' := by
 have HC := aj.mk (qcn p F cap A c l w hr he hp); have HG := aj.mk (yE p l); clear hr hp he
 go_enter Tryz.func180, Tryz.ntmps180
 go_wp2_with (go_at_call 214; refine HC.out.mono ?_; rintro e w2 ⟨rfl, hb⟩; have HB := aj.mk hb; clear hb)
 go_ret
 exact ⟨nW (by rw [← HG.out]), HB.out⟩
theorem qe2 (p : Int → Bool) (F : Nat) (cap : Array Value) (A : Option Addr) (c : Nat) (l : List Int) (w : World) (hr : Kd.C (Kd.int .i64) w A l.length l)
  (he : ∀ args w, (callFunc F args).run Tryz.prog w = .ok (.enter F args) w) (hp : ∀ x ∈ l, PredAt (Kd.int .i64) F cap (fun cs => cs.headD undef) p w x) :
  Calls Tryz.prog 187 #[.slice A l.length c, .func (.func F) #[] cap] w fun e w' => e = .returned (.int .i64 (oH p l)) ∧ Below w.heap.size w w' := by
 have hm : l.length ≤ 9223372036854775807 := hr.2.1; have HR := aj.mk hr; have HP := aj.mk hp; clear hr hp
 go_enter Tryz.func187, Tryz.ntmps187
 go_wp2_with fail
 go_loopw [5, 8] (fun _ i W => ∃ k : Int, 0 ≤ k ∧ k ≤ l.length ∧ i = .int .i64 k ∧ aj (∀ i (hi : i < l.length), (i : Int) < k → p (l[i]'hi) = false) ∧ aj (Below w.heap.size w W)) (fun _ i _ => l.length - (intOf i).toNat)
 case atStart => exact ⟨0, by omega, by omega, rfl, ⟨fun i hi h => absurd h (by omega)⟩, ⟨Below.refl _ _⟩⟩
 case round =>
  obtain ⟨k, hk0, hk, rfl, hn, HB⟩ := hrel
  by_cases hlt : k < l.length
  ·obtain ⟨ad, rfl, hx0⟩ := Kd.iH HR.out k hk0 hlt
   replace hx0 := dz HB hx0; have HM := aj.mk (show rd l k ∈ l ∧ rd l k = l[k.toNat]'(by omega) from getD_at l _ k hk0 hlt); have HK := aj.mk ((show (Kd.int .i64).K wr (rd l k) [.int .i64 (rd l k)] from rfl))
   go_wp2_with fail
   have hb0 := HB.out; refine ((HP.out _ HM.out.1).out wr _ hb0 HK.out).mono ?_; rintro e w2 ⟨rfl, hb⟩; have HB2 := aj.mk (hb0.trans (hb.mono hb0.size)); clear hb hb0 hx0 HK
   cases hpx : p (rd l k) with
   | true =>
    have HX := aj.mk hpx; clear hpx
    go_wp2_with fail
    go_ret
    exact ⟨ow (by rw [vE p l k.toNat (by omega) (fun i hi h => hn.out i hi (by omega)) (by rw [← HM.out.2]; exact HX.out)]; omega), HB2.out⟩
   | false =>
    have HX := aj.mk hpx; clear hpx
    go_wp2_with fail
    go_roundw
    case rel => exact ⟨k + 1, by omega, by omega, by go_num, ⟨fun i hi h => by
     by_cases e : (i : Int) < k
     ·exact hn.out i hi e
     ·obtain rfl : i = k.toNat := by omega
      rw [← HM.out.2]; exact HX.out⟩, HB2⟩
    case measure => simp [intOf]; omega
  ·have hg : ¬ k < l.length := hlt
   go_wp2_with fail
   go_ret
   exact ⟨ow (su p l (fun i hi => hn.out i hi (by omega))).symm, HB.out⟩
theorem cf3 (p : Int → Bool) (F : Nat) (cap : Array Value) (A : Option Addr) (c : Nat) (l : List Int) (w : World) (hr : Kd.C (Kd.int .i64) w A l.length l)
  (he : ∀ args w, (callFunc F args).run Tryz.prog w = .ok (.enter F args) w) (hp : ∀ x ∈ l, PredAt (Kd.int .i64) F cap (fun cs => cs.headD undef) p w x) :
  Calls Tryz.prog 142 #[.slice A l.length c, .func (.func F) #[] cap] w fun e w' => e = .returned (.bool (l.any p)) ∧ Below w.heap.size w w' := by
 have HC := aj.mk (qe2 p F cap A c l w hr he hp); have HG := aj.mk (yE p l); clear hr hp he
 go_enter Tryz.func142, Tryz.ntmps142
 go_wp2_with (go_at_call 187; refine HC.out.mono ?_; rintro e w2 ⟨rfl, hb⟩; have HB := aj.mk hb; clear hb)
 go_ret
 exact ⟨nW (by rw [← HG.out]), HB.out⟩
theorem fu {w W w2 : World} (h : aj (Below w.heap.size w W)) (hb : Below W.heap.size W w2) : aj (Below w.heap.size w w2) := ⟨aV h.out hb⟩
theorem dW {W w2 : World} {g : Nat} {o : Obj} (h : aj (W.heap[g]? = some o)) (hb : Below W.heap.size W w2) : aj (w2.heap[g]? = some o) := ⟨aG h.out hb⟩
section
variable {w : World} {g : Nat} {t : TypeId} {a b c d e : Value}
theorem fT (h : w.heap[g]? = some (.cells #[a] t (0, 0))) : w.cell? ⟨g, 0, none⟩ = some a := (aI h 0).trans rfl
theorem qP (h : w.heap[g]? = some (.cells #[a, b] t (0, 0))) : w.cell? ⟨g, 0, none⟩ = some a ∧ w.cell? ⟨g, 1, none⟩ = some b := ⟨(aI h 0).trans rfl, (aI h 1).trans rfl⟩
theorem S9 (h : w.heap[g]? = some (.cells #[a, b, c] t (0, 0))) : w.cell? ⟨g, 0, none⟩ = some a ∧ w.cell? ⟨g, 1, none⟩ = some b ∧ w.cell? ⟨g, 2, none⟩ = some c := ⟨(aI h 0).trans rfl, (aI h 1).trans rfl, (aI h 2).trans rfl⟩
theorem BQ (h : w.heap[g]? = some (.cells #[a, b, c, d] t (0, 0))) : w.cell? ⟨g, 0, none⟩ = some a ∧ w.cell? ⟨g, 1, none⟩ = some b ∧ w.cell? ⟨g, 2, none⟩ = some c ∧ w.cell? ⟨g, 3, none⟩ = some d := ⟨(aI h 0).trans rfl, (aI h 1).trans rfl, (aI h 2).trans rfl, (aI h 3).trans rfl⟩
theorem EX (h : w.heap[g]? = some (.cells #[a, b, c, d, e] t (0, 0))) : w.cell? ⟨g, 0, none⟩ = some a ∧ w.cell? ⟨g, 1, none⟩ = some b ∧ w.cell? ⟨g, 2, none⟩ = some c ∧ w.cell? ⟨g, 3, none⟩ = some d ∧ w.cell? ⟨g, 4, none⟩ = some e := ⟨(aI h 0).trans rfl, (aI h 1).trans rfl, (aI h 2).trans rfl, (aI h 3).trans rfl, (aI h 4).trans rfl⟩
end
theorem pK {P : Program} {n : Nat} {xs : Array Value} {w : World} {v : Ending} (h : Calls P n xs w fun e w' => e = v ∧ iw w w') : Calls P n xs w fun e w' => e = v ∧ Below w.heap.size w w' := h.mono fun _ _ h => ⟨h.1, h.2.below⟩
theorem stepG {w W w1 : World} {g : Nat} (h : aj (Below w.heap.size w W)) (hg : W.grownBy w1 (some g)) (hge : aj (w.heap.size ≤ g)) : aj (Below w.heap.size w w1) :=
 ⟨h.out.os ▸ hg.os, h.out.tape ▸ hg.tape, h.out.output ▸ hg.output, Nat.le_trans h.out.size hg.size, fun k hk => (hg.block k (Nat.lt_of_lt_of_le hk h.out.size) (by have := hge.out; intro e; injection e; omega)).trans (h.out.block k hk)⟩
theorem gW {W w1 : World} {g k : Nat} {o : Obj} (h : aj (W.heap[k]? = some o)) (hg : W.grownBy w1 (some g)) (hne : k ≠ g) : aj (w1.heap[k]? = some o) := ⟨(hg.block k (cZ h.out) (by intro e; injection e; exact hne ‹_›)).trans h.out⟩
section
variable {P : Program} {ops : Array Oper} {rest : List Oper} {o : Oper} {a : Act} {Q : Exit → Act → World → Prop} {w W : World}
theorem ko (hgd : o.guard = none) {N : Tmp} (hd : o.dst = some N) {cs : Array Value} {t : TypeId}
  (hrun : (execOp a.eval o).run P W = .ok (.value (.pointer (some ⟨W.heap.size, 0, none⟩))) (W.alloc (.cells cs t (0, 0)))) (HB : aj (Below w.heap.size w W))
  (h : ∀ g w1, aj (w1.heap[g]? = some (.cells cs t (0, 0))) → aj (w.heap.size ≤ g) → aj (Below w.heap.size w w1) → Below W.heap.size W w1 → wpList P ops Q rest (a.put o.dst (.pointer (some ⟨g, 0, none⟩))) w1) : wpList P ops Q (o :: rest) a W :=
 oK hgd hd hrun fun g hg w1 hb hx => h g w1 ⟨hb⟩ ⟨by rw [hg]; exact aX HB.out⟩ (fu HB hx) hx
theorem je (hgd : o.guard = none) (hN : o.dst = none) {t : TypeId} {p : Tmp} {v : Operand} (ho : o.op = .store t (.tmp p) v)
  {g i : Nat} {cs : Array Value} {t' : TypeId} (HK : aj (W.heap[g]? = some (.cells cs t' (0, 0)))) (GK : aj (w.heap.size ≤ g)) (HB : aj (Below w.heap.size w W)) (u : Value) (seg : List Value) (cs' : Array Value)
  (hp : a.eval (.tmp p) = .pointer (some ⟨g, i, none⟩)) (hv : a.eval v = u) (hu : u.cells.toList = seg) (ht : (P.info? t).map (·.size) = some seg.length) (hfit : i + seg.length ≤ cs.size) (h1 : ∀ q ∈ seg, q.oneCell' = true)
  (hcs : cs.toList.take i ++ seg ++ cs.toList.drop (i + seg.length) = cs'.toList)
  (h : ∀ w1, aj (w1.heap[g]? = some (.cells cs' t' (0, 0))) → aj (Below w.heap.size w w1) → W.grownBy w1 (some g) → wpList P ops Q rest a w1) : wpList P ops Q (o :: rest) a W := by
 obtain ⟨cur', h3, h4, h5⟩ := lT seg i W cs HK.out hfit; obtain ⟨s1, s2, s3, s4⟩ := kG g seg i W; have hg : W.grownBy (W.setCells g i seg) (some g) := ⟨s1, s2, s3, by rw [s4]; exact Nat.le_refl _, fun k _ hk => kD _ _ k (fun he => hk (by rw [he]))⟩
 obtain rfl : cur' = cs' := by rw [← Array.toList_inj, h5, hcs]
 refine Cx hgd ho hN (w1 := W.setCells g i seg) ?_ fun w' hw => ?_
 ·have hr := qD (P := P) t u seg HK.out hu ht hfit h1
  unfold execOp
  rw [ho]; simp only [hp, hv]; simp [hr]
 ·subst hw
  exact h _ ⟨h3⟩ (stepG HB hg GK) hg
end
section
variable {α : Type} {d : Kd α} {e base : Nat} {ok : Nat → Prop} {W w1 : World} {v v1 u : Value} {xs : List α}
theorem qQ (h : aj (d.R e W base ok v xs)) (hb : Below W.heap.size W w1) : aj (d.R e w1 base ok v xs) := ⟨Kd.jy h.out hb⟩
theorem EY (h : aj (d.R e W base ok v xs)) (hE : d.E = []) {row : Option Nat} (hg : W.grownBy w1 row) (hne : row ≠ v.ownBlock) : aj (d.R e w1 base ok v xs) := ⟨Kd.UQ h.out hE hg hne⟩
theorem UY (h : aj (d.R e W base ok v xs)) (hE : d.E = []) (hg : W.grownBy w1 u.ownBlock) (hne : aj (uj u v)) : aj (d.R e w1 base ok v xs) :=
 ⟨Kd.UR h.out hE hg fun k hk hk2 => hne.out k hk hk2.symm⟩
theorem wX (h : aj (d.R e W base ok v xs)) {g : Nat} (hg : W.heap.size ≤ g) : aj (some g ≠ v.ownBlock) := ⟨fun he => absurd (Kd.pE h.out g he.symm) (by omega)⟩
theorem Gz {g : Nat} {o : Obj} (h : aj (some g ≠ v.ownBlock)) (hK : aj (W.heap[g]? = some o)) (hat : v1.ownBlock = v.ownBlock ∨ ∃ b, v1.ownBlock = some b ∧ W.heap.size ≤ b) : aj (some g ≠ v1.ownBlock) :=
 ⟨fun he => by
  rcases hat with hat | ⟨b, hb, hle⟩
  ·exact h.out (he.trans hat)
  ·have := cZ hK.out
   rw [hb] at he
   injection he with he
   omega⟩
theorem Nq (h : aj (uj v u)) (hat : v1.ownBlock = v.ownBlock ∨ ∃ b, v1.ownBlock = some b ∧ W.heap.size ≤ b) (ho : aj (d.R e W base ok u xs)) : aj (uj v1 u) := by
 obtain ⟨_, ho⟩ := Kd.J2 ho.out; exact ⟨SF h.out hat ho⟩
theorem UZ (h : aj (uj v u)) : aj (uj u v) := ⟨X5 h.out⟩
theorem qco (u : Value) : aj (uj (.slice none 0 0) u) := ⟨fun k hk => by simp [Value.ownBlock] at hk⟩
theorem PX (g : Nat) : aj (some g ≠ (Value.slice none 0 0).ownBlock) := ⟨by simp [Value.ownBlock]⟩
theorem ES {g : Nat} {o : Obj} (h : aj (W.heap[g]? = some o)) (hg : W.grownBy w1 v.ownBlock) (hne : aj (some g ≠ v.ownBlock)) : aj (w1.heap[g]? = some o) := ⟨jw h.out hg hne.out⟩
end
section
variable {P : Program} {ops : Array Oper} {rest : List Oper} {o : Oper} {a : Act} {Q : Exit → Act → World → Prop} {w W : World} {α : Type}
theorem jD (hgd : o.guard = none) {N : Tmp} (hd : o.dst = some N) {cs : Array Value} {t : TypeId}
  (hrun : (execOp a.eval o).run P W = .ok (.value (.pointer (some ⟨W.heap.size, 0, none⟩))) (W.alloc (.cells cs t (0, 0)))) (HB : aj (Below w.heap.size w W))
  (h : ∀ g w1, aj (w1.heap[g]? = some (.cells cs t (0, 0))) → aj (w.heap.size ≤ g) → aj (Below w.heap.size w w1) → Below W.heap.size W w1 → W.heap.size ≤ g → wpList P ops Q rest (a.put o.dst (.pointer (some ⟨g, 0, none⟩))) w1) : wpList P ops Q (o :: rest) a W :=
 oK hgd hd hrun fun g hg w1 hb hx => h g w1 ⟨hb⟩ ⟨by rw [hg]; exact aX HB.out⟩ (fu HB hx) hx (by rw [hg]; exact Nat.le_refl _)
theorem oL (d : Kd α) (hgd : o.guard = none) (s x : Operand) (t e : TypeId) (z : Value) (bytes : Nat)
  (ho : o.op = .call { callee := .builtin .append, args := #[s, x], argTypes := #[t, t] })
  (ht : P.underlying t = some (.slice e)) (hinfo : (P.info? e).map (fun i => (i.zero, i.size, i.bytes)) = some (some z, d.sz, bytes)) (hz : z.cells.size = d.sz) (hs0 : 0 < d.sz) (hb0 : 0 < bytes)
  (v : Value) (xs : List α) (p : α) (cs : List Value) (hs : a.eval s = v) (hx : a.eval x = .slice (some ⟨W.heap.size, 0, none⟩) 1 1) (hp : d.M W w.heap.size (fun _ => False) p cs)
  (HO : aj (d.R e W w.heap.size (fun _ => True) v xs)) (HB : aj (Below w.heap.size w W)) (hl : xs.length ≤ 100000000) (hby : bytes ≤ 1000)
  (h : ∀ v1 w1, aj (d.R e w1 w.heap.size (fun _ => True) v1 (xs ++ [p])) → aj (Below w.heap.size w w1) → W.grownBy w1 v.ownBlock → (v1.ownBlock = v.ownBlock ∨ ∃ b, v1.ownBlock = some b ∧ W.heap.size ≤ b) → wpList P ops Q rest (a.put o.dst v1) w1) :
  wpList P ops Q (o :: rest) a (W.alloc (.cells cs.toArray e)) :=
 Kd.nV d w.heap.size hgd s x t e z bytes ho ht hinfo hz hs0 hb0 v xs p cs (fun _ => True) (fun _ => False) hs hx hp (fun _ hk => hk.elim) (fun _ _ => trivial) HO.out HB.out (aX HB.out)
  (Nat.le_trans (Nat.mul_le_mul (Nat.add_le_add_right hl 1) hby) (by decide)) fun v1 w1 h1 h2 h3 h4 => h v1 w1 ⟨h1⟩ ⟨h2⟩ h3 h4
end
abbrev PY (x : Int) : Prop := (Lit.int .i64 x).wf = true
theorem uS {x : Int} (h0 : -1000000000000000 ≤ x) (h1 : x ≤ 1000000000000000) : PY x := by
 have : x = wrap64 x := by unfold wrap64; omega
 rw [PY, this]; exact wrap64_wf x
def kJ (w : World) (b n : Nat) (S : List Int) : Prop := ∃ D : DataW Unit, w.ownsMap Tryz.prog 3 (plainElem Tryz.prog 4) b n D ∧ ∀ x : Int, PY x → Maps.has D (.int .i64 x) = decide (x ∈ S)
theorem kJ.made (w : World) : kJ (w.alloc (.map #[] 0)) w.heap.size 0 [] := ⟨.map [], World.ownsMap_made w _ _ _, fun x _ => by simp [Maps.has]⟩
theorem kJ.kept {w w' : World} {b n : Nat} {S : List Int} {row : Option Nat} (h : kJ w b n S) (hg : w.grownBy w' row) (hne : some b ≠ row) : kJ w' b n S := by
 obtain ⟨D, h1, h2⟩ := h; exact ⟨D, h1.kept hg hne, h2⟩
theorem kJ.below {w w' : World} {b n : Nat} {S : List Int} (h : kJ w b n S) (hb : Below w.heap.size w w') : kJ w' b n S := h.kept ⟨hb.os, hb.tape, hb.output, hb.size, fun k hk _ => hb.block k hk⟩ (by simp : some b ≠ none)
theorem kJ.lt {w : World} {b n : Nat} {S : List Int} (h : kJ w b n S) : b < w.heap.size := by
 obtain ⟨D, h1, _⟩ := h; exact h1.lt
theorem kJ.same {w : World} {b n : Nat} {S S' : List Int} (h : kJ w b n S) (hS : ∀ x, x ∈ S ↔ x ∈ S') : kJ w b n S' := by
 obtain ⟨D, h1, h2⟩ := h; exact ⟨D, h1, fun x hx => by rw [h2 x hx]; simp [hS x]⟩
theorem U0 {x : Int} : WideAt.IsKeyLit (.int .i64 x) := trivial
section
variable {ops : Array Oper} {rest : List Oper} {o : Oper} {a : Act} {Q : Exit → Act → World → Prop} {w : World}
theorem Nr (hg : o.guard = none) (m x : Operand) {v : Operand} (hop : o.op = .mapUpdate 199 m x v) {b n : Nat} {S : List Int} (hm : a.eval m = .map (some b)) (hS : kJ w b n S) (hn : n < 1000000000000000000) {z : Int} (hz : PY z) (hx : a.eval x = .int .i64 z) (hv : a.eval v = .bool true)
  (h : ∀ w', kJ w' b (n + 1) (S ++ [z]) → w.grownBy w' (some b) → wpList Tryz.prog ops Q rest (a.put o.dst undef) w') : wpList Tryz.prog ops Q (o :: rest) a w := by
 obtain ⟨D, h1, h2⟩ := hS
 refine wpList_mapUpdate_own w hg m x v 199 hop 3 4 (Maps.int_keyed Tryz.underlying3) Tryz.underlying199 _ b n D hm h1 (by unfold maxLen; omega) _ _ (.int .i64 z) hx hv (Maps.keyOf_int_mk Tryz.underlying3 hz) _ [] (plainElem_bool Tryz.underlying4 true) fun w' r1 r2 => h w' ⟨_, r1, fun y hy => ?_⟩ r2
 by_cases e : y = z
 ·subst e
  rw [Maps.has_put_same h1.isMap U0]; simp
 ·rw [Maps.has_put_other (by intro h; injection h with _ h; exact e h), h2 y hy]
  simp [e]
def iI (w : World) (b r n : Nat) (S V : List Int) (cnt : Nat) : Prop := ∃ (D : DataW Unit) (left : Lit → Bool), w.ranges Tryz.prog 3 (plainElem Tryz.prog 4) b r n D left cnt ∧ (∀ x : Int, PY x → Maps.has D (.int .i64 x) = decide (x ∈ S)) ∧ (∀ x : Int, PY x → left (.int .i64 x) = (decide (x ∈ S) && !decide (x ∈ V))) ∧ cnt + V.length ≤ n
theorem iI.kept {w w' : World} {b r n cnt : Nat} {S V : List Int} {row : Option Nat} (h : iI w b r n S V cnt) (hg : w.grownBy w' row) (hb : some b ≠ row) (hr : some r ≠ row) : iI w' b r n S V cnt := by
 obtain ⟨D, left, h1, h2⟩ := h; exact ⟨D, left, h1.kept hg hb hr, h2⟩
theorem iI.below {w w' : World} {b r n cnt : Nat} {S V : List Int} (h : iI w b r n S V cnt) (hb : Below w.heap.size w w') : iI w' b r n S V cnt := h.kept ⟨hb.os, hb.tape, hb.output, hb.size, fun k hk _ => hb.block k hk⟩ (by simp : some b ≠ none) (by simp)
theorem iI.set {w : World} {b r n cnt : Nat} {S V : List Int} (h : iI w b r n S V cnt) : kJ w b n S := by
 obtain ⟨D, left, h1, h2, _⟩ := h; exact ⟨D, h1.owns, h2⟩
theorem iI.ne {w : World} {b r n cnt : Nat} {S V : List Int} (h : iI w b r n S V cnt) : r ≠ b := by
 obtain ⟨D, left, h1, _⟩ := h; exact h1.ne
theorem iI.left {w : World} {b r n cnt : Nat} {S V : List Int} (h : iI w b r n S V cnt) : w.rangeLeft b r = cnt := by
 obtain ⟨D, left, h1, _⟩ := h; exact h1.left_eq
theorem iI.size {w : World} {b r n cnt : Nat} {S V : List Int} (h : iI w b r n S V cnt) : cnt + V.length ≤ n := by
 obtain ⟨D, left, h1, h2, h3, h4⟩ := h; exact h4
theorem iI.pO {w : World} {b r n cnt g : Nat} {S V : List Int} {cs : Array Value} {t : TypeId} (h : iI w b r n S V cnt) (hg : aj (w.heap[g]? = some (.cells cs t (0, 0)))) : g ≠ b ∧ g ≠ r := by
 obtain ⟨D, left, ⟨es, clock, since, seen, c0, hb, _, _, _, hr, _⟩, _⟩ := h; exact ⟨fun e => (by have h2 := hg.out; rw [e, hb] at h2; cases h2), fun e => (by have h2 := hg.out; rw [e, hr] at h2; cases h2)⟩
theorem kJ.pO {w : World} {b n g : Nat} {S : List Int} {cs : Array Value} {t : TypeId} (h : kJ w b n S) (hg : aj (w.heap[g]? = some (.cells cs t (0, 0)))) : g ≠ b := by
 obtain ⟨D, ⟨es, clock, hb, _⟩, _⟩ := h; intro e; subst e; rw [hg.out] at hb
 cases hb
theorem iI.lt {w : World} {b r n cnt : Nat} {S V : List Int} (h : iI w b r n S V cnt) : r < w.heap.size := by
 obtain ⟨D, left, h1, _⟩ := h; exact h1.lt
theorem wu (hg : o.guard = none) (m : Operand) (hop : o.op = .range 199 m) {b n : Nat} {S : List Int} (hm : a.eval m = .map (some b)) (hS : kJ w b n S)
  (h : ∀ w' r cnt, r = w.heap.size → iI w' b r n S [] cnt → Below w.heap.size w w' → wpList Tryz.prog ops Q rest (a.put o.dst (.pointer (some ⟨r, 0, none⟩))) w') : wpList Tryz.prog ops Q (o :: rest) a w := by
 obtain ⟨D, h1, h2⟩ := hS
 refine wpList_range_own w hg m 199 hop 3 4 (Maps.int_keyed Tryz.underlying3) Tryz.underlying199 _ b n D hm h1 fun w' r1 r2 _ => h w' _ (Maps.size D) rfl ⟨D, _, r1, h2, fun x hx => by rw [h2 x hx]; simp, by have := h1.size_le; simp; exact this⟩ ⟨r2.os, r2.tape, r2.output, r2.size, fun k hk => r2.block k hk (by simp)⟩
theorem vF (hg : o.guard = none) (it : Operand) (hop : o.op = .next it false) {b r n cnt : Nat} {S V : List Int} (hit : a.eval it = .pointer (some ⟨r, 0, none⟩)) (hR : iI w b r n S V cnt)
  (hDone : (∀ x, PY x → x ∈ S → x ∈ V) → wpList Tryz.prog ops Q rest (a.put o.dst (.tuple #[.bool false])) w)
  (hMore : ∀ (x : Int) (c : Bool) (w' : World) (cnt' : Nat), PY x → x ∈ S → x ∉ V → iI w' b r n S (V ++ [x]) cnt' → cnt' < cnt → w.grownBy w' (some r) → w'.heap.size = w.heap.size → (Instr.entry (.pointer (some ⟨r, 0, none⟩))).run Tryz.prog w' = .ok (.tuple #[.int .i64 x, .bool c]) w' →
   wpList Tryz.prog ops Q rest (a.put o.dst (.tuple #[.bool true, .int .i64 x, .bool c])) w') : wpList Tryz.prog ops Q (o :: rest) a w := by
 obtain ⟨D, left, h1, h2, h3, h4⟩ := hR; refine wpList_next_ranges w hg it hop 3 (Maps.int_keyed Tryz.underlying3) (plainElem Tryz.prog 4) (Value.int .i64) Value.bool ?_ ?_ b r n D left cnt hit h1 ?_ ?_
 ·intro key kl hk
  obtain ⟨x, rfl, _⟩ := Maps.keyOf_int_inv Tryz.underlying3 hk; exact ⟨x, rfl⟩
 ·intro v y hv
  unfold plainElem at hv
  rw [Tryz.underlying4] at hv
  cases v <;> simp at hv
  exact ⟨_, rfl⟩
 ·intro h0 hl
  refine hDone fun x hx hm => ?_
  have := h3 x hx; rw [hl] at this
  simpa [hm] using this.symm
 ·intro x c kl y w' cnt' hk hl hv hat hr hlt hgr hsz hen
  obtain ⟨x', he, rfl, hx⟩ := Maps.keyOf_int_inv Tryz.underlying3 hk
  injection he with _ he
  subst he; have h5 := h3 x hx; rw [hl] at h5
  have h6 : x ∈ S ∧ x ∉ V := by simpa using h5.symm
  refine hMore x c w' cnt' hx h6.1 h6.2 ⟨D, _, hr, h2, fun z hz => ?_, by simp; omega⟩ hlt hgr hsz hen; rw [h3 z hz]
  by_cases e : z = x
  ·subst e
   simp [WideAt.sameKey_self U0]
  ·rw [Maps.sameKey_ne (by intro h; injection h with _ h; exact e h)]
   simp [e]
theorem yG {w0 : World} (hgd : o.guard = none) {N : Tmp} (hd : o.dst = some N) (hrun : (execOp a.eval o).run Tryz.prog w = .ok (.value (.map (some w.heap.size))) (w.alloc (.map #[] 0))) (HB : aj (Below w0.heap.size w0 w))
  (h : ∀ b w1, aj (kJ w1 b 0 []) → aj (w0.heap.size ≤ b) → aj (Below w0.heap.size w0 w1) → Below w.heap.size w w1 → w.heap.size ≤ b → wpList Tryz.prog ops Q rest (a.put o.dst (.map (some b))) w1) : wpList Tryz.prog ops Q (o :: rest) a w :=
 have hx : Below w.heap.size w (w.alloc (.map #[] 0)) := fU (Below.refl _ _) _
 Kd.r9 hgd hrun (h _ _ ⟨kJ.made w⟩ ⟨aX HB.out⟩ (fu HB hx) hx (Nat.le_refl _))
end
def qcp {α : Type} (P : Program) (g : Nat) (lb : Array Value) (encs : α → Array Value) (Rd : α → World → Prop) (Kp : World → World → Prop) (S : List α → Prop) (N : Nat) (w : World) : Prop :=
 ∀ (l : Nat) (J : List α → World → Prop) (W : World), Below w.heap.size w W → OwnFrom W.heap.size J →
  (∀ pre x W1, J pre W1 → Rd x W1 → pre.length < N → YieldAt Fence.wide 1 P l (encs x) W1 fun e W' => e = .returned (.bool true) ∧ J (pre ++ [x]) W' ∧ Kp W1 W') → J [] W →
  CallsIn Fence.wide 2 P g (#[.func (.yield l) #[] #[]] ++ lb) W fun e W' => (∃ v, e = .returned v) ∧ ∃ xs, S xs ∧ J xs W'
theorem Ns {P : Program} {g : Operand} {ps : Array Tmp} {assign body : Code} {Q : Exit → Act → World → Prop} {a : Act} {w : World} {gf : Nat} {lb : Array Value}
  (hg : a.eval g = .func (.func gf) #[] lb) (eg : ∀ args w, (callFunc gf args).run P w = .ok (.enter gf args) w)
  {α : Type} {encs : α → Array Value} {Rd : α → World → Prop} {Kp : World → World → Prop} {S : List α → Prop} {N : Nat} {w0 : World} (hseq : qcp P gf lb encs Rd Kp S N w0)
  (hKt : ∀ {A B C : World}, Kp A B → Kp B C → Kp A C) (hKb : ∀ (W : World) (o o' : Obj), W.heap[w.heap.size + 1]? = some o → o.isCells = false → Kp W (W.putObj (w.heap.size + 1) o')) (hb0 : Below w0.heap.size w0 w) (hps : ∀ x, (encs x).size = ps.size)
  (hRd : ∀ x, OwnFrom w.heap.size (fun (_ : Unit) W => Rd x W)) (I : List α → World → Prop) (hI : OwnFrom w.heap.size I) (h0 : I [] w) (a₁ : α → Act)
  (hassign : ∀ (l : Nat) (x : α) (W : World) (K : Act → World → Prop), K (a₁ x) W →
   assign.wpIn (Fence.wide.inRound l) 1 P (Exit.then K (fun _ _ _ => False)) { tmps := (ps.zip (encs x)).foldl (fun t (p, v) => t.setIfInBounds p v) a.tmps, defers := [] } W)
  (hbody : ∀ (l : Nat) (pre : List α) (x : α) (W : World), I pre W → Rd x W → pre.length < N → body.wpIn (Fence.wide.inRound l) 1 P (fun e _ W' => e = .normal ∧ KeepsFrom w.heap.size W W' ∧ Kp W W' ∧ I (pre ++ [x]) W') (a₁ x) W)
  (hdone : ∀ (xs : List α) (W : World), S xs → I xs W → W.heap[w.heap.size]? = some (.deferred (some [])) → Q .normal { a with defers := { target := .collected w.heap.size, args := #[] } :: a.defers } W) :
  (Code.rangeFunc g ps assign body).wpIn Fence.wide 3 P Q a w := by
 refine wpIn_rangeFunc fun fn hfn => ?_
 obtain ⟨rec, hrec⟩ : ∃ rec : LoopState → Option Code → Loop, rec = fun st pe => { state := st, pending := pe, fn, tmps := a.tmps, params := ps, assign, body, defers := w.heap.size } := ⟨_, rfl⟩
 obtain ⟨W1, hW1⟩ : ∃ W1, (w.alloc (.deferred (some []))).alloc (.loop (rec .ready none)) = W1 := ⟨_, rfl⟩
 have hB : Below w.heap.size w W1 := by rw [← hW1]; exact ((Below.refl _ w).alloc (Nat.le_refl _) _).alloc (by simp) _
 have hs1 : W1.heap.size = w.heap.size + 2 := by rw [← hW1]; simp
 have hL1 : W1.heap[w.heap.size + 1]? = some (.loop (rec .ready none)) := by
  have := World.alloc_heap_new (w.alloc (.deferred (some []))) (.loop (rec .ready none))
  rwa [World.size_alloc, hW1] at this
 have hD1 : W1.heap[w.heap.size]? = some (.deferred (some [])) := by
  rw [← hW1]; exact (Below.heap_alloc _ _ _ (by simp)).trans (World.alloc_heap_new w _)
 refine ⟨w.heap.size + 1, [{ target := .collected w.heap.size, args := #[] }], W1, { target := .fn (.func gf) lb, args := #[.func (.yield (w.heap.size + 1)) #[] #[]] }, W1, gf, #[.func (.yield (w.heap.size + 1)) #[] #[]] ++ lb, W1, ?_, ?_, fun _ _ => trivial, ?_, fun h => absurd h (by decide), ?_⟩
 ·rw [← hW1, hrec]
  exact run_enterLoop_outer _ _ _ _ _
 ·simp only [resolve, hg]
  simp [go_sem]
 ·simp [invoke, go_sem, eg]
 refine (hseq (w.heap.size + 1) (fun pre W => I pre W ∧ W.heap[w.heap.size + 1]? = some (.loop (rec .ready none)) ∧ W.heap[w.heap.size]? = some (.deferred (some []))) W1 (hb0.trans (hB.mono hb0.size)) ?_ ?_ ⟨?_, hL1, hD1⟩).mono ?_
 ·rintro s A B row ⟨hi, hl, hd⟩ hgr hr
  have ne : ∀ k, k < w.heap.size + 2 → some k ≠ row := fun k hk e => by have := (hr k e.symm).1; omega
  exact ⟨hI s A B row hi hgr fun r e => ⟨by have := (hr r e).1; omega, (hr r e).2⟩, (hgr.block _ (cZ hl) (ne _ (by omega))).trans hl, (hgr.block _ (cZ hd) (ne _ (by omega))).trans hd⟩
 ·rintro pre x W ⟨hi, hl, hd⟩ hrd hlt
  have hy := run_yield (P := P) (args := encs x) hl (by rw [hrec]; exact hps x); rw [hrec] at hy; refine ⟨fn, _, assign, body, hy, roundIn_of_wpIn hfn (hassign _ x W _ ?_)⟩; refine ⟨_, run_beginRound hl (by rw [hrec]), ?_⟩; have h2 := World.putObj_heap_same (o := .loop { rec .ready none with state := .busy }) (cZ hl); have d2 := (World.putObj_heap_other (w := W) (r := w.heap.size + 1) (k := w.heap.size) (o := .loop { rec .ready none with state := .busy }) (by omega)).trans hd; refine wpIn_mono (hbody _ pre x _ (hI.putObj _ hi (by omega) hl rfl) ((hRd x).putObj (s := ()) _ hrd (by omega) hl rfl) hlt) ?_; rintro e a3 W3 ⟨rfl, hk3, hkp3, hi3⟩; have hl3 := hk3.same _ _ (by omega) h2 rfl; have hd3 := hk3.same _ _ (Nat.le_refl _) d2 rfl; have hr := run_endRound (P := P) none hl3; rw [hrec] at hr; refine ⟨_, _, hr, rfl, ⟨hI.putObj _ hi3 (by omega) hl3 rfl, ?_, (World.putObj_heap_other (by omega)).trans hd3⟩, hKt (hKb _ _ _ hl rfl) (hKt hkp3 (hKb _ _ _ hl3 rfl))⟩; rw [hrec]; exact World.putObj_heap_same (cZ hl3)
 ·rw [← hW1]
  exact hI.alloc _ (hI.alloc _ h0)
 ·rintro e W2 ⟨⟨v, rfl⟩, xs, hS, hi, hl, hd⟩
  have he := run_endLoop (P := P) hl (by rw [hrec]; simp); rw [hrec] at he; exact ⟨none, _, he, hdone xs _ hS (hI.putObj _ hi (by omega) hl rfl) ((World.putObj_heap_other (by omega)).trans hd)⟩
theorem qlf {P : Program} {row : String} {args : Array Value} {w : World} {R : Value → World → Prop} (ro : Option Nat) (n : Nat) (h : Rows P row args w R) : RowsIn { Fence.wide with round := ro } n P row args w R := by
 intro c cs _; obtain ⟨v, w', r, s⟩ := h c cs; exact ⟨v, w', r, stepsIn_wide.2 s⟩
theorem opT {P : Program} {o : Oper} {a : Act} {w : World} {K : Act → World → Prop} {Q : Exit → Act → World → Prop} (ro : Option Nat) (n : Nat) (hd : ∀ c, o.op ≠ .defer c) (h : o.wp P a w K Q) :
  o.wpIn { Fence.wide with round := ro } n P a w K Q := by
 refine ⟨fun _ _ => trivial, ?_⟩; rw [Oper.semAt_eq _ _ _ hd]
 unfold Oper.wp at h
 generalize (execOp a.eval o).run P w = r at *
 cases r with
 | ok x w' =>
  cases x <;> simp only [Oper.upon, Oper.uponIn] at h ⊢
  all_goals first
   | exact h
   | exact h.elim
   | exact ⟨fun h => absurd h (by decide), callsIn_wide.2 h⟩
   | exact ⟨fun h => absurd h (by decide), qlf ro _ h⟩
 | halt x w' => cases x <;> simp only [Oper.upon, Oper.uponIn] at h ⊢ <;> exact h
def wB (o : Oper) : Bool := match o.op with | .defer _ => false | _ => true
theorem zS {o : Oper} (h : wB o = true) : ∀ c, o.op ≠ .defer c := by
 intro c hc
 unfold wB at h
 rw [hc] at h; simp at h
theorem Nb {P : Program} {md : Region.Mode} {ops : Array Oper} {Q : Exit → Act → World → Prop} (ro : Option Nat) (n : Nat) (hQ : ¬ LetsOut Q) (hd : ops.toList.all wB = true) : ∀ (fuel : Nat) (l : Array Bool) (a : Act) (w : World), wpAny P md ops Q fuel l a w → wpAnyIn { Fence.wide with round := ro } n P md ops Q fuel l a w
 | 0, _, _, _, h => h
 | fuel + 1, l, a, w, h => by
  refine ⟨h.1, fun i hi => ?_⟩; have h2 := h.2 i hi
  unfold wpOp at h2
  unfold wpOpIn
  split at h2
  ·rename_i ho
   rw [ho]; exact Nb ro n hQ hd fuel _ _ _ h2
  ·rename_i o ho
   rw [ho]; have hm : wB o = true := List.all_eq_true.1 hd o (by rw [Array.mem_toList_iff]; exact Array.mem_of_getElem? ho); simp only []
   split at h2
   ·rename_i hw
    rw [if_pos hw]
    rcases h2 with h2 | h2
    ·exact Oper.wpIn_mono (fun a w => Nb ro n hQ hd fuel _ a w) (opT ro n (zS hm) h2)
    ·exact absurd h2.2 hQ
   ·rename_i hw
    rw [if_neg hw]; exact ⟨fun _ _ => trivial, Nb ro n hQ hd fuel _ _ _ h2⟩
theorem qe4 {P : Program} {id n : Nat} {ops : Array Oper} {Q : Exit → Act → World → Prop} {a : Act} {w : World} (ro : Option Nat) (hm : P.follows .mixedOrders = true) (hQ : ¬ LetsOut Q) (hd : ops.toList.all wB = true)
  (h : wpAny P .any ops Q ops.size (Array.replicate ops.size false) a { w with drawn := w.drawn + 1 }) : (Code.region id ops true).wpIn { Fence.wide with round := ro } n P Q a w :=
 wpIn_region_any hm (Nb ro n hQ hd _ _ _ _ h)
theorem EZ {P : Program} {id n m : Nat} {ops : Array Oper} {Q : Exit → Act → World → Prop} {a : Act} {w : World} {S : World → Prop} {ds : List Nat} (ro : Option Nat) (hQ : ¬ LetsOut Q) (hd : ops.toList.all wB = true) (l : Array Bool) (hm : P.follows .mixedOrders = true) (hn : ops.size = m) (hl : Array.replicate m false = l) (hS : S w.drew)
  (h : S w.drew → dA P .any ops Q S ds m l a w.drew) : (Code.region id ops true).wpIn { Fence.wide with round := ro } n P Q a w := by
 subst hn; subst hl; exact qe4 ro hm hQ hd (uR _ _ _ _ (h hS))
def eZ.f (l0 : List bg) : Option (List bg) := if l0.length ≤ 1000000000 then some l0 else none
theorem eZ.U1 {l r : List bg} (h : eZ.f l = some r) : r = l ∧ l.length ≤ 1000000000 := by
 unfold eZ.f at h
 split at h
 ·exact ⟨(Option.some.inj h).symm, ‹_›⟩
 ·cases h
theorem eZ.calls (A0 : Option Addr) (c0 : Nat) (l0 : List bg) (r : List bg) (w : World) (hr0 : Kd.C eT w A0 l0.length l0) (hc0 : l0.length ≤ c0) (h : eZ.f l0 = some r) :
  Calls Tryz.prog 124 #[.slice A0 l0.length c0] w fun e w' => ∃ kM : Value, e = .returned (kM) ∧ Kd.R eT 154 w' w.heap.size (fun _ => True) kM r ∧ Below w.heap.size w w' := by
 obtain ⟨rfl, hl⟩ := eZ.U1 h; clear h; have HR := aj.mk hr0; have HL := aj.mk hl; have HB := aj.mk (Below.refl w.heap.size w); clear hl
 have hq : ∀ (w : World) (a : Option Addr) (n c n' c' : Nat), (binOp .eql 25 (.slice a n c) (.slice none n' c')).run Tryz.prog w = .ok (.bool a.isNone) w := fun w a n c n' c' => Lib.run_eql_slice_nil w _ _ a n c n' c' Tryz.underlying25
 rcases A0 with _ | ad
 ·obtain rfl : r = [] := by
   have := hr0.1; have h2 := hr0.2.2
   rcases r with _ | ⟨x, r⟩
   ·rfl
   ·obtain ⟨_, h, _⟩ := h2 (by simp)
    cases h
  clear hr0
  go_enter Tryz.func124, Tryz.ntmps124
  go_wp2_with fail
  go_ret
  exact ⟨_, rfl, Kd.lJ _ _ _ _ _, HB.out⟩
 ·clear hr0
  go_enter Tryz.func124, Tryz.ntmps124
  go_wp2_with (first | ((with_reducible refine av (N := 5) rfl ?_); refine Kd.qJ eT w.heap.size 154 rfl (N := 5) rfl (xs := []) (inner := []) (ok := fun _ => True) (nE := fun _ => True) tG (dH.none _ _) (fun _ h => h) trivial HB.out (Nat.le_refl _) (by simp) ?_; clear HB; intro v1 w1 ho hb hg _; have HO := aj.mk ho; have HB := aj.mk hb; clear ho hb hg) | ((with_reducible refine eD (b := .append) (xs := #[.tmp 5, .tmp 6]) rfl ?_); at_builtin; refine Kd.uQ eT (Rr := eT.K w1) (w0 := w) w.heap.size rfl (.tmp 5) (.tmp 6) 25 154 (.agg #[(.int .i64 0), (.int .i64 0), (.int .i64 0), (.int .i64 0)]) 32 rfl Tryz.underlying25 DY rfl (by decide) (by omega) v1 [] r (some ad) r.length c0 (fun _ => True) (fun _ => False) rfl rfl HO.out ?aR ?aK (fun _ hk => hk.elim) (fun _ _ => trivial) HB.out (aX HB.out) (by have := HL.out; simp; omega) ?_; (case aR => exact Kd.ak HR.out HB.out); (case aK => exact fun x cs hx => by obtain rfl := sj hx; exact mZ _ _ _ _); clear HO HB; intro v2 w2 ho hb hg hat; have HO := aj.mk ho; have HB := aj.mk hb; clear ho hb hg hat))
  go_ret
  exact ⟨_, rfl, HO.out, HB.out⟩
def slices_Clone_int.f (l0 : List Int) : Option (List Int) := if l0.length ≤ 1000000000 then some l0 else none
theorem slices_Clone_int.U1 {l r : List Int} (h : slices_Clone_int.f l = some r) : r = l ∧ l.length ≤ 1000000000 := by
 unfold slices_Clone_int.f at h
 split at h
 ·exact ⟨(Option.some.inj h).symm, ‹_›⟩
 ·cases h
theorem slices_Clone_int.calls (A0 : Option Addr) (c0 : Nat) (l0 : List Int) (r : List Int) (w : World) (hr0 : Kd.C (Kd.int .i64) w A0 l0.length l0) (hc0 : l0.length ≤ c0) (h : slices_Clone_int.f l0 = some r) :
  Calls Tryz.prog 225 #[.slice A0 l0.length c0] w fun e w' => ∃ kM : Value, e = .returned (kM) ∧ Kd.R (Kd.int .i64) 3 w' w.heap.size (fun _ => True) kM r ∧ Below w.heap.size w w' := by
 obtain ⟨rfl, hl⟩ := slices_Clone_int.U1 h; clear h; have HR := aj.mk hr0; have HL := aj.mk hl; have HB := aj.mk (Below.refl w.heap.size w); clear hl
 have hq : ∀ (w : World) (a : Option Addr) (n c n' c' : Nat), (binOp .eql 47 (.slice a n c) (.slice none n' c')).run Tryz.prog w = .ok (.bool a.isNone) w := fun w a n c n' c' => Lib.run_eql_slice_nil w _ _ a n c n' c' Tryz.underlying47
 rcases A0 with _ | ad
 ·obtain rfl : r = [] := by
   have := hr0.1; have h2 := hr0.2.2
   rcases r with _ | ⟨x, r⟩
   ·rfl
   ·obtain ⟨_, h, _⟩ := h2 (by simp)
    cases h
  clear hr0
  go_enter Tryz.func225, Tryz.ntmps225
  go_wp2_with fail
  go_ret
  exact ⟨_, rfl, Kd.lJ _ _ _ _ _, HB.out⟩
 ·clear hr0
  go_enter Tryz.func225, Tryz.ntmps225
  go_wp2_with (first | ((with_reducible refine av (N := 5) rfl ?_); refine Kd.qJ (Kd.int .i64) w.heap.size 3 rfl (N := 5) rfl (xs := []) (inner := []) (ok := fun _ => True) (nE := fun _ => True) tG (dH.none _ _) (fun _ h => h) trivial HB.out (Nat.le_refl _) (by simp) ?_; clear HB; intro v1 w1 ho hb hg _; have HO := aj.mk ho; have HB := aj.mk hb; clear ho hb hg) | ((with_reducible refine eD (b := .append) (xs := #[.tmp 5, .tmp 6]) rfl ?_); at_builtin; refine Kd.uQ (Kd.int .i64) (Rr := (Kd.int .i64).K w1) (w0 := w) w.heap.size rfl (.tmp 5) (.tmp 6) 47 3 (.int .i64 0) 8 rfl Tryz.underlying47 info3 rfl (by decide) (by omega) v1 [] r (some ad) r.length c0 (fun _ => True) (fun _ => False) rfl rfl HO.out ?aR ?aK (fun _ hk => hk.elim) (fun _ _ => trivial) HB.out (aX HB.out) (by have := HL.out; simp; omega) ?_; (case aR => exact Kd.ak HR.out HB.out); (case aK => exact fun x cs hx => by exact hx); clear HO HB; intro v2 w2 ho hb hg hat; have HO := aj.mk ho; have HB := aj.mk hb; clear ho hb hg hat))
  go_ret
  exact ⟨_, rfl, HO.out, HB.out⟩
end Go.Proofs.YtnpfbjnjdngkhaaGreatDoor.P
namespace Go.Proofs.YtnpfbjnjdngkhaaGreatDoor.P
open Go.RowKit Go.Proofs.YtnpfbjnjdngkhaaGreatDoorW.aW Go.Proofs.YtnpfbjnjdngkhaaGreatDoorW.bZ Go.Proofs.YtnpfbjnjdngkhaaGreatDoorW.dh
attribute [local go_sem] fE fF gU gV eX eY fG fH
attribute [local go_sem] Oper.semAt_some
def E5 (lo hi : Int) : List Int := (List.range (hi + 1 - lo).toNat).map fun (i : Nat) => lo + (i : Int)
def lW : List bT → List (List Int)
 | [] => [[]]
 | s :: r => (E5 s.f0 s.f1).flatMap fun n => (lW r).map (n :: ·)
structure pQ where
 A : Option Addr
 c : Nat
 xs : List Int
def pQ.enc (x : pQ) : Array Value := #[.slice x.A x.xs.length x.c]
def pQ.Rd (x : pQ) (W : World) : Prop := Kd.C (Kd.int .i64) W x.A x.xs.length x.xs ∧ x.xs.length ≤ x.c
def mX (Wr : Nat → Prop) (W W' : World) : Prop := W.heap.size ≤ W'.heap.size ∧ ∀ k o, W.heap[k]? = some o → o.isCells = true → ¬ Wr k → W'.heap[k]? = some o
theorem mX.refl (Wr : Nat → Prop) (W : World) : mX Wr W W := ⟨Nat.le_refl _, fun _ _ h _ _ => h⟩
theorem mX.trans {Wr : Nat → Prop} {A B C : World} (h : mX Wr A B) (k : mX Wr B C) : mX Wr A C := ⟨Nat.le_trans h.1 k.1, fun i o hi ho hw => k.2 i o (h.2 i o hi ho hw) ho hw⟩
theorem mX.below {Wr : Nat → Prop} {W W' : World} (h : Below W.heap.size W W') : mX Wr W W' := ⟨h.size, fun k o hk _ _ => (h.block k (cZ hk)).trans hk⟩
theorem mX.box {Wr : Nat → Prop} {W W' : World} (h : mX Wr W W') {g : Nat} {cs : Array Value} {t : TypeId} (hg : aj (W.heap[g]? = some (.cells cs t (0, 0)))) (hw : ¬ Wr g) : aj (W'.heap[g]? = some (.cells cs t (0, 0))) := ⟨h.2 g _ hg.out rfl hw⟩
theorem Nt {W W' : World} (h : Below W.heap.size W W') : W.grownBy W' none := ⟨h.os, h.tape, h.output, h.size, fun k hk _ => h.block k hk⟩
theorem mX.row {α : Type} {d : Kd α} {Wr : Nat → Prop} {W W' : World} {A : Option Addr} {n : Nat} {xs : List α} (hk : mX Wr W W') (hd : ∀ {W W' : World} {x : α} {cs : List Value}, d.K W x cs → d.K W' x cs) (h : d.C W A n xs) (hw : ∀ ad, A = some ad → 0 < n → ¬ Wr ad.block) : d.C W' A n xs := by
 refine ⟨h.1, h.2.1, fun hn => ?_⟩; obtain ⟨ad, he, hc⟩ := h.2.2 hn; refine ⟨ad, he, fun j p hj => ?_⟩; obtain ⟨cs, h1, h2, h3⟩ := hc j p hj; refine ⟨cs, h1, hd h2, fun i u hu => ?_⟩; have hcell := h3 i u hu; obtain ⟨o, ho, hoc⟩ := cells_of_cell hcell; exact (World.cell?_of_block ((hk.2 _ o ho hoc (by rw [add_block]; exact hw ad he hn)).trans ho.symm)).trans hcell
theorem U2 {W W' : World} {x : bT} {cs : List Value} (h : j3.K W x cs) : j3.K W' x cs := by
 obtain rfl := vC h; exact Nh _ _
theorem vG {W W' : World} {x : Int} {cs : List Value} (h : (Kd.int .i64).K W x cs) : (Kd.int .i64).K W' x cs := h
theorem qaL {w : World} {base : Nat} {ok : Nat → Prop} (n : Int) : dH ((Kd.int .i64).M w base ok) (Kd.int .i64).sz [n] [.int .i64 n] := dH.one (show Kd.M (Kd.int .i64) _ _ _ n [.int .i64 n] from rfl) (dH.none _ _)
theorem PZ {lo hi : Int} (h : hi < lo) : E5 lo hi = [] := by
 unfold E5
 rw [show (hi + 1 - lo).toNat = 0 by omega]
 rfl
theorem zT {lo hi : Int} (h : lo ≤ hi) : E5 lo hi = lo :: E5 (lo + 1) hi := by
 unfold E5
 rw [show (hi + 1 - lo).toNat = (hi + 1 - (lo + 1)).toNat + 1 by omega, List.range_succ_eq_map, List.map_cons, List.map_map]
 congr 1
 ·simp
 ·apply List.map_congr_left
  intro i _; simp only [Function.comp]
  omega
theorem P5 {lo hi n : Int} (h0 : lo ≤ n) (h1 : n ≤ hi) : n ∈ E5 lo hi := by
 unfold E5
 refine List.mem_map.2 ⟨(n - lo).toNat, List.mem_range.2 (by omega), by omega⟩
theorem Yk {lo hi n : Int} (h : n ∈ E5 lo hi) : lo ≤ n ∧ n ≤ hi := by
 unfold E5 at h
 obtain ⟨i, hi, rfl⟩ := List.mem_map.1 h; have := List.mem_range.1 hi
 omega
theorem Ta {l : List bT} {i : Nat} (h : i < l.length) : lW (l.drop i) = (E5 (bM l i).f0 (bM l i).f1).flatMap fun n => (lW (l.drop (i + 1))).map (n :: ·) := by
 rw [List.drop_eq_getElem_cons h, lW, bM, List.getD_eq_getElem?_getD, Int.toNat_natCast, List.getElem?_eq_getElem h]
 rfl
section
variable (gl gy gs l : Nat) (Al : Option Addr) (cl : Nat) (ls : List bT) (Wr : Nat → Prop) (J : List pQ → World → Prop) (B : Nat)
structure P6 (W : World) : Prop where
 hl : W.heap[gl]? = some (.cells #[.slice Al ls.length cl] 28 (0, 0))
 hy : W.heap[gy]? = some (.cells #[.func (.yield l) #[] #[]] 247 (0, 0))
 hs : W.heap[gs]? = some (.cells #[.func (.func 224) #[] #[.pointer (some ⟨gl, 0, none⟩), .pointer (some ⟨gy, 0, none⟩), .pointer (some ⟨gs, 0, none⟩)]] 247 (0, 0))
 hr : Kd.C j3 W Al ls.length ls
 hB : B ≤ W.heap.size
theorem P6.kp {gl gy gs l : Nat} {Al : Option Addr} {cl : Nat} {ls : List bT} {Wr : Nat → Prop} {B : Nat} {W W' : World} (h : P6 gl gy gs l Al cl ls B W) (hk : mX Wr W W') (h1 : ¬ Wr gl) (h2 : ¬ Wr gy) (h3 : ¬ Wr gs) (h4 : ∀ ad, Al = some ad → ¬ Wr ad.block) : P6 gl gy gs l Al cl ls B W' :=
 ⟨hk.2 _ _ h.hl rfl h1, hk.2 _ _ h.hy rfl h2, hk.2 _ _ h.hs rfl h3, hk.row U2 h.hr (fun ad e _ => h4 ad e), Nat.le_trans h.hB hk.1⟩
end
theorem Ir (gl gy gs l : Nat) (Al : Option Addr) (cl : Nat) (ls : List bT) (Wr : Nat → Prop) (J : List pQ → World → Prop) (B : Nat)
  (hls : ls.length ≤ 1000) (hin : ∀ s ∈ ls, -1000000 ≤ s.f0 ∧ s.f1 ≤ 1000000) (hJ : OwnFrom B J) (h1 : ¬ Wr gl) (h2 : ¬ Wr gy) (h3 : ¬ Wr gs) (h4 : ∀ ad, Al = some ad → ¬ Wr ad.block) (h5 : ∀ k, Wr k → k < B) (P : List Int → Prop) (N : Nat)
  (hY : ∀ pre (x : pQ) W1, J pre W1 → x.Rd W1 → P x.xs → (∀ ad, x.A = some ad → ¬ Wr ad.block) → pre.length < N → YieldAt Fence.wide 1 Tryz.prog l x.enc W1 fun e W' => e = .returned (.bool true) ∧ J (pre ++ [x]) W' ∧ mX Wr W1 W') :
  ∀ (m : Nat) (now : List Int) (A : Option Addr) (c : Nat) (pre : List pQ) (W : World), now.length + m = ls.length → (∀ zs ∈ lW (ls.drop now.length), P (now ++ zs)) → pre.length + (lW (ls.drop now.length)).length ≤ N → J pre W → P6 gl gy gs l Al cl ls B W → Kd.C (Kd.int .i64) W A now.length now → now.length ≤ c → (∀ ad, A = some ad → ¬ Wr ad.block) →
  Calls Tryz.prog 224 #[.slice A now.length c, .pointer (some ⟨gl, 0, none⟩), .pointer (some ⟨gy, 0, none⟩), .pointer (some ⟨gs, 0, none⟩)] W fun e W' => e = .returned (.bool true) ∧ ∃ ys : List pQ, ys.map pQ.xs = (lW (ls.drop now.length)).map (now ++ ·) ∧ J (pre ++ ys) W' ∧ mX Wr W W' := by
 intro m
 induction m with
 | zero =>
  intro now A c pre W hm hP hN hj hS hC hc hA; obtain ⟨fn, tmps, assign, body, hy, hR⟩ := hY pre ⟨A, c, now⟩ W hj ⟨hC, hc⟩ (by have := hP [] (by rw [List.drop_eq_nil_of_le (by omega)]; exact List.mem_singleton.2 rfl); rwa [List.append_nil] at this) hA (by rw [List.drop_eq_nil_of_le (by omega)] at hN; simp [lW] at hN; omega); simp only [pQ.enc] at hy; have HR := aj.mk hR; clear hR hY
  have hq : ((now.length : Int) == (ls.length : Int)) = true := by simp; omega
  have c1 := fT hS.hl; have c2 := fT hS.hy; have c3 := fT hS.hs
  go_enter Tryz.func224, Tryz.ntmps224
  refine (wpIn_wide (n := 2)).1 ?_
  gi_wp2
  refine RoundIn.mono HR.out ?_; rintro e W' ⟨rfl, hj', hk⟩
  gi_wp2
  go_ret
  refine ⟨rfl, [⟨A, c, now⟩], ?_, hj', hk⟩; rw [List.drop_eq_nil_of_le (by omega)]; simp [lW]
 | succ m ih =>
  intro now A c pre W hm hP hN hj hS hC hc hA; have HP := aj.mk hP; clear hP; obtain ⟨s, hs⟩ : ∃ s, s = bM ls now.length := ⟨_, rfl⟩
  have hsm : s ∈ ls := by rw [hs]; exact (getD_at ls z37 now.length (by omega) (by omega)).1
  have hq : ((now.length : Int) == (ls.length : Int)) = false := by simp; omega
  have hlt : (now.length : Int) < ls.length := by omega
  have HI := aj.mk (hin s hsm); have HJ := aj.mk hj; have U3 := aj.mk hS; have HC := aj.mk hC; have HIH := aj.mk ih; have HS := aj.mk hs; clear hj hS hC ih hY hsm; obtain ⟨ad, rfl, hx0, hx1⟩ := mD U3.out.hr now.length (by omega) hlt; rw [← HS.out, Int.toNat_natCast] at hx0 hx1; have c1 := fT U3.out.hl; have c2 := fT U3.out.hy; have c3 := fT U3.out.hs; clear hs
  go_enter Tryz.func224, Tryz.ntmps224
  refine (wpIn_wide (n := 2)).1 ?_
  gi_wp2
  have HT := aj.mk (show lW (ls.drop now.length) = (E5 s.f0 s.f1).flatMap (fun n => (lW (ls.drop (now.length + 1))).map (n :: ·)) by rw [Ta (by omega), ← HS.out]); clear hx0 hx1 c1 c2 c3
  gi_loopw [7] (fun i W' => ∃ (n : Int) (ys : List pQ), i = .int .i64 n ∧ s.f0 ≤ n ∧ aj (n ≤ s.f1 + 1 ∨ n = s.f0) ∧ aj (ys.map pQ.xs ++ ((E5 n s.f1).flatMap (fun n => (lW (ls.drop (now.length + 1))).map (n :: ·))).map (now ++ ·) = (lW (ls.drop now.length)).map (now ++ ·)) ∧ aj (J (pre ++ ys) W') ∧ aj (mX Wr W W')) (fun i _ => (s.f1 + 1 - intOf i).toNat)
  case atStart => exact ⟨s.f0, [], rfl, Int.le_refl _, ⟨.inr rfl⟩, ⟨by rw [HT.out]; simp⟩, ⟨by simpa using HJ.out⟩, ⟨mX.refl _ _⟩⟩
  case round =>
   obtain ⟨n, ys, rfl, hn0, hn1, HY, HJ2, HK⟩ := hrel; have Dw := aj.mk (U3.out.kp HK.out h1 h2 h3 h4); obtain ⟨ad2, e2, hx0, hx1⟩ := mD Dw.out.hr now.length (by omega) hlt
   cases e2
   rw [← HS.out, Int.toNat_natCast] at hx0 hx1; have c1 := fT Dw.out.hl; have c2 := fT Dw.out.hy; have c3 := fT Dw.out.hs; have hqi := HI.out; have hqj := hn1.out
   by_cases hle : n ≤ s.f1
   ·have HC2 := aj.mk (HK.out.row (vG) HC.out (fun ad e _ => hA ad e))
    have HCf := aj.mk (show slices_Clone_int.f now = some now by unfold slices_Clone_int.f; rw [if_pos (by omega)])
    gi_wp2
    refine EZ none (fun ⟨_, _, h⟩ => by have h2 : Ending.outgrown = Ending.returned (.bool true) ∧ _ := h; cases h2.1) (by rfl) (S := fun w' => w'.cell? ⟨gs, 0, none⟩ = some (.func (.func 224) #[] #[.pointer (some ⟨gl, 0, none⟩), .pointer (some ⟨gy, 0, none⟩), .pointer (some ⟨gs, 0, none⟩)])) (ds := []) (bA 8 0) tX rfl rfl c3 (fun hHeld => ?_); have HB := aj.mk (fJ (Below.refl wr.heap.size wr))
    generalize wr.drew = w6 at HB hHeld ⊢
    refine aH (i := 1) (N := some 32) (v := ?_) (a' := ?_) (bA 8 2) rfl rfl tX (fun _ _ _ h => h) (Or.inl ⟨by rfl, ?_⟩) ?_ ?_; rotate_left
    ·intro w'
     go_simp
     with_reducible rfl
    rotate_left
    ·simp only [Act.put, sL, ay, aA]
     rfl
    refine aH (i := 3) (N := some 34) (v := ?_) (a' := ?_) (bA 8 10) rfl rfl tX (fun _ _ _ h => h) (Or.inl ⟨by rfl, ?_⟩) ?_ ?_; rotate_left
    ·intro w'
     go_simp
     with_reducible rfl
    rotate_left
    ·simp only [Act.put, sL, ay, aA]
     rfl
    refine fC (i := 0) (N := some 31) (v := ?_) (a' := ?_) (bA 8 11) rfl rfl tX (fun _ _ _ h => h) (Or.inl ⟨by rfl, ?_⟩) hHeld ?_ ?_; rotate_left
    ·rintro w' s0
     go_simp
     with_reducible rfl
    rotate_left
    ·simp only [Act.put, sL, ay, aA]
     rfl
    refine wV (σ := Value × Value) 3 (bA 8 31) (fun s_ => [(33, s_.1), (35, s_.2)]) (fun s_ w' => w'.cell? ⟨gs, 0, none⟩ = some (.func (.func 224) #[] #[.pointer (some ⟨gl, 0, none⟩), .pointer (some ⟨gy, 0, none⟩), .pointer (some ⟨gs, 0, none⟩)]) ∧ Kd.R (Kd.int .i64) 3 w' wr.heap.size (fun _ => True) s_.1 now ∧ Kd.R (Kd.int .i64) 3 w' wr.heap.size (fun _ => True) s_.2 [n] ∧ uj s_.1 s_.2 ∧ Below wr.heap.size wr w') ?_ ?_; rotate_left
    ·intro qaN
     refine SL (i := 2) (j := 4) (Ni := some 33) (Nj := some 35) (bA 8 15) (bA 8 27) rfl rfl rfl rfl tX (by decide) (by decide) (fun K hK => ?_) (fun K hK => ?_)
     ·skip
      refine fP Tryz.func225 tX rfl #[.slice A now.length c] (by rfl) rfl rfl (by (try simp only [List.map_toArray, List.map_cons, List.map_nil]); first | done | rfl) ?_; refine (slices_Clone_int.calls A c now now _ (Kd.ak HC2.out HB.out) hc HCf.out).mono ?_; rintro e w7 ⟨v, rfl, ho, hb⟩; refine ⟨_, rfl, ?_⟩; have hsz := HB.out.size; replace HB := fu HB hb; refine hK.out _ _ (fT (aG Dw.out.hs HB.out)) (fun hHeld => ?_); clear hK K; refine dw (a' := ?_) ?_ ?_; rotate_left
      ·show Act.put _ (some 33) _ = _
       simp only [cu, Act.put, sL, ay, aA]
       rfl
      refine gI (i := 4) (N := some 35) (bA 8 31) rfl rfl tX (by decide) (fun K hK => ?_); refine Kd.oF (Kd.int .i64) _ 3 ?hg (N := 35) ?hd (xs := [n]) (inner := [.int .i64 n]) (ok := fun _ => True) (nE := fun _ => True) ?hr ?hp (fun _ hk => hk) trivial (Below.refl _ _) (Nat.le_refl _) (by simp) ?_; (case hd => rfl); (case hg => rfl); (case hr => first | (go_simp; done) | (go_simp; rfl)); (case hp => exact qaL n); intro u w8 ho2 hb2 tq iy; clear tq iy; have hsy := HB.out.size; replace HB := fu HB hb2; refine hK.out _ _ (fT (aG Dw.out.hs HB.out)) (fun hHeld => ?_); clear hK K; refine dw (a' := ?_) ?_ ?_; rotate_left
      ·show Act.put _ (some 35) _ = _
       simp only [cu, Act.put, sL, ay, aA]
       rfl
      exact dw (by simp only [cu, Act.put, sL]) (qaN (v, u) _ ⟨hHeld, Kd.dP (Kd.jy ho hb2) hsz, Kd.dP ho2 hsy, fun k U4 U5 => absurd (Kd.pE ho k U4) (by have := Kd.gH ho2 k U5; omega), HB.out⟩)
     ·skip
      refine Kd.oF (Kd.int .i64) _ 3 ?hg (N := 35) ?hd (xs := [n]) (inner := [.int .i64 n]) (ok := fun _ => True) (nE := fun _ => True) ?hr ?hp (fun _ hk => hk) trivial (Below.refl _ _) (Nat.le_refl _) (by simp) ?_; (case hd => rfl); (case hg => rfl); (case hr => first | (go_simp; done) | (go_simp; rfl)); (case hp => exact qaL n); intro u w8 ho2 hb2 tq iy; clear tq iy; have hsz := HB.out.size; replace HB := fu HB hb2; refine hK.out _ _ (fT (aG Dw.out.hs HB.out)) (fun hHeld => ?_); clear hK K; refine dw (a' := ?_) ?_ ?_; rotate_left
      ·show Act.put _ (some 35) _ = _
       simp only [cu, Act.put, sL, ay, aA]
       rfl
      refine gI (i := 2) (N := some 33) (bA 8 31) rfl rfl tX (by decide) (fun K hK => ?_); refine fP Tryz.func225 tX rfl #[.slice A now.length c] (by rfl) rfl rfl (by (try simp only [List.map_toArray, List.map_cons, List.map_nil]); first | done | rfl) ?_; refine (slices_Clone_int.calls A c now now _ (Kd.ak HC2.out HB.out) hc HCf.out).mono ?_; rintro e w7 ⟨v, rfl, ho, hb⟩; refine ⟨_, rfl, ?_⟩; have hsy := HB.out.size; replace HB := fu HB hb; refine hK.out _ _ (fT (aG Dw.out.hs HB.out)) (fun hHeld => ?_); clear hK K; refine dw (a' := ?_) ?_ ?_; rotate_left
      ·show Act.put _ (some 33) _ = _
       simp only [cu, Act.put, sL, ay, aA]
       rfl
      exact dw (by simp only [cu, Act.put, sL]) (qaN (v, u) _ ⟨hHeld, Kd.dP ho hsy, Kd.dP (Kd.jy ho2 hb) hsz, fun k U4 U5 => absurd (Kd.pE ho2 k U5) (by have := Kd.gH ho k U4; omega), HB.out⟩)
    ·rintro ⟨v, u⟩ w7 ⟨hc3, hov, hou, hne, hbw⟩
     have HB7 := aj.mk hbw; obtain ⟨A2, c2', rfl, hl2, hC2⟩ := Kd.fO hou; refine dw (a' := ?_) ?_ ?_; rotate_left
     ·show cu _ _ = _
      simp only [cu, Act.put, sL, ay, aA]
      rfl
     refine gI (i := 5) (N := some 36) (bA 8 63) rfl rfl tX (by decide) (fun K hK => ?_); refine Kd.oG (Kd.int .i64) (Rr := (Kd.int .i64).K w7) (w0 := wr) wr.heap.size (by rfl) (.tmp 33) (.tmp 35) 47 3 (.int .i64 0) 8 rfl Tryz.underlying47 info3 rfl (by decide) (by omega) v now [n] A2 [n].length c2' (fun _ => True) (fun _ => False) rfl rfl hov hC2 (fun _ _ h => h) (fun _ h => h.elim) (fun _ _ => trivial) hbw hbw.size (by simp; omega) ?_; intro v2 w8 ho hb hg hat; clear HB HB7; have HB := aj.mk hb; refine hK.out _ _ (fT (aG Dw.out.hs HB.out)) (fun hHeld => ?_); clear hK K; refine dw (a' := ?_) ?_ ?_; rotate_left
     ·show Act.put _ (some 36) _ = _
      simp only [cu, Act.put, sL, ay, aA]
      rfl
     refine gI (i := 6) (N := some 37) (bA 8 127) rfl rfl tX (by decide) (fun K hK => ?_); obtain ⟨A3, c3', rfl, hl3, hC3⟩ := Kd.fO ho
     have hA3 : ∀ ad, A3 = some ad → ¬ Wr ad.block := fun ad e hw => by
      subst e; have q1 := Kd.gH ho ad.block rfl; have q2 := h5 _ hw; have q3 := Dw.out.hB
      omega
     have qlg := Dw.out.kp (mX.below HB.out) h1 h2 h3 h4; refine PI 224 #[.slice A3 (now ++ [n]).length c3', .pointer (some ⟨gl, 0, none⟩), .pointer (some ⟨gy, 0, none⟩), .pointer (some ⟨gs, 0, none⟩)] (by rfl) rfl tG ?_
     refine (HIH.out (now ++ [n]) A3 c3' (pre ++ ys) w8 (by simp; omega) (fun zs hz => by
      rw [List.append_assoc]; refine HP.out _ ?_; rw [HT.out]; refine List.mem_flatMap.2 ⟨n, P5 hn0 hle, List.mem_map.2 ⟨zs, ?_, rfl⟩⟩
      simpa using hz) (by
      have q1 := congrArg List.length HY.out; rw [zT hle] at q1; simp only [List.length_append, List.length_map, List.flatMap_cons] at q1 ⊢; simp only [List.length_cons, List.length_nil, Nat.zero_add]
      omega) (hJ _ _ _ none HJ2.out (Nt HB.out) (fun _ e => by cases e)) qlg hC3 hl3 hA3).mono ?_
     rintro e w9 ⟨rfl, zs, hz, hj3, hk3⟩; refine ⟨_, rfl, ?_⟩; have HK9 := aj.mk ((mX.below (Wr := Wr) HB.out).trans hk3); refine hK.out _ _ (fT (Dw.out.kp HK9.out h1 h2 h3 h4).hs) (fun hHeld => ?_); clear hK K; refine dw (a' := ?_) ?_ ?_; rotate_left
     ·show Act.put _ (some 37) _ = _
      simp only [cu, Act.put, sL, ay, aA]
      rfl
     refine aH (i := 7) (N := some 38) (v := ?_) (a' := ?_) (bA 8 255) rfl rfl tX (fun _ _ _ h => h) (Or.inl ⟨by rfl, ?_⟩) ?_ ?_; rotate_left
     ·intro w'
      go_simp
      with_reducible rfl
     rotate_left
     ·simp only [Act.put, sL, ay, aA]
      rfl
     refine kZ tX ?_; have HZ := aj.mk hz; have HJ9 := aj.mk hj3; clear hz hj3 hk3 HB hb hg hat hHeld c1 c2 c3 hx0 hx1
     gi_wp2
     go_roundw
     case rel => exact ⟨n + 1, ys ++ zs, by go_num, by omega, ⟨by omega⟩, ⟨by
      rw [← HY.out, zT hle, List.map_append, HZ.out]
      simp [List.flatMap_cons, Function.comp_def]⟩, ⟨by rw [← List.append_assoc]; exact HJ9.out⟩, ⟨HK.out.trans HK9.out⟩⟩
     case measure => simp [intOf]; omega
   ·gi_wp2
    go_ret
    exact ⟨rfl, ys, by
     have := HY.out; rw [PZ (by omega)] at this
     simpa using this, HJ2.out, HK.out⟩
theorem zU (gl : Nat) (Al : Option Addr) (cl : Nat) (ls : List bT) (Wr : Nat → Prop) (w : World) (hls : ls.length ≤ 1000) (hin : ∀ s ∈ ls, -1000000 ≤ s.f0 ∧ s.f1 ≤ 1000000)
  (hl : w.heap[gl]? = some (.cells #[.slice Al ls.length cl] 28 (0, 0))) (hr : Kd.C j3 w Al ls.length ls) (h1 : ¬ Wr gl) (h4 : ∀ ad, Al = some ad → ¬ Wr ad.block) (h5 : ∀ k, Wr k → k < w.heap.size) :
  qcp Tryz.prog 223 #[.pointer (some ⟨gl, 0, none⟩)] pQ.enc (fun x W => x.Rd W ∧ x.xs ∈ lW ls ∧ ∀ ad, x.A = some ad → ¬ Wr ad.block) (mX Wr) (fun ys => ys.map pQ.xs = lW ls) (lW ls).length w := by
 intro l J W hb hJ hY h0; have HB := aj.mk (Below.refl W.heap.size W); have HY := aj.mk hY; have HJ := aj.mk hJ; have H0 := aj.mk h0; have HL := aj.mk (aG hl hb); have HR := aj.mk (Kd.ak hr hb); have H5 := aj.mk (fun k (hk : Wr k) => Nat.lt_of_lt_of_le (h5 k hk) hb.size); clear hY hJ h0 hl hr h5 hb; refine callsIn_wide.2 ?_
 go_enter Tryz.func223, Tryz.ntmps223
 go_wp2_with (first | ((with_reducible refine av (N := 2) rfl ?_); refine jD rfl rfl (cs := #[.func (.yield l) #[] #[]]) (t := 247) tG HB ?_; clear HB; intro gy w3 JO GY HB hx hz; replace HL := dW HL hx; clear hx hz) | ((with_reducible refine av (N := 3) rfl ?_); refine jD rfl rfl (cs := #[Value.nilFunc]) (t := 247) tG HB ?_; clear HB; intro gs w4 J9 GS HB hx hz; have D := aj.mk (show gy ≠ gs ∧ gl ≠ gs from ⟨fun e => by have := cZ JO.out; omega, fun e => by have := cZ HL.out; omega⟩); replace HL := dW HL hx; replace JO := dW JO hx; clear hx hz) | ((with_reducible refine bE (t := 247) (p := 3) rfl ?_); refine je rfl rfl rfl J9 GS HB (.func (.func 224) #[] #[.pointer (some ⟨gl, 0, none⟩), .pointer (some ⟨gy, 0, none⟩), .pointer (some ⟨gs, 0, none⟩)]) [.func (.func 224) #[] #[.pointer (some ⟨gl, 0, none⟩), .pointer (some ⟨gy, 0, none⟩), .pointer (some ⟨gs, 0, none⟩)]] #[.func (.func 224) #[] #[.pointer (some ⟨gl, 0, none⟩), .pointer (some ⟨gy, 0, none⟩), .pointer (some ⟨gs, 0, none⟩)]] rfl rfl rfl tX (Nat.le_refl _) (by simp [Value.oneCell']) rfl ?_; clear HB J9; intro w5 J9 HB hx; replace HL := gW HL hx D.out.2; replace JO := gW JO hx D.out.1; have cs := fT J9.out; clear hx))
 refine (Ir gl gy gs l Al cl ls Wr J W.heap.size hls hin HJ.out h1 (fun h => by have := H5.out _ h; have := GY.out; omega) (fun h => by have := H5.out _ h; have := GS.out; omega) h4 H5.out (fun xs => xs ∈ lW ls) (lW ls).length (fun pre x W1 hj hr hp hq hn => HY.out pre x W1 hj ⟨hr, hp, hq⟩ hn) ls.length [] none 0 [] w5 (by simp) (fun zs hz => by simpa using hz) (by simp) (HJ.out _ _ _ none H0.out (Nt HB.out) (fun _ e => by cases e)) ⟨HL.out, JO.out, J9.out, Kd.ak HR.out HB.out, HB.out.size⟩ (Kd.PG _ _) (Nat.zero_le _) (fun _ e => by cases e)).mono ?_; rintro e w6 ⟨rfl, ys, hy, hj, hk⟩; have HZ := aj.mk hy; have HJ6 := aj.mk hj; clear hy hj hk
 go_wp2_with fail
 go_end0
 exact ⟨⟨_, rfl⟩, ys, by rw [HZ.out]; simp, HJ6.out⟩
theorem CB (gl : Nat) (Al : Option Addr) (cl : Nat) (ls : List bT) (Wr : Nat → Prop) (w : World) (hls : ls.length ≤ 1000) (hin : ∀ s ∈ ls, -1000000 ≤ s.f0 ∧ s.f1 ≤ 1000000)
  (hl : w.heap[gl]? = some (.cells #[.slice Al ls.length cl] 28 (0, 0))) (hr : Kd.C j3 w Al ls.length ls) (h1 : ¬ Wr gl) (h4 : ∀ ad, Al = some ad → ¬ Wr ad.block) (h5 : ∀ k, Wr k → k < w.heap.size) :
  qcp Tryz.prog 223 #[.pointer (some ⟨gl, 0, none⟩)] pQ.enc (fun x W => x.Rd W ∧ x.xs ∈ lW ls) (mX Wr) (fun ys => ys.map pQ.xs = lW ls) (lW ls).length w :=
 fun l J W hb hJ hY h0 => zU gl Al cl ls Wr w hls hin hl hr h1 h4 h5 l J W hb hJ (fun pre x W1 hj hrd hn => hY pre x W1 hj ⟨hrd.1, hrd.2.1⟩ hn) h0
theorem uT (A : Option Addr) (c : Nat) (ls : List bT) (w : World) :
  Calls Tryz.prog 200 #[.slice A ls.length c] w fun e w' => ∃ g, e = .returned (.func (.func 223) #[] #[.pointer (some ⟨g, 0, none⟩)]) ∧ w.heap.size ≤ g ∧ w'.heap[g]? = some (.cells #[.slice A ls.length c] 28 (0, 0)) ∧ Below w.heap.size w w' := by
 have HB := aj.mk (Below.refl w.heap.size w)
 go_enter Tryz.func200, Tryz.ntmps200
 go_wp2_with (first | ((with_reducible refine av (N := 1) rfl ?_); refine ko rfl rfl (cs := #[.slice A ls.length c]) (t := 28) tG HB ?_; clear HB; intro g w3 HG GG HB hx; clear hx))
 go_ret
 exact ⟨g, rfl, GG.out, HG.out, HB.out⟩
end Go.Proofs.YtnpfbjnjdngkhaaGreatDoor.P
namespace Go.Proofs.YtnpfbjnjdngkhaaGreatDoor.P
open Go.RowKit Go.Proofs.YtnpfbjnjdngkhaaGreatDoorW.aW Go.Proofs.YtnpfbjnjdngkhaaGreatDoorW.bZ Go.Proofs.YtnpfbjnjdngkhaaGreatDoorW.dh
attribute [local go_sem] fE fF gU gV eX eY fG fH
def ownB (l : List bg) (d : Int) : List bg := l.filter fun b => b.f0 == d
theorem U6 (gd : Nat) (d : Int) (x : bg) (w : World) (hb : w.heap[gd]? = some (.cells #[.int .i64 d] 3 (0, 0))) :
  Calls Tryz.prog 237 #[.agg #[.int .i64 x.f0, .int .i64 x.f1, .int .i64 x.f2.f0, .int .i64 x.f2.f1], .pointer (some ⟨gd, 0, none⟩)] w fun e w' => e = .returned (.bool (x.f0 != d)) ∧ Below w.heap.size w w' := by
 have HB := aj.mk (Below.refl w.heap.size w); have HK := aj.mk hb; clear hb; have hu := Tryz.underlying154
 go_enter Tryz.func237, Tryz.ntmps237
 go_wp2_with (first | ((with_reducible refine av (N := 2) rfl ?_); refine ko rfl rfl (cs := #[.int .i64 x.f0, .int .i64 x.f1, .int .i64 x.f2.f0, .int .i64 x.f2.f1]) (t := 154) tG HB ?_; clear HB; intro gx w3 HX GX HB hx; replace HK := dW HK hx; obtain ⟨c0, c1, c2, c3⟩ := BQ HX.out; have c4 := fT HK.out; clear hx))
 go_ret
 exact ⟨rfl, HB.out⟩
theorem Yl (w : World) : (zeroValue 154).run Tryz.prog w = .ok (.agg #[.int .i64 0, .int .i64 0, .int .i64 0, .int .i64 0]) w := by
 obtain ⟨i, hi, hz⟩ := Option.map_eq_some_iff.1 DY; simp only [Prod.mk.injEq] at hz; simp [zeroValue, typeInfo, hi, hz.1]
theorem qcq {P : Program} {ρ : Operand → Value} {xs : Array Operand} {vs : Array Value} {ty : TypeId} {dst : Option Tmp} {pos : String} {after : Array Edge} {guard : Option (Nat × Bool)} {w w' : World} {v : Value} (hx : xs.map ρ = vs) (h : (Builtin.clear_ #[25] ty vs).run P w = .ok v w') :
  (execOp ρ { dst, op := .call { callee := .builtin .clear, args := xs, argTypes := #[25] }, type := ty, pos, after, guard }).run P w = .ok (.value v) w' := by
 rw [BigFrame.execOp_builtin, BigFrame.builtin_clear, hx, Sem.run_bind, h]
 rfl
theorem Tc {P : Program} (W : World) (t e ty : TypeId) (z : Value) (ht : P.underlying t = some (.slice e)) (hz : ∀ w, (zeroValue e).run P w = .ok z w) (hz0 : 0 < z.cells.size) (h1 : ∀ q ∈ z.cells.toList, q.oneCell' = true) (g off n c : Nat) (cur : Array Value)
  (hh : W.heap[g]? = some (.cells cur e (0, 0))) (hfit : off + n * z.cells.size ≤ cur.size) :
  ∃ seg : List Value, seg.length = n * z.cells.size ∧ (Builtin.clear_ #[t] ty #[.slice (some ⟨g, off, none⟩) n c]).run P W = .ok (.tuple #[]) (W.setCells g off seg) := by
 refine ⟨(Builtin.zeroCells z.cells n).toList, by rw [Array.length_toList, size_zeroCells], ?_⟩
 have hl : (Builtin.zeroCells z.cells n).toList.length = n * z.cells.size := by rw [Array.length_toList, size_zeroCells]
 have hst := run_storeCells_cells (P := P) g off (Builtin.zeroCells z.cells n).toList 0 W (fun j hj => by rw [cell_of_row W g _ cur e (0, 0) hh]; simp; omega) (fun j _ => qm hh _) (fun v hv => by
  simp only [Builtin.zeroCells, Array.toList_map, List.mem_map] at hv; obtain ⟨q, _, rfl⟩ := hv; have hm : q % z.cells.size < z.cells.size := Nat.mod_lt _ hz0; rw [getElem!_pos z.cells _ hm]
  exact h1 _ (Array.mem_toList_iff.2 (Array.getElem_mem hm)))
 simp only [Nat.add_zero] at hst
 rcases n with _ | m
 ·simp [Builtin.clear_, run_underlying ht]
  simp [Builtin.zeroCells, World.setCells]
 ·simp [Builtin.clear_, run_underlying ht, hz, hst]
theorem Td {W : World} {base g m c off : Nat} {ok : Nat → Prop} {ys : List bg} {seg : List Value} (h : Kd.R eT 154 W base ok (.slice (some ⟨g, 0, none⟩) m c) ys) (hoff : ys.length * 4 ≤ off) (hfit : off + seg.length ≤ c * 4) :
  Kd.R eT 154 (W.setCells g off seg) base ok (.slice (some ⟨g, 0, none⟩) m c) ys ∧ W.grownBy (W.setCells g off seg) (some g) := by
 obtain ⟨hok, inner, ⟨hil, hown⟩, hr⟩ := h; obtain ⟨h, _⟩ | ⟨g', cap, cur, he, hb, hh, hnc, hcm, hcs, hci⟩ := hown
 ·cases h
 cases he
 have hsz : eT.sz = 4 := rfl; rw [hsz] at hcs hci hil hr; obtain ⟨cur', h3, h4, h5⟩ := lT seg off W cur hh (by rw [hcs]; exact hfit); obtain ⟨s1, s2, s3, s4⟩ := kG g seg off W; refine ⟨⟨hok, inner, ⟨by rw [hsz]; exact hil, .inr ⟨g, c, cur', rfl, hb, h3, hnc, hcm, by rw [h4, hsz]; exact hcs, ?_⟩⟩, hr.vo fun p cs hp => ?_⟩, ⟨s1, s2, s3, by rw [s4]; exact Nat.le_refl _, fun k _ hk => kD _ _ k (fun he => hk (by rw [he]))⟩⟩
 ·rw [hsz, h5, List.append_assoc, List.take_append_of_le_length (by rw [List.length_take, Array.length_toList (xs := cur), hcs]; omega), List.take_take, Nat.min_eq_left (by omega)]
  exact hci
 ·obtain rfl := Nl hp
  exact mZ _ _ _ _
theorem GI {p : bg → Bool} {l : List bg} (h : oH p l ≠ -1) : oH p l < l.length ∧ 0 ≤ oH p l ∧ (∀ x, l[(oH p l).toNat]? = some x → p x = true) ∧ ∀ j x, j < (oH p l).toNat → l[j]? = some x → p x = false := by
 unfold oH at h ⊢
 cases hf : l.findIdx? p with
 | none => rw [hf] at h; simp at h
 | some i =>
  rw [List.findIdx?_eq_some_iff_getElem] at hf; obtain ⟨hi, hp, hn⟩ := hf; refine ⟨by simpa using hi, by simp, fun x hx => ?_, fun j x hj hx => ?_⟩
  ·simp only [Int.toNat_natCast, List.getElem?_eq_getElem hi, Option.some.injEq] at hx
   exact hx ▸ hp
  ·simp only [Int.toNat_natCast] at hj
   have := hn j hj; rw [List.getElem?_eq_getElem (by omega), Option.some.injEq] at hx; subst hx
   simpa using this
theorem U7 {p : bg → Bool} {l : List bg} (h : oH p l = -1) : ∀ x ∈ l, p x = false := by
 unfold oH at h
 cases hf : l.findIdx? p with
 | none => exact fun x hx => by simpa using List.findIdx?_eq_none_iff.1 hf x hx
 | some i => rw [hf] at h; simp at h
theorem Nu {l : List bg} {d : Int} (h : oH (fun x : bg => x.f0 != d) l ≠ -1) : ownB (l.take (oH (fun x : bg => x.f0 != d) l + 1).toNat) d = l.take (oH (fun x : bg => x.f0 != d) l).toNat := by
 obtain ⟨h1, h2, h3, h4⟩ := GI h
 generalize oH (fun x : bg => x.f0 != d) l = i at *
 rw [show (i + 1).toNat = i.toNat + 1 by omega, List.take_add_one, ownB, List.filter_append]; rw [List.getElem?_eq_getElem (by omega)] at h3 ⊢; have := h3 _ rfl; rw [List.filter_eq_self.2, Option.toList_some, List.filter_cons_of_neg (by simpa using this)]
 ·simp
 ·intro x hx
  obtain ⟨j, hj, rfl⟩ := List.mem_iff_getElem.1 hx; rw [List.length_take] at hj; have := h4 j _ (by omega) (List.getElem?_eq_getElem (by omega)); rw [List.getElem_take]
  simpa using this
theorem P7 {zs l : List bg} {j : Int} (h0 : 0 ≤ j) (h2 : zs.drop j.toNat = l.drop j.toNat) (hj : j < l.length) : l[j.toNat]? = some (aC zs j) := by
 have h := congrArg (fun l => l[0]?) h2; simp only [List.getElem?_drop, Nat.add_zero] at h; rw [aC, List.getD_eq_getElem?_getD, h, List.getElem?_eq_getElem (by omega)]
 rfl
theorem GJ {l : List bg} {d : Int} {j : Int} {x : bg} (h0 : 0 ≤ j) (h : l[j.toNat]? = some x) : ownB (l.take (j + 1).toNat) d = ownB (l.take j.toNat) d ++ if x.f0 = d then [x] else [] := by
 rw [show (j + 1).toNat = j.toNat + 1 by omega, List.take_add_one, ownB, List.filter_append, h]
 congr 1
 by_cases e : x.f0 = d
 ·rw [if_pos e]; simp [e]
 ·rw [if_neg e]; simp [e]
theorem GL {zs l : List bg} {j : Int} (h0 : 0 ≤ j) (h : zs.drop j.toNat = l.drop j.toNat) : zs.drop (j + 1).toNat = l.drop (j + 1).toNat := by
 rw [show (j + 1).toNat = j.toNat + 1 by omega, ← List.drop_drop, ← List.drop_drop, h]
theorem U8 {zs : List bg} {i : Int} {x : bg} (h0 : 0 ≤ i) (hi : i < zs.length) : (zs.set i.toNat x).take (i + 1).toNat = zs.take i.toNat ++ [x] := by
 rw [show (i + 1).toNat = i.toNat + 1 by omega, List.take_add_one, List.take_set, List.set_eq_of_length_le (by rw [List.length_take]; omega), List.getElem?_set_self (by omega)]
 rfl
theorem set_drop {zs : List bg} {i j : Int} {x : bg} (h0 : 0 ≤ i) (hi : i < j) : (zs.set i.toNat x).drop (j + 1).toNat = zs.drop (j + 1).toNat := by
 rw [List.drop_set_of_lt (by omega)]
theorem Ym (gd : Nat) (d : Int) (A : Option Addr) (c : Nat) (l : List bg) (w0 w : World) (hb : w.heap[gd]? = some (.cells #[.int .i64 d] 3 (0, 0))) (ho : Kd.R eT 154 w w0.heap.size (fun _ => True) (.slice A l.length c) l) (hB : Below w0.heap.size w0 w) (hge : w0.heap.size ≤ gd) (hl : l.length ≤ 1000000000) :
  Calls Tryz.prog 236 #[.slice A l.length c, .func (.func 237) #[] #[.pointer (some ⟨gd, 0, none⟩)]] w fun e w' => ∃ v : Value, e = .returned v ∧ Kd.R eT 154 w' w0.heap.size (fun _ => True) v (ownB l d) ∧ Below w0.heap.size w0 w' := by
 obtain ⟨p, hp⟩ : ∃ p : bg → Bool, p = fun x => x.f0 != d := ⟨_, rfl⟩
 have HC := aj.mk (UW p 237 #[.pointer (some ⟨gd, 0, none⟩)] A c l w (Kd.cO ho).2.2 (enters_of Tryz.func237 tX rfl) (fun x _ => ⟨fun W cs hbW hK => by
  obtain rfl := sj hK; rw [hp]
  exact U6 gd d x W (aG hb hbW)⟩))
 have HP := aj.mk hp; have HO := aj.mk ho; have HK := aj.mk hb; have HB := aj.mk hB; have HL := aj.mk hl; obtain ⟨i, hi⟩ : ∃ i, i = oH p l := ⟨_, rfl⟩; have HI := aj.mk hi; rw [← hi] at HC; clear ho hb hB hl hp hi
 by_cases hneg : i = -1
 ·have hq : (i == -1) = true := by simp [hneg]
  have HN := aj.mk (show ownB l d = l from List.filter_eq_self.2 fun x hx => by
   have := U7 (by rw [← HI.out]; exact hneg) x hx; rw [HP.out] at this
   simpa using this)
  clear hneg
  go_enter Tryz.func236, Tryz.ntmps236
  go_wp2_with (go_at_call 208; refine HC.out.mono ?_; rintro e w3 ⟨rfl, hx⟩; replace HK := dW HK hx; replace HO := qQ HO hx; replace HB := fu HB hx; clear hx)
  go_ret
  exact ⟨_, rfl, by rw [HN.out]; exact HO.out, HB.out⟩
 ·have hq : (i == -1) = false := by simpa using hneg
  have HN := aj.mk hneg; clear hneg
  go_enter Tryz.func236, Tryz.ntmps236
  go_wp2_with (go_at_call 208; refine HC.out.mono ?_; rintro e w3 ⟨rfl, hx⟩; replace HK := dW HK hx; replace HO := qQ HO hx; replace HB := fu HB hx; clear hx)
  have hi1 : -1 ≤ i := by rw [HI.out]; exact (zk _ _).1
  have hi2 : i < l.length := by rw [HI.out]; exact (GI (by rw [← HI.out]; exact HN.out)).1
  have hi0 : 0 ≤ i := by have := HN.out; omega
  obtain ⟨g, cap, hv, hgb, _, cells, hcells⟩ := Kd.qb3 HO.out (by omega)
  cases hv
  have HG := aj.mk hgb
  have HGD := aj.mk (show gd ≠ g from fun e => by
   have := HK.out; rw [e, hcells] at this
   cases this)
  clear hcells hgb; have hw := aj.mk (show wrap64 (i + 1) = i + 1 by have := HL.out; unfold wrap64; omega)
  go_loopw [5, 6, 7] (fun v5 v6 _ W => ∃ (i j : Int) (zs : List bg), 0 ≤ i ∧ i < j ∧ j ≤ l.length ∧ v5 = .int .i64 i ∧ v6 = .int .i64 j ∧ aj (zs.length = l.length ∧ zs.take i.toNat = ownB (l.take j.toNat) d ∧ zs.drop j.toNat = l.drop j.toNat) ∧ aj (Kd.R eT 154 W w0.heap.size (fun _ => True) (.slice (some ⟨g, 0, none⟩) l.length c) zs) ∧ aj (W.heap[gd]? = some (.cells #[.int .i64 d] 3 (0, 0))) ∧ aj (Below w0.heap.size w0 W)) (fun _ v6 _ _ => l.length - (intOf v6).toNat)
  case atStart => exact ⟨i, wrap64 (i + 1), l, hi0, by rw [hw.out]; omega, by rw [hw.out]; omega, rfl, rfl, ⟨rfl, by rw [hw.out, HI.out, HP.out]; exact (Nu (by rw [← HP.out, ← HI.out]; exact HN.out)).symm, rfl⟩, HO, HK, HB⟩
  case round =>
   clear HO HK HB; obtain ⟨i2, j, zs, h0, h1, h2, rfl, rfl, HZ, HO, HK, HB⟩ := hrel
   by_cases hlt : j < l.length
   ·obtain ⟨ad, e, hx0, hx1, hx2, hx3⟩ := jK (Kd.cO HO.out).2.2 j (by omega) (by have := HZ.out.1; omega)
    cases e
    simp only [Addr.add_lit, Nat.zero_add] at hx0 hx1 hx2 hx3; have hu := Tryz.underlying154; have hlm := HL.out
    go_wp2_with (first | ((with_reducible refine av (N := 7) rfl ?_); refine jD rfl rfl (cs := #[.int .i64 0, .int .i64 0, .int .i64 0, .int .i64 0]) (t := 154) tG HB ?_; clear HB; intro gx wx HX GX HB hx hz; have DX := aj.mk (show gd ≠ gx from fun e => by have := cZ HK.out; omega); have MX := wX HO hz; replace HK := dW HK hx; replace HO := qQ HO hx; clear hx hz) | ((with_reducible refine bE (t := 154) (p := 7) rfl ?_); refine je rfl rfl rfl HX GX HB (.agg #[.int .i64 (aC zs j).f0, .int .i64 (aC zs j).f1, .int .i64 (aC zs j).f2.f0, .int .i64 (aC zs j).f2.f1]) [.int .i64 (aC zs j).f0, .int .i64 (aC zs j).f1, .int .i64 (aC zs j).f2.f0, .int .i64 (aC zs j).f2.f1] #[.int .i64 (aC zs j).f0, .int .i64 (aC zs j).f1, .int .i64 (aC zs j).f2.f0, .int .i64 (aC zs j).f2.f1] rfl rfl rfl tX (Nat.le_refl _) (by simp [Value.oneCell']) rfl ?_; clear HB HX; intro wz HX HB hx; replace HK := gW HK hx DX.out; replace HO := EY HO rfl hx MX.out; obtain ⟨d0, d1, d2, d3⟩ := BQ HX.out; clear hx))
    refine (U6 gd d (aC zs j) _ HK.out).mono ?_; rintro e w5 ⟨rfl, hx⟩; replace HK := dW HK hx; replace HO := qQ HO hx; replace HB := fu HB hx; replace HX := dW HX hx; clear hx hx0 hx1 hx2 hx3 d0 d1 d2 d3; obtain ⟨d0, d1, d2, d3⟩ := BQ HX.out
    cases hp : (aC zs j).f0 != d with
    | false =>
     have HPF := aj.mk (show (aC zs j).f0 = d by simpa using hp); obtain ⟨ad2, cc, e2, hlen, hK2, hc0⟩ := Kd.zL (Kd.cO HO.out).2.2 z154 i2 h0 (by have := HZ.out.1; omega)
     cases e2
     obtain rfl := sj hK2; have HCC := aj.mk (show ∀ (q : Nat) (u : Value), _ → w5.cell? ⟨g, i2.toNat * eT.sz + q, none⟩ = some u from fun q u hu => by have := hc0 q u hu; rwa [Addr.add_lit, Nat.zero_add] at this); clear hp hlen hK2 hc0
     have hi2 : i2 < l.length := by omega
     go_wp2_with ((with_reducible refine bE (t := 154) (p := 33) rfl ?_); refine Kd.X7 eT (w0 := w0) w0.heap.size rfl rfl 154 (.tmp 33) (.tmp 32) rfl 154 (o' := i2.toNat * 4) i2 0 zs (aC zs j) (.agg #[.int .i64 (aC zs j).f0, .int .i64 (aC zs j).f1, .int .i64 (aC zs j).f2.f0, .int .i64 (aC zs j).f2.f1]) [.int .i64 (aC zs j).f0, .int .i64 (aC zs j).f1, .int .i64 (aC zs j).f2.f0, .int .i64 (aC zs j).f2.f1] _ (fun _ => True) (fun _ => False) rfl rfl rfl rfl tX (by simp [Value.oneCell']) HO.out h0 hi2 rfl HCC.out (Nat.le_refl _) (mZ _ _ _ _) (fun _ h => h.elim) HB.out ?_; clear HB HO HCC; intro w6 ho hb hx; replace HK := gW HK hx HGD.out; have HO := aj.mk ho; have HB := aj.mk hb; clear ho hb hx)
     go_roundw
     case rel => exact ⟨i2 + 1, j + 1, zs.set i2.toNat (aC zs j), by omega, by omega, by omega, by go_num, by go_num, ⟨by simp; exact HZ.out.1, by rw [U8 h0 (by have := HZ.out.1; omega), HZ.out.2.1, GJ (by omega) (P7 (by omega) HZ.out.2.2 hlt), if_pos HPF.out], by rw [set_drop h0 h1]; exact GL (by omega) HZ.out.2.2⟩, HO, HK, HB⟩
     case measure => simp [intOf]; omega
    | true =>
     have HPF := aj.mk hp; clear hp
     go_wp2_with fail
     go_roundw
     case rel => exact ⟨i2, j + 1, zs, h0, by omega, by omega, rfl, by go_num, ⟨HZ.out.1, by rw [HZ.out.2.1, GJ (by omega) (P7 (by omega) HZ.out.2.2 hlt), if_neg (by have := HPF.out; simpa using this), List.append_nil], GL (by omega) HZ.out.2.2⟩, HO, HK, HB⟩
     case measure => simp [intOf]; omega
   ·have hg : ¬ j < l.length := hlt
    have hcc := (Kd.cO HO.out).2.1; obtain ⟨_, inner, ⟨_, hown⟩, _⟩ := HO.out; obtain ⟨hbad, _⟩ | ⟨g', cap', cur, he, _, hh, _, _, hcs, _⟩ := hown
    ·cases hbad
    injection he with e1 e2 e3
    clear e2
    injection e1 with e1
    injection e1 with e1 e4 e5
    clear e4 e5; subst e1; subst e3; have hsz : eT.sz = 4 := rfl; rw [hsz] at hcs
    have hj : j = l.length := by omega
    obtain ⟨seg, hs1, hs2⟩ := Tc (P := Tryz.prog) wr 25 154 0 (.agg #[.int .i64 0, .int .i64 0, .int .i64 0, .int .i64 0]) Tryz.underlying25 Yl (by decide) (by simp [Value.oneCell', Value.cells]) g (i2.toNat * 4) (l.length - i2.toNat) (c - i2.toNat) cur hh (by rw [hcs]; show _ + _ * 4 ≤ _; omega); obtain ⟨hR2, hG2⟩ := Td (off := i2.toNat * 4) (seg := seg) (Kd.qb4 HO.out (m := i2.toNat) (by have := HZ.out.1; omega)) (by rw [List.length_take]; omega) (by rw [hs1]; show _ + _ * 4 ≤ _; omega); have HR2 := aj.mk hR2; have HG2 := aj.mk hG2; have HS2 := aj.mk hs2; have HT := aj.mk (show zs.take i2.toNat = ownB l d by rw [HZ.out.2.1, List.take_of_length_le (by omega)]); clear hcs hh hs2 hR2 hG2 hs1 hsz
    go_wp2_with ((with_reducible refine eD (b := .clear) (xs := #[.tmp 38]) rfl ?_); refine Kd.r9 rfl (v := .tuple #[]) (w1 := wr.setCells g (i2.toNat * 4) seg) ?hr ?_; (case hr => exact qcq (by (try simp only [List.map_toArray, List.map_cons, List.map_nil]); first | done | rfl) HS2.out))
    go_ret
    exact ⟨_, rfl, by rw [← HT.out]; exact HR2.out, stepG HB HG2.out HG |>.out⟩
theorem Ka (A : Option Addr) (c : Nat) (l : List bg) (d : Int) (w : World) (hr : Kd.C eT w A l.length l) (hc : l.length ≤ c) (hl : l.length ≤ 1000000000) :
  Calls Tryz.prog 226 #[.slice A l.length c, .int .i64 d] w fun e w' => ∃ v : Value, e = .returned v ∧ Kd.R eT 154 w' w.heap.size (fun _ => True) v (ownB l d) ∧ Below w.heap.size w w' := by
 have HR := aj.mk hr; have HL := aj.mk hl; have HB := aj.mk (Below.refl w.heap.size w); have HF := aj.mk (show eZ.f l = some l by unfold eZ.f; rw [if_pos hl]); clear hr hl
 go_enter Tryz.func226, Tryz.ntmps226
 go_wp2_with (first | ((with_reducible refine av (N := 3) rfl ?_); refine ko rfl rfl (cs := #[.int .i64 d]) (t := 3) tG HB ?_; clear HB; intro gd w3 HD GD HB hx; clear hx) | (go_at_call 124; refine (eZ.calls _ _ _ _ _ (Kd.ak HR.out HB.out) hc HF.out).mono ?_; rintro e w4 ⟨v, rfl, ho, hx⟩; have hsz := HB.out.size; obtain ⟨A1, c1, rfl, hl1, _⟩ := Kd.fO ho; have HO := aj.mk (Kd.dP ho hsz); replace HD := dW HD hx; replace HB := fu HB hx; clear hx ho hsz) | (go_at_call 236; refine (Ym gd d A1 c1 l w _ HD.out HO.out HB.out GD.out HL.out).mono ?_; rintro e w5 ⟨v, rfl, ho, hb⟩; have HO2 := aj.mk ho; have HB2 := aj.mk hb; clear ho hb))
 go_ret
 exact ⟨_, rfl, HO2.out, HB2.out⟩
def jY.l0 : Nat → Int → List Int → Int → Int → Option Int
 | 0, _, _, _, _ => none
 | k + 1, x3, x6, x7, x8 => if x8 < x7 then (if 0 ≤ x8 then (if x8 < (x6.length : Int) then (jY.l0 k (wrap64 (x3 + (rd x6 x8))) x6 x7 (wrap64 (x8 + 1))) else (none)) else (none)) else (some x3)
def jY.f (k : Nat) (l0 : List Int) : Option Int := jY.l0 k 0 l0 (l0.length : Int) 0
theorem jY.calls (k : Nat) (A0 : Option Addr) (c0 : Nat) (l0 : List Int) (r : Int) (w : World) (hr0 : Kd.C (Kd.int .i64) w A0 l0.length l0) (hc0 : l0.length ≤ c0) (h : jY.f k l0 = some r) :
  Calls Tryz.prog 130 #[.slice A0 l0.length c0] w fun e w' => e = .returned (.int .i64 r) ∧ iw w w' := by
 have BR := aj.mk hr0; have XU := aj.mk hc0; clear hr0 hc0; have H : (jY.l0 k 0 l0 (l0.length : Int) 0) = some r := h; clear h; have H' := aj.mk H; clear H
 go_enter Tryz.func130, Tryz.ntmps130
 go_wp2
 go_loopg [3, 8] k (fun kq v3 v8 w' => ∃ (dM : Int) (dR : Int), v3 = .int .i64 dM ∧ v8 = .int .i64 dR ∧ aj (jY.l0 kq dM l0 (l0.length : Int) dR = some r) ∧ aj (kq ≤ k) ∧ iw w w')
 case atStart => exact ⟨(0), (0), tS, tS, H', ⟨Nat.le_refl _⟩, tD⟩
 case round =>
  clear H'
  try clear c1
  obtain ⟨dM, dR, rfl, rfl, HA, ng, ⟨m1, rfl⟩⟩ := hrel
  cases gk with
  | zero => exact absurd HA.out (by simp [jY.l0])
  | succ k1 =>
   have H := HA.out; clear HA; simp only [jY.l0] at H
   by_cases c2 : dR < (l0.length : Int)
   ·rw [if_pos c2] at H
    have BS : decide (dR < (l0.length : Int)) = true := decide_eq_true c2; clear c2
    by_cases c3 : 0 ≤ dR
    ·rw [if_pos c3] at H
     have oZ : decide (0 ≤ dR) = true := decide_eq_true c3; clear c3
     by_cases c4 : dR < (l0.length : Int)
     ·rw [if_pos c4] at H
      have o7 : decide (dR < (l0.length : Int)) = true := decide_eq_true c4; clear c4; have H' := aj.mk H; clear H; have qcr : 0 ≤ (dR : Int) := of_decide_eq_true tA; have qcs : dR < (l0.length : Int) := of_decide_eq_true tA; obtain ⟨qnX, qlj, qhS⟩ := Kd.iH BR.out dR qcr qcs
      cases qlj
      replace qcr := eq_true qcr; replace qcs := eq_true qcs
      go_wp2
      go_roundg k1
      case measure => have := ng.out; omega
      case rel => exact ⟨(wrap64 (dM + (rd l0 dR))), (wrap64 (dR + 1)), tS, tS, H', ⟨by have := ng.out; omega⟩, tD⟩
     ·rw [if_neg c4] at H
      exact absurd H (by simp)
    ·rw [if_neg c3] at H
     exact absurd H (by simp)
   ·rw [if_neg c2] at H
    have BS : decide (dR < (l0.length : Int)) = false := decide_eq_false c2; clear c2; obtain rfl := Option.some.inj H
    go_wp2
    go_ret
    exact ⟨tS, tD⟩
def dB.l0 : Nat → Int → List Int → List Int → List Int → List bg → Int → Int → List bO → Option Int
 | 0, _, _, _, _, _, _, _, _ => none
 | k + 1, x2, x3, x4, U9, MK, x15, Te, DZ => if Te < x15 then (if 0 ≤ Te then (if Te < (MK.length : Int) then (if ((aC MK Te).f0) = x2 then (if Te < (x4.length : Int) then (if 0 ≤ ((aC MK Te).f1) then (if ((aC MK Te).f1) < (x3.length : Int) then (if U9.length < 17592186044416 then (dB.l0 k x2 x3 x4 (U9 ++ [wrap64 ((rd x4 Te) * (rd x3 ((aC MK Te).f1)))]) MK x15 (wrap64 (Te + 1)) DZ) else (none)) else (none)) else (none)) else (none)) else (dB.l0 k x2 x3 x4 U9 MK x15 (wrap64 (Te + 1)) DZ)) else (none)) else (none)) else (if 0 ≤ x2 then (if x2 < (DZ.length : Int) then ((jY.f k U9).bind fun t124 => (some (mn ((aT DZ x2).f1) t124))) else (none)) else (none))
def dB.f (k : Nat) (au : List bO) (l1 : List bg) (a2 : Int) (l3 : List Int) (l4 : List Int) : Option Int := dB.l0 k a2 l3 l4 ([] : List Int) l1 (l1.length : Int) 0 au
def dB.T6 : Bool × List (List Nat × List Nat) := (true, [([], []), ([], []), ([], []), ([1, 2], [1, 2]), ([3], [3]), ([], []), ([], []), ([6], [6]), ([5, 7], [5, 7]), ([8], [8]), ([4, 9], [4, 9]), ([10], [10]), ([0, 11], [0, 11]), ([12, 12, 0, 1, 2, 3, 4, 5, 6, 7, 8, 9, 10, 11, 12], [0, 12])])
def dB.B6 : List Nat := [0, 0, 0, 6, 14, 0, 0, 64, 224, 480, 1022, 2046, 4095, 8191]
theorem dB.qct : qj .any (opsOf Tryz.f160 6) = dB.T6 := by kernel_rfl
theorem dB.Va : oq dB.T6.2 dB.B6 = true := by kernel_rfl
def dB.T8 : Bool × List (List Nat × List Nat) := (true, [([], []), ([0], [0]), ([], []), ([1, 2], [1, 2]), ([3], [3]), ([4], [4]), ([], []), ([6], [6]), ([5, 7], [5, 7]), ([8, 7, 0, 1, 2, 3, 4, 5, 6, 7, 8], [8])])
def dB.B8 : List Nat := [0, 1, 0, 7, 15, 31, 0, 64, 255, 511]
theorem dB.qll : qj .any (opsOf Tryz.f160 8) = dB.T8 := by kernel_rfl
theorem dB.qe5 : oq dB.T8.2 dB.B8 = true := by kernel_rfl
theorem dB.calls (k : Nat) (bB : Option Addr) (aZ : Nat) (au : List bO) (A1 : Option Addr) (c1 : Nat) (l1 : List bg) (a2 : Int) (A3 : Option Addr) (c3 : Nat) (l3 : List Int) (A4 : Option Addr) (c4 : Nat) (l4 : List Int) (r : Int) (w : World) (dx : Kd.C iM w bB au.length au) (dI : au.length ≤ aZ) (hr1 : Kd.C eT w A1 l1.length l1) (hc1 : l1.length ≤ c1) (hr3 : Kd.C (Kd.int .i64) w A3 l3.length l3) (hc3 : l3.length ≤ c3) (hr4 : Kd.C (Kd.int .i64) w A4 l4.length l4) (hc4 : l4.length ≤ c4) (h : dB.f k au l1 a2 l3 l4 = some r) :
  Calls Tryz.prog 160 #[.agg #[.slice bB au.length aZ], .slice A1 l1.length c1, .int .i64 a2, .slice A3 l3.length c3, .slice A4 l4.length c4] w fun e w' => e = .returned (.int .i64 r) ∧ Below w.heap.size w w' := by
 have o8 := Tryz.underlying24; have CF := Tryz.underlying154; have dJ := aj.mk dx; have eu := aj.mk dI; clear dx dI; have HR1 := aj.mk hr1; have uU := aj.mk hc1; clear hr1 hc1; have HR3 := aj.mk hr3; have Ke := aj.mk hc3; clear hr3 hc3; have HR4 := aj.mk hr4; have HC4 := aj.mk hc4; clear hr4 hc4; have HB := aj.mk (Below.refl w.heap.size w); have H : (dB.l0 k a2 l3 l4 ([] : List Int) l1 (l1.length : Int) 0 au) = some r := h; clear h; have H' := aj.mk H; clear H
 go_enter Tryz.func160, Tryz.ntmps160
 go_wp2_with (first | ((with_reducible refine av (N := 5) rfl ?_); refine fA 5 #[.slice bB au.length aZ] 24 HB ?_; clear HB; intro P8 w6 hg ni qnY HB hb; clear hb hg))
 go_loopg [11, 16] k (fun kq v11 v16 w' => ∃ (pR : List Int) (dK : Int), v16 = .int .i64 dK ∧ aj (dB.l0 kq a2 l3 l4 pR l1 (l1.length : Int) dK au = some r) ∧ aj (kq ≤ k) ∧ aj (Kd.R (Kd.int .i64) 3 w' w.heap.size (fun _ => True) v11 pR) ∧ aj (w'.heap[P8]? = some (.cells #[(.slice bB au.length aZ)] 24 (0, 0))) ∧ aj (Below w.heap.size w w'))
 case atStart => exact ⟨(([] : List Int)), (0), tS, H', ⟨Nat.le_refl _⟩, ⟨by first | exact Kd.lJ _ _ _ _ _ | exact Kd.sU _ _ _ _ _ | exact Kd.sW _ _ _ _ _ | exact Kd.sQ _ _ _ _ _ | exact Kd.sS _ _ _ _ _⟩, ⟨tK⟩, ⟨tB⟩⟩
 case round =>
  clear H'
  try clear c1
  try clear p2
  try clear c3
  try clear c4
  obtain ⟨pR, dK, rfl, HA, ng, oM, ni, HB⟩ := hrel
  cases gk with
  | zero => exact absurd HA.out (by simp [dB.l0])
  | succ k1 =>
   have H := HA.out; clear HA; simp only [dB.l0] at H
   by_cases c7 : dK < (l1.length : Int)
   ·rw [if_pos c7] at H
    have xu : decide (dK < (l1.length : Int)) = true := decide_eq_true c7; clear c7
    by_cases c8 : 0 ≤ dK
    ·rw [if_pos c8] at H
     have E8 : decide (0 ≤ dK) = true := decide_eq_true c8; clear c8
     by_cases c9 : dK < (l1.length : Int)
     ·rw [if_pos c9] at H
      have Kg : decide (dK < (l1.length : Int)) = true := decide_eq_true c9; clear c9
      by_cases c10 : ((aC l1 dK).f0) = a2
      ·rw [if_pos c10] at H
       have Kh : (((aC l1 dK).f0) == a2) = true := beq_iff_eq.mpr c10; have Vb : (((aC l1 dK).f0) != a2) = false := bne_eq_false_iff_eq.mpr c10; clear c10
       by_cases c11 : dK < (l4.length : Int)
       ·rw [if_pos c11] at H
        have qaP : decide (dK < (l4.length : Int)) = true := decide_eq_true c11; clear c11
        by_cases c12 : 0 ≤ ((aC l1 dK).f1)
        ·rw [if_pos c12] at H
         have qe6 : decide (0 ≤ ((aC l1 dK).f1)) = true := decide_eq_true c12; clear c12
         by_cases c13 : ((aC l1 dK).f1) < (l3.length : Int)
         ·rw [if_pos c13] at H
          have qe7 : decide (((aC l1 dK).f1) < (l3.length : Int)) = true := decide_eq_true c13; clear c13
          by_cases c14 : pR.length < 17592186044416
          ·rw [if_pos c14] at H
           have qe8 := aj.mk c14; clear c14; obtain ⟨qe9, Ki⟩ : ∃ y_ : List Int, y_ = (pR ++ [wrap64 ((rd l4 dK) * (rd l3 ((aC l1 dK).f1)))]) := ⟨_, rfl⟩
           replace H : (dB.l0 k1 a2 l3 l4 qe9 l1 (l1.length : Int) (wrap64 (dK + 1)) au) = some r := by first | (rw [Ki]; with_reducible exact H) | (have iY := (Option.bind_some _ _).symm.trans H; rw [Ki]; with_reducible exact iY) | (have iY := (Option.bind_some _ _).symm.trans H; with_reducible exact iY) | with_reducible exact H | (rw [Ki]; exact H) | exact H
           have qfa := aj.mk Ki; clear Ki; have H' := aj.mk H; clear H; have Nv : 0 ≤ (dK : Int) := of_decide_eq_true tA; have Nw : dK < (l1.length : Int) := of_decide_eq_true tA; obtain ⟨qfb, e116, zV, zW, zX, zY⟩ := jK HR1.out dK Nv Nw
           cases e116
           replace zV := dz HB zV; replace zW := dz HB zW; replace zX := dz HB zX; replace zY := dz HB zY; replace Nv := eq_true Nv; replace Nw := eq_true Nw
           try go_wp2_with (first | ((with_reducible refine av (N := 13) rfl ?_); refine fA 13 #[.int .i64 0, .int .i64 0, .int .i64 0, .int .i64 0] 154 HB ?_; clear HB; intro jm ML hg jH qfc HB hb; replace oM := kH oM hb; have lC := Gb ni hg; have BU := Gc ni hg; replace ni := bV ni hb; clear hb hg; have qnZ := BU.out; have qn0 := lC.out; obtain ⟨Yn, Yo, Yp, Yq⟩ := Ga jH; have Yr := bf jH 0; have Yt := bf jH 1; have Yu := bf jH 2; have Yv := bf jH 3))
           have JQ : aj (Kd.R (Kd.int .i64) 3 ((((ML.setCell ⟨jm, 0, none⟩ (.int .i64 ((aC l1 dK).f0))).setCell ⟨jm, 1, none⟩ (.int .i64 ((aC l1 dK).f1))).setCell ⟨jm, 2, none⟩ (.int .i64 ((aC l1 dK).f2.f0))).setCell ⟨jm, 3, none⟩ (.int .i64 ((aC l1 dK).f2.f1))) w.heap.size (fun _ => True) u11 pR) := ⟨by (with_reducible repeat (first | apply Kd.ku | apply Kd.kC | apply Kd.j5)); exact Kd.fV (Kd.jQ (p := ⟨jm, 3, none⟩) (Kd.jQ (p := ⟨jm, 2, none⟩) (Kd.jQ (p := ⟨jm, 1, none⟩) (Kd.jQ (p := ⟨jm, 0, none⟩) (Kd.jA oM.out jH.out (by decide)) (fun _ hk => hk.2) (.int .i64 ((aC l1 dK).f0))) (fun _ hk => hk.2) (.int .i64 ((aC l1 dK).f1))) (fun _ hk => hk.2) (.int .i64 ((aC l1 dK).f2.f0))) (fun _ hk => hk.2) (.int .i64 ((aC l1 dK).f2.f1))) (fun _ hk => trivial)⟩; have JR : aj (((((ML.setCell ⟨jm, 0, none⟩ (.int .i64 ((aC l1 dK).f0))).setCell ⟨jm, 1, none⟩ (.int .i64 ((aC l1 dK).f1))).setCell ⟨jm, 2, none⟩ (.int .i64 ((aC l1 dK).f2.f0))).setCell ⟨jm, 3, none⟩ (.int .i64 ((aC l1 dK).f2.f1))).heap[P8]? = some (.cells #[.slice bB au.length aZ] 24 (0, 0))) := ⟨by (with_reducible repeat (first | refine aM ?_ _ | refine aN ?_ | refine aJ ?_ _)); refine kN ?_ lC.out _; (with_reducible repeat (first | refine aM ?_ _ | refine aN ?_ | refine aJ ?_ _)); refine kN ?_ lC.out _; (with_reducible repeat (first | refine aM ?_ _ | refine aN ?_ | refine aJ ?_ _)); refine kN ?_ lC.out _; (with_reducible repeat (first | refine aM ?_ _ | refine aN ?_ | refine aJ ?_ _)); refine kN ?_ lC.out _; (with_reducible repeat (first | refine aM ?_ _ | refine aN ?_ | refine aJ ?_ _)); exact ni.out⟩; have JU : aj (((((ML.setCell ⟨jm, 0, none⟩ (.int .i64 ((aC l1 dK).f0))).setCell ⟨jm, 1, none⟩ (.int .i64 ((aC l1 dK).f1))).setCell ⟨jm, 2, none⟩ (.int .i64 ((aC l1 dK).f2.f0))).setCell ⟨jm, 3, none⟩ (.int .i64 ((aC l1 dK).f2.f1))).heap[jm]? = some (.cells #[.int .i64 ((aC l1 dK).f0), .int .i64 ((aC l1 dK).f1), .int .i64 ((aC l1 dK).f2.f0), .int .i64 ((aC l1 dK).f2.f1)] 154 (0, 0))) := ⟨by (with_reducible repeat (first | refine aM ?_ _ | refine aN ?_ | refine aJ ?_ _)); refine dU (cs := #[.int .i64 ((aC l1 dK).f0), .int .i64 ((aC l1 dK).f1), .int .i64 ((aC l1 dK).f2.f0), .int .i64 0]) ?_ 3 _ rfl; (with_reducible repeat (first | refine aM ?_ _ | refine aN ?_ | refine aJ ?_ _)); refine dU (cs := #[.int .i64 ((aC l1 dK).f0), .int .i64 ((aC l1 dK).f1), .int .i64 0, .int .i64 0]) ?_ 2 _ rfl; (with_reducible repeat (first | refine aM ?_ _ | refine aN ?_ | refine aJ ?_ _)); refine dU (cs := #[.int .i64 ((aC l1 dK).f0), .int .i64 0, .int .i64 0, .int .i64 0]) ?_ 1 _ rfl; (with_reducible repeat (first | refine aM ?_ _ | refine aN ?_ | refine aJ ?_ _)); refine dU (cs := #[.int .i64 0, .int .i64 0, .int .i64 0, .int .i64 0]) ?_ 0 _ rfl; (with_reducible repeat (first | refine aM ?_ _ | refine aN ?_ | refine aJ ?_ _)); exact jH.out⟩; have Ny : aj (Below w.heap.size w ((((ML.setCell ⟨jm, 0, none⟩ (.int .i64 ((aC l1 dK).f0))).setCell ⟨jm, 1, none⟩ (.int .i64 ((aC l1 dK).f1))).setCell ⟨jm, 2, none⟩ (.int .i64 ((aC l1 dK).f2.f0))).setCell ⟨jm, 3, none⟩ (.int .i64 ((aC l1 dK).f2.f1)))) := ⟨tB⟩
           (try clear oM)
           (try clear ni)
           (try clear jH)
           (try clear HB)
           generalize ((((ML.setCell ⟨jm, 0, none⟩ (.int .i64 ((aC l1 dK).f0))).setCell ⟨jm, 1, none⟩ (.int .i64 ((aC l1 dK).f1))).setCell ⟨jm, 2, none⟩ (.int .i64 ((aC l1 dK).f2.f0))).setCell ⟨jm, 3, none⟩ (.int .i64 ((aC l1 dK).f2.f1))) = Vd at JQ JR JU Ny ⊢
           have oM := JQ; have ni := JR; have jH := JU; have HB := Ny; clear JQ JR JU Ny; replace oM := aj.mk (Kd.j5 oM.out); replace ni := aj.mk (aN ni.out); replace jH := aj.mk (aN jH.out); replace HB := aj.mk (iV HB.out); have qcu : 0 ≤ (dK : Int) := of_decide_eq_true tA; have qcv : dK < (l4.length : Int) := of_decide_eq_true tA; obtain ⟨qfd, e118, D5⟩ := Kd.iH HR4.out dK qcu qcv; have D6 := D5
           cases e118
           replace D5 := dz HB D5; replace qcu := eq_true qcu; replace qcv := eq_true qcv; have qcw : 0 ≤ (((aC l1 dK).f1) : Int) := of_decide_eq_true tA; have qcx : ((aC l1 dK).f1) < (l3.length : Int) := of_decide_eq_true tA; obtain ⟨qfe, e119, D7⟩ := Kd.iH HR3.out ((aC l1 dK).f1) qcw qcx; have D8 := D7
           cases e119
           replace D7 := dz HB D7; replace qcw := eq_true qcw; replace qcx := eq_true qcx; refine j6 (n := 14) (S := fun w' => w'.cell? ⟨jm, 0, none⟩ = some (.int .i64 ((aC l1 dK).f0)) ∧ w'.cell? ⟨jm, 1, none⟩ = some (.int .i64 ((aC l1 dK).f1)) ∧ w'.cell? ⟨jm, 2, none⟩ = some (.int .i64 ((aC l1 dK).f2.f0)) ∧ w'.cell? ⟨jm, 3, none⟩ = some (.int .i64 ((aC l1 dK).f2.f1)) ∧ w'.cell? (qfd.add (dK).toNat) = some (.int .i64 (rd l4 dK)) ∧ w'.cell? (qfe.add (((aC l1 dK).f1)).toNat) = some (.int .i64 (rd l3 ((aC l1 dK).f1)))) (ds := []) #[false, false, false, false, false, false, false, false, false, false, false, false, false, false] tX rfl rfl ⟨(aI jH.out 0).trans rfl, (aI jH.out 1).trans rfl, (aI jH.out 2).trans rfl, (aI jH.out 3).trans rfl, (dz HB D6 :), (dz HB D8 :)⟩ (fun hHeld => ?_); refine lg dB.qct dB.Va (fun dY vX => ?_)
           generalize Vd.drew = w19 at oM ni jH HB D5 D7 hHeld ⊢
           refine aH (i := 0) (N := some 25) (v := ?_) (a' := ?_) (bA 14 1) rfl rfl (aU dY.out tX) (fun _ _ _ h => h) (Or.inl ⟨by rfl, ?_⟩) ?_ ?_; rotate_left
           ·intro w'
            go_simp
            with_reducible rfl
           rotate_left
           ·simp only [Act.put, sL, ay, aA]
            rfl
           refine aH (i := 1) (N := some 26) (v := ?_) (a' := ?_) (bA 14 3) rfl rfl (aU dY.out tX) (fun _ _ _ h => h) (Or.inl ⟨by rfl, ?_⟩) ?_ ?_; rotate_left
           ·intro w'
            go_simp
            with_reducible rfl
           rotate_left
           ·simp only [Act.put, sL, ay, aA]
            rfl
           refine aH (i := 2) (N := some 27) (v := ?_) (a' := ?_) (bA 14 7) rfl rfl (aU dY.out tX) (fun _ _ _ h => h) (Or.inl ⟨by rfl, ?_⟩) ?_ ?_; rotate_left
           ·intro w'
            go_simp
            with_reducible rfl
           rotate_left
           ·simp only [Act.put, sL, ay, aA]
            rfl
           refine aH (i := 3) (N := some 28) (v := ?_) (a' := ?_) (bA 14 15) rfl rfl (aU dY.out tX) (fun _ _ _ h => h) (Or.inl ⟨by rfl, ?_⟩) ?_ ?_; rotate_left
           ·intro w'
            go_simp
            with_reducible rfl
           rotate_left
           ·simp only [Act.put, sL, ay, aA]
            rfl
           refine aH (i := 5) (N := some 30) (v := ?_) (a' := ?_) (bA 14 47) rfl rfl (aU dY.out tX) (fun _ _ _ h => h) (Or.inl ⟨by rfl, ?_⟩) ?_ ?_; rotate_left
           ·intro w'
            go_simp
            with_reducible rfl
           rotate_left
           ·simp only [Act.put, sL, ay, aA]
            rfl
           refine aH (i := 6) (N := some 31) (v := ?_) (a' := ?_) (bA 14 111) rfl rfl (aU dY.out tX) (fun _ _ _ h => h) (Or.inl ⟨by rfl, ?_⟩) ?_ ?_; rotate_left
           ·intro w'
            go_simp
            with_reducible rfl
           rotate_left
           ·simp only [Act.put, sL, ay, aA]
            rfl
           refine fC (i := 4) (N := some 29) (v := ?_) (a' := ?_) (bA 14 127) rfl rfl (fD dY.out vX.out tX) (fun _ _ _ h => h) (Or.inl ⟨by rfl, ?_⟩) hHeld ?_ ?_; rotate_left
           ·rintro w' ⟨s0, s1, s2, s3, s4, s5⟩
            go_simp
            with_reducible rfl
           rotate_left
           ·simp only [Act.put, sL, ay, aA]
            rfl
           refine fC (i := 7) (N := some 32) (v := ?_) (a' := ?_) (bA 14 255) rfl rfl (fD dY.out vX.out tX) (fun _ _ _ h => h) (Or.inl ⟨by rfl, ?_⟩) hHeld ?_ ?_; rotate_left
           ·rintro w' ⟨s0, s1, s2, s3, s4, s5⟩
            go_simp
            with_reducible rfl
           rotate_left
           ·simp only [Act.put, sL, ay, aA]
            rfl
           refine aH (i := 8) (N := some 33) (v := ?_) (a' := ?_) (bA 14 511) rfl rfl (aU dY.out tX) (fun _ _ _ h => h) (Or.inl ⟨by rfl, ?_⟩) ?_ ?_; rotate_left
           ·intro w'
            go_simp
            with_reducible rfl
           rotate_left
           ·simp only [Act.put, sL, ay, aA]
            rfl
           refine fC (i := 9) (N := some 34) (v := ?_) (a' := ?_) (bA 14 1023) rfl rfl (fD dY.out vX.out tX) (fun _ _ _ h => h) (Or.inl ⟨by rfl, ?_⟩) hHeld ?_ ?_; rotate_left
           ·rintro w' ⟨s0, s1, s2, s3, s4, s5⟩
            go_simp
            with_reducible rfl
           rotate_left
           ·simp only [Act.put, sL, ay, aA]
            rfl
           refine aH (i := 10) (N := some 35) (v := ?_) (a' := ?_) (bA 14 2047) rfl rfl (aU dY.out tX) (fun _ _ _ h => h) (Or.inl ⟨by rfl, ?_⟩) ?_ ?_; rotate_left
           ·intro w'
            go_simp
            with_reducible rfl
           rotate_left
           ·simp only [Act.put, sL, ay, aA]
            rfl
           refine gI (i := 11) (N := some 36) (bA 14 4095) rfl rfl (iF dY.out tX) (by decide) (fun K hK => ?_); refine UD (w1 := ?_) (v := ?_) (by rfl) rfl ?_ ?_; rotate_left 2
           ·go_simp
            constructor
            ·rfl
            ·rfl
           refine hK.out _ _ ⟨(aI (aJ jH.out _) 0).trans rfl, (aI (aJ jH.out _) 1).trans rfl, (aI (aJ jH.out _) 2).trans rfl, (aI (aJ jH.out _) 3).trans rfl, (World.cell?_alloc_lt _ _ _ (World.block_lt_of_cell? _ _ ((dz HB D6 :)))).trans ((dz HB D6 :)), (World.cell?_alloc_lt _ _ _ (World.block_lt_of_cell? _ _ ((dz HB D8 :)))).trans ((dz HB D8 :))⟩ (fun hHeld => ?_); clear hK K; refine dw (a' := ?_) ?_ ?_; rotate_left
           ·show Act.put _ (some 36) _ = _
            simp only [Act.put, sL, ay, aA]
            rfl
           refine gI (i := 12) (N := some 37) (bA 14 8191) rfl rfl (iF dY.out tX) (by decide) (fun K hK => ?_); refine Kd.y7 (Kd.int .i64) (w0 := w) w.heap.size (by rfl) (.tmp 25) (.tmp 36) 47 3 (.int .i64 0) 8 rfl Tryz.underlying47 info3 rfl (by decide) (by omega) u11 pR (wrap64 ((rd l4 dK) * (rd l3 ((aC l1 dK).f1)))) [.int .i64 (wrap64 ((rd l4 dK) * (rd l3 ((aC l1 dK).f1))))] (fun _ => True) (fun _ => False) rfl rfl ?aP (fun _ hk => hk.elim) ?aF ?aO ?aB ?aS ?aL ?_
           (case aP => exact rfl)
           (case aB => exact tB)
           (case aF => exact (fun _ _ => trivial))
           (case aO => exact tR)
           (case aS => exact (aX tB))
           (case aL => have := qe8.out; omega)
           intro qrf w20 ho hb hg hat; rw [← qfa.out] at ho; replace ni := aj.mk (jw (g := P8) (o := .cells #[.slice bB au.length aZ] 24 (0, 0)) tK hg (Kd.Dr oM.out ni.out (by decide))); replace jH := aj.mk (jw (g := jm) (o := .cells #[.int .i64 ((aC l1 dK).f0), .int .i64 ((aC l1 dK).f1), .int .i64 ((aC l1 dK).f2.f0), .int .i64 ((aC l1 dK).f2.f1)] 154 (0, 0)) tK hg (Kd.Dr oM.out jH.out (by decide))); replace HB := aj.mk (hb); have qn1 := aj.mk (ho); clear oM; clear ho hb hg hat; refine hK.out _ _ ⟨(aI jH.out 0).trans rfl, (aI jH.out 1).trans rfl, (aI jH.out 2).trans rfl, (aI jH.out 3).trans rfl, (dz HB D6 :), (dz HB D8 :)⟩ (fun hHeld => ?_); clear hK K; refine dw (a' := ?_) ?_ ?_; rotate_left
           ·show Act.put _ (some 37) _ = _
            simp only [Act.put, sL, ay, aA]
            rfl
           refine aH (i := 13) (N := some 11) (v := ?_) (a' := ?_) (bA 14 16383) rfl rfl (aU dY.out tX) (fun _ _ _ h => h) (Or.inl ⟨by rfl, ?_⟩) ?_ ?_; rotate_left
           ·intro w'
            go_simp
            with_reducible rfl
           rotate_left
           ·simp only [Act.put, sL, ay, aA]
            rfl
           refine kZ (pF dY.out tX) ?_
           try go_wp2
           go_roundg k1
           case measure => have := ng.out; omega
           case rel => exact ⟨(qe9), (wrap64 (dK + 1)), tS, H', ⟨by have := ng.out; omega⟩, ⟨tR⟩, ⟨tK⟩, ⟨tB⟩⟩
          ·rw [if_neg c14] at H
           exact absurd H (by simp)
         ·rw [if_neg c13] at H
          exact absurd H (by simp)
        ·rw [if_neg c12] at H
         exact absurd H (by simp)
       ·rw [if_neg c11] at H
        exact absurd H (by simp)
      ·rw [if_neg c10] at H
       have Kh : (((aC l1 dK).f0) == a2) = false := beq_eq_false_iff_ne.mpr c10; have Vb : (((aC l1 dK).f0) != a2) = true := bne_iff_ne.mpr c10; have H' := aj.mk H; clear H; have Nv : 0 ≤ (dK : Int) := of_decide_eq_true tA; have Nw : dK < (l1.length : Int) := of_decide_eq_true tA; obtain ⟨qfb, e116, zV, zW, zX, zY⟩ := jK HR1.out dK Nv Nw
       cases e116
       replace zV := dz HB zV; replace zW := dz HB zW; replace zX := dz HB zX; replace zY := dz HB zY; replace Nv := eq_true Nv; replace Nw := eq_true Nw
       go_wp2_with (first | ((with_reducible refine av (N := 13) rfl ?_); refine fA 13 #[.int .i64 0, .int .i64 0, .int .i64 0, .int .i64 0] 154 HB ?_; clear HB; intro jm w21 hg jH qfc HB hb; replace oM := kH oM hb; have lC := Gb ni hg; have BU := Gc ni hg; replace ni := bV ni hb; clear hb hg; have qff := BU.out; have qfg := lC.out; obtain ⟨yH, Iu, P9, Qa⟩ := Ga jH; have yI := bf jH 0; have Iw := bf jH 1; have Qb := bf jH 2; have Qc := bf jH 3))
       go_roundg k1
       case measure => have := ng.out; omega
       case rel => exact ⟨(pR), (wrap64 (dK + 1)), tS, H', ⟨by have := ng.out; omega⟩, ⟨by (with_reducible repeat (first | apply Kd.ku | apply Kd.kC | apply Kd.j5)); exact Kd.fV (Kd.jQ (p := ⟨jm, 3, none⟩) (Kd.jQ (p := ⟨jm, 2, none⟩) (Kd.jQ (p := ⟨jm, 1, none⟩) (Kd.jQ (p := ⟨jm, 0, none⟩) (Kd.jA oM.out jH.out (by decide)) (fun _ hk => hk.2) (.int .i64 ((aC l1 dK).f0))) (fun _ hk => hk.2) (.int .i64 ((aC l1 dK).f1))) (fun _ hk => hk.2) (.int .i64 ((aC l1 dK).f2.f0))) (fun _ hk => hk.2) (.int .i64 ((aC l1 dK).f2.f1))) (fun _ hk => trivial)⟩, ⟨by (with_reducible repeat (first | refine aM ?_ _ | refine aN ?_ | refine aJ ?_ _)); refine kN ?_ lC.out _; (with_reducible repeat (first | refine aM ?_ _ | refine aN ?_ | refine aJ ?_ _)); refine kN ?_ lC.out _; (with_reducible repeat (first | refine aM ?_ _ | refine aN ?_ | refine aJ ?_ _)); refine kN ?_ lC.out _; (with_reducible repeat (first | refine aM ?_ _ | refine aN ?_ | refine aJ ?_ _)); refine kN ?_ lC.out _; (with_reducible repeat (first | refine aM ?_ _ | refine aN ?_ | refine aJ ?_ _)); exact ni.out⟩, ⟨tB⟩⟩
     ·rw [if_neg c9] at H
      exact absurd H (by simp)
    ·rw [if_neg c8] at H
     exact absurd H (by simp)
   ·rw [if_neg c7] at H
    have xu : decide (dK < (l1.length : Int)) = false := decide_eq_false c7; clear c7
    by_cases c24 : 0 ≤ a2
    ·rw [if_pos c24] at H
     have qn2 : decide (0 ≤ a2) = true := decide_eq_true c24; clear c24
     by_cases c25 : a2 < (au.length : Int)
     ·rw [if_pos c25] at H
      have qn3 : decide (a2 < (au.length : Int)) = true := decide_eq_true c25; clear c25; obtain ⟨t124, A26, H⟩ := lV H; obtain ⟨qfh, Kj⟩ : ∃ j_ : Int, (mn ((aT au a2).f1) t124) = j_ := ⟨_, rfl⟩
      replace H : (some qfh) = some r := by first | (rw [Kj] at H; exact H) | (simp only [Kj] at H ⊢; exact H)
      (try rw [Kj] at A26)
      have qlp : (if t124 < ((aT au a2).f1) then t124 else ((aT au a2).f1)) = qfh := Kj; obtain rfl := Option.some.inj H
      try go_wp2
      replace oM := aj.mk (Kd.j5 oM.out); replace ni := aj.mk (aN ni.out); replace HB := aj.mk (iV HB.out); have qcz : 0 ≤ (a2 : Int) := of_decide_eq_true tA; have qcA : a2 < (au.length : Int) := of_decide_eq_true tA; obtain ⟨Qd, qcB, qcC, qlq, Ea, Eb, Qe, Qf⟩ := iZ dJ.out a2 qcz qcA; have Qg := Eb; have Qh := Ea
      cases qlq
      replace Ea := dz HB Ea; replace Eb := dz HB Eb; have Yw := aj.mk Qf; have qhV := aj.mk Qe; clear Qf Qe; replace qcz := eq_true qcz; replace qcA := eq_true qcA; obtain ⟨qlr, qls, qfi⟩ := Kd.gF oM.out
      (first | subst qfi | (injection qfi with xD E9 xE; have Fa := xD.symm; have Fb := xE.symm; clear xD E9 xE; subst Fa; subst Fb))
      refine j6 (n := 10) (S := fun w' => w'.cell? ⟨P8, 0, none⟩ = some (.slice (some Qd) au.length aZ) ∧ w'.cell? (Qd.add ((a2).toNat * 2)) = some (.slice qcB ((aT au a2).f0).length qcC) ∧ w'.cell? ⟨(Qd.add ((a2).toNat * 2)).block, (Qd.add ((a2).toNat * 2)).off + 1, none⟩ = some (.int .i64 ((aT au a2).f1))) (ds := []) #[false, false, false, false, false, false, false, false, false, false] tX rfl rfl ⟨(aI ni.out 0).trans rfl, (dz HB Qh :), (dz HB Qg :)⟩ (fun hHeld => ?_); refine lg dB.qll dB.qe5 (fun dY vX => ?_)
      generalize wr.drew = w28 at oM ni HB Yw Ea Eb hHeld ⊢
      refine aH (i := 0) (N := some 39) (v := ?_) (a' := ?_) (bA 10 1) rfl rfl (aU dY.out tX) (fun _ _ _ h => h) (Or.inl ⟨by rfl, ?_⟩) ?_ ?_; rotate_left
      ·intro w'
       go_simp
       with_reducible rfl
      rotate_left
      ·simp only [Act.put, sL, ay, aA]
       rfl
      refine aH (i := 2) (N := some 41) (v := ?_) (a' := ?_) (bA 10 5) rfl rfl (aU dY.out tX) (fun _ _ _ h => h) (Or.inl ⟨by rfl, ?_⟩) ?_ ?_; rotate_left
      ·intro w'
       go_simp
       with_reducible rfl
      rotate_left
      ·simp only [Act.put, sL, ay, aA]
       rfl
      refine aH (i := 6) (N := some 45) (v := ?_) (a' := ?_) (bA 10 69) rfl rfl (aU dY.out tX) (fun _ _ _ h => h) (Or.inl ⟨by rfl, ?_⟩) ?_ ?_; rotate_left
      ·intro w'
       go_simp
       with_reducible rfl
      rotate_left
      ·simp only [Act.put, sL, ay, aA]
       rfl
      refine fC (i := 1) (N := some 40) (v := ?_) (a' := ?_) (bA 10 71) rfl rfl (fD dY.out vX.out tX) (fun _ _ _ h => h) (Or.inl ⟨by rfl, ?_⟩) hHeld ?_ ?_; rotate_left
      ·rintro w' ⟨s0, s1, s2⟩
       go_simp
       with_reducible rfl
      rotate_left
      ·simp only [Act.put, sL, ay, aA]
       rfl
      refine aH (i := 3) (N := some 42) (v := ?_) (a' := ?_) (bA 10 79) rfl rfl (aU dY.out tX) (fun _ _ _ h => h) (Or.inl ⟨by rfl, ?_⟩) ?_ ?_; rotate_left
      ·intro w'
       go_simp
       with_reducible rfl
      rotate_left
      ·simp only [Act.put, sL, ay, aA]
       rfl
      refine aH (i := 4) (N := some 43) (v := ?_) (a' := ?_) (bA 10 95) rfl rfl (aU dY.out tX) (fun _ _ _ h => h) (Or.inl ⟨by rfl, ?_⟩) ?_ ?_; rotate_left
      ·intro w'
       go_simp
       with_reducible rfl
      rotate_left
      ·simp only [Act.put, sL, ay, aA]
       rfl
      refine fC (i := 5) (N := some 44) (v := ?_) (a' := ?_) (bA 10 127) rfl rfl (fD dY.out vX.out tX) (fun _ _ _ h => h) (Or.inl ⟨by rfl, ?_⟩) hHeld ?_ ?_; rotate_left
      ·rintro w' ⟨s0, s1, s2⟩
       go_simp
       with_reducible rfl
      rotate_left
      ·simp only [Act.put, sL, ay, aA]
       rfl
      refine gI (i := 7) (N := some 46) (bA 10 255) rfl rfl (iF dY.out tX) (by decide) (fun K hK => ?_); refine fP Tryz.func130 tX rfl #[.slice qlr pR.length qls] (by rfl) rfl rfl tM ?_
      with_reducible refine (jY.calls k1 _ _ pR t124 _ ?bF ?bG A26.out).mono ?_
      (case bF => repeat (first | exact (Kd.cO oM.out).2.2 | (with_reducible refine Kd.bC ?_ _) | (with_reducible refine Kd.bD ?_ _) | (with_reducible refine Kd.bQ ?_)))
      (case bG => exact (Kd.cO oM.out).2.1)
      rintro e w' ⟨rfl, ⟨nd, rfl⟩⟩; refine ⟨_, rfl, ?_⟩; refine hK.out _ _ ⟨(aI ni.out 0).trans rfl, (dz HB Qh :), (dz HB Qg :)⟩ (fun hHeld => ?_); clear hK K; refine dw (a' := ?_) ?_ ?_; rotate_left
      ·show Act.put _ (some 46) _ = _
       simp only [Act.put, sL, ay, aA]
       rfl
      refine aH (i := 8) (N := some 47) (v := ?_) (a' := ?_) (bA 10 511) rfl rfl (aU dY.out tX) (fun _ _ _ h => h) (Or.inl ⟨by rfl, ?_⟩) ?_ ?_; rotate_left
      ·intro w'
       go_simp
       with_reducible rfl
      rotate_left
      ·simp only [Act.put, sL, ay, aA]
       rfl
      refine aH (i := 9) (N := some 10) (v := ?_) (a' := ?_) (bA 10 1023) rfl rfl (aU dY.out tX) (fun _ _ _ h => h) (Or.inl ⟨by rfl, ?_⟩) ?_ ?_; rotate_left
      ·intro w'
       go_simp
       with_reducible rfl
      rotate_left
      ·simp only [Act.put, sL, ay, aA]
       rfl
      refine kZ (pF dY.out tX) ?_
      try go_wp2
      go_ret
      exact ⟨by first | rfl | (simp [lq, lu] <;> rfl) | (simp only [← Kj]; first | rfl | (simp [lq, lu] <;> rfl)) | (simp [*, lq, lu] <;> rfl), tB⟩
     ·rw [if_neg c25] at H
      exact absurd H (by simp)
    ·rw [if_neg c24] at H
     exact absurd H (by simp)
def iJ.l0 : Nat → List Int → List bT → Int → Int → Option (List Int)
 | 0, _, _, _, _ => none
 | k + 1, x3, x6, x7, x8 => if x8 < x7 then (if 0 ≤ x8 then (if x8 < (x6.length : Int) then (if x3.length < 17592186044416 then (iJ.l0 k (x3 ++ [(bM x6 x8).f0]) x6 x7 (wrap64 (x8 + 1))) else (none)) else (none)) else (none)) else (some x3)
def iJ.f (k : Nat) (l0 : List bT) : Option (List Int) := iJ.l0 k ([] : List Int) l0 (l0.length : Int) 0
theorem iJ.calls (k : Nat) (A0 : Option Addr) (c0 : Nat) (l0 : List bT) (r : List Int) (w : World) (hr0 : Kd.C j3 w A0 l0.length l0) (hc0 : l0.length ≤ c0) (h : iJ.f k l0 = some r) :
  Calls Tryz.prog 209 #[.slice A0 l0.length c0] w fun e w' => ∃ kM : Value, e = .returned (kM) ∧ Kd.R (Kd.int .i64) 3 w' w.heap.size (fun _ => True) kM r ∧ Below w.heap.size w w' := by
 have kg := Tryz.underlying37; have BR := aj.mk hr0; have XU := aj.mk hc0; clear hr0 hc0; have HB := aj.mk (Below.refl w.heap.size w); have H : (iJ.l0 k ([] : List Int) l0 (l0.length : Int) 0) = some r := h; clear h; have H' := aj.mk H; clear H
 go_enter Tryz.func209, Tryz.ntmps209
 go_wp2
 go_loopg [3, 8] k (fun kq v3 v8 w' => ∃ (dM : List Int) (dR : Int), v8 = .int .i64 dR ∧ aj (iJ.l0 kq dM l0 (l0.length : Int) dR = some r) ∧ aj (kq ≤ k) ∧ aj (Kd.R (Kd.int .i64) 3 w' w.heap.size (fun _ => True) v3 dM) ∧ aj (Below w.heap.size w w'))
 case atStart => exact ⟨(([] : List Int)), (0), tS, H', ⟨Nat.le_refl _⟩, ⟨by first | exact Kd.lJ _ _ _ _ _ | exact Kd.sU _ _ _ _ _ | exact Kd.sW _ _ _ _ _ | exact Kd.sQ _ _ _ _ _ | exact Kd.sS _ _ _ _ _⟩, ⟨tB⟩⟩
 case round =>
  clear H'; obtain ⟨dM, dR, rfl, HA, ng, pU, HB⟩ := hrel
  cases gk with
  | zero => exact absurd HA.out (by simp [iJ.l0])
  | succ k1 =>
   have H := HA.out; clear HA; simp only [iJ.l0] at H
   by_cases c2 : dR < (l0.length : Int)
   ·rw [if_pos c2] at H
    have BS : decide (dR < (l0.length : Int)) = true := decide_eq_true c2; clear c2
    by_cases c3 : 0 ≤ dR
    ·rw [if_pos c3] at H
     have oZ : decide (0 ≤ dR) = true := decide_eq_true c3; clear c3
     by_cases c4 : dR < (l0.length : Int)
     ·rw [if_pos c4] at H
      have o7 : decide (dR < (l0.length : Int)) = true := decide_eq_true c4; clear c4
      by_cases c5 : dM.length < 17592186044416
      ·rw [if_pos c5] at H
       have Ve := aj.mk c5; clear c5; obtain ⟨qfj, Kk⟩ : ∃ y_ : List Int, y_ = (dM ++ [(bM l0 dR).f0]) := ⟨_, rfl⟩
       replace H : (iJ.l0 k1 qfj l0 (l0.length : Int) (wrap64 (dR + 1))) = some r := by first | (rw [Kk]; with_reducible exact H) | (have iY := (Option.bind_some _ _).symm.trans H; rw [Kk]; with_reducible exact iY) | (have iY := (Option.bind_some _ _).symm.trans H; with_reducible exact iY) | with_reducible exact H | (rw [Kk]; exact H) | exact H
       have qfk := aj.mk Kk; clear Kk; have H' := aj.mk H; clear H; have qcD : 0 ≤ (dR : Int) := of_decide_eq_true tA; have qcE : dR < (l0.length : Int) := of_decide_eq_true tA; obtain ⟨qn5, e125, Qi, Qj⟩ := mD BR.out dR qcD qcE
       cases e125
       replace Qi := dz HB Qi; replace Qj := dz HB Qj; replace qcD := eq_true qcD; replace qcE := eq_true qcE
       go_wp2_with (first | ((with_reducible refine av (N := 5) rfl ?_); refine fA 5 #[.int .i64 0, .int .i64 0] 37 HB ?_; clear HB; intro Vf w6 hg Fe qn6 HB hb; replace pU := kH pU hb; clear hb hg; obtain ⟨zl, Iy⟩ := bc2 Fe; have zm := bf Fe 0; have Iz := bf Fe 1) | ((with_reducible refine eD (b := .append) (xs := #[.tmp 12, .tmp 15]) rfl ?_); at_builtin; refine Kd.nV (Kd.int .i64) (w0 := w) w.heap.size rfl (.tmp 12) (.tmp 15) 47 3 (.int .i64 0) 8 rfl Tryz.underlying47 info3 rfl (by decide) (by omega) u3 dM ((bM l0 dR).f0) [.int .i64 ((bM l0 dR).f0)] (fun _ => True) (fun _ => False) rfl tG ?aP (fun _ hk => hk.elim) ?aF ?aO ?aB ?aS ?aL ?_; (case aP => exact rfl); (case aB => exact tB); (case aF => exact (fun _ _ => trivial)); (case aO => exact (by (with_reducible repeat (first | apply Kd.ku | apply Kd.kC | apply Kd.j5)); exact Kd.fV (Kd.jQ (p := ⟨Vf, 1, none⟩) (Kd.jQ (p := ⟨Vf, 0, none⟩) (Kd.jA pU.out Fe.out (by decide)) (fun _ hk => hk.2) (.int .i64 ((bM l0 dR).f0))) (fun _ hk => hk.2) (.int .i64 ((bM l0 dR).f1))) (fun _ hk => trivial))); (case aS => exact (aX tB)); (case aL => have := Ve.out; omega); intro qrg w8 ho hb hg hat; rw [← qfk.out] at ho; replace Fe := aj.mk (jw (g := Vf) (o := .cells #[.int .i64 ((bM l0 dR).f0), .int .i64 ((bM l0 dR).f1)] 37 (0, 0)) (by (with_reducible repeat (first | refine aM ?_ _ | refine aN ?_ | refine aJ ?_ _)); refine dU (cs := #[.int .i64 ((bM l0 dR).f0), .int .i64 0]) ?_ 1 _ rfl; (with_reducible repeat (first | refine aM ?_ _ | refine aN ?_ | refine aJ ?_ _)); refine dU (cs := #[.int .i64 0, .int .i64 0]) ?_ 0 _ rfl; (with_reducible repeat (first | refine aM ?_ _ | refine aN ?_ | refine aJ ?_ _)); exact Fe.out) hg (Kd.Dr pU.out Fe.out (by decide))); replace HB := aj.mk (hb); have qn7 := aj.mk (ho); clear pU; clear ho hb hg hat))
       go_roundg k1
       case measure => have := ng.out; omega
       case rel => exact ⟨(qfj), (wrap64 (dR + 1)), tS, H', ⟨by have := ng.out; omega⟩, ⟨tR⟩, ⟨tB⟩⟩
      ·rw [if_neg c5] at H
       exact absurd H (by simp)
     ·rw [if_neg c4] at H
      exact absurd H (by simp)
    ·rw [if_neg c3] at H
     exact absurd H (by simp)
   ·rw [if_neg c2] at H
    have BS : decide (dR < (l0.length : Int)) = false := decide_eq_false c2; clear c2; obtain rfl := Option.some.inj H
    go_wp2
    go_ret
    exact ⟨_, tF, tR, tB⟩
def gD.l0 : Nat → List bT → List bg → Int → Int → Option ((List bT))
 | 0, _, _, _, _ => none
 | k + 1, x3, x6, x7, x8 => if x8 < x7 then (if 0 ≤ x8 then (if x8 < (x6.length : Int) then (if x3.length < 8796093022208 then (gD.l0 k (x3 ++ [(⟨(aC x6 x8).f2.f0, (aC x6 x8).f2.f1⟩ : bT)]) x6 x7 (wrap64 (x8 + 1))) else (none)) else (none)) else (none)) else (some x3)
def gD.f (k : Nat) (l0 : List bg) : Option ((List bT)) := gD.l0 k ([] : List bT) l0 (l0.length : Int) 0
theorem gD.calls (k : Nat) (A0 : Option Addr) (c0 : Nat) (l0 : List bg) (r : List bT) (w : World) (hr0 : Kd.C eT w A0 l0.length l0) (hc0 : l0.length ≤ c0) (h : gD.f k l0 = some r) :
  Calls Tryz.prog 210 #[.slice A0 l0.length c0] w fun e w' => ∃ kM : Value, e = .returned (kM) ∧ Kd.R j3 37 w' w.heap.size (fun _ => True) kM r ∧ Below w.heap.size w w' := by
 have CF := Tryz.underlying154; have kg := Tryz.underlying37; have BR := aj.mk hr0; have XU := aj.mk hc0; clear hr0 hc0; have HB := aj.mk (Below.refl w.heap.size w); have H : (gD.l0 k ([] : List bT) l0 (l0.length : Int) 0) = some r := h; clear h; have H' := aj.mk H; clear H
 go_enter Tryz.func210, Tryz.ntmps210
 go_wp2
 go_loopg [3, 8] k (fun kq v3 v8 w' => ∃ (dM : List bT) (dR : Int), v8 = .int .i64 dR ∧ aj (gD.l0 kq dM l0 (l0.length : Int) dR = some r) ∧ aj (kq ≤ k) ∧ aj (Kd.R j3 37 w' w.heap.size (fun _ => True) v3 dM) ∧ aj (Below w.heap.size w w'))
 case atStart => exact ⟨(([] : List bT)), (0), tS, H', ⟨Nat.le_refl _⟩, ⟨by first | exact Kd.lJ _ _ _ _ _ | exact Kd.sU _ _ _ _ _ | exact Kd.sW _ _ _ _ _ | exact Kd.sQ _ _ _ _ _ | exact Kd.sS _ _ _ _ _⟩, ⟨tB⟩⟩
 case round =>
  clear H'; obtain ⟨dM, dR, rfl, HA, ng, pU, HB⟩ := hrel
  cases gk with
  | zero => exact absurd HA.out (by simp [gD.l0])
  | succ k1 =>
   have H := HA.out; clear HA; simp only [gD.l0] at H
   by_cases c2 : dR < (l0.length : Int)
   ·rw [if_pos c2] at H
    have BS : decide (dR < (l0.length : Int)) = true := decide_eq_true c2; clear c2
    by_cases c3 : 0 ≤ dR
    ·rw [if_pos c3] at H
     have oZ : decide (0 ≤ dR) = true := decide_eq_true c3; clear c3
     by_cases c4 : dR < (l0.length : Int)
     ·rw [if_pos c4] at H
      have o7 : decide (dR < (l0.length : Int)) = true := decide_eq_true c4; clear c4
      by_cases c5 : dM.length < 8796093022208
      ·rw [if_pos c5] at H
       have Ve := aj.mk c5; clear c5; obtain ⟨qfl, Kl⟩ : ∃ y_ : List bT, y_ = (dM ++ [(⟨(aC l0 dR).f2.f0, (aC l0 dR).f2.f1⟩ : bT)]) := ⟨_, rfl⟩
       replace H : (gD.l0 k1 qfl l0 (l0.length : Int) (wrap64 (dR + 1))) = some r := by first | (rw [Kl]; with_reducible exact H) | (have iY := (Option.bind_some _ _).symm.trans H; rw [Kl]; with_reducible exact iY) | (have iY := (Option.bind_some _ _).symm.trans H; with_reducible exact iY) | with_reducible exact H | (rw [Kl]; exact H) | exact H
       have qfm := aj.mk Kl; clear Kl; have H' := aj.mk H; clear H; have qcF : 0 ≤ (dR : Int) := of_decide_eq_true tA; have qcG : dR < (l0.length : Int) := of_decide_eq_true tA; obtain ⟨qn8, qlt, Qk, Ql, Qm, Qn⟩ := jK BR.out dR qcF qcG
       cases qlt
       replace Qk := dz HB Qk; replace Ql := dz HB Ql; replace Qm := dz HB Qm; replace Qn := dz HB Qn; replace qcF := eq_true qcF; replace qcG := eq_true qcG
       go_wp2_with (first | ((with_reducible refine av (N := 5) rfl ?_); refine fA 5 #[.int .i64 0, .int .i64 0, .int .i64 0, .int .i64 0] 154 HB ?_; clear HB; intro Km w6 hg zZ qn9 HB hb; replace pU := kH pU hb; clear hb hg; obtain ⟨zl, Iy, qlu, qlv⟩ := Ga zZ; have zm := bf zZ 0; have Iz := bf zZ 1; have qlw := bf zZ 2; have qlx := bf zZ 3) | ((with_reducible refine eD (b := .append) (xs := #[.tmp 12, .tmp 15]) rfl ?_); at_builtin; refine Kd.nV j3 (w0 := w) w.heap.size rfl (.tmp 12) (.tmp 15) 28 37 (.agg #[(.int .i64 0), (.int .i64 0)]) 16 rfl Tryz.underlying28 Ip rfl (by decide) (by omega) u3 dM (⟨(aC l0 dR).f2.f0, (aC l0 dR).f2.f1⟩ : bT) [.int .i64 ((aC l0 dR).f2.f0), .int .i64 ((aC l0 dR).f2.f1)] (fun _ => True) (fun _ => False) rfl tG ?aP (fun _ hk => hk.elim) ?aF ?aO ?aB ?aS ?aL ?_; (case aP => exact kE _ _ _ (⟨(aC l0 dR).f2.f0, (aC l0 dR).f2.f1⟩ : bT)); (case aB => exact tB); (case aF => exact (fun _ _ => trivial)); (case aO => exact (by (with_reducible repeat (first | apply Kd.ku | apply Kd.kC | apply Kd.j5)); exact Kd.fV (Kd.jQ (p := ⟨Km, 3, none⟩) (Kd.jQ (p := ⟨Km, 2, none⟩) (Kd.jQ (p := ⟨Km, 1, none⟩) (Kd.jQ (p := ⟨Km, 0, none⟩) (Kd.jA pU.out zZ.out (by decide)) (fun _ hk => hk.2) (.int .i64 ((aC l0 dR).f0))) (fun _ hk => hk.2) (.int .i64 ((aC l0 dR).f1))) (fun _ hk => hk.2) (.int .i64 ((aC l0 dR).f2.f0))) (fun _ hk => hk.2) (.int .i64 ((aC l0 dR).f2.f1))) (fun _ hk => trivial))); (case aS => exact (aX tB)); (case aL => have := Ve.out; omega); intro qrh w8 ho hb hg hat; rw [← qfm.out] at ho; replace zZ := aj.mk (jw (g := Km) (o := .cells #[.int .i64 ((aC l0 dR).f0), .int .i64 ((aC l0 dR).f1), .int .i64 ((aC l0 dR).f2.f0), .int .i64 ((aC l0 dR).f2.f1)] 154 (0, 0)) (by (with_reducible repeat (first | refine aM ?_ _ | refine aN ?_ | refine aJ ?_ _)); refine dU (cs := #[.int .i64 ((aC l0 dR).f0), .int .i64 ((aC l0 dR).f1), .int .i64 ((aC l0 dR).f2.f0), .int .i64 0]) ?_ 3 _ rfl; (with_reducible repeat (first | refine aM ?_ _ | refine aN ?_ | refine aJ ?_ _)); refine dU (cs := #[.int .i64 ((aC l0 dR).f0), .int .i64 ((aC l0 dR).f1), .int .i64 0, .int .i64 0]) ?_ 2 _ rfl; (with_reducible repeat (first | refine aM ?_ _ | refine aN ?_ | refine aJ ?_ _)); refine dU (cs := #[.int .i64 ((aC l0 dR).f0), .int .i64 0, .int .i64 0, .int .i64 0]) ?_ 1 _ rfl; (with_reducible repeat (first | refine aM ?_ _ | refine aN ?_ | refine aJ ?_ _)); refine dU (cs := #[.int .i64 0, .int .i64 0, .int .i64 0, .int .i64 0]) ?_ 0 _ rfl; (with_reducible repeat (first | refine aM ?_ _ | refine aN ?_ | refine aJ ?_ _)); exact zZ.out) hg (Kd.Dr pU.out zZ.out (by decide))); replace HB := aj.mk (hb); have qoa := aj.mk (ho); clear pU; clear ho hb hg hat))
       go_roundg k1
       case measure => have := ng.out; omega
       case rel => exact ⟨(qfl), (wrap64 (dR + 1)), tS, H', ⟨by have := ng.out; omega⟩, ⟨tR⟩, ⟨tB⟩⟩
      ·rw [if_neg c5] at H
       exact absurd H (by simp)
     ·rw [if_neg c4] at H
      exact absurd H (by simp)
    ·rw [if_neg c3] at H
     exact absurd H (by simp)
   ·rw [if_neg c2] at H
    have BS : decide (dR < (l0.length : Int)) = false := decide_eq_false c2; clear c2; obtain rfl := Option.some.inj H
    go_wp2
    go_ret
    exact ⟨_, tF, tR, tB⟩
def gQ.l0 : Nat → List Int → List bT → Int → Int → Option (List Int)
 | 0, _, _, _, _ => none
 | k + 1, x3, x6, x7, x8 => if x8 < x7 then (if 0 ≤ x8 then (if x8 < (x6.length : Int) then (if x3.length < 17592186044416 then (gQ.l0 k (x3 ++ [(bM x6 x8).f1]) x6 x7 (wrap64 (x8 + 1))) else (none)) else (none)) else (none)) else (some x3)
def gQ.f (k : Nat) (l0 : List bT) : Option (List Int) := gQ.l0 k ([] : List Int) l0 (l0.length : Int) 0
theorem gQ.calls (k : Nat) (A0 : Option Addr) (c0 : Nat) (l0 : List bT) (r : List Int) (w : World) (hr0 : Kd.C j3 w A0 l0.length l0) (hc0 : l0.length ≤ c0) (h : gQ.f k l0 = some r) :
  Calls Tryz.prog 211 #[.slice A0 l0.length c0] w fun e w' => ∃ kM : Value, e = .returned (kM) ∧ Kd.R (Kd.int .i64) 3 w' w.heap.size (fun _ => True) kM r ∧ Below w.heap.size w w' := by
 have kg := Tryz.underlying37; have BR := aj.mk hr0; have XU := aj.mk hc0; clear hr0 hc0; have HB := aj.mk (Below.refl w.heap.size w); have H : (gQ.l0 k ([] : List Int) l0 (l0.length : Int) 0) = some r := h; clear h; have H' := aj.mk H; clear H
 go_enter Tryz.func211, Tryz.ntmps211
 go_wp2
 go_loopg [3, 8] k (fun kq v3 v8 w' => ∃ (dM : List Int) (dR : Int), v8 = .int .i64 dR ∧ aj (gQ.l0 kq dM l0 (l0.length : Int) dR = some r) ∧ aj (kq ≤ k) ∧ aj (Kd.R (Kd.int .i64) 3 w' w.heap.size (fun _ => True) v3 dM) ∧ aj (Below w.heap.size w w'))
 case atStart => exact ⟨(([] : List Int)), (0), tS, H', ⟨Nat.le_refl _⟩, ⟨by first | exact Kd.lJ _ _ _ _ _ | exact Kd.sU _ _ _ _ _ | exact Kd.sW _ _ _ _ _ | exact Kd.sQ _ _ _ _ _ | exact Kd.sS _ _ _ _ _⟩, ⟨tB⟩⟩
 case round =>
  clear H'; obtain ⟨dM, dR, rfl, HA, ng, pU, HB⟩ := hrel
  cases gk with
  | zero => exact absurd HA.out (by simp [gQ.l0])
  | succ k1 =>
   have H := HA.out; clear HA; simp only [gQ.l0] at H
   by_cases c2 : dR < (l0.length : Int)
   ·rw [if_pos c2] at H
    have BS : decide (dR < (l0.length : Int)) = true := decide_eq_true c2; clear c2
    by_cases c3 : 0 ≤ dR
    ·rw [if_pos c3] at H
     have oZ : decide (0 ≤ dR) = true := decide_eq_true c3; clear c3
     by_cases c4 : dR < (l0.length : Int)
     ·rw [if_pos c4] at H
      have o7 : decide (dR < (l0.length : Int)) = true := decide_eq_true c4; clear c4
      by_cases c5 : dM.length < 17592186044416
      ·rw [if_pos c5] at H
       have Ve := aj.mk c5; clear c5; obtain ⟨qfn, Kn⟩ : ∃ y_ : List Int, y_ = (dM ++ [(bM l0 dR).f1]) := ⟨_, rfl⟩
       replace H : (gQ.l0 k1 qfn l0 (l0.length : Int) (wrap64 (dR + 1))) = some r := by first | (rw [Kn]; with_reducible exact H) | (have iY := (Option.bind_some _ _).symm.trans H; rw [Kn]; with_reducible exact iY) | (have iY := (Option.bind_some _ _).symm.trans H; with_reducible exact iY) | with_reducible exact H | (rw [Kn]; exact H) | exact H
       have qfo := aj.mk Kn; clear Kn; have H' := aj.mk H; clear H; have qcH : 0 ≤ (dR : Int) := of_decide_eq_true tA; have qcI : dR < (l0.length : Int) := of_decide_eq_true tA; obtain ⟨qob, qly, Qo, Qp⟩ := mD BR.out dR qcH qcI
       cases qly
       replace Qo := dz HB Qo; replace Qp := dz HB Qp; replace qcH := eq_true qcH; replace qcI := eq_true qcI
       go_wp2_with (first | ((with_reducible refine av (N := 5) rfl ?_); refine fA 5 #[.int .i64 0, .int .i64 0] 37 HB ?_; clear HB; intro Vg w6 hg Fg qoc HB hb; replace pU := kH pU hb; clear hb hg; obtain ⟨zl, Iy⟩ := bc2 Fg; have zm := bf Fg 0; have Iz := bf Fg 1) | ((with_reducible refine eD (b := .append) (xs := #[.tmp 12, .tmp 15]) rfl ?_); at_builtin; refine Kd.nV (Kd.int .i64) (w0 := w) w.heap.size rfl (.tmp 12) (.tmp 15) 47 3 (.int .i64 0) 8 rfl Tryz.underlying47 info3 rfl (by decide) (by omega) u3 dM ((bM l0 dR).f1) [.int .i64 ((bM l0 dR).f1)] (fun _ => True) (fun _ => False) rfl tG ?aP (fun _ hk => hk.elim) ?aF ?aO ?aB ?aS ?aL ?_; (case aP => exact rfl); (case aB => exact tB); (case aF => exact (fun _ _ => trivial)); (case aO => exact (by (with_reducible repeat (first | apply Kd.ku | apply Kd.kC | apply Kd.j5)); exact Kd.fV (Kd.jQ (p := ⟨Vg, 1, none⟩) (Kd.jQ (p := ⟨Vg, 0, none⟩) (Kd.jA pU.out Fg.out (by decide)) (fun _ hk => hk.2) (.int .i64 ((bM l0 dR).f0))) (fun _ hk => hk.2) (.int .i64 ((bM l0 dR).f1))) (fun _ hk => trivial))); (case aS => exact (aX tB)); (case aL => have := Ve.out; omega); intro qri w8 ho hb hg hat; rw [← qfo.out] at ho; replace Fg := aj.mk (jw (g := Vg) (o := .cells #[.int .i64 ((bM l0 dR).f0), .int .i64 ((bM l0 dR).f1)] 37 (0, 0)) (by (with_reducible repeat (first | refine aM ?_ _ | refine aN ?_ | refine aJ ?_ _)); refine dU (cs := #[.int .i64 ((bM l0 dR).f0), .int .i64 0]) ?_ 1 _ rfl; (with_reducible repeat (first | refine aM ?_ _ | refine aN ?_ | refine aJ ?_ _)); refine dU (cs := #[.int .i64 0, .int .i64 0]) ?_ 0 _ rfl; (with_reducible repeat (first | refine aM ?_ _ | refine aN ?_ | refine aJ ?_ _)); exact Fg.out) hg (Kd.Dr pU.out Fg.out (by decide))); replace HB := aj.mk (hb); have qod := aj.mk (ho); clear pU; clear ho hb hg hat))
       go_roundg k1
       case measure => have := ng.out; omega
       case rel => exact ⟨(qfn), (wrap64 (dR + 1)), tS, H', ⟨by have := ng.out; omega⟩, ⟨tR⟩, ⟨tB⟩⟩
      ·rw [if_neg c5] at H
       exact absurd H (by simp)
     ·rw [if_neg c4] at H
      exact absurd H (by simp)
    ·rw [if_neg c3] at H
     exact absurd H (by simp)
   ·rw [if_neg c2] at H
    have BS : decide (dR < (l0.length : Int)) = false := decide_eq_false c2; clear c2; obtain rfl := Option.some.inj H
    go_wp2
    go_ret
    exact ⟨_, tF, tR, tB⟩
theorem z8 {x : Int} (h0 : -1000000000000000 ≤ x) (h1 : x ≤ 1000000000000000) : wrap64 x = x := by unfold wrap64; omega
theorem qR {l : List Int} {i : Nat} (h : i < l.length) : rd l (i : Int) = l[i] := by rw [rd, Int.toNat_natCast, List.getD_eq_getElem?_getD, List.getElem?_eq_getElem h]; rfl
theorem GQ {l : List bg} {i : Nat} (h : i < l.length) : aC l (i : Int) = l[i] := by rw [aC, Int.toNat_natCast, List.getD_eq_getElem?_getD, List.getElem?_eq_getElem h]; rfl
theorem Ko {l : List bT} {i : Nat} (h : i < l.length) : bM l (i : Int) = l[i] := by rw [bM, Int.toNat_natCast, List.getD_eq_getElem?_getD, List.getElem?_eq_getElem h]; rfl
theorem Vh (l : List bg) (hl : l.length ≤ 1000000) : ∀ (m k i : Nat) (acc : List bT), i + m = l.length → m < k → acc.length = i → gD.l0 k acc l (l.length : Int) (i : Int) = some (acc ++ (l.drop i).map bg.f2) := by
 intro m
 induction m with
 | zero =>
  intro k i acc hi hk ha; obtain ⟨k, rfl⟩ : ∃ k', k = k' + 1 := ⟨k - 1, by omega⟩; rw [gD.l0, if_neg (by omega), List.drop_eq_nil_of_le (by omega)]; simp
 | succ m ih =>
  intro k i acc hi hk ha; obtain ⟨k, rfl⟩ : ∃ k', k = k' + 1 := ⟨k - 1, by omega⟩; rw [gD.l0, if_pos (by omega), if_pos (by omega), if_pos (by omega)]; rw [if_pos (by omega), z8 (by omega) (by omega), GQ (by omega)]; rw [show ((i : Int) + 1) = ((i + 1 : Nat) : Int) by omega, ih k (i + 1) _ (by omega) (by omega) (by simp; omega), List.drop_eq_getElem_cons (show i < l.length by omega)]; simp only [List.append_assoc, List.map_cons, List.singleton_append]
theorem Qq {k : Nat} {l : List bg} (hl : l.length ≤ 1000000) (hk : l.length < k) : gD.f k l = some (l.map bg.f2) := by
 have := Vh l hl l.length k 0 [] (by omega) hk rfl
 simpa [gD.f] using this
theorem Yx (l : List bT) (hl : l.length ≤ 1000000) : ∀ (m k i : Nat) (acc : List Int), i + m = l.length → m < k → acc.length = i → iJ.l0 k acc l (l.length : Int) (i : Int) = some (acc ++ (l.drop i).map bT.f0) := by
 intro m
 induction m with
 | zero =>
  intro k i acc hi hk ha; obtain ⟨k, rfl⟩ : ∃ k', k = k' + 1 := ⟨k - 1, by omega⟩; rw [iJ.l0, if_neg (by omega), List.drop_eq_nil_of_le (by omega)]; simp
 | succ m ih =>
  intro k i acc hi hk ha; obtain ⟨k, rfl⟩ : ∃ k', k = k' + 1 := ⟨k - 1, by omega⟩; rw [iJ.l0, if_pos (by omega), if_pos (by omega), if_pos (by omega)]; rw [if_pos (by omega), z8 (by omega) (by omega), Ko (by omega)]; rw [show ((i : Int) + 1) = ((i + 1 : Nat) : Int) by omega, ih k (i + 1) _ (by omega) (by omega) (by simp; omega), List.drop_eq_getElem_cons (show i < l.length by omega)]; simp only [List.append_assoc, List.map_cons, List.singleton_append]
theorem Vi {k : Nat} {l : List bT} (hl : l.length ≤ 1000000) (hk : l.length < k) : iJ.f k l = some (l.map bT.f0) := by
 have := Yx l hl l.length k 0 [] (by omega) hk rfl
 simpa [iJ.f] using this
theorem Vj (l : List bT) (hl : l.length ≤ 1000000) : ∀ (m k i : Nat) (acc : List Int), i + m = l.length → m < k → acc.length = i → gQ.l0 k acc l (l.length : Int) (i : Int) = some (acc ++ (l.drop i).map bT.f1) := by
 intro m
 induction m with
 | zero =>
  intro k i acc hi hk ha; obtain ⟨k, rfl⟩ : ∃ k', k = k' + 1 := ⟨k - 1, by omega⟩; rw [gQ.l0, if_neg (by omega), List.drop_eq_nil_of_le (by omega)]; simp
 | succ m ih =>
  intro k i acc hi hk ha; obtain ⟨k, rfl⟩ : ∃ k', k = k' + 1 := ⟨k - 1, by omega⟩; rw [gQ.l0, if_pos (by omega), if_pos (by omega), if_pos (by omega)]; rw [if_pos (by omega), z8 (by omega) (by omega), Ko (by omega)]; rw [show ((i : Int) + 1) = ((i + 1 : Nat) : Int) by omega, ih k (i + 1) _ (by omega) (by omega) (by simp; omega), List.drop_eq_getElem_cons (show i < l.length by omega)]; simp only [List.append_assoc, List.map_cons, List.singleton_append]
theorem Qr {k : Nat} {l : List bT} (hl : l.length ≤ 1000000) (hk : l.length < k) : gQ.f k l = some (l.map bT.f1) := by
 have := Vj l hl l.length k 0 [] (by omega) hk rfl
 simpa [gQ.f] using this
theorem qcJ (l : List Int) (hl : l.length ≤ 1000000) (hb : ∀ x ∈ l, 0 ≤ x ∧ x ≤ 1000000) : ∀ (m k i : Nat) (acc : Int), i + m = l.length → m < k → 0 ≤ acc → acc ≤ i * 1000000 → jY.l0 k acc l (l.length : Int) (i : Int) = some (acc + (l.drop i).sum) := by
 intro m
 induction m with
 | zero =>
  intro k i acc hi hk _ _; obtain ⟨k, rfl⟩ : ∃ k', k = k' + 1 := ⟨k - 1, by omega⟩; rw [jY.l0, if_neg (by omega), List.drop_eq_nil_of_le (by omega)]; simp
 | succ m ih =>
  intro k i acc hi hk h0 h1; obtain ⟨k, rfl⟩ : ∃ k', k = k' + 1 := ⟨k - 1, by omega⟩; have hx := hb l[i] (List.getElem_mem _); rw [jY.l0, if_pos (by omega), if_pos (by omega), if_pos (by omega), qR (by omega), z8 (x := acc + l[i]) (by omega) (by omega), z8 (x := (i : Int) + 1) (by omega) (by omega)]; rw [show ((i : Int) + 1) = ((i + 1 : Nat) : Int) by omega, ih k (i + 1) _ (by omega) (by omega) (by omega) (by omega), List.drop_eq_getElem_cons (show i < l.length by omega), List.sum_cons, Int.add_assoc]
theorem qaQ {k : Nat} {l : List Int} (hl : l.length ≤ 1000000) (hb : ∀ x ∈ l, 0 ≤ x ∧ x ≤ 1000000) (hk : l.length < k) : jY.f k l = some l.sum := by
 have := qcJ l hl hb l.length k 0 0 (by omega) hk (by omega) (by omega)
 simpa [jY.f] using this
def vH (d : Int) (takes : List Int) : List bg → List Int → List Int
 | b :: l, h :: hs => if b.f0 = d then (h * rd takes b.f1) :: vH d takes l hs else vH d takes l hs
 | _, _ => []
def qx (full d : Int) (takes : List Int) (l : List bg) (hours : List Int) : Int := min full (vH d takes l hours).sum
theorem Fh {l : List Int} {B : Int} (h : ∀ x ∈ l, 0 ≤ x ∧ x ≤ B) (hB : 0 ≤ B) (i : Int) : 0 ≤ rd l i ∧ rd l i ≤ B := by
 rw [rd, List.getD_eq_getElem?_getD]
 by_cases hi : i.toNat < l.length
 ·rw [List.getElem?_eq_getElem hi]; exact h _ (List.getElem_mem hi)
 ·rw [List.getElem?_eq_none (by omega)]; exact ⟨by decide, hB⟩
theorem CG {d : Int} {takes : List Int} (ht : ∀ x ∈ takes, 0 ≤ x ∧ x ≤ 1000) : ∀ (l : List bg) (hours : List Int), (∀ x ∈ hours, 0 ≤ x ∧ x ≤ 1000) → ∀ x ∈ vH d takes l hours, 0 ≤ x ∧ x ≤ 1000000
 | [], _, _ => by simp [vH]
 | b :: l, [], _ => by simp [vH]
 | b :: l, h :: hs, hh => by
  rw [vH]; have ih := CG (d := d) ht l hs (fun x hx => hh x (List.mem_cons_of_mem _ hx)); have h1 := hh h (List.mem_cons_self ..); have h2 := Fh ht (by decide) b.f1
  split
  ·intro x hx
   rcases List.mem_cons.1 hx with rfl | hx
   ·exact ⟨Int.mul_nonneg h1.1 h2.1, by have := Int.mul_le_mul h1.2 h2.2 h2.1 (by decide); omega⟩
   ·exact ih x hx
  ·exact ih
theorem Nz (a b : Int) : mn a b = min a b := by unfold mn; omega
theorem Vk (h : List bO) (d : Int) (takes hours : List Int) (l : List bg) (hd : 0 ≤ d ∧ d < h.length) (hl : l.length ≤ 1000) (hh : hours.length = l.length) (hb : ∀ x ∈ hours, 0 ≤ x ∧ x ≤ 1000) (ht : ∀ x ∈ takes, 0 ≤ x ∧ x ≤ 1000)
  (Qs : ∀ b ∈ l, b.f0 = d → 0 ≤ b.f1 ∧ b.f1 < takes.length) : ∀ (m k i : Nat) (acc : List Int), i + m = l.length → l.length + m + 1 < k → acc.length ≤ i → (∀ x ∈ acc, 0 ≤ x ∧ x ≤ 1000000) →
  dB.l0 k d takes hours acc l (l.length : Int) (i : Int) h = some (min (aT h d).f1 (acc ++ vH d takes (l.drop i) (hours.drop i)).sum) := by
 intro m
 induction m with
 | zero =>
  intro k i acc hi hk ha hab; obtain ⟨k, rfl⟩ : ∃ k', k = k' + 1 := ⟨k - 1, by omega⟩; rw [dB.l0, if_neg (by omega), if_pos hd.1, if_pos hd.2, qaQ (by omega) hab (by omega), List.drop_eq_nil_of_le (by omega)]; simp [vH, Nz]
 | succ m ih =>
  intro k i acc hi hk ha hab; obtain ⟨k, rfl⟩ : ∃ k', k = k' + 1 := ⟨k - 1, by omega⟩; have h1 := hb (hours[i]'(by omega)) (List.getElem_mem _); rw [dB.l0, if_pos (by omega), if_pos (by omega), if_pos (by omega), GQ (by omega), z8 (x := (i : Int) + 1) (by omega) (by omega), show ((i : Int) + 1) = ((i + 1 : Nat) : Int) by omega]; rw [List.drop_eq_getElem_cons (show i < l.length by omega), List.drop_eq_getElem_cons (show i < hours.length by omega), vH]
  by_cases he : (l[i]'(by omega)).f0 = d
  ·have h2 := Qs _ (List.getElem_mem _) he
   have h3 := Fh ht (by decide) (l[i]'(by omega)).f1; have h4 := Int.mul_nonneg h1.1 h3.1; have h5 := Int.mul_le_mul h1.2 h3.2 h3.1 (by decide); rw [if_pos he, if_pos (by omega), if_pos h2.1, if_pos h2.2, if_pos (by omega), qR (by omega), z8 (by omega) (by omega), if_pos he]
   rw [ih k (i + 1) _ (by omega) (by omega) (by simp; omega) (by
    intro x hx
    rcases List.mem_append.1 hx with hx | hx
    ·exact hab x hx
    ·rw [List.mem_singleton.1 hx]; omega)]
   simp
  ·rw [if_neg he, if_neg he, ih k (i + 1) _ (by omega) (by omega) (by omega) hab]
theorem IB {k : Nat} {h : List bO} {d : Int} {takes hours : List Int} {l : List bg} (hd : 0 ≤ d ∧ d < h.length) (hl : l.length ≤ 1000) (hh : hours.length = l.length) (hb : ∀ x ∈ hours, 0 ≤ x ∧ x ≤ 1000) (ht : ∀ x ∈ takes, 0 ≤ x ∧ x ≤ 1000)
  (Qs : ∀ b ∈ l, b.f0 = d → 0 ≤ b.f1 ∧ b.f1 < takes.length) (hk : 2 * l.length + 1 < k) : dB.f k h l d takes hours = some (qx (aT h d).f1 d takes l hours) := by
 have := Vk h d takes hours l hd hl hh hb ht Qs l.length k 0 [] (by omega) (by omega) (by simp) (by simp)
 simpa [dB.f, qx] using this
end Go.Proofs.YtnpfbjnjdngkhaaGreatDoor.P
