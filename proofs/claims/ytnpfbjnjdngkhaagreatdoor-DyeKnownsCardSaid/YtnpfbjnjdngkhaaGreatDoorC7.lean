import Derived.Defers
import Derived.Recover
import Derived.Test.YtnpfbjnjdngkhaaGreatDoorC6
set_option maxHeartbeats 8000000
set_option maxRecDepth 100000
set_option linter.unusedVariables false
set_option linter.unusedSimpArgs false
namespace Go.Proofs.YtnpfbjnjdngkhaaGreatDoor.P
open Go.RowKit Go.Proofs.YtnpfbjnjdngkhaaGreatDoorW.aW Go.Proofs.YtnpfbjnjdngkhaaGreatDoorW.bZ Go.Proofs.YtnpfbjnjdngkhaaGreatDoorW.dh
attribute [local go_sem] fE fF gU gV eX eY fG fH
def Xp (n : Nat) : List Int := (List.range n).map fun (i : Nat) => (i : Int)
def Xq (h : List bO) (gK : List ou) (e : bT) (old : List bT) (need : Int) (l : List dN) (n : Nat) : List Int := (Xp n).filter fun s => qX h gK e old need l s
def Sn (h : List bO) (gK : List ou) (e : bT) (old : List bT) (need : Int) (l : List dN) : Int × Int :=
 if 0 < (Xq h gK e old need l (2 ^ l.length)).length then (Bu (rZ l) (Xq h gK e old need l (2 ^ l.length)), 0) else (0, 5)
def yw.f (h : List bO) (gK : List ou) (e0 e1 : Int) (old : List bT) (need : Int) (l : List dN) : Option (Int × Int) :=
 some (if iA h && (Ak h.length gK ⟨e0, e1⟩ old need && rD h.length l 1) then Sn h gK ⟨e0, e1⟩ old need l else (0, 2))
theorem Xr (n : Nat) : Xp (n + 1) = Xp n ++ [(n : Int)] := by simp [Xp, List.range_succ]
theorem qaj {n : Nat} (h : n ≤ 5) : 2 ^ n ≤ 32 := Nat.le_trans (Nat.pow_le_pow_right (by decide) h) (by decide)
theorem yw.calls (bB : Option Addr) (aZ : Nat) (au : List bO) (gu : Option Addr) (gq : Nat) (bN : List ou) (iq : Int) (jv : Int) (wF : Option Addr) (vL : Nat) (iC : List bT) (kK : Int) (A2 : Option Addr) (c2 : Nat) (l2 : List dN) (r1 : Int) (r2 : Int) (w : World) (dx : Kd.C iM w bB au.length au) (dI : au.length ≤ aZ) (kF : Kd.C ET w gu bN.length bN) (nk : bN.length ≤ gq) (Af : Kd.C j3 w wF iC.length iC) (GV : iC.length ≤ vL) (hr2 : Kd.C l7 w A2 l2.length l2) (hc2 : l2.length ≤ c2) (h : yw.f au bN iq jv iC kK l2 = some (r1, r2)) :
  Calls Tryz.prog 48 #[.agg #[.slice bB au.length aZ], .agg #[.slice gu bN.length gq, .int .i64 iq, .int .i64 jv, .slice wF iC.length vL, .int .i64 kK], .slice A2 l2.length c2] w fun e w' => e = .returned (.tuple #[.int .i64 r1, .int .i64 r2]) ∧ Below w.heap.size w w' := by
 have HX := Bx.nil w
 have K1 := fun w1 (hb : Below w.heap.size w w1) => c105 bB aZ au w1 (Kd.ak dx hb) dI
 have K2 := fun w1 (hb : Below w.heap.size w w1) => qlG bB aZ au w1 (Kd.ak dx hb) dI gu gq bN ⟨iq, jv⟩ wF vL iC kK (Kd.ak kF hb) nk (Kd.ak Af hb) GV
 have K3 := fun w1 (hb : Below w.heap.size w w1) => c127 bB aZ au w1 (Kd.ak dx hb) dI A2 c2 l2 1 (Kd.ak hr2 hb) hc2
 have HR := aj.mk (And.intro dx (And.intro kF (And.intro Af hr2))); have hm2 : l2.length ≤ 9223372036854775807 := hr2.2.1
 unfold yw.f at h
 obtain ⟨b1, hb1⟩ : ∃ b, b = iA au := ⟨_, rfl⟩; obtain ⟨b2, hb2⟩ : ∃ b, b = Ak au.length bN ⟨iq, jv⟩ iC kK := ⟨_, rfl⟩; obtain ⟨b3, hb3⟩ : ∃ b, b = rD au.length l2 1 := ⟨_, rfl⟩; have HG := aj.mk (And.intro hb1 (And.intro hb2 hb3)); rw [← hb1, ← hb2, ← hb3] at h; rw [← hb1] at K1; rw [← hb2] at K2; rw [← hb3] at K3; clear hb1 hb2 hb3 dx kF Af hr2; have o8 := Tryz.underlying24; have Yz := Tryz.underlying58
 have hmf : ∀ (fn : Fn) (first cap : Array Value) (w : World), (Instr.makeFunc fn first cap).run Tryz.prog w = .ok (.func fn first cap) w := fun _ _ _ _ => rfl
 have hc : (b1 = false ∨ b1 = true ∧ b2 = false ∨ b1 = true ∧ b2 = true ∧ b3 = false) ∨ (b1 = true ∧ b2 = true ∧ b3 = true) := by
  cases b1 <;> cases b2 <;> cases b3 <;> simp
 rcases hc with hc | hc
 ·obtain ⟨rfl, rfl⟩ : r1 = 0 ∧ r2 = 2 := by
   rcases hc with rfl | ⟨rfl, rfl⟩ | ⟨rfl, rfl, rfl⟩ <;> (simp at h; exact ⟨h.1.symm, h.2.symm⟩)
  clear h HG
  rcases hc with rfl | ⟨rfl, rfl⟩ | ⟨rfl, rfl, rfl⟩
  all_goals
   go_enter Tryz.func48, Tryz.ntmps48
   go_wp2_with (first | ((with_reducible refine av (N := 3) rfl ?_); refine newX rfl rfl HX (cs := #[.slice bB au.length aZ]) (t := 24) tG ?_; clear HX; intro g3 w3 HX hx hz; clear hx hz) | ((with_reducible refine av (N := 4) rfl ?_); refine newX rfl rfl HX (cs := #[.slice gu bN.length gq, .int .i64 iq, .int .i64 jv, .slice wF iC.length vL, .int .i64 kK]) (t := 58) tG ?_; clear HX; intro g4 w4 HX hx hz; clear hx hz) | ((with_reducible refine av (N := 5) rfl ?_); refine newX rfl rfl HX (cs := #[.slice A2 l2.length c2]) (t := 59) tG ?_; clear HX; intro g5 w5 HX hx hz; clear hx hz; have ck := HX.g1 2 rfl; obtain ⟨wZ, xg, vY, wQ, xk⟩ := HX.g5 1 rfl; have cl := HX.g1 0 rfl) | (go_at_call 105; (with_reducible refine (K1 _ HX.below).mono ?_); rintro e w1 ⟨rfl, hx⟩; replace HX := HX.step hx; clear hx ck wZ xg vY wQ xk cl; have ck := HX.g1 2 rfl; obtain ⟨wZ, xg, vY, wQ, xk⟩ := HX.g5 1 rfl; have cl := HX.g1 0 rfl) | (go_at_call 126; (with_reducible refine (K2 _ HX.below).mono ?_); rintro e w1 ⟨rfl, hx⟩; replace HX := HX.step hx; clear hx ck wZ xg vY wQ xk cl; have ck := HX.g1 2 rfl; obtain ⟨wZ, xg, vY, wQ, xk⟩ := HX.g5 1 rfl; have cl := HX.g1 0 rfl) | (go_at_call 127; (with_reducible refine (K3 _ HX.below).mono ?_); rintro e w1 ⟨rfl, hx⟩; replace HX := HX.step hx; clear hx ck wZ xg vY wQ xk cl; have ck := HX.g1 2 rfl; obtain ⟨wZ, xg, vY, wQ, xk⟩ := HX.g5 1 rfl; have cl := HX.g1 0 rfl))
   go_ret2
   exact ⟨rfl, HX.below⟩
 ·obtain ⟨rfl, rfl, rfl⟩ := hc
  have hR : Sn au bN ⟨iq, jv⟩ iC kK l2 = (r1, r2) := by simpa using h
  have OK := aj.mk (Si HG.out.1.symm HG.out.2.1.symm HG.out.2.2.symm); have HRR := aj.mk hR; have KS := aj.mk (fun (set : Int) w1 (hb : Below w.heap.size w w1) => vT.calls bB aZ au gu gq bN iq jv wF vL iC kK A2 c2 l2 set (qX au bN ⟨iq, jv⟩ iC kK l2 set) w1 (Kd.ak HR.out.1 hb) dI (Kd.ak HR.out.2.1 hb) nk (Kd.ak HR.out.2.2.1 hb) GV (Kd.ak HR.out.2.2.2 hb) hc2 (by unfold vT.f; rw [← HG.out.1, ← HG.out.2.1, ← HG.out.2.2]; rfl))
  have hl5 : (l2.length : Int) ≤ 5 := by have := OK.out.TY; omega
  obtain ⟨M, hM⟩ : ∃ M : Nat, M = 2 ^ l2.length := ⟨_, rfl⟩; have HM := aj.mk (And.intro hM (show M ≤ 32 by rw [hM]; exact qaj OK.out.TY)); clear h hR hM
  go_enter Tryz.func48, Tryz.ntmps48
  go_wp2_with (first | ((with_reducible refine av (N := 3) rfl ?_); refine newX rfl rfl HX (cs := #[.slice bB au.length aZ]) (t := 24) tG ?_; clear HX; intro g3 w3 HX hx hz; clear hx hz) | ((with_reducible refine av (N := 4) rfl ?_); refine newX rfl rfl HX (cs := #[.slice gu bN.length gq, .int .i64 iq, .int .i64 jv, .slice wF iC.length vL, .int .i64 kK]) (t := 58) tG ?_; clear HX; intro g4 w4 HX hx hz; clear hx hz) | ((with_reducible refine av (N := 5) rfl ?_); refine newX rfl rfl HX (cs := #[.slice A2 l2.length c2]) (t := 59) tG ?_; clear HX; intro g5 w5 HX hx hz; clear hx hz; have ck := HX.g1 2 rfl; obtain ⟨wZ, xg, vY, wQ, xk⟩ := HX.g5 1 rfl; have cl := HX.g1 0 rfl) | (go_at_call 105; (with_reducible refine (K1 _ HX.below).mono ?_); rintro e w1 ⟨rfl, hx⟩; replace HX := HX.step hx; clear hx ck wZ xg vY wQ xk cl; have ck := HX.g1 2 rfl; obtain ⟨wZ, xg, vY, wQ, xk⟩ := HX.g5 1 rfl; have cl := HX.g1 0 rfl) | (go_at_call 126; (with_reducible refine (K2 _ HX.below).mono ?_); rintro e w1 ⟨rfl, hx⟩; replace HX := HX.step hx; clear hx ck wZ xg vY wQ xk cl; have ck := HX.g1 2 rfl; obtain ⟨wZ, xg, vY, wQ, xk⟩ := HX.g5 1 rfl; have cl := HX.g1 0 rfl) | (go_at_call 127; (with_reducible refine (K3 _ HX.below).mono ?_); rintro e w1 ⟨rfl, hx⟩; replace HX := HX.step hx; clear hx ck wZ xg vY wQ xk cl; have ck := HX.g1 2 rfl; obtain ⟨wZ, xg, vY, wQ, xk⟩ := HX.g5 1 rfl; have cl := HX.g1 0 rfl) | ((with_reducible refine av (N := 8) rfl ?_); refine newX rfl rfl HX (cs := #[.nilFunc]) (t := 170) tG ?_; clear HX; intro g8 w8 HX hx hz; clear hx hz; clear ck wZ xg vY wQ xk cl) | ((with_reducible refine bE (t := 170) (p := 8) rfl ?_); refine kL rfl rfl rfl HX 0 rfl (i := 0) (.func (.func 128) #[] #[.pointer (some ⟨g5, 0, none⟩)]) [.func (.func 128) #[] #[.pointer (some ⟨g5, 0, none⟩)]] #[.func (.func 128) #[] #[.pointer (some ⟨g5, 0, none⟩)]] rfl rfl rfl tX (by simp) (by simp [Value.oneCell']) rfl ?_; clear HX; intro w9 HX hx; clear hx; dsimp only [List.set] at HX; have ck := HX.g1 3 rfl; obtain ⟨wZ, xg, vY, wQ, xk⟩ := HX.g5 2 rfl; have cl := HX.g1 1 rfl; have cf := HX.g1 0 rfl))
  have hMW : wrap64 (2 ^ l2.length) = (M : Int) := by
   have h1 := HM.out.1; have h2 := HM.out.2
   have h3 : ((2 : Int) ^ l2.length) = (M : Int) := by rw [h1]; simp
   rw [h3]; exact z8 (by omega) (by omega)
  rw [hMW]; clear hMW ck wZ xg vY wQ xk cl cf; obtain ⟨w0, hw0⟩ : ∃ w0, w0 = w9 := ⟨_, rfl⟩; rw [← hw0] at HX; rw [← hw0]; clear hw0; have HX0 := HX; clear HX; have HX := Bx.nil w0; have HML := HM.out.2
  go_loopw [9, 32] (fun v9 v32 W => ∃ i : Nat, i ≤ M ∧ v32 = .int .i64 i ∧ aj (Kd.R (Kd.int .i64) 3 W w0.heap.size (fun _ => True) v9 ((Xp i).filter fun s => qX au bN ⟨iq, jv⟩ iC kK l2 s)) ∧ Bx [] w0 W) (fun _ v32 _ => M - (intOf v32).toNat)
  case atStart => exact ⟨0, by omega, rfl, ⟨Kd.lJ _ _ _ _ _⟩, HX⟩
  case round =>
   clear HX; obtain ⟨i, hi, rfl, HV, HX⟩ := hrel; have ck := fT (aG (HX0.gb 3 rfl) HX.below); obtain ⟨wZ, xg, vY, wQ, xk⟩ := EX (aG (HX0.gb 2 rfl) HX.below); have cl := fT (aG (HX0.gb 1 rfl) HX.below); have cf := fT (aG (HX0.gb 0 rfl) HX.below)
   by_cases hlt : i < M
   ·have hilt : (i : Int) < M := by omega
    have HU := aj.mk (show ((Xp (i + 1)).filter fun s => qX au bN ⟨iq, jv⟩ iC kK l2 s) = ((Xp i).filter fun s => qX au bN ⟨iq, jv⟩ iC kK l2 s) ++ (if qX au bN ⟨iq, jv⟩ iC kK l2 i then [(i : Int)] else []) by
     rw [Xr, List.filter_append, List.filter_cons, List.filter_nil])
    have HVL := aj.mk (show ((Xp i).filter fun s => qX au bN ⟨iq, jv⟩ iC kK l2 s).length ≤ 100000000 from Nat.le_trans (List.length_filter_le _ _) (by simp [Xp]; omega)); have K := aj.mk (KS.out i); obtain ⟨b, hb⟩ : ∃ b, b = qX au bN ⟨iq, jv⟩ iC kK l2 i := ⟨_, rfl⟩; rw [← hb] at HU K; clear hb
    cases b
    ·go_wp2_with (go_at_call 131; (with_reducible refine (K.out _ (aV HX0.below HX.below)).mono ?_); rintro e w1 ⟨rfl, hx⟩; replace HX := HX.step hx; replace HV := qQ HV hx; clear hx ck wZ xg vY wQ xk cl cf)
     exact ⟨⟨i + 1, by omega, by go_num, ⟨by rw [HU.out]; simpa using HV.out⟩, HX⟩, by simp [intOf]; omega⟩
    ·go_wp2_with (first | (go_at_call 131; (with_reducible refine (K.out _ (aV HX0.below HX.below)).mono ?_); rintro e w1 ⟨rfl, hx⟩; replace HX := HX.step hx; replace HV := qQ HV hx; clear hx ck wZ xg vY wQ xk cl cf) | ((with_reducible refine eD (b := .append) (xs := #[.tmp 40, .tmp 42]) rfl ?_); at_builtin; refine oL (w := w0) (Kd.int .i64) rfl (.tmp 40) (.tmp 42) 47 3 (.int .i64 0) 8 rfl Tryz.underlying47 info3 rfl (by decide) (by omega) _ ((Xp i).filter fun s => qX au bN ⟨iq, jv⟩ iC kK l2 s) (i : Int) [.int .i64 i] rfl rfl rfl HV ⟨HX.below⟩ HVL.out (by decide) ?_; intro v9 y9 HU2 HB2 hx hat; have uG := HX.Xe hx (fun k e => Kd.gH HV.out k e) (by simp); clear HX HV HB2 hx hat; have HX := uG; have HV := HU2; clear uG HU2))
     exact ⟨⟨i + 1, by omega, by go_num, ⟨by rw [HU.out]; exact HV.out⟩, HX⟩, by simp [intOf]; omega⟩
   ·obtain rfl : i = M := by omega
    obtain ⟨ss, hss⟩ : ∃ ss, ss = (Xp i).filter fun s => qX au bN ⟨iq, jv⟩ iC kK l2 s := ⟨_, rfl⟩
    rw [← hss] at HV; have HSS := aj.mk (show Sn au bN ⟨iq, jv⟩ iC kK l2 = if 0 < ss.length then (Bu (rZ l2) ss, 0) else (0, 5) by unfold Sn Xq; rw [← HM.out.1, ← hss])
    have J9 := aj.mk (show ∀ x ∈ ss, 0 ≤ x ∧ x < 32 from fun x hx => by
     rw [hss] at hx; obtain ⟨m, hm, rfl⟩ := List.mem_map.1 (List.mem_filter.1 hx).1; have := List.mem_range.1 hm
     omega)
    have hR2 := HRR.out; rw [HSS.out] at hR2; clear hss; obtain ⟨A9, c9, rfl, hl9, hC9⟩ := Kd.fO HV.out; have HC9 := aj.mk hC9; clear hC9
    by_cases h0 : 0 < ss.length
    ·rw [if_pos h0] at hR2
     obtain ⟨rfl, rfl⟩ : Bu (rZ l2) ss = r1 ∧ 0 = r2 := by simpa using hR2
     clear hR2; have K := aj.mk (F6 g8 g5 A2 c2 l2 A9 c9 ss wr (aG (HX0.gb 0 rfl) HX.below) (aG (HX0.gb 1 rfl) HX.below) (Kd.ak HR.out.2.2.2 (aV HX0.below HX.below)) hc2 OK.out.TY (fun s hs => (OK.out.Xb s hs).2.2.2) HC9.out J9.out); rw [decide_eq_true h0] at K; clear h0
     go_wp2_with (go_at_call 132; refine K.out.mono ?_; rintro e w1 ⟨rfl, hx⟩; replace HX := HX.step hx; clear hx ck wZ xg vY wQ xk cl cf)
     go_ret2
     exact ⟨rfl, aV HX0.below HX.below⟩
    ·rw [if_neg h0] at hR2
     obtain ⟨rfl, rfl⟩ : 0 = r1 ∧ 5 = r2 := by simpa using hR2
     clear hR2; have K := aj.mk (F6 g8 g5 A2 c2 l2 A9 c9 ss wr (aG (HX0.gb 0 rfl) HX.below) (aG (HX0.gb 1 rfl) HX.below) (Kd.ak HR.out.2.2.2 (aV HX0.below HX.below)) hc2 OK.out.TY (fun s hs => (OK.out.Xb s hs).2.2.2) HC9.out J9.out); rw [decide_eq_false h0] at K; clear h0
     go_wp2_with (go_at_call 132; refine K.out.mono ?_; rintro e w1 ⟨rfl, hx⟩; replace HX := HX.step hx; clear hx ck wZ xg vY wQ xk cl cf)
     go_ret2
     exact ⟨rfl, aV HX0.below HX.below⟩
def qhd {α : Type} (P : Program) (g : Nat) (lb : Array Value) (encs : α → Array Value) (Rd : α → World → Prop) (Kp : World → World → Prop) (S : List α → Prop) (N : Nat) (w : World) : Prop :=
 ∀ (l : Nat) (J : List α → World → Prop) (W : World), Below w.heap.size w W → w.heap.size + 2 ≤ W.heap.size → OwnFrom W.heap.size J →
  (∀ pre x W1, J pre W1 → Rd x W1 → pre.length < N → YieldAt Fence.wide 1 P l (encs x) W1 fun e W' => e = .returned (.bool true) ∧ J (pre ++ [x]) W' ∧ Kp W1 W') → J [] W →
  CallsIn Fence.wide 2 P g (#[.func (.yield l) #[] #[]] ++ lb) W fun e W' => (∃ v, e = .returned v) ∧ ∃ xs, S xs ∧ J xs W'
def xA (Wr : Nat → Prop) (B : Nat) (W W' : World) : Prop := mX Wr W W' ∧ ∀ k o, B ≤ k → W.heap[k]? = some o → W'.heap[k]? = some o
theorem xA.trans {Wr : Nat → Prop} {B : Nat} {X Y Z : World} (h : xA Wr B X Y) (k : xA Wr B Y Z) : xA Wr B X Z := ⟨h.1.trans k.1, fun i o hi ho => k.2 i o hi (h.2 i o hi ho)⟩
theorem xA.below {Wr : Nat → Prop} {B : Nat} {W W' : World} (h : Below W.heap.size W W') : xA Wr B W W' := ⟨mX.below h, fun k o _ ho => (h.block k (cZ ho)).trans ho⟩
theorem mX.qhe {Wr : Nat → Prop} {W : World} {l : Nat} {o o' : Obj} (h : W.heap[l]? = some o) (ho : o.isCells = false) : mX Wr W (W.putObj l o') := by
 refine ⟨by simp [World.putObj], fun k q hk hq _ => ?_⟩
 have : k ≠ l := by
  intro e; subst e; rw [h] at hk
  cases hk
  rw [ho] at hq
  cases hq
 exact (World.putObj_heap_other this).trans hk
theorem xA.put {Wr : Nat → Prop} {B : Nat} {W : World} {l : Nat} {o o' : Obj} (h : W.heap[l]? = some o) (ho : o.isCells = false) (hB : l < B) : xA Wr B W (W.putObj l o') :=
 ⟨mX.qhe h ho, fun k q hk hq => (World.putObj_heap_other (by omega)).trans hq⟩
theorem xA.grown {Wr : Nat → Prop} {B g : Nat} {W W' : World} (hg : W.grownBy W' (some g)) (hw : Wr g) (hB : g < B) : xA Wr B W W' :=
 ⟨⟨hg.size, fun k o hk _ hn => (hg.block k (cZ hk) (fun e => by injection e with e; exact hn (e ▸ hw))).trans hk⟩, fun k o hk ho => (hg.block k (cZ ho) (fun e => by injection e; omega)).trans ho⟩
theorem xA.from {Wr : Nat → Prop} {B B' : Nat} {W W' : World} (h : xA Wr B W W') (hB : B ≤ B') : KeepsFrom B' W W' := ⟨h.1.1, fun k o hk ho _ => h.2 k o (by omega) ho⟩
theorem qeh {n m lp l : Nat} {P : Program} {f : FuncId} {tmps : Array Value} {assign body : Code} {w : World} {R : Ending → World → Prop} (h : RoundIn Fence.wide n P l f tmps assign body w R) : RoundIn (Fence.wide.inRound lp) m P l f tmps assign body w R := ⟨h.1, fun c cs _ => h.2 c cs (room_wide _)⟩
theorem Xt {P : Program} {g : Operand} {ps : Array Tmp} {assign body : Code} {Q : Exit → Act → World → Prop} {a : Act} {w : World} {gf : Nat} {lb : Array Value}
  (hg : a.eval g = .func (.func gf) #[] lb) (eg : ∀ args w, (callFunc gf args).run P w = .ok (.enter gf args) w)
  {α : Type} {encs : α → Array Value} {Rd : α → World → Prop} {Kp : World → World → Prop} {S : List α → Prop} {N : Nat} {w0 : World} (hseq : qhd P gf lb encs Rd Kp S N w0)
  (hKt : ∀ {A B C : World}, Kp A B → Kp B C → Kp A C) (hKb : ∀ (W : World) (o o' : Obj), W.heap[w.heap.size + 1]? = some o → o.isCells = false → Kp W (W.putObj (w.heap.size + 1) o')) (hb0 : Below w0.heap.size w0 w) (hps : ∀ x, (encs x).size = ps.size)
  (I : List α → World → Prop) (hI : OwnFrom w.heap.size I) (h0 : I [] w) (Ax : α → Act → World → Prop) (hAx : ∀ x a', OwnFrom w.heap.size (fun (_ : Unit) W => Ax x a' W))
  (hassign : ∀ (l : Nat) (pre : List α) (x : α) (W : World) (K : Act → World → Prop), I pre W → Rd x W → (∀ a' Wa, KeepsFrom w.heap.size W Wa → Kp W Wa → I pre Wa → Ax x a' Wa → K a' Wa) →
   assign.wpIn (Fence.wide.inRound l) 1 P (Exit.then K (fun _ _ _ => False)) { tmps := (ps.zip (encs x)).foldl (fun t (p, v) => t.setIfInBounds p v) a.tmps, defers := [] } W)
  (hbody : ∀ (l : Nat) (pre : List α) (x : α) (a' : Act) (W : World), I pre W → Ax x a' W → pre.length < N → body.wpIn (Fence.wide.inRound l) 1 P (fun e _ W' => e = .normal ∧ KeepsFrom w.heap.size W W' ∧ Kp W W' ∧ I (pre ++ [x]) W') a' W)
  (hdone : ∀ (xs : List α) (W : World), S xs → I xs W → W.heap[w.heap.size]? = some (.deferred (some [])) → Q .normal { a with defers := { target := .collected w.heap.size, args := #[] } :: a.defers } W) :
  (Code.rangeFunc g ps assign body).wpIn Fence.wide 3 P Q a w := by
 refine wpIn_rangeFunc fun fn hfn => ?_
 obtain ⟨rec, hrec⟩ : ∃ rec : LoopState → Option Code → Loop, rec = fun st pe => { state := st, pending := pe, fn, tmps := a.tmps, params := ps, assign, body, defers := w.heap.size } := ⟨_, rfl⟩
 obtain ⟨W1, hW1⟩ : ∃ W1, (w.alloc (.deferred (some []))).alloc (.loop (rec .ready none)) = W1 := ⟨_, rfl⟩
 have hB : Below w.heap.size w W1 := by rw [← hW1]; exact ((Below.refl _ w).alloc (Nat.le_refl _) _).alloc (by simp) _
 have hs1 : W1.heap.size = w.heap.size + 2 := by rw [← hW1]; simp
 have hL1 : W1.heap[w.heap.size + 1]? = some (.loop (rec .ready none)) := by
  have := World.alloc_heap_new (w.alloc (.deferred (some []))) (.loop (rec .ready none))
  rwa [World.size_alloc, hW1] at this
 have hD1 : W1.heap[w.heap.size]? = some (.deferred (some [])) := by
  rw [← hW1]; exact (Below.heap_alloc _ _ _ (by simp)).trans (World.alloc_heap_new w _)
 refine ⟨w.heap.size + 1, [{ target := .collected w.heap.size, args := #[] }], W1, { target := .fn (.func gf) lb, args := #[.func (.yield (w.heap.size + 1)) #[] #[]] }, W1, gf, #[.func (.yield (w.heap.size + 1)) #[] #[]] ++ lb, W1, ?_, ?_, fun _ _ => trivial, ?_, fun h => absurd h (by decide), ?_⟩
 ·rw [← hW1, hrec]
  exact run_enterLoop_outer _ _ _ _ _
 ·simp only [resolve, hg]
  simp [go_sem]
 ·simp [invoke, go_sem, eg]
 refine (hseq (w.heap.size + 1) (fun pre W => I pre W ∧ W.heap[w.heap.size + 1]? = some (.loop (rec .ready none)) ∧ W.heap[w.heap.size]? = some (.deferred (some []))) W1 (hb0.trans (hB.mono hb0.size)) (by have := hb0.size; omega) ?_ ?_ ⟨?_, hL1, hD1⟩).mono ?_
 ·rintro s A B row ⟨hi, hl, hd⟩ hgr hr
  have ne : ∀ k, k < w.heap.size + 2 → some k ≠ row := fun k hk e => by have := (hr k e.symm).1; omega
  exact ⟨hI s A B row hi hgr fun r e => ⟨by have := (hr r e).1; omega, (hr r e).2⟩, (hgr.block _ (cZ hl) (ne _ (by omega))).trans hl, (hgr.block _ (cZ hd) (ne _ (by omega))).trans hd⟩
 ·rintro pre x W ⟨hi, hl, hd⟩ hrd hlt
  have hy := run_yield (P := P) (args := encs x) hl (by rw [hrec]; exact hps x); rw [hrec] at hy; refine ⟨fn, _, assign, body, hy, roundIn_of_wpIn hfn (hassign _ pre x W _ hi hrd ?_)⟩; clear hy; intro a' Wa hkfa hkpa hia hax; replace hl := hkfa.same _ _ (by omega) hl rfl; replace hd := hkfa.same _ _ (Nat.le_refl _) hd rfl; refine ⟨_, run_beginRound hl (by rw [hrec]), ?_⟩; have h2 := World.putObj_heap_same (o := .loop { rec .ready none with state := .busy }) (cZ hl); have d2 := (World.putObj_heap_other (w := Wa) (r := w.heap.size + 1) (k := w.heap.size) (o := .loop { rec .ready none with state := .busy }) (by omega)).trans hd; refine wpIn_mono (hbody _ pre x a' _ (hI.putObj _ hia (by omega) hl rfl) ((hAx x a').putObj (s := ()) _ hax (by omega) hl rfl) hlt) ?_; rintro e a3 W3 ⟨rfl, hk3, hkp3, hi3⟩; have hl3 := hk3.same _ _ (by omega) h2 rfl; have hd3 := hk3.same _ _ (Nat.le_refl _) d2 rfl; have hr := run_endRound (P := P) none hl3; rw [hrec] at hr; refine ⟨_, _, hr, rfl, ⟨hI.putObj _ hi3 (by omega) hl3 rfl, ?_, (World.putObj_heap_other (by omega)).trans hd3⟩, hKt hkpa (hKt (hKb _ _ _ hl rfl) (hKt hkp3 (hKb _ _ _ hl3 rfl)))⟩; rw [hrec]; exact World.putObj_heap_same (cZ hl3)
 ·rw [← hW1]
  exact hI.alloc _ (hI.alloc _ h0)
 ·rintro e W2 ⟨⟨v, rfl⟩, xs, hS, hi, hl, hd⟩
  have he := run_endLoop (P := P) hl (by rw [hrec]; simp); rw [hrec] at he; exact ⟨none, _, he, hdone xs _ hS (hI.putObj _ hi (by omega) hl rfl) ((World.putObj_heap_other (by omega)).trans hd)⟩
end Go.Proofs.YtnpfbjnjdngkhaaGreatDoor.P
namespace Go.Proofs.YtnpfbjnjdngkhaaGreatDoor.P
open Go.RowKit Go.Proofs.YtnpfbjnjdngkhaaGreatDoorW.aW Go.Proofs.YtnpfbjnjdngkhaaGreatDoorW.bZ Go.Proofs.YtnpfbjnjdngkhaaGreatDoorW.dh
attribute [local go_sem] fE fF gU gV eX eY fG fH
attribute [local go_sem] Oper.semAt_some
structure tV where
 A : Option Addr
 c : Nat
 xs : List Int
 eye : Int
def tV.enc (x : tV) : Array Value := #[.agg #[.slice x.A x.xs.length x.c, .int .i64 x.eye]]
def tV.Rd (x : tV) (W : World) : Prop := Kd.C (Kd.int .i64) W x.A x.xs.length x.xs ∧ x.xs.length ≤ x.c
def tV.val (x : tV) : List Int × Int := (x.xs, x.eye)
def l5 (ls : List bT) (e0 e1 : Int) : List (List Int × Int) := (lW ls).flatMap fun xs => (E5 e0 e1).map fun e => (xs, e)
theorem uX {α β γ : Type} {u : List β} {g : α → β → γ} : ∀ {l : List α}, (l.flatMap fun x => u.map (g x)).length = l.length * u.length
 | [] => by simp
 | x :: l => by rw [List.flatMap_cons, List.length_append, uX, List.length_map, List.length_cons, Nat.add_mul, Nat.one_mul, Nat.add_comm]
theorem mX.weak {W W' : World} (h : mX (fun _ => False) W W') (Wr : Nat → Prop) : mX Wr W W' := ⟨h.1, fun k o hk hc _ => h.2 k o hk hc (fun h => h)⟩
theorem F7 (gs : Nat) (e0 e1 ti : Int) (Al : Option Addr) (cl : Nat) (ls : List bT) (Wr : Nat → Prop) (w : World) (hls : ls.length ≤ 1000) (hin : ∀ s ∈ ls, -1000000 ≤ s.f0 ∧ s.f1 ≤ 1000000) (he : -1000000 ≤ e0 ∧ e1 ≤ 1000000)
  (hl : w.heap[gs]? = some (.cells #[.int .i64 e0, .int .i64 e1, .int .i64 ti, .slice Al ls.length cl] 67 (0, 0))) (hr : Kd.C j3 w Al ls.length ls) (h1 : ¬ Wr gs) (h4 : ∀ ad, Al = some ad → ¬ Wr ad.block) (h5 : ∀ k, Wr k → k < w.heap.size) :
  qhd Tryz.prog 199 #[.pointer (some ⟨gs, 0, none⟩)] tV.enc (fun x W => x.Rd W ∧ x.val ∈ l5 ls e0 e1 ∧ ∀ ad, x.A = some ad → ¬ Wr ad.block) (xA Wr (w.heap.size + 2)) (fun ys => ys.map tV.val = l5 ls e0 e1) (l5 ls e0 e1).length w := by
 intro l J W hb hB2 hJ hY h0; have HX := Bx.nil W; have HY := aj.mk hY; have HJ := aj.mk hJ; have H0 := aj.mk h0; have HL := aj.mk (aG hl hb); have HR := aj.mk (Kd.ak hr hb); have H5 := aj.mk (fun k (hk : Wr k) => Nat.lt_of_lt_of_le (h5 k hk) hb.size); have HB2 := aj.mk hB2; have HE := aj.mk he; obtain ⟨nT, nU, cl3, cl4⟩ := BQ HL.out; clear hY hJ h0 hl hr h5 hb hB2 he; have NH := Tryz.underlying67; have kg := Tryz.underlying37; refine callsIn_of_wp_marks Tryz.func199 rfl trivial ?_ rfl; refine wpIn_wide.2 ?_; simp only [Tryz.ntmps199, List.size_toArray, List.length_cons, List.length_nil, Nat.reduceAdd, Nat.reduceSub, Array.replicate_succ, Array.replicate_zero, List.push_toArray, List.append_toArray, List.nil_append, List.cons_append]
 go_wp2_with (first | ((with_reducible refine av (N := 2) rfl ?_); refine newX rfl rfl HX (cs := #[.func (.yield l) #[] #[]]) (t := 242) tG ?_; clear HX; intro g2 w2 HX hx hz; clear nT nU cl3 cl4; obtain ⟨nT, nU, cl3, cl4⟩ := BQ (aG HL.out hx); clear hx hz) | (go_at_call 200; refine (uT Al cl ls _).mono ?_; rintro e wl ⟨gn, rfl, hgn, kI, hx⟩; have GN := aj.mk hgn; have HN := aj.mk kI; have HGN := aj.mk HX.below.size; replace HX := HX.step hx; clear hx hgn kI nT nU cl3 cl4))
 refine (wpIn_wide (n := 3)).1 ?_; have HW2 : aj (∀ k, Wr k → k < wl.heap.size) := ⟨fun k hk => by have := H5.out k hk; have := HX.below.size; omega⟩; have MU : aj (¬ Wr gn ∧ ¬ Wr g2) := ⟨fun h => by have := H5.out _ h; have := GN.out; have := HX.below.size; have := HGN.out; omega, fun h => by have := H5.out _ h; have := HX.lo _ (List.mem_cons_self ..); omega⟩; have HG2 := aj.mk (HX.gb 0 rfl); have Sm := aj.mk (aG HL.out HX.below)
 refine Ns (gf := 223) (lb := #[.pointer (some ⟨gn, 0, none⟩)]) rfl (enters_of Tryz.func223 tX rfl) (zU gn Al cl ls Wr wl hls hin HN.out (Kd.ak HR.out HX.below) MU.out.1 h4 HW2.out) mX.trans (fun W o o' ho hc => mX.qhe ho hc) (Below.refl _ _) (fun _ => rfl) (fun x _ W W' row h hg hr => ⟨Vm x _ () W W' row h.1 hg hr, h.2⟩)
  (fun (pre : List pQ) Wx => ∃ ys : List tV, ys.map tV.val = (pre.map pQ.xs).flatMap (fun xs => (E5 e0 e1).map fun e => (xs, e)) ∧ J ys Wx ∧ mX Wr wl Wx)
  (fun pre A B row hi hg hr => by
   obtain ⟨ys, i1, i2, i3⟩ := hi
   exact ⟨ys, i1, HJ.out ys A B row i2 hg (fun r e => ⟨by have := (hr r e).1; have := HX.below.size; omega, (hr r e).2⟩), i3.trans ((mX.own hg fun r e => (hr r e).2).weak Wr)⟩)
  ⟨[], rfl, HJ.out _ _ _ none H0.out (Nt HX.below) (fun _ e => by cases e), mX.refl _ _⟩
  (fun x => { tmps := #[.func (.yield l) #[] #[], .pointer (some ⟨gs, 0, none⟩), .pointer (some ⟨g2, 0, none⟩), .slice x.A x.xs.length x.c, undef, .pointer (some ⟨gs, 3, none⟩), .slice Al ls.length cl, .func (.func 223) #[] #[.pointer (some ⟨gn, 0, none⟩)], .slice x.A x.xs.length x.c, undef, undef, undef, undef, undef, undef, undef, undef, undef, undef, undef, undef, undef, undef, undef, undef], defers := [] }) ?assign ?body ?done
 case assign =>
  intro lp x W K hK
  unfold pQ.enc
  gi_wp2
  exact hK
 case body =>
  rintro lp pre x W0 ⟨ys0, hys, hj, hk⟩ ⟨hrd, hxs, hxw⟩ hpre; have HYS := aj.mk hys; have HJ0 := aj.mk hj; have HK0 := aj.mk hk; have xG := aj.mk (And.intro hrd (And.intro hxs hxw)); have qmT := aj.mk hpre; clear hys hj hk hrd hxs hxw hpre; obtain ⟨nT, nU, cl3, cl4⟩ := BQ (HK0.out.box Sm h1).out
  gi_wp2
  gi_loopw [4] (fun v4 W' => ∃ (n : Int) (ys : List tV), v4 = .int .i64 n ∧ e0 ≤ n ∧ aj (n ≤ e1 + 1 ∨ n = e0) ∧ aj (ys.map tV.val ++ ((E5 n e1).map fun e => (x.xs, e)) = (pre.map pQ.xs).flatMap (fun xs => (E5 e0 e1).map fun e => (xs, e)) ++ ((E5 e0 e1).map fun e => (x.xs, e))) ∧ aj (J ys W') ∧ aj (xA Wr (w.heap.size + 2) W0 W')) (fun v4 _ => (e1 + 1 - intOf v4).toNat)
  case atStart => exact ⟨e0, ys0, rfl, Int.le_refl _, ⟨.inr rfl⟩, ⟨by rw [HYS.out]⟩, HJ0, ⟨⟨mX.refl _ _, fun k o _ h => h⟩⟩⟩
  case round =>
   obtain ⟨n, ys, rfl, hn0, hn1, Zi, HJ2, HKB⟩ := hrel; have HKW := aj.mk (HK0.out.trans HKB.out.1); clear nT nU cl3 cl4; obtain ⟨nT, nU, cl3, cl4⟩ := BQ (HKW.out.box Sm h1).out; have c2 := fT (HKW.out.box HG2 MU.out.2).out; have hqi := HE.out.1; have hqj := HE.out.2; have hqk := hn1.out
   by_cases hle : n ≤ e1
   ·have HUP := aj.mk (zT hle)
    obtain ⟨fn, tmps, assign, bd, hy, hR⟩ := HY.out ys ⟨x.A, x.c, x.xs, n⟩ wr HJ2.out ⟨⟨HKB.out.1.row vG xG.out.1.1 (fun ad e _ => xG.out.2.2 ad e), xG.out.1.2⟩, List.mem_flatMap.2 ⟨x.xs, xG.out.2.1, List.mem_map.2 ⟨n, P5 hn0 hle, rfl⟩⟩, xG.out.2.2⟩ (by
     have q1 := congrArg List.length Zi.out; rw [HUP.out] at q1; simp only [List.length_append, List.length_map, List.length_cons, uX] at q1; have q2 := qmT.out
     unfold l5
     rw [uX]; have q3 : (pre.length + 1) * (E5 e0 e1).length ≤ (lW ls).length * (E5 e0 e1).length := Nat.mul_le_mul_right _ q2; rw [Nat.add_mul, Nat.one_mul] at q3
     omega)
    simp only [tV.enc] at hy; have HR2 := aj.mk hR; clear hR
    gi_wp2
    refine qeh (RoundIn.mono HR2.out ?_); rintro e W' ⟨rfl, hj', hkp⟩; have HJ3 := aj.mk hj'; have qmV := aj.mk hkp; clear hj' hkp hy HR2 nT nU cl3 cl4 c2
    gi_wp2
    exact ⟨⟨n + 1, ys ++ [⟨x.A, x.c, x.xs, n⟩], rfl, by omega, ⟨by omega⟩, ⟨by rw [← Zi.out, HUP.out]; simp [tV.val]⟩, HJ3, ⟨HKB.out.trans qmV.out⟩⟩, by simp [intOf]; omega⟩
   ·gi_wp2
    refine ⟨HKB.out.from (by have := HB2.out; have := HX.below.size; omega), HKB.out.1, ys, ?_, HJ2.out, HKW.out⟩; have := Zi.out; rw [PZ (by omega), List.map_nil, List.append_nil] at this; exact this
 case done =>
  rintro xs Wd hxs ⟨ys, i1, i2, i3⟩ hD; have HI1 := aj.mk (show ys.map tV.val = l5 ls e0 e1 by rw [i1, hxs]; rfl); have HJ9 := aj.mk i2; have HD := aj.mk hD; clear i1 i2 i3 hD hxs; refine ⟨by simp, .inl ⟨_, _, rfl, run_takeDeferred HD.out, ?_⟩⟩; exact ⟨_, results_none rfl _ _ _, ⟨_, rfl⟩, ys, HI1.out, HJ.out.putObj _ HJ9.out HX.below.size HD.out rfl⟩
theorem Bv (e0 e1 ti : Int) (A : Option Addr) (c : Nat) (ls : List bT) (w : World) :
  Calls Tryz.prog 153 #[.agg #[.int .i64 e0, .int .i64 e1, .int .i64 ti, .slice A ls.length c]] w fun e w' => ∃ g, e = .returned (.func (.func 199) #[] #[.pointer (some ⟨g, 0, none⟩)]) ∧ w.heap.size ≤ g ∧ w'.heap[g]? = some (.cells #[.int .i64 e0, .int .i64 e1, .int .i64 ti, .slice A ls.length c] 67 (0, 0)) ∧ Below w.heap.size w w' := by
 have HX := Bx.nil w
 have hmf : ∀ (fn : Fn) (first cap : Array Value) (w : World), (Instr.makeFunc fn first cap).run Tryz.prog w = .ok (.func fn first cap) w := fun _ _ _ _ => rfl
 go_enter Tryz.func153, Tryz.ntmps153
 go_wp2_with (first | ((with_reducible refine av (N := 1) rfl ?_); refine newX rfl rfl HX (cs := #[.int .i64 e0, .int .i64 e1, .int .i64 ti, .slice A ls.length c]) (t := 67) tG ?_; clear HX; intro g w3 HX hx hz; clear hx hz))
 go_ret
 exact ⟨g, rfl, HX.lo _ (List.mem_cons_self ..), HX.gb 0 rfl, HX.below⟩
end Go.Proofs.YtnpfbjnjdngkhaaGreatDoor.P
namespace Go.Proofs.YtnpfbjnjdngkhaaGreatDoor.P
open Go.RowKit Go.Proofs.YtnpfbjnjdngkhaaGreatDoorW.aW Go.Proofs.YtnpfbjnjdngkhaaGreatDoorW.bZ Go.Proofs.YtnpfbjnjdngkhaaGreatDoorW.dh
section
variable {P : Program} {ops : Array Oper} {rest : List Oper} {o : Oper} {a : Act} {Q : Exit → Act → World → Prop} {L : List (Nat × Obj)} {w W : World} {lp nF : Nat}
theorem qmW (hgd : o.guard = none) (hN : o.dst = none) (hnd : wB o = true) {t : TypeId} {p : Tmp} {v : Operand} (ho : o.op = .store t (.tmp p) v) (HX : Bx L w W) (n : Nat)
  {g i : Nat} {cs : Array Value} {t' : TypeId} (hn : L[n]? = some (g, .cells cs t' (0, 0))) (u : Value) (seg : List Value) (cs' : Array Value)
  (hp : a.eval (.tmp p) = .pointer (some ⟨g, i, none⟩)) (hv : a.eval v = u) (hu : u.cells.toList = seg) (ht : (P.info? t).map (·.size) = some seg.length) (hfit : i + seg.length ≤ cs.size) (h1 : ∀ q ∈ seg, q.oneCell' = true)
  (hcs : cs.toList.take i ++ seg ++ cs.toList.drop (i + seg.length) = cs'.toList)
  (h : ∀ w1, Bx (L.set n (g, .cells cs' t' (0, 0))) w w1 → W.grownBy w1 (some g) → wpListIn (Fence.wide.inRound lp) nF P ops Q rest a w1) : wpListIn (Fence.wide.inRound lp) nF P ops Q (o :: rest) a W := by
 have HK := HX.get _ (List.mem_of_getElem? hn); obtain ⟨cur', h3, h4, h5⟩ := lT seg i W cs HK hfit; obtain ⟨s1, s2, s3, s4⟩ := kG g seg i W; have hg : W.grownBy (W.setCells g i seg) (some g) := ⟨s1, s2, s3, by rw [s4]; exact Nat.le_refl _, fun k _ hk => kD _ _ k (fun he => hk (by rw [he]))⟩
 obtain rfl : cur' = cs' := by rw [← Array.toList_inj, h5, hcs]
 refine wpListIn_plain hgd fun K hK => opT (some lp) nF (zS hnd) ?_
 have hr := qD (P := P) t u seg HK hu ht hfit h1
 have hrun : (execOp a.eval o).run P W = .ok .skip (W.setCells g i seg) := by
  unfold execOp
  rw [ho]; simp only [hp, hv]; simp [hr]
 unfold Oper.wp
 rw [hrun]
 show K (a.put o.dst undef) _
 rw [hN]; exact hK _ _ (h _ (HX.put n hn hg h3) hg)
end
end Go.Proofs.YtnpfbjnjdngkhaaGreatDoor.P
namespace Go.Proofs.YtnpfbjnjdngkhaaGreatDoor.P
open Go.RowKit Go.Proofs.YtnpfbjnjdngkhaaGreatDoorW.aW Go.Proofs.YtnpfbjnjdngkhaaGreatDoorW.bZ Go.Proofs.YtnpfbjnjdngkhaaGreatDoorW.dh
attribute [local go_sem] fE fF gU gV eX eY fG fH
attribute [local go_sem] Oper.semAt_some
def Pm (ti : Int) (p : List Int × Int) : List Int := vQ ti p.2 p.1 0 [] []
def uM (ti a b : Int) (p : List Int × Int) : Bool := decide (rd (Pm ti p) a = rd (Pm ti p) b)
def qek (ti : Int) (ls : List bT) (e0 e1 a b : Int) : Int := L6 ((l5 ls e0 e1).any fun p => uM ti a b p) ((l5 ls e0 e1).any fun p => !uM ti a b p)
def qd.f (e0 e1 ti : Int) (ls : List bT) (a b : Int) : Option (Int × Int) :=
 some (if rE ⟨e0, e1⟩ ti ls && (o9 a 0 (ls.length - 1) && o9 b 0 (ls.length - 1)) then (qek ti ls e0 e1 a b, 0) else (0, 2))
structure Xu (e0 e1 ti : Int) (ls : List bT) : Prop where
 eye : 0 ≤ e0 ∧ e0 ≤ e1 ∧ e1 ≤ 200
 Ce : 0 ≤ ti ∧ ti ≤ 9
 len : 1 ≤ ls.length ∧ ls.length ≤ 4
 look : ∀ s ∈ ls, -3000 ≤ s.f0 ∧ s.f0 ≤ s.f1 ∧ s.f1 ≤ 3000 ∧ s.f1 - s.f0 ≤ 6
theorem Sq {e0 e1 ti : Int} {ls : List bT} (h : rE ⟨e0, e1⟩ ti ls = true) : Xu e0 e1 ti ls := by
 unfold rE KF at h
 simp only [Bool.and_eq_true, Bool.not_eq_true', List.any_eq_false, Bool.not_eq_false, pW] at h; have h1 := (oQ (by decide) (by decide)).1 h.1; exact ⟨⟨h1.1, h1.2.1, h1.2.2.1⟩, h.2.1, by have := h.2.2.1; omega, fun s hs => by have := (oQ (by decide) (by decide)).1 (h.2.2.2 s hs); omega⟩
theorem yX (ti e : Int) : ∀ (l : List Int) (n : Int) (fs out : List Int), (vQ ti e l n fs out).length = out.length + l.length
 | [], _, _, out => by simp [vQ]
 | x :: l, n, fs, out => by
  rw [vQ]
  split
  ·rw [yX]; simp; omega
  ·rw [yX]; simp; omega
theorem qd.calls (bJ : Int) (aY : Int) (dS : Int) (jE : Option Addr) (jL : Nat) (dn : List bT) (a1 : Int) (a2 : Int) (r1 : Int) (r2 : Int) (w : World) (pV : Kd.C j3 w jE dn.length dn) (xH : dn.length ≤ jL) (h : qd.f bJ aY dS dn a1 a2 = some (r1, r2)) :
  Calls Tryz.prog 64 #[.agg #[.int .i64 bJ, .int .i64 aY, .int .i64 dS, .slice jE dn.length jL], .int .i64 a1, .int .i64 a2] w fun e w' => e = .returned (.tuple #[.int .i64 r1, .int .i64 r2]) ∧ Below w.heap.size w w' := by
 have HX := Bx.nil w
 have K1 := fun w1 (hb : Below w.heap.size w w1) => c138 bJ aY dS jE jL dn w1 (Kd.ak pV hb) xH
 have K2 := fun w1 => rC a1 0 (dn.length - 1) w1
 have K3 := fun w1 => rC a2 0 (dn.length - 1) w1
 have hm0 : dn.length ≤ 9223372036854775807 := pV.2.1; have HR := aj.mk pV
 unfold qd.f at h
 obtain ⟨b1, hb1⟩ : ∃ b, b = rE ⟨bJ, aY⟩ dS dn := ⟨_, rfl⟩; obtain ⟨b2, hb2⟩ : ∃ b, b = o9 a1 0 (dn.length - 1) := ⟨_, rfl⟩; obtain ⟨b3, hb3⟩ : ∃ b, b = o9 a2 0 (dn.length - 1) := ⟨_, rfl⟩; have HG := aj.mk (And.intro hb1 (And.intro hb2 hb3)); rw [← hb1, ← hb2, ← hb3] at h; rw [← hb1] at K1; rw [← hb2] at K2; rw [← hb3] at K3; clear hb1 hb2 hb3 pV; have NH := Tryz.underlying67; have kg := Tryz.underlying37
 have hc : (b1 = false ∨ b1 = true ∧ b2 = false ∨ b1 = true ∧ b2 = true ∧ b3 = false) ∨ (b1 = true ∧ b2 = true ∧ b3 = true) := by
  cases b1 <;> cases b2 <;> cases b3 <;> simp
 rcases hc with hc | hc
 ·obtain ⟨rfl, rfl⟩ : r1 = 0 ∧ r2 = 2 := by
   rcases hc with rfl | ⟨rfl, rfl⟩ | ⟨rfl, rfl, rfl⟩ <;> (simp at h; exact ⟨h.1.symm, h.2.symm⟩)
  clear h HG
  rcases hc with rfl | ⟨rfl, rfl⟩ | ⟨rfl, rfl, rfl⟩
  all_goals
   go_enter Tryz.func64, Tryz.ntmps64
   go_wp2_with (first | ((with_reducible refine av (N := 3) rfl ?_); refine newX rfl rfl HX (cs := #[.int .i64 bJ, .int .i64 aY, .int .i64 dS, .slice jE dn.length jL]) (t := 67) tG ?_; clear HX; intro g3 w3 HX hx hz; clear hx hz) | ((with_reducible refine av (N := 4) rfl ?_); refine newX rfl rfl HX (cs := #[.int .i64 a1]) (t := 3) tG ?_; clear HX; intro g4 w4 HX hx hz; clear hx hz) | ((with_reducible refine av (N := 5) rfl ?_); refine newX rfl rfl HX (cs := #[.int .i64 a2]) (t := 3) tG ?_; clear HX; intro g5 w5 HX hx hz; clear hx hz; obtain ⟨cs1, cs2, uN, uY⟩ := HX.g4 2 rfl; have ca := HX.g1 1 rfl; have cb := HX.g1 0 rfl) | (go_at_call 138; (with_reducible refine (K1 _ HX.below).mono ?_); rintro e w1 ⟨rfl, hx⟩; replace HX := HX.step hx; clear hx cs1 cs2 uN uY ca cb; obtain ⟨cs1, cs2, uN, uY⟩ := HX.g4 2 rfl; have ca := HX.g1 1 rfl; have cb := HX.g1 0 rfl) | (go_at_call 113; (with_reducible first | refine (K2 _).mono ?_ | refine (K3 _).mono ?_); rintro e w1 ⟨rfl, hx⟩; replace HX := HX.step hx; clear hx cs1 cs2 uN uY ca cb; obtain ⟨cs1, cs2, uN, uY⟩ := HX.g4 2 rfl; have ca := HX.g1 1 rfl; have cb := HX.g1 0 rfl))
   go_ret2
   exact ⟨rfl, HX.below⟩
 ·obtain ⟨rfl, rfl, rfl⟩ := hc
  have hR : (qek dS dn bJ aY a1 a2, 0) = (r1, r2) := by simpa using h
  obtain ⟨hr1, rfl⟩ : qek dS dn bJ aY a1 a2 = r1 ∧ 0 = r2 := by simpa using hR
  have HRR := aj.mk hr1; have OK := aj.mk (Sq HG.out.1.symm); have HI := aj.mk (And.intro (pW.1 HG.out.2.1.symm) (pW.1 HG.out.2.2.symm)); clear h hR hr1; refine (callsIn_wide (n := 3)).1 ?_; refine callsIn_of_wp_marks Tryz.func64 rfl trivial ?_ rfl; refine wpIn_wide.2 ?_; simp only [Tryz.ntmps64, List.size_toArray, List.length_cons, List.length_nil, Nat.reduceAdd, Nat.reduceSub, Array.replicate_succ, Array.replicate_zero, List.push_toArray, List.append_toArray, List.nil_append, List.cons_append]
  go_wp2_with (first | ((with_reducible refine av (N := 3) rfl ?_); refine newX rfl rfl HX (cs := #[.int .i64 bJ, .int .i64 aY, .int .i64 dS, .slice jE dn.length jL]) (t := 67) tG ?_; clear HX; intro g3 w3 HX hx hz; clear hx hz) | ((with_reducible refine av (N := 4) rfl ?_); refine newX rfl rfl HX (cs := #[.int .i64 a1]) (t := 3) tG ?_; clear HX; intro g4 w4 HX hx hz; clear hx hz) | ((with_reducible refine av (N := 5) rfl ?_); refine newX rfl rfl HX (cs := #[.int .i64 a2]) (t := 3) tG ?_; clear HX; intro g5 w5 HX hx hz; clear hx hz; obtain ⟨cs1, cs2, uN, uY⟩ := HX.g4 2 rfl; have ca := HX.g1 1 rfl; have cb := HX.g1 0 rfl) | (go_at_call 138; (with_reducible refine (K1 _ HX.below).mono ?_); rintro e w1 ⟨rfl, hx⟩; replace HX := HX.step hx; clear hx cs1 cs2 uN uY ca cb; obtain ⟨cs1, cs2, uN, uY⟩ := HX.g4 2 rfl; have ca := HX.g1 1 rfl; have cb := HX.g1 0 rfl) | (go_at_call 113; (with_reducible first | refine (K2 _).mono ?_ | refine (K3 _).mono ?_); rintro e w1 ⟨rfl, hx⟩; replace HX := HX.step hx; clear hx cs1 cs2 uN uY ca cb; obtain ⟨cs1, cs2, uN, uY⟩ := HX.g4 2 rfl; have ca := HX.g1 1 rfl; have cb := HX.g1 0 rfl) | ((with_reducible refine av (N := 8) rfl ?_); refine newX rfl rfl HX (cs := #[.bool false]) (t := 4) tG ?_; clear HX; intro g8 w8 HX hx hz; clear hx hz; clear cs1 cs2 uN uY ca cb) | ((with_reducible refine av (N := 9) rfl ?_); refine newX rfl rfl HX (cs := #[.bool false]) (t := 4) tG ?_; clear HX; intro g9 w9 HX hx hz; clear hx hz) | ((with_reducible refine bE (t := 4) (p := 8) rfl ?_); refine kL rfl rfl rfl HX 1 rfl (i := 0) (.bool false) [.bool false] #[.bool false] rfl rfl rfl tX (by simp) (by simp [Value.oneCell']) rfl ?_; clear HX; intro w9 HX hx; clear hx; dsimp only [List.set] at HX) | ((with_reducible refine bE (t := 4) (p := 9) rfl ?_); refine kL rfl rfl rfl HX 0 rfl (i := 0) (.bool false) [.bool false] #[.bool false] rfl rfl rfl tX (by simp) (by simp [Value.oneCell']) rfl ?_; clear HX; intro w9 HX hx; clear hx; dsimp only [List.set] at HX; obtain ⟨cs1, cs2, uN, uY⟩ := HX.g4 4 rfl; have ca := HX.g1 3 rfl; have cb := HX.g1 2 rfl) | (go_at_call 153; refine (Bv bJ aY dS jE jL dn _).mono ?_; rintro e wl ⟨gs, rfl, hgs, kI, hx⟩; have GSS := aj.mk (Nat.le_trans HX.below.size hgs); have GSN := aj.mk (show g8 ≠ gs ∧ g9 ≠ gs from ⟨fun e => by have := cZ (HX.gb 1 rfl); omega, fun e => by have := cZ (HX.gb 0 rfl); omega⟩); have HGS := aj.mk kI; replace HX := HX.step hx; clear hx hgs kI cs1 cs2 uN uY ca cb))
  obtain ⟨Wr, hWr⟩ : ∃ Wr : Nat → Prop, Wr = fun k => k = g8 ∨ k = g9 := ⟨_, rfl⟩
  have HWR := aj.mk hWr; have qhh : g8 < wl.heap.size := cZ (HX.gb 1 rfl); have qhi : g9 < wl.heap.size := cZ (HX.gb 0 rfl); have Sr := aj.mk (And.intro qhh qhi)
  have MU := aj.mk (show ¬ Wr g3 ∧ ¬ Wr g4 ∧ ¬ Wr g5 ∧ ¬ Wr gs from by
   rw [hWr]
   exact ⟨fun h => h.elim (HX.key (i := 4) (j := 1) rfl rfl (by decide)) (HX.key (i := 4) (j := 0) rfl rfl (by decide)), fun h => h.elim (HX.key (i := 3) (j := 1) rfl rfl (by decide)) (HX.key (i := 3) (j := 0) rfl rfl (by decide)), fun h => h.elim (HX.key (i := 2) (j := 1) rfl rfl (by decide)) (HX.key (i := 2) (j := 0) rfl rfl (by decide)), fun h => h.elim (fun e => GSN.out.1 e.symm) (fun e => GSN.out.2 e.symm)⟩)
  have MQ := aj.mk (And.intro (HX.lo _ (List.mem_of_getElem? (i := 1) rfl)) (HX.lo _ (List.mem_of_getElem? (i := 0) rfl)))
  have HAD : ∀ ad, jE = some ad → ¬ Wr ad.block := fun ad e h => by
   obtain ⟨ad2, e2, q, _⟩ := mD HR.out 0 (by omega) (by have := OK.out.len; omega); rw [e] at e2
   cases e2
   have hq := World.block_lt_of_cell? w _ q; rw [add_block] at hq; have h8 : w.heap.size ≤ g8 := MQ.out.1; have h9 : w.heap.size ≤ g9 := MQ.out.2; rw [hWr] at h
   rcases h with h | h <;> omega
  have HNE := aj.mk (show g8 ≠ g9 from HX.key (i := 1) (j := 0) rfl rfl (by decide)); clear hWr qhh qhi; refine (wpIn_wide (n := 3)).1 ?_
  refine Xt (gf := 199) (lb := #[.pointer (some ⟨gs, 0, none⟩)]) rfl (enters_of Tryz.func199 tX rfl) (F7 gs bJ aY dS jE jL dn Wr wl (by have := OK.out.len; omega) (fun s hs => by have := OK.out.look s hs; omega) (by have := OK.out.eye; omega) HGS.out (Kd.ak HR.out HX.below) MU.out.2.2.2 HAD (fun k hk => by rw [HWR.out] at hk; rcases hk with rfl | rfl; exact Sr.out.1; exact Sr.out.2)) xA.trans (fun W o o' ho hc => xA.put ho hc (by omega)) (Below.refl _ _) (fun _ => rfl)
   (fun (pre : List tV) W => W.heap[g8]? = some (.cells #[.bool (pre.any fun x => uM dS a1 a2 x.val)] 4 (0, 0)) ∧ W.heap[g9]? = some (.cells #[.bool (pre.any fun x => !uM dS a1 a2 x.val)] 4 (0, 0)) ∧ mX Wr wl W ∧ Below w.heap.size w W)
   (fun pre A B row hi hg hr => ⟨(hg.block _ (cZ hi.1) (fun e => by have := (hr _ e.symm).1; have := Sr.out.1; omega)).trans hi.1, (hg.block _ (cZ hi.2.1) (fun e => by have := (hr _ e.symm).1; have := Sr.out.2; omega)).trans hi.2.1, hi.2.2.1.trans ((mX.own hg fun r e => (hr r e).2).weak Wr), kW hi.2.2.2 row hi.2.2.2.size hg (fun k e => by have := (hr k e).1; have := HX.below.size; omega)⟩)
   ⟨HX.gb 1 rfl, HX.gb 0 rfl, mX.refl _ _, HX.below⟩
   (fun x a' W => ∃ g10, a' = { tmps := #[.agg #[.int .i64 bJ, .int .i64 aY, .int .i64 dS, .slice jE dn.length jL], .int .i64 a1, .int .i64 a2, .pointer (some ⟨g3, 0, none⟩), .pointer (some ⟨g4, 0, none⟩), .pointer (some ⟨g5, 0, none⟩), .int .i64 0, .int .i64 0, .pointer (some ⟨g8, 0, none⟩), .pointer (some ⟨g9, 0, none⟩), .pointer (some ⟨g10, 0, none⟩), undef, .agg #[.int .i64 bJ, .int .i64 aY, .int .i64 dS, .slice jE dn.length jL], .bool true, .bool false, .bool false, .int .i64 a1, .pointer (some ⟨g3, 3, none⟩), .slice jE dn.length jL, .int .i64 dn.length, .int .i64 ((dn.length : Int) - 1), .bool true, .bool false, .bool false, .bool false, .int .i64 a2, .pointer (some ⟨g3, 3, none⟩), .slice jE dn.length jL, .int .i64 dn.length, .int .i64 ((dn.length : Int) - 1), .bool true, .bool false, .bool false, .agg #[.int .i64 bJ, .int .i64 aY, .int .i64 dS, .slice jE dn.length jL], .func (.func 199) #[] #[.pointer (some ⟨gs, 0, none⟩)], .agg #[.slice x.A x.xs.length x.c, .int .i64 x.eye], undef, undef, undef, undef, undef, undef, undef, undef, undef, undef, undef, undef, undef, undef, undef, undef, undef, undef, undef], defers := [] } ∧ W.heap[g10]? = some (.cells #[.slice x.A x.xs.length x.c, .int .i64 x.eye] 196 (0, 0)) ∧ x.Rd W ∧ x.val ∈ l5 dn bJ aY)
   (fun x a' _ A B row hi hg hr => by
    obtain ⟨g10, e, h1, h2, h3⟩ := hi
    have hk := mX.own hg fun r e => (hr r e).2
    exact ⟨g10, e, hk.2 _ _ h1 rfl (fun h => h), ⟨hk.row vG h2.1 (fun _ _ _ h => h), h2.2⟩, h3⟩) ?assign ?body ?done
  case assign =>
   rintro lp pre x W K ⟨i1, i2, i3, i4⟩ ⟨hrd, hxv, _⟩ hK; have HI1 := aj.mk (And.intro i1 (And.intro i2 (And.intro i3 i4))); have xG := aj.mk (And.intro hrd hxv); have HY := Bx.nil W; clear i1 i2 i3 i4 hrd hxv
   unfold tV.enc
   gi_wp2_with (fail)
   have hb := fU (Below.refl W.heap.size W) (.cells #[.slice x.A x.xs.length x.c, .int .i64 x.eye] 196 (0, 0)); refine hK _ _ ⟨hb.size, fun k o _ hk _ => (hb.block k (cZ hk)).trans hk⟩ (xA.below hb) ⟨aG HI1.out.1 hb, aG HI1.out.2.1 hb, HI1.out.2.2.1.trans (mX.below hb), aV HI1.out.2.2.2 hb⟩ ⟨W.heap.size, rfl, uo W _, ⟨Kd.ak xG.out.1.1 hb, xG.out.1.2⟩, xG.out.2⟩
  case body =>
   rintro lp pre x a' W ⟨i1, i2, i3, i4⟩ ⟨g10, rfl, hc, hrd, hxv⟩ hpre; have HI1 := aj.mk i1; have HI2 := aj.mk i2; have HK := aj.mk i3; have rz := aj.mk i4; have xG := aj.mk hrd; have HXV := aj.mk hxv; have Gd := aj.mk hc; clear i1 i2 i3 i4 hc hrd hxv hpre
   have hxl : x.xs.length = dn.length := by
    obtain ⟨xs, h1, h2⟩ := List.mem_flatMap.1 HXV.out; obtain ⟨e, _, h3⟩ := List.mem_map.1 h2
    have : x.xs = xs := by injection h3 with h4 _; exact h4.symm
    rw [this]; exact qK h1
   obtain ⟨ls, hls⟩ : ∃ ls, ls = Pm dS x.val := ⟨_, rfl⟩; have HLF := aj.mk (show lY.f dS x.xs x.eye = some ls by unfold lY.f; rw [if_pos (by have := OK.out.len; omega), hls]; rfl); have Sm := aj.mk (show ls.length = dn.length by rw [hls]; unfold Pm; rw [yX]; simpa [tV.val] using hxl); have Sl := aj.mk hls; obtain ⟨cs1, cs2, uN, uY⟩ := BQ (HK.out.box ⟨HX.gb 4 rfl⟩ MU.out.1).out; obtain ⟨ct1, ct2⟩ := qP Gd.out; clear hxl hls
   gi_wp2
   refine ⟨trivial, ?_⟩; refine (CallsIn.inRound lp (callsIn_wide.2 (lY.calls dS x.A x.c x.xs x.eye ls W xG.out.1 xG.out.2 HLF.out))).mono ?_; rintro e w5 ⟨v, rfl, ho, hx⟩; obtain ⟨Av, cv, rfl, hlv, hCv⟩ := Kd.fO ho; have HX5 := aj.mk hx; have HK5 := aj.mk (HK.out.trans (mX.below hx)); have HCV := aj.mk hCv; have ca := fT (HK5.out.box ⟨HX.gb 3 rfl⟩ MU.out.2.1).out; have cb := fT (HK5.out.box ⟨HX.gb 2 rfl⟩ MU.out.2.2.1).out; clear cs1 cs2 uN uY ct1 ct2 ho hx hCv
   gi_wp2
   obtain ⟨ad, rfl, d1⟩ := Kd.iH HCV.out a1 HI.out.1.1 (by have := HI.out.1.2; have := Sm.out; omega); obtain ⟨ad2, e2, d2⟩ := Kd.iH HCV.out a2 HI.out.2.1 (by have := HI.out.2.2; have := Sm.out; omega)
   cases e2
   have n1 : 0 ≤ a1 := HI.out.1.1
   have n2 : a1 < (ls.length : Int) := by have := HI.out.1.2; have := Sm.out; omega
   have n3 : 0 ≤ a2 := HI.out.2.1
   have n4 : a2 < (ls.length : Int) := by have := HI.out.2.2; have := Sm.out; omega
   refine EZ (some lp) (fun ⟨_, _, h⟩ => by have h2 : Exit.outgrown = Exit.normal ∧ _ := h; cases h2.1) (by rfl) (S := fun w' => w'.cell? ⟨g4, 0, none⟩ = some (.int .i64 a1) ∧ w'.cell? ⟨g5, 0, none⟩ = some (.int .i64 a2) ∧ w'.cell? (ad.add a1.toNat) = some (.int .i64 (rd ls a1)) ∧ w'.cell? (ad.add a2.toNat) = some (.int .i64 (rd ls a2))) (ds := []) (bA 9 0) tX rfl rfl ⟨ca, cb, d1, d2⟩ (fun hHeld => ?_); clear ca cb d1 d2; refine aH (i := 0) (N := some 43) (v := ?_) (a' := ?_) (bA 9 1) rfl rfl tX (fun _ _ _ h => h) (Or.inl ⟨by rfl, ?_⟩) ?_ ?_; rotate_left
   ·intro w'
    go_simp
    with_reducible rfl
   rotate_left
   ·simp only [Act.put, sL, ay, aA]
    rfl
   refine aH (i := 4) (N := some 47) (v := ?_) (a' := ?_) (bA 9 17) rfl rfl tX (fun _ _ _ h => h) (Or.inl ⟨by rfl, ?_⟩) ?_ ?_; rotate_left
   ·intro w'
    go_simp
    with_reducible rfl
   rotate_left
   ·simp only [Act.put, sL, ay, aA]
    rfl
   refine fC (i := 1) (N := some 44) (v := ?_) (a' := ?_) (bA 9 19) rfl rfl tX (fun _ _ _ h => h) (Or.inl ⟨by rfl, ?_⟩) hHeld ?_ ?_; rotate_left
   ·rintro w' ⟨s0, s1, s2, s3⟩
    go_simp
    with_reducible rfl
   rotate_left
   ·simp only [Act.put, sL, ay, aA]
    rfl
   refine fC (i := 5) (N := some 48) (v := ?_) (a' := ?_) (bA 9 51) rfl rfl tX (fun _ _ _ h => h) (Or.inl ⟨by rfl, ?_⟩) hHeld ?_ ?_; rotate_left
   ·rintro w' ⟨s0, s1, s2, s3⟩
    go_simp
    with_reducible rfl
   rotate_left
   ·simp only [Act.put, sL, ay, aA]
    rfl
   refine aH (i := 2) (N := some 45) (v := ?_) (a' := ?_) (bA 9 55) rfl rfl tX (fun _ _ _ h => h) (Or.inl ⟨by rfl, ?_⟩) ?_ ?_; rotate_left
   ·intro w'
    go_simp
    with_reducible rfl
   rotate_left
   ·simp only [Act.put, sL, ay, aA]
    rfl
   refine aH (i := 6) (N := some 49) (v := ?_) (a' := ?_) (bA 9 119) rfl rfl tX (fun _ _ _ h => h) (Or.inl ⟨by rfl, ?_⟩) ?_ ?_; rotate_left
   ·intro w'
    go_simp
    with_reducible rfl
   rotate_left
   ·simp only [Act.put, sL, ay, aA]
    rfl
   refine fC (i := 3) (N := some 46) (v := ?_) (a' := ?_) (bA 9 127) rfl rfl tX (fun _ _ _ h => h) (Or.inl ⟨by rfl, ?_⟩) hHeld ?_ ?_; rotate_left
   ·rintro w' ⟨s0, s1, s2, s3⟩
    go_simp
    with_reducible rfl
   rotate_left
   ·simp only [Act.put, sL, ay, aA]
    rfl
   refine fC (i := 7) (N := some 50) (v := ?_) (a' := ?_) (bA 9 255) rfl rfl tX (fun _ _ _ h => h) (Or.inl ⟨by rfl, ?_⟩) hHeld ?_ ?_; rotate_left
   ·rintro w' ⟨s0, s1, s2, s3⟩
    go_simp
    with_reducible rfl
   rotate_left
   ·simp only [Act.put, sL, ay, aA]
    rfl
   refine aH (i := 8) (N := some 51) (v := ?_) (a' := ?_) (bA 9 511) rfl rfl tX (fun _ _ _ h => h) (Or.inl ⟨by rfl, ?_⟩) ?_ ?_; rotate_left
   ·intro w'
    go_simp
    with_reducible rfl
   rotate_left
   ·simp only [Act.put, sL, ay, aA]
    rfl
   refine kZ tX ?_; have HD5 := aj.mk (fJ (Below.refl w5.heap.size w5))
   generalize w5.drew = w6 at HD5 ⊢
   have c8 := fT (aG (aG HI1.out HX5.out) HD5.out); have c9 := fT (aG (aG HI2.out HX5.out) HD5.out); clear hHeld; have f8 := qm (aG (aG HI1.out HX5.out) HD5.out) 0; have f9 := qm (aG (aG HI2.out HX5.out) HD5.out) 0
   by_cases hq : rd ls a1 = rd ls a2
   ·have hqb : (rd ls a1 == rd ls a2) = true := by simp [hq]
    gi_wp2
    have hsm : uM dS a1 a2 x.val = true := by
     unfold uM
     rw [← Sl.out]; exact decide_eq_true hq
    have Uc := aV HX5.out HD5.out; have hg := grownBy_setCell' w6 g8 (.bool true); have hkb : xA Wr wl.heap.size W _ := (xA.below Uc).trans (xA.grown hg (by rw [HWR.out]; exact .inl rfl) Sr.out.1); rw [hsm]; refine ⟨hkb.from (Nat.le_refl _), ⟨hkb.1, fun k o hk ho => hkb.2 k o (by omega) ho⟩, ?_, ?_, HK.out.trans hkb.1, kW (aV rz.out Uc) (some g8) (aV rz.out Uc).size hg (fun k e => by injection e with e; subst e; exact MQ.out.1)⟩
    ·exact dU (aG HI1.out Uc) 0 _ (by simp)
    ·exact (hg.block _ (cZ (aG HI2.out Uc)) (fun e => by injection e with e; exact HNE.out e.symm)).trans (by simpa using aG HI2.out Uc)
   ·have hqb : (rd ls a1 == rd ls a2) = false := by simp [hq]
    gi_wp2
    have hsm : uM dS a1 a2 x.val = false := by
     unfold uM
     rw [← Sl.out]; exact decide_eq_false hq
    have Uc := aV HX5.out HD5.out; have hg := grownBy_setCell' w6 g9 (.bool true); have hkb : xA Wr wl.heap.size W _ := (xA.below Uc).trans (xA.grown hg (by rw [HWR.out]; exact .inr rfl) Sr.out.2); rw [hsm]; refine ⟨hkb.from (Nat.le_refl _), ⟨hkb.1, fun k o hk ho => hkb.2 k o (by omega) ho⟩, ?_, ?_, HK.out.trans hkb.1, kW (aV rz.out Uc) (some g9) (aV rz.out Uc).size hg (fun k e => by injection e with e; subst e; exact MQ.out.2)⟩
    ·exact (hg.block _ (cZ (aG HI1.out Uc)) (fun e => by injection e with e; exact HNE.out e)).trans (by simpa using aG HI1.out Uc)
    ·exact dU (aG HI2.out Uc) 0 _ (by simp)
  case done =>
   rintro xs W hxs ⟨i1, i2, i3, i4⟩ hD; have HA := aj.mk (show (xs.any fun x => uM dS a1 a2 x.val) = (l5 dn bJ aY).any fun p => uM dS a1 a2 p by rw [← hxs, List.any_map]; rfl); have HN := aj.mk (show (xs.any fun x => !uM dS a1 a2 x.val) = (l5 dn bJ aY).any fun p => !uM dS a1 a2 p by rw [← hxs, List.any_map]; rfl); rw [HA.out] at i1; rw [HN.out] at i2
   obtain ⟨bs, hbs⟩ : ∃ b, b = (l5 dn bJ aY).any fun p => uM dS a1 a2 p := ⟨_, rfl⟩
   obtain ⟨bn, hbn⟩ : ∃ b, b = (l5 dn bJ aY).any fun p => !uM dS a1 a2 p := ⟨_, rfl⟩
   rw [← hbs] at i1; rw [← hbn] at i2; have HT := aj.mk (show r1 = L6 bs bn by rw [← HRR.out, hbs, hbn]; rfl); have c8 := fT i1; have c9 := fT i2; have HD := aj.mk hD; have rz := aj.mk i4; clear i1 i2 i3 i4 hD hxs hbs hbn HA HN
   go_wp2_with (go_at_call 154; refine (pK (xS.calls _ _ _ _ (WJ bs bn))).mono ?_; rintro e w5 ⟨rfl, hx⟩; have HX5 := aj.mk hx; clear hx c8 c9)
   have HD2 := dW HD HX5.out; refine ⟨by simp, .inl ⟨_, _, rfl, run_takeDeferred HD2.out, ?_⟩⟩; refine ⟨_, results_tmp2 rfl _ _ _, by rw [HT.out]; rfl, ?_⟩; exact (stepG ⟨aV rz.out HX5.out⟩ (grownBy_putObj' w5 wl.heap.size (.deferred none)) ⟨HX.below.size⟩).out
end Go.Proofs.YtnpfbjnjdngkhaaGreatDoor.P
namespace Go.Proofs.YtnpfbjnjdngkhaaGreatDoor.P
open Go.RowKit Go.Proofs.YtnpfbjnjdngkhaaGreatDoorW.aW Go.Proofs.YtnpfbjnjdngkhaaGreatDoorW.bZ Go.Proofs.YtnpfbjnjdngkhaaGreatDoorW.dh
attribute [local go_sem] fE fF gU gV eX eY fG fH
def sM.f (bJ : Int) (aY : Int) (a1 : Int) : Option (Int × Int) := if bJ > aY then (some (a1, a1)) else (some (mn bJ a1, mx aY a1))
theorem sM.calls (bJ : Int) (aY : Int) (a1 : Int) (r1 : Int) (r2 : Int) (w : World) (h : sM.f bJ aY a1 = some (r1, r2)) :
  Calls Tryz.prog 191 #[.agg #[.int .i64 bJ, .int .i64 aY], .int .i64 a1] w fun e w' => e = .returned (.agg #[.int .i64 r1, .int .i64 r2]) ∧ Below w.heap.size w w' := by
 have kg := Tryz.underlying37; have HB := aj.mk (Below.refl w.heap.size w); have H : (if bJ > aY then (some (a1, a1)) else (some (mn bJ a1, mx aY a1))) = some (r1, r2) := h; clear h
 by_cases c3 : bJ > aY
 ·rw [if_pos c3] at H
  have oZ : decide (aY < bJ) = true := decide_eq_true c3; clear c3; simp only [Option.some.injEq, Prod.mk.injEq] at H; obtain ⟨rfl, rfl⟩ := H
  go_enter Tryz.func191, Tryz.ntmps191
  go_wp2_with (first | ((with_reducible refine av (N := 2) rfl ?_); refine fA 2 #[.int .i64 bJ, .int .i64 aY] 37 HB ?_; clear HB; intro qhj w4 hg tY qhk HB hb; clear hb hg) | ((with_reducible refine av (N := 4) rfl ?_); refine fA 4 #[.int .i64 0, .int .i64 0] 37 HB ?_; clear HB; intro Xv w5 hg Bw qhl HB hb; have Co := Gb tY hg; have Cq := Gc tY hg; replace tY := bV tY hb; clear hb hg; have qfT := Co.out; have qfU := Cq.out; obtain ⟨zl, Iy⟩ := bc2 tY; have zm := bf tY 0; have Iz := bf tY 1; obtain ⟨zx, NY⟩ := bc2 Bw; have zy := bf Bw 0; have NZ := bf Bw 1))
  refine bodyPost_ret (results_cell_row rfl _ _ Xv 37 #[.int .i64 a1, .int .i64 a1] (0, 0) _ rfl (by (with_reducible repeat (first | refine aM ?_ _ | refine aN ?_ | refine aJ ?_ _)); refine dU (cs := #[.int .i64 a1, .int .i64 0]) ?_ 1 _ rfl; (with_reducible repeat (first | refine aM ?_ _ | refine aN ?_ | refine aJ ?_ _)); refine dU (cs := #[.int .i64 0, .int .i64 0]) ?_ 0 _ rfl; (with_reducible repeat (first | refine aM ?_ _ | refine aN ?_ | refine aJ ?_ _)); exact Bw.out) Tryz.underlying37 rfl tX) rfl ?_; exact ⟨tF, tB⟩
 ·rw [if_neg c3] at H
  have oZ : decide (aY < bJ) = false := decide_eq_false c3; clear c3; obtain ⟨ji9, qam⟩ : ∃ j_ : Int, (mn bJ a1) = j_ := ⟨_, rfl⟩
  replace H : (some (ji9, mx aY a1)) = some (r1, r2) := by first | (rw [qam] at H; exact H) | (simp only [qam] at H ⊢; exact H)
  have qqL : (if a1 < bJ then a1 else bJ) = ji9 := qam; obtain ⟨qem, Sv⟩ : ∃ j_ : Int, (mx aY a1) = j_ := ⟨_, rfl⟩
  replace H : (some (ji9, qem)) = some (r1, r2) := by first | (rw [Sv] at H; exact H) | (simp only [Sv] at H ⊢; exact H)
  have qm0 : (if aY < a1 then a1 else aY) = qem := Sv; simp only [Option.some.injEq, Prod.mk.injEq] at H; obtain ⟨rfl, rfl⟩ := H
  go_enter Tryz.func191, Tryz.ntmps191
  go_wp2_with (first | ((with_reducible refine av (N := 2) rfl ?_); refine fA 2 #[.int .i64 bJ, .int .i64 aY] 37 HB ?_; clear HB; intro qhj JW hg tY qhk HB hb; clear hb hg) | ((with_reducible refine av (N := 4) rfl ?_); refine fA 4 #[.int .i64 0, .int .i64 0] 37 HB ?_; clear HB; intro Xv y9 hg Bw qhl HB hb; have Co := Gb tY hg; have Cq := Gc tY hg; replace tY := bV tY hb; clear hb hg; have qfA := Co.out; have qfB := Cq.out; obtain ⟨IZ, ZJ⟩ := bc2 tY; have I4 := bf tY 0; have ZK := bf tY 1; obtain ⟨yL, IK⟩ := bc2 Bw; have yM := bf Bw 0; have IL := bf Bw 1))
  refine bodyPost_ret (results_cell_row rfl _ _ Xv 37 #[.int .i64 ji9, .int .i64 qem] (0, 0) _ rfl (by (with_reducible repeat (first | refine aM ?_ _ | refine aN ?_ | refine aJ ?_ _)); refine dU (cs := #[.int .i64 ji9, .int .i64 0]) ?_ 1 _ rfl; (with_reducible repeat (first | refine aM ?_ _ | refine aN ?_ | refine aJ ?_ _)); refine dU (cs := #[.int .i64 0, .int .i64 0]) ?_ 0 _ rfl; (with_reducible repeat (first | refine aM ?_ _ | refine aN ?_ | refine aJ ?_ _)); exact Bw.out) Tryz.underlying37 rfl tX) rfl ?_; exact ⟨by first | rfl | (simp [lq, lu] <;> rfl) | (simp only [← qam, ← Sv]; first | rfl | (simp [lq, lu] <;> rfl)) | (simp [*, lq, lu] <;> rfl), tB⟩
def dG.l0 : Nat → List Int → List Int → Int → Int → Option Bool
 | 0, _, _, _, _ => none
 | k + 1, x0, x1, zF, XZ => if XZ < zF then (if 0 ≤ XZ then (if XZ < (x0.length : Int) then (if XZ < (x1.length : Int) then (if (rd x0 XZ) = (rd x1 XZ) then (dG.l0 k x0 x1 zF (wrap64 (XZ + 1))) else (some false)) else (none)) else (none)) else (none)) else (some true)
def dG.f (k : Nat) (l0 : List Int) (l1 : List Int) : Option Bool := if (l0.length : Int) = (l1.length : Int) then (dG.l0 k l0 l1 (l0.length : Int) 0) else (some false)
theorem dG.calls (k : Nat) (A0 : Option Addr) (c0 : Nat) (l0 : List Int) (A1 : Option Addr) (c1 : Nat) (l1 : List Int) (r : Bool) (w : World) (hr0 : Kd.C (Kd.int .i64) w A0 l0.length l0) (hc0 : l0.length ≤ c0) (hr1 : Kd.C (Kd.int .i64) w A1 l1.length l1) (hc1 : l1.length ≤ c1) (h : dG.f k l0 l1 = some r) :
  Calls Tryz.prog 190 #[.slice A0 l0.length c0, .slice A1 l1.length c1] w fun e w' => e = .returned (.bool r) ∧ iw w w' := by
 have BR := aj.mk hr0; have XU := aj.mk hc0; clear hr0 hc0; have HR1 := aj.mk hr1; have uU := aj.mk hc1; clear hr1 hc1; have H : (if (l0.length : Int) = (l1.length : Int) then (dG.l0 k l0 l1 (l0.length : Int) 0) else (some false)) = some r := h; clear h
 by_cases c3 : (l0.length : Int) = (l1.length : Int)
 ·rw [if_pos c3] at H
  have oZ : ((l0.length : Int) == (l1.length : Int)) = true := beq_iff_eq.mpr c3; have zq : ((l0.length : Int) != (l1.length : Int)) = false := bne_eq_false_iff_eq.mpr c3
  have Ca : (l0.length == l1.length) = true := by first | simpa using c3 | (simp at c3 ⊢; omega)
  clear c3; have H' := aj.mk H; clear H
  go_enter Tryz.func190, Tryz.ntmps190
  go_wp2
  repeat (go_quiet (fail); try go_wp2)
  go_loopg [13] k (fun kq v13 w' => ∃ (jr : Int), v13 = .int .i64 jr ∧ aj (dG.l0 kq l0 l1 (l0.length : Int) jr = some r) ∧ aj (kq ≤ k) ∧ iw w w')
  case atStart => exact ⟨(0), tS, H', ⟨Nat.le_refl _⟩, tD⟩
  case round =>
   clear H'
   try clear c1
   try clear p2
   try clear c3
   try clear oZ
   try clear zq
   try clear Ca
   obtain ⟨jr, rfl, HA, ng, ⟨m1, rfl⟩⟩ := hrel
   cases gk with
   | zero => exact absurd HA.out (by simp [dG.l0])
   | succ k1 =>
    have H := HA.out; clear HA; simp only [dG.l0] at H
    by_cases c4 : jr < (l0.length : Int)
    ·rw [if_pos c4] at H
     have o7 : decide (jr < (l0.length : Int)) = true := decide_eq_true c4; clear c4
     by_cases c5 : 0 ≤ jr
     ·rw [if_pos c5] at H
      have y5 : decide (0 ≤ jr) = true := decide_eq_true c5; clear c5
      by_cases c6 : jr < (l0.length : Int)
      ·rw [if_pos c6] at H
       have IG : decide (jr < (l0.length : Int)) = true := decide_eq_true c6; clear c6
       by_cases c7 : jr < (l1.length : Int)
       ·rw [if_pos c7] at H
        have xu : decide (jr < (l1.length : Int)) = true := decide_eq_true c7; clear c7
        by_cases c8 : (rd l0 jr) = (rd l1 jr)
        ·rw [if_pos c8] at H
         have E8 : ((rd l0 jr) == (rd l1 jr)) = true := beq_iff_eq.mpr c8; have qd6 : ((rd l0 jr) != (rd l1 jr)) = false := bne_eq_false_iff_eq.mpr c8; clear c8; have H' := aj.mk H; clear H; have Pn : 0 ≤ (jr : Int) := of_decide_eq_true tA; have Po : jr < (l0.length : Int) := of_decide_eq_true tA; obtain ⟨qhn, e252, qan⟩ := Kd.iH BR.out jr Pn Po
         cases e252
         replace Pn := eq_true Pn; replace Po := eq_true Po; have Pp : 0 ≤ (jr : Int) := of_decide_eq_true tA; have Pq : jr < (l1.length : Int) := of_decide_eq_true tA; obtain ⟨qho, qen, qao⟩ := Kd.iH HR1.out jr Pp Pq
         cases qen
         replace Pp := eq_true Pp; replace Pq := eq_true Pq
         go_wp2
         repeat (go_quiet (fail); try go_wp2)
         go_roundg k1
         case measure => have := ng.out; omega
         case rel => exact ⟨(wrap64 (jr + 1)), tS, H', ⟨by have := ng.out; omega⟩, tD⟩
        ·rw [if_neg c8] at H
         have E8 : ((rd l0 jr) == (rd l1 jr)) = false := beq_eq_false_iff_ne.mpr c8; have qd6 : ((rd l0 jr) != (rd l1 jr)) = true := bne_iff_ne.mpr c8; obtain rfl := Option.some.inj H; have Pn : 0 ≤ (jr : Int) := of_decide_eq_true tA; have Po : jr < (l0.length : Int) := of_decide_eq_true tA; obtain ⟨qhn, e252, qan⟩ := Kd.iH BR.out jr Pn Po
         cases e252
         replace Pn := eq_true Pn; replace Po := eq_true Po; have Pp : 0 ≤ (jr : Int) := of_decide_eq_true tA; have Pq : jr < (l1.length : Int) := of_decide_eq_true tA; obtain ⟨qho, qen, qao⟩ := Kd.iH HR1.out jr Pp Pq
         cases qen
         replace Pp := eq_true Pp; replace Pq := eq_true Pq
         go_wp2
         repeat (go_quiet (fail); try go_wp2)
         go_ret
         exact ⟨tS, tD⟩
       ·rw [if_neg c7] at H
        exact absurd H (by simp)
      ·rw [if_neg c6] at H
       exact absurd H (by simp)
     ·rw [if_neg c5] at H
      exact absurd H (by simp)
    ·rw [if_neg c4] at H
     have o7 : decide (jr < (l0.length : Int)) = false := decide_eq_false c4; clear c4; obtain rfl := Option.some.inj H
     go_wp2
     repeat (go_quiet (fail); try go_wp2)
     go_ret
     exact ⟨tS, tD⟩
 ·rw [if_neg c3] at H
  have oZ : ((l0.length : Int) == (l1.length : Int)) = false := beq_eq_false_iff_ne.mpr c3; have zq : ((l0.length : Int) != (l1.length : Int)) = true := bne_iff_ne.mpr c3
  have Ca : (l0.length == l1.length) = false := by first | simpa using c3 | (simp at c3 ⊢; omega)
  obtain rfl := Option.some.inj H
  go_enter Tryz.func190, Tryz.ntmps190
  go_wp2
  repeat (go_quiet (fail); try go_wp2)
  go_ret
  exact ⟨tS, tD⟩
end Go.Proofs.YtnpfbjnjdngkhaaGreatDoor.P
namespace Go.Proofs.YtnpfbjnjdngkhaaGreatDoor.P
open Go.RowKit Go.Proofs.YtnpfbjnjdngkhaaGreatDoorW.aW Go.Proofs.YtnpfbjnjdngkhaaGreatDoorW.bZ Go.Proofs.YtnpfbjnjdngkhaaGreatDoorW.dh
def jX (s : bT) (n : Int) : bT := if s.f0 > s.f1 then ⟨n, n⟩ else ⟨mn s.f0 n, mx s.f1 n⟩
theorem Sw (s : bT) (n : Int) : sM.f s.f0 s.f1 n = some ((jX s n).f0, (jX s n).f1) := by
 unfold sM.f jX
 split <;> rfl
def Dk (ti : Int) (nQ : List Int) (st : List bT × bT) (p : List Int × Int) : List bT × bT := if Pm ti p = nQ then (List.zipWith jX st.1 p.1, jX st.2 p.2) else st
def EB (n : Nat) : List bT × bT := (List.replicate n ⟨1, 0⟩, ⟨1, 0⟩)
def jZ (ti e0 e1 : Int) (ls : List bT) (nQ : List Int) : List bT × bT := (l5 ls e0 e1).foldl (Dk ti nQ) (EB ls.length)
def flat (l : List bT) : List Value := l.flatMap fun s => [.int .i64 s.f0, .int .i64 s.f1]
theorem sN (s : bT) (l : List bT) : flat (s :: l) = .int .i64 s.f0 :: .int .i64 s.f1 :: flat l := rfl
theorem vV : ∀ l : List bT, (flat l).length = 2 * l.length
 | [] => rfl
 | s :: l => by rw [sN, List.length_cons, List.length_cons, vV l, List.length_cons]; omega
theorem Hy : ∀ (l : List bT) (i : Nat) (h : i < l.length), (flat l)[2 * i]? = some (.int .i64 l[i].f0)
 | s :: l, 0, _ => rfl
 | s :: l, i + 1, h => by
  have := Hy l i (by simpa using h); rw [sN, show 2 * (i + 1) = 2 * i + 1 + 1 by omega, List.getElem?_cons_succ, List.getElem?_cons_succ, this]
  rfl
theorem Hz : ∀ (l : List bT) (i : Nat) (h : i < l.length), (flat l)[2 * i + 1]? = some (.int .i64 l[i].f1)
 | s :: l, 0, _ => rfl
 | s :: l, i + 1, h => by
  have := Hz l i (by simpa using h); rw [sN, show 2 * (i + 1) + 1 = 2 * i + 1 + 1 + 1 by omega, List.getElem?_cons_succ, List.getElem?_cons_succ, this]
  rfl
theorem Mx : ∀ (l : List bT) (i : Nat) (s : bT), i < l.length → (flat l).take (2 * i) ++ [.int .i64 s.f0, .int .i64 s.f1] ++ (flat l).drop (2 * i + 2) = flat (l.set i s)
 | x :: l, 0, s, _ => rfl
 | x :: l, i + 1, s, h => by
  have := Mx l i s (by simpa using h); rw [sN, show 2 * (i + 1) = 2 * i + 1 + 1 by omega, List.take_succ_cons, List.take_succ_cons, show 2 * i + 1 + 1 + 2 = (2 * i + 2) + 1 + 1 by omega, List.drop_succ_cons, List.drop_succ_cons, List.set_cons_succ, sN, ← this]
  rfl
def wT (st : List bT) (xs : List Int) (j : Nat) : List bT := (List.zipWith jX st xs).take j ++ st.drop j
theorem MC {st : List bT} {xs : List Int} (h : xs.length = st.length) (j : Nat) (hj : j ≤ st.length) : (wT st xs j).length = st.length := by
 unfold wT
 simp only [List.length_append, List.length_take, List.length_zipWith, List.length_drop]
 omega
theorem Xw {st : List bT} {xs : List Int} (h : xs.length = st.length) (j : Nat) (hj : j < st.length) : (wT st xs j)[j]'(by rw [MC h j (by omega)]; exact hj) = st[j] := by
 unfold wT
 rw [List.getElem_append_right (by simp; omega)]; simp only [List.length_take, List.length_zipWith, List.getElem_drop]
 congr 1
 omega
theorem Xx {st : List bT} {xs : List Int} (h : xs.length = st.length) (j : Nat) (hj : j < st.length) : (wT st xs j).set j (jX st[j] (xs[j]'(by omega))) = wT st xs (j + 1) := by
 unfold wT
 have hz : j < (List.zipWith jX st xs).length := by simp; omega
 rw [List.set_append_right _ _ (by simp; omega), List.take_succ_eq_append_getElem hz, List.append_assoc]
 congr 1
 rw [List.drop_eq_getElem_cons hj]; simp only [List.length_take, List.length_zipWith, List.getElem_zipWith]; rw [show j - min j (min st.length xs.length) = 0 by omega]
 rfl
theorem Xy {st : List bT} {xs : List Int} (h : xs.length = st.length) : wT st xs st.length = List.zipWith jX st xs := by
 unfold wT
 rw [List.drop_length, List.append_nil, List.take_of_length_le (by simp; omega)]
theorem Ud {ti : Int} {nQ : List Int} {st : List bT × bT} {p : List Int × Int} {n : Nat} (h : st.1.length = n) (hp : p.1.length = n) : (Dk ti nQ st p).1.length = n := by
 unfold Dk
 split
 ·simp [h, hp]
 ·exact h
theorem H6 {ti : Int} {nQ : List Int} {n : Nat} : ∀ (l : List (List Int × Int)) (st : List bT × bT), (∀ p ∈ l, p.1.length = n) → st.1.length = n → (l.foldl (Dk ti nQ) st).1.length = n
 | [], _, _, h => h
 | p :: l, st, hp, h => H6 l _ (fun q hq => hp q (List.mem_cons_of_mem _ hq)) (Ud h (hp p (List.mem_cons_self ..)))
theorem F8 {ls : List bT} {e0 e1 : Int} {p : List Int × Int} (h : p ∈ l5 ls e0 e1) : p.1.length = ls.length := by
 obtain ⟨xs, h1, h2⟩ := List.mem_flatMap.1 h; obtain ⟨e, _, rfl⟩ := List.mem_map.1 h2; exact qK h1
theorem JF (ad : Addr) (c n : Nat) (hn : 1 ≤ n ∧ n ≤ 4) (s : bT) (w : World) (h0 : w.cell? ad = some (.int .i64 s.f0)) (h1 : w.cell? (ad.add 1) = some (.int .i64 s.f1)) :
  Calls Tryz.prog 189 #[.slice (some ad) 1 c, .int .i64 n] w fun e w' => ∃ g, e = .returned (.slice (some ⟨g, 0, none⟩) n n) ∧ w.heap.size ≤ g ∧ w'.heap[g]? = some (.cells (flat (List.replicate n s)).toArray 37 (0, 0)) ∧ Below w.heap.size w w' := by
 obtain rfl | rfl | rfl | rfl : n = 1 ∨ n = 2 ∨ n = 3 ∨ n = 4 := by omega
 ·exact Z8 ad c s.f0 s.f1 w h0 h1
 ·exact Z9 ad c s.f0 s.f1 w h0 h1
 ·exact qaa ad c s.f0 s.f1 w h0 h1
 ·exact qab ad c s.f0 s.f1 w h0 h1
theorem qhp (a b : List Int) (hl : a.length = b.length) (h9 : a.length ≤ 1000000) : ∀ (m k i : Nat), i + m = a.length → m < k → dG.l0 k a b (a.length : Int) (i : Int) = some (decide (a.drop i = b.drop i)) := by
 intro m
 induction m with
 | zero =>
  intro k i him hk; obtain ⟨k, rfl⟩ : ∃ m, k = m + 1 := ⟨k - 1, by omega⟩; simp only [dG.l0]; rw [if_neg (by omega), List.drop_eq_nil_of_le (by omega), List.drop_eq_nil_of_le (by omega)]; simp
 | succ m ih =>
  intro k i him hk; obtain ⟨k, rfl⟩ : ∃ m, k = m + 1 := ⟨k - 1, by omega⟩
  have hi : i < a.length := by omega
  have hj : i < b.length := by omega
  simp only [dG.l0]
  have hw : wrap64 ((i : Int) + 1) = ((i + 1 : Nat) : Int) := by rw [z8 (by omega) (by omega)]; omega
  simp only [qR hi, qR hj]; rw [if_pos (by omega), show a.drop i = a[i] :: a.drop (i + 1) from List.drop_eq_getElem_cons hi, show b.drop i = b[i] :: b.drop (i + 1) from List.drop_eq_getElem_cons hj]; simp only [show (0 : Int) ≤ i by omega, show (i : Int) < a.length by omega, show (i : Int) < b.length by omega, if_true, hw, ih k (i + 1) (by omega) (by omega)]
  by_cases h : a[i] = b[i]
  ·rw [if_pos h]
   congr 1
   simp only [List.cons.injEq, h, true_and]
  ·rw [if_neg h, decide_eq_false (fun e => h (by injection e))]
theorem qm1 (a b : List Int) (h9 : a.length ≤ 900) : dG.f 1000 a b = some (decide (a = b)) := by
 unfold dG.f
 by_cases hl : a.length = b.length
 ·rw [if_pos (by omega)]
  have := qhp a b hl (by omega) a.length 1000 0 (by omega) (by omega)
  simpa using this
 ·rw [if_neg (by omega), decide_eq_false (fun h => hl (by rw [h]))]
end Go.Proofs.YtnpfbjnjdngkhaaGreatDoor.P
namespace Go.Proofs.YtnpfbjnjdngkhaaGreatDoor.P
open Go.RowKit Go.Proofs.YtnpfbjnjdngkhaaGreatDoorW.aW Go.Proofs.YtnpfbjnjdngkhaaGreatDoorW.bZ Go.Proofs.YtnpfbjnjdngkhaaGreatDoorW.dh
attribute [local go_sem] fE fF gU gV eX eY fG fH
attribute [local go_sem] Oper.semAt_some
theorem Ue {W : World} {g : Nat} {l : List bT} {t : TypeId} (h : W.heap[g]? = some (.cells (flat l).toArray t (0, 0))) (i : Nat) (hi : i < l.length) : W.cell? ⟨g, i * 2, none⟩ = some (.int .i64 l[i].f0) ∧ W.cell? ⟨g, i * 2 + 1, none⟩ = some (.int .i64 l[i].f1) := by
 have h0 := Hy l i hi; have h1 := Hz l i hi; exact ⟨(aI h _).trans (by simpa [Nat.mul_comm] using h0), (aI h _).trans (by simpa [Nat.mul_comm] using h1)⟩
theorem Xz {P : Program} {ops : Array Oper} {rest : List Oper} {o : Oper} {a : Act} {Q : Exit → Act → World → Prop} {W : World} {lp nF : Nat} {t : TypeId} {p : Tmp} {v : Operand} (_ : o.op = .store t (.tmp p) v) (h : wpListIn (Fence.wide.inRound lp) nF P ops Q (o :: rest) a W) : wpListIn (Fence.wide.inRound lp) nF P ops Q (o :: rest) a W := h
theorem JG {P : Program} (t : TypeId) (v : Value) (w : World) : (Instr.panic (.iface t v)).run P w = .halt (.panic (.iface t v)) w := rfl
theorem Dl {P : Program} {c : Code} {Q : Exit → Act → World → Prop} {a : Act} {w : World} (h : c.wp P (fun e a w => e = .normal ∧ Q .normal a w) a w) : c.wp P Q a w := Code.wp_mono (fun e a w h => by obtain ⟨rfl, h⟩ := h; exact h) h
def Ia (e0 e1 ti : Int) (ls : List bT) (nQ : List Int) (A1 : Option Addr) (c1 : Nat) (w : World) (e : Ending) (w' : World) : Prop :=
 Below w.heap.size w w' ∧ (if (jZ ti e0 e1 ls nQ).2.f0 > (jZ ti e0 e1 ls nQ).2.f1 then e = .panicked [{ v := .iface 181 (.agg #[.slice A1 nQ.length c1]), recovered := false, goexit := false }]
  else ∃ g, e = .returned (.tuple #[.slice (some ⟨g, 0, none⟩) ls.length ls.length, .agg #[.int .i64 (jZ ti e0 e1 ls nQ).2.f0, .int .i64 (jZ ti e0 e1 ls nQ).2.f1]]) ∧ w.heap.size ≤ g ∧ w'.heap[g]? = some (.cells (flat (jZ ti e0 e1 ls nQ).1).toArray 37 (0, 0)))
theorem JH (bJ : Int) (aY : Int) (dS : Int) (jE : Option Addr) (jL : Nat) (dn : List bT) (A1 : Option Addr) (c1 : Nat) (l1 : List Int) (w : World) (pV : Kd.C j3 w jE dn.length dn) (xH : dn.length ≤ jL) (hr1 : Kd.C (Kd.int .i64) w A1 l1.length l1) (hc1 : l1.length ≤ c1) (hs : Xu bJ aY dS dn) (hl1 : l1.length = dn.length) :
  Calls Tryz.prog 145 #[.agg #[.int .i64 bJ, .int .i64 aY, .int .i64 dS, .slice jE dn.length jL], .slice A1 l1.length c1] w (Ia bJ aY dS dn l1 A1 c1 w) := by
 have HX := Bx.nil w; have HR := aj.mk pV; have HR1 := aj.mk hr1; have OK := aj.mk hs; have HL1 := aj.mk hl1; have hm0 : dn.length ≤ 9223372036854775807 := pV.2.1; clear pV hr1 hs hl1; have NH := Tryz.underlying67; have kg := Tryz.underlying37; have qqM := Tryz.underlying196; refine (callsIn_wide (n := 3)).1 ?_; refine callsIn_of_wp_marks Tryz.func145 rfl trivial ?_ rfl; refine wpIn_wide.2 ?_; simp only [Tryz.ntmps145, List.size_toArray, List.length_cons, List.length_nil, Nat.reduceAdd, Nat.reduceSub, Array.replicate_succ, Array.replicate_zero, List.push_toArray, List.append_toArray, List.nil_append, List.cons_append]
 go_wp2_with (first | ((with_reducible refine av (N := 2) rfl ?_); refine newX rfl rfl HX (cs := #[.int .i64 bJ, .int .i64 aY, .int .i64 dS, .slice jE dn.length jL]) (t := 67) tG ?_; clear HX; intro g2 w2 HX hx hz; clear hx hz) | ((with_reducible refine av (N := 3) rfl ?_); refine newX rfl rfl HX (cs := #[.slice A1 l1.length c1]) (t := 47) tG ?_; clear HX; intro g3 w3 HX hx hz; clear hx hz) | ((with_reducible refine av (N := 5) rfl ?_); refine newX rfl rfl HX (cs := #[.int .i64 0, .int .i64 0]) (t := 37) tG ?_; clear HX; intro g5 w5 HX hx hz; clear hx hz; obtain ⟨cs1, cs2, uN, uY⟩ := HX.g4 2 rfl) | ((with_reducible refine av (N := 12) rfl ?_); refine wS rfl rfl HX (ob := .cells #[.int .i64 1, .int .i64 0] 37 (0, 0)) (fun g => .slice (some ⟨g, 0, none⟩) 1 1) tG ?_; clear HX cs1 cs2 uN uY; intro gb y9 HX hx hz; clear hx hz; obtain ⟨cs1, cs2, uN, uY⟩ := HX.g4 3 rfl) | (go_at_call 189; refine (JF ⟨gb, 0, none⟩ 1 dn.length OK.out.len ⟨1, 0⟩ _ (HX.g2 0 rfl).1 (HX.g2 0 rfl).2).mono ?_; rintro e w13 ⟨gL, rfl, hz, kI, hx⟩; replace HX := HX.add hz hx kI; clear hx hz kI cs1 cs2 uN uY; obtain ⟨cs1, cs2, uN, uY⟩ := HX.g4 4 rfl) | ((with_reducible refine av (N := 6) rfl ?_); refine newX rfl rfl HX (cs := #[.slice none 0 0]) (t := 28) tG ?_; clear HX; intro g6 w6 HX hx hz; clear hx hz) | ((with_reducible refine bE (t := 28) (p := 6) rfl ?_); refine kL rfl rfl rfl HX 0 rfl (i := 0) (.slice (some ⟨gL, 0, none⟩) dn.length dn.length) [.slice (some ⟨gL, 0, none⟩) dn.length dn.length] #[.slice (some ⟨gL, 0, none⟩) dn.length dn.length] rfl rfl rfl tX (by simp) (by simp [Value.oneCell']) rfl ?_; clear HX; intro w9 HX hx; clear hx; dsimp only [List.set] at HX) | ((with_reducible refine av (N := 7) rfl ?_); refine newX rfl rfl HX (cs := #[.int .i64 0, .int .i64 0]) (t := 37) tG ?_; clear HX; intro g7 w7 HX hx hz; clear hx hz; clear cs1 cs2 uN uY) | ((with_reducible refine bE (t := 37) (p := 7) rfl ?_); refine kL rfl rfl rfl HX 0 rfl (i := 0) (.agg #[.int .i64 1, .int .i64 0]) [.int .i64 1, .int .i64 0] #[.int .i64 1, .int .i64 0] rfl rfl rfl tX (by simp) (by simp [Value.oneCell']) rfl ?_; clear HX; intro w9 HX hx; clear hx; dsimp only [List.set] at HX; obtain ⟨cs1, cs2, uN, uY⟩ := HX.g4 6 rfl) | (go_at_call 153; refine (Bv bJ aY dS jE jL dn _).mono ?_; rintro e wl ⟨gs, rfl, hgs, kI, hx⟩; have GSN := aj.mk (show g7 ≠ gs ∧ gL ≠ gs from ⟨fun e => by have := cZ (HX.gb 0 rfl); omega, fun e => by have := cZ (HX.gb 2 rfl); omega⟩); have HGS := aj.mk kI; replace HX := HX.step hx; clear hx hgs kI cs1 cs2 uN uY))
 obtain ⟨Wr, hWr⟩ : ∃ Wr : Nat → Prop, Wr = fun k => k = gL ∨ k = g7 := ⟨_, rfl⟩
 have HWR := aj.mk hWr; have Sr : aj (gL < wl.heap.size ∧ g7 < wl.heap.size) := ⟨⟨cZ (HX.gb 2 rfl), cZ (HX.gb 0 rfl)⟩⟩; have HNE := aj.mk (show gL ≠ g7 from HX.key (i := 2) (j := 0) rfl rfl (by decide))
 have MU := aj.mk (show ¬ Wr g2 ∧ ¬ Wr g3 ∧ ¬ Wr g5 ∧ ¬ Wr g6 ∧ ¬ Wr gs from by
  rw [hWr]
  exact ⟨fun h => h.elim (HX.key (i := 6) (j := 2) rfl rfl (by decide)) (HX.key (i := 6) (j := 0) rfl rfl (by decide)), fun h => h.elim (HX.key (i := 5) (j := 2) rfl rfl (by decide)) (HX.key (i := 5) (j := 0) rfl rfl (by decide)), fun h => h.elim (HX.key (i := 4) (j := 2) rfl rfl (by decide)) (HX.key (i := 4) (j := 0) rfl rfl (by decide)), fun h => h.elim (HX.key (i := 1) (j := 2) rfl rfl (by decide)) (HX.key (i := 1) (j := 0) rfl rfl (by decide)), fun h => h.elim (fun e => GSN.out.2 e.symm) (fun e => GSN.out.1 e.symm)⟩)
 have MQ : aj (w.heap.size ≤ gL ∧ w.heap.size ≤ g7) := ⟨⟨HX.lo _ (List.mem_of_getElem? (i := 2) rfl), HX.lo _ (List.mem_of_getElem? (i := 0) rfl)⟩⟩
 have HAD : ∀ ad, jE = some ad → ¬ Wr ad.block := fun ad e h => by
  obtain ⟨ad2, e2, q, _⟩ := mD HR.out 0 (by omega) (by have := OK.out.len; omega); rw [e] at e2
  cases e2
  have hq := World.block_lt_of_cell? w _ q; rw [add_block] at hq; have h8 := MQ.out.1; have h9 := MQ.out.2; rw [hWr] at h
  rcases h with h | h <;> omega
 clear hWr
 obtain ⟨stP, qeo⟩ : ∃ stP : List tV → List bT × bT, stP = fun pre => (pre.map tV.val).foldl (Dk dS l1) (EB dn.length) := ⟨_, rfl⟩
 have qap := aj.mk qeo; have qbT := aj.mk (show ∀ pre x, stP (pre ++ [x]) = Dk dS l1 (stP pre) x.val by intro pre x; rw [qeo]; simp); clear qeo; refine (wpIn_wide (n := 3)).1 ?_
 refine Xt (gf := 199) (lb := #[.pointer (some ⟨gs, 0, none⟩)]) rfl (enters_of Tryz.func199 tX rfl) (F7 gs bJ aY dS jE jL dn Wr wl (by have := OK.out.len; omega) (fun s hs => by have := OK.out.look s hs; omega) (by have := OK.out.eye; omega) HGS.out (Kd.ak HR.out HX.below) MU.out.2.2.2.2 HAD (fun k hk => by rw [HWR.out] at hk; rcases hk with rfl | rfl; exact Sr.out.1; exact Sr.out.2)) xA.trans (fun W o o' ho hc => xA.put ho hc (by omega)) (Below.refl _ _) (fun _ => rfl)
  (fun (pre : List tV) W => W.heap[gL]? = some (.cells (flat (stP pre).1).toArray 37 (0, 0)) ∧ W.heap[g7]? = some (.cells #[.int .i64 (stP pre).2.f0, .int .i64 (stP pre).2.f1] 37 (0, 0)) ∧ mX Wr wl W ∧ Below w.heap.size w W ∧ (stP pre).1.length = dn.length)
  (fun pre A B row hi hg hr => ⟨(hg.block _ (cZ hi.1) (fun e => by have := (hr _ e.symm).1; have := Sr.out.1; omega)).trans hi.1, (hg.block _ (cZ hi.2.1) (fun e => by have := (hr _ e.symm).1; have := Sr.out.2; omega)).trans hi.2.1, hi.2.2.1.trans ((mX.own hg fun r e => (hr r e).2).weak Wr), kW hi.2.2.2.1 row hi.2.2.2.1.size hg (fun k e => by have := (hr k e).1; have := HX.below.size; omega), hi.2.2.2.2⟩)
  ⟨by rw [qap.out]; exact HX.gb 2 rfl, by rw [qap.out]; exact HX.gb 0 rfl, mX.refl _ _, HX.below, by rw [qap.out]; simp [EB]⟩
  (fun x a' W => ∃ g8, a' = { tmps := #[.agg #[.int .i64 bJ, .int .i64 aY, .int .i64 dS, .slice jE dn.length jL], .slice A1 l1.length c1, .pointer (some ⟨g2, 0, none⟩), .pointer (some ⟨g3, 0, none⟩), .slice none 0 0, .pointer (some ⟨g5, 0, none⟩), .pointer (some ⟨g6, 0, none⟩), .pointer (some ⟨g7, 0, none⟩), .pointer (some ⟨g8, 0, none⟩), undef, undef, .agg #[.int .i64 1, .int .i64 0], .slice (some ⟨gb, 0, none⟩) 1 1, .pointer (some ⟨g2, 3, none⟩), .slice jE dn.length jL, .int .i64 dn.length, .slice (some ⟨gL, 0, none⟩) dn.length dn.length, .agg #[.int .i64 1, .int .i64 0], .agg #[.int .i64 bJ, .int .i64 aY, .int .i64 dS, .slice jE dn.length jL], .func (.func 199) #[] #[.pointer (some ⟨gs, 0, none⟩)], .agg #[.slice x.A x.xs.length x.c, .int .i64 x.eye], undef, undef, undef, undef, undef, undef, undef, undef, undef, undef, undef, undef, undef, undef, undef, undef, undef, undef, undef, undef, undef, undef, undef, undef, undef, undef, undef, undef, undef, undef, undef, undef, undef, undef, undef, undef, undef, undef, undef, undef, undef, undef], defers := [] } ∧ W.heap[g8]? = some (.cells #[.slice x.A x.xs.length x.c, .int .i64 x.eye] 196 (0, 0)) ∧ wl.heap.size ≤ g8 ∧ x.Rd W ∧ x.val ∈ l5 dn bJ aY ∧ ∀ ad, x.A = some ad → ¬ Wr ad.block)
  (fun x a' _ A B row hi hg hr => by
   obtain ⟨g8, e, h1, h2, h3, h4⟩ := hi
   have hk := mX.own hg fun r e => (hr r e).2
   exact ⟨g8, e, hk.2 _ _ h1 rfl (fun h => h), h2, ⟨hk.row vG h3.1 (fun _ _ _ h => h), h3.2⟩, h4⟩) ?assign ?body ?done
 case assign =>
  rintro lp pre x W K ⟨i1, i2, i3, i4, i5⟩ ⟨hrd, hxv⟩ hK; have HI1 := aj.mk (And.intro i1 (And.intro i2 (And.intro i3 (And.intro i4 i5)))); have xG := aj.mk (And.intro hrd hxv); clear i1 i2 i3 i4 i5 hrd hxv
  unfold tV.enc
  gi_wp2_with (fail)
  have hb := fU (Below.refl W.heap.size W) (.cells #[.slice x.A x.xs.length x.c, .int .i64 x.eye] 196 (0, 0)); refine hK _ _ ⟨hb.size, fun k o _ hk _ => (hb.block k (cZ hk)).trans hk⟩ (xA.below hb) ⟨aG HI1.out.1 hb, aG HI1.out.2.1 hb, HI1.out.2.2.1.trans (mX.below hb), aV HI1.out.2.2.2.1 hb, HI1.out.2.2.2.2⟩ ⟨W.heap.size, rfl, uo W _, HI1.out.2.2.1.1, ⟨Kd.ak xG.out.1.1 hb, xG.out.1.2⟩, xG.out.2⟩
 case body =>
  rintro lp pre x a' W ⟨i1, i2, i3, i4, i5⟩ ⟨g8, rfl, hc, hg8, hrd, hxv, hxw⟩ hpre; obtain ⟨s1, hs1⟩ : ∃ s, s = (stP pre).1 := ⟨_, rfl⟩; obtain ⟨s2, hs2⟩ : ∃ s, s = (stP pre).2 := ⟨_, rfl⟩; have HST := aj.mk (show stP pre = (s1, s2) by rw [hs1, hs2]); rw [← hs1] at i1 i5; rw [← hs2] at i2; have HI1 := aj.mk i1; have HI2 := aj.mk i2; have HK := aj.mk i3; have rz := aj.mk i4; have HSL := aj.mk i5; have xG := aj.mk hrd; have HXV := aj.mk (And.intro hxv hxw); have H8 := aj.mk hc; have HG8 := aj.mk hg8; have Us := aj.mk (show x.xs.length = dn.length from F8 hxv); clear i1 i2 i3 i4 i5 hc hg8 hrd hxv hxw hpre hs1 hs2; obtain ⟨ls, hls⟩ : ∃ ls, ls = Pm dS x.val := ⟨_, rfl⟩; have HLF := aj.mk (show lY.f dS x.xs x.eye = some ls by unfold lY.f; rw [if_pos (by have := OK.out.len; have := Us.out; omega), hls]; rfl); have HEQ := aj.mk (qm1 ls l1 (by rw [hls]; unfold Pm; rw [yX]; have := OK.out.len; have := Us.out; simp [tV.val]; omega)); have Sl := aj.mk hls; clear hls; obtain ⟨cs1, cs2, uN, uY⟩ := BQ (HK.out.box ⟨HX.gb 6 rfl⟩ MU.out.1).out; obtain ⟨ct1, ct2⟩ := qP H8.out; have c3 := fT (HK.out.box ⟨HX.gb 5 rfl⟩ MU.out.2.1).out; have HH0 := aj.mk (And.intro uN (And.intro ct1 (And.intro ct2 c3)))
  gi_wp2
  refine EZ (some lp) (fun ⟨_, _, h⟩ => by have h2 : Exit.outgrown = Exit.normal ∧ _ := h; cases h2.1) (by rfl) (S := fun w' => w'.cell? ⟨g2, 2, none⟩ = some (.int .i64 dS) ∧ w'.cell? ⟨g8, 0, none⟩ = some (.slice x.A x.xs.length x.c) ∧ w'.cell? ⟨g8, 1, none⟩ = some (.int .i64 x.eye) ∧ w'.cell? ⟨g3, 0, none⟩ = some (.slice A1 l1.length c1)) (ds := []) (bA 10 0) tX rfl rfl HH0.out (fun hHeld => ?_); have HB := aj.mk (fJ (Below.refl W.heap.size W)); clear cs1 cs2 uN uY ct1 ct2 c3
  generalize W.drew = w6 at HB hHeld ⊢
  refine aH (i := 0) (N := some 21) (v := ?_) (a' := ?_) (bA 10 1) rfl rfl tX (fun _ _ _ h => h) (Or.inl ⟨by rfl, ?_⟩) ?_ ?_; rotate_left
  ·intro w'
   go_simp
   with_reducible rfl
  rotate_left
  ·simp only [Act.put, sL, ay, aA]
   rfl
  refine aH (i := 2) (N := some 23) (v := ?_) (a' := ?_) (bA 10 5) rfl rfl tX (fun _ _ _ h => h) (Or.inl ⟨by rfl, ?_⟩) ?_ ?_; rotate_left
  ·intro w'
   go_simp
   with_reducible rfl
  rotate_left
  ·simp only [Act.put, sL, ay, aA]
   rfl
  refine aH (i := 4) (N := some 25) (v := ?_) (a' := ?_) (bA 10 21) rfl rfl tX (fun _ _ _ h => h) (Or.inl ⟨by rfl, ?_⟩) ?_ ?_; rotate_left
  ·intro w'
   go_simp
   with_reducible rfl
  rotate_left
  ·simp only [Act.put, sL, ay, aA]
   rfl
  refine fC (i := 1) (N := some 22) (v := ?_) (a' := ?_) (bA 10 23) rfl rfl tX (fun _ _ _ h => h) (Or.inl ⟨by rfl, ?_⟩) hHeld ?_ ?_; rotate_left
  ·rintro w' ⟨s0, t0, t1, t2⟩
   go_simp
   with_reducible rfl
  rotate_left
  ·simp only [Act.put, sL, ay, aA]
   rfl
  refine fC (i := 3) (N := some 24) (v := ?_) (a' := ?_) (bA 10 31) rfl rfl tX (fun _ _ _ h => h) (Or.inl ⟨by rfl, ?_⟩) hHeld ?_ ?_; rotate_left
  ·rintro w' ⟨s0, t0, t1, t2⟩
   go_simp
   with_reducible rfl
  rotate_left
  ·simp only [Act.put, sL, ay, aA]
   rfl
  refine fC (i := 5) (N := some 26) (v := ?_) (a' := ?_) (bA 10 63) rfl rfl tX (fun _ _ _ h => h) (Or.inl ⟨by rfl, ?_⟩) hHeld ?_ ?_; rotate_left
  ·rintro w' ⟨s0, t0, t1, t2⟩
   go_simp
   with_reducible rfl
  rotate_left
  ·simp only [Act.put, sL, ay, aA]
   rfl
  refine fC (i := 7) (N := some 28) (v := ?_) (a' := ?_) (bA 10 191) rfl rfl tX (fun _ _ _ h => h) (Or.inl ⟨by rfl, ?_⟩) hHeld ?_ ?_; rotate_left
  ·rintro w' ⟨s0, t0, t1, t2⟩
   go_simp
   with_reducible rfl
  rotate_left
  ·simp only [Act.put, sL, ay, aA]
   rfl
  refine gI (i := 6) (N := some 27) (bA 10 255) rfl rfl tX (by decide) (fun K hK => ?_); refine fP Tryz.func141 tX rfl #[.int .i64 dS, .slice x.A x.xs.length x.c, .int .i64 x.eye] (by rfl) rfl rfl (by (try simp only [List.map_toArray, List.map_cons, List.map_nil]); first | done | rfl) ?_; refine (lY.calls dS x.A x.c x.xs x.eye ls _ (Kd.ak xG.out.1 HB.out) xG.out.2 HLF.out).mono ?_; rintro e w7 ⟨v, rfl, ho, hx⟩; refine ⟨_, rfl, ?_⟩; obtain ⟨Av, cv, rfl, hlv, hCv⟩ := Kd.fO ho; have HB7 := fu HB hx; have l6 := HH0.out; refine hK.out _ _ ⟨(HB7.out.cell (World.block_lt_of_cell? W _ l6.1)).trans l6.1, (HB7.out.cell (World.block_lt_of_cell? W _ l6.2.1)).trans l6.2.1, (HB7.out.cell (World.block_lt_of_cell? W _ l6.2.2.1)).trans l6.2.2.1, (HB7.out.cell (World.block_lt_of_cell? W _ l6.2.2.2)).trans l6.2.2.2⟩ (fun hHeld => ?_); clear hK K l6 ho hx; refine dw (a' := ?_) ?_ ?_; rotate_left
  ·show Act.put _ (some 27) _ = _
   simp only [cu, Act.put, sL, ay, aA]
   rfl
  refine gI (i := 8) (N := some 29) (bA 10 511) rfl rfl tX (by decide) (fun K hK => ?_); refine fP Tryz.func190 tX rfl #[.slice Av ls.length cv, .slice A1 l1.length c1] (by rfl) rfl rfl (by (try simp only [List.map_toArray, List.map_cons, List.map_nil]); first | done | rfl) ?_; refine (pK (dG.calls 1000 Av cv ls A1 c1 l1 _ _ hCv hlv (Kd.ak HR1.out (aV rz.out HB7.out)) hc1 HEQ.out)).mono ?_; rintro e w8 ⟨rfl, hx⟩; refine ⟨_, rfl, ?_⟩; have Uf := fu HB7 hx; have l6 := HH0.out; refine hK.out _ _ ⟨(Uf.out.cell (World.block_lt_of_cell? W _ l6.1)).trans l6.1, (Uf.out.cell (World.block_lt_of_cell? W _ l6.2.1)).trans l6.2.1, (Uf.out.cell (World.block_lt_of_cell? W _ l6.2.2.1)).trans l6.2.2.1, (Uf.out.cell (World.block_lt_of_cell? W _ l6.2.2.2)).trans l6.2.2.2⟩ (fun hHeld => ?_); clear hK K l6 hx hHeld; refine dw (a' := ?_) ?_ ?_; rotate_left
  ·show Act.put _ (some 29) _ = _
   simp only [cu, Act.put, sL, ay, aA]
   rfl
  refine aH (i := 9) (N := some 30) (v := ?_) (a' := ?_) (bA 10 1023) rfl rfl tX (fun _ _ _ h => h) (Or.inl ⟨by rfl, ?_⟩) ?_ ?_; rotate_left
  ·intro w'
   go_simp
   with_reducible rfl
  rotate_left
  ·simp only [Act.put, sL, ay, aA]
   rfl
  refine kZ tX ?_
  by_cases hq : ls = l1
  ·rw [decide_eq_true hq]
   have HQ := aj.mk (show stP (pre ++ [x]) = (List.zipWith jX s1 x.xs, jX s2 x.eye) by rw [qbT.out, HST.out, Dk, if_pos (by rw [← Sl.out]; exact hq)]; rfl); clear hq hHeld; obtain ⟨ct1, ct2⟩ := qP (aG H8.out Uf.out); have JI : aj (xA Wr wl.heap.size W w8) := ⟨xA.below Uf.out⟩; have pq := aj.mk (show w8.heap[gL]? = some (.cells (flat (wT s1 x.xs 0)).toArray 37 (0, 0)) by rw [show wT s1 x.xs 0 = s1 by simp [wT]]; exact aG HI1.out Uf.out); have H70 := aj.mk (aG HI2.out Uf.out); have HB0 := aj.mk (aV rz.out Uf.out); have hxm : x.xs.length ≤ 9223372036854775807 := xG.out.1.2.1
   gi_wp2
   clear ct1 ct2
   gi_loopw [34] (fun v34 W' => ∃ j : Nat, v34 = .int .i64 j ∧ j ≤ x.xs.length ∧ aj (xA Wr wl.heap.size W W') ∧ aj (W'.heap[gL]? = some (.cells (flat (wT s1 x.xs j)).toArray 37 (0, 0))) ∧ aj (W'.heap[g7]? = some (.cells #[.int .i64 s2.f0, .int .i64 s2.f1] 37 (0, 0))) ∧ aj (Below w.heap.size w W')) (fun v34 _ => x.xs.length - (intOf v34).toNat)
   case atStart => exact ⟨0, rfl, by omega, JI, pq, H70, HB0⟩
   case round =>
    clear JI pq H70 HB0; obtain ⟨j, rfl, hj, JI, pq, H70, HB0⟩ := hrel
    have hjm : j < 9223372036854775807 ∨ j = 9223372036854775807 := by omega
    have HX6 := JI.out.1.box (HK.out.box ⟨HX.gb 1 rfl⟩ MU.out.2.2.2.1) MU.out.2.2.2.1; have HX8 : aj (wr.heap[g8]? = _) := ⟨JI.out.2 g8 _ HG8.out H8.out⟩; have HY : Bx [(gL, .cells (flat (wT s1 x.xs j)).toArray 37 (0, 0)), (g7, .cells #[.int .i64 s2.f0, .int .i64 s2.f1] 37 (0, 0))] w wr := ⟨HB0.out, by intro p hp; rcases List.mem_cons.1 hp with rfl | hp; exact pq.out; rw [List.mem_singleton.1 hp]; exact H70.out, by intro p hp; rcases List.mem_cons.1 hp with rfl | hp; exact MQ.out.1; rw [List.mem_singleton.1 hp]; exact MQ.out.2, by simp [HNE.out]⟩
    by_cases hlt : j < x.xs.length
    ·obtain ⟨ad, he, d1⟩ := Kd.iH (mX.row JI.out.1 vG xG.out.1 (fun ad h _ => HXV.out.2 ad h)) j (by omega) (by omega)
     have hd : wr.cell? (ad.add j) = some (.int .i64 x.xs[j]) := by rw [Int.toNat_natCast] at d1; rw [d1, qR hlt]
     clear d1; rw [he]
     gi_wp2
     have hn : j < s1.length := by have := HSL.out; have := Us.out; omega
     have hn2 : j < dn.length := by have := Us.out; omega
     have hu : (wT s1 x.xs j).length = s1.length := MC (by rw [Us.out, HSL.out]) j (by omega); have e0 := Ue pq.out j (by omega); rw [Xw (by rw [Us.out, HSL.out]) j hn] at e0; have c6 := fT HX6.out; have Dy := aj.mk (And.intro c6 (And.intro e0.1 e0.2)); clear hd; refine EZ (some lp) (fun ⟨_, _, h⟩ => by have h2 : Exit.outgrown = Exit.normal ∧ _ := h; cases h2.1) (by rfl) (S := fun w' => w'.cell? ⟨g6, 0, none⟩ = some (.slice (some ⟨gL, 0, none⟩) dn.length dn.length) ∧ w'.cell? ⟨gL, j * 2, none⟩ = some (.int .i64 s1[j].f0) ∧ w'.cell? ⟨gL, j * 2 + 1, none⟩ = some (.int .i64 s1[j].f1)) (ds := [9]) (bA 10 0) tX rfl rfl Dy.out (fun hHeld => ?_); have HBD := aj.mk (fJ (Below.refl wr.heap.size wr)); clear c6 e0
     generalize wr.drew = wd at HBD hHeld ⊢
     refine aH (i := 1) (N := some 40) (v := ?_) (a' := ?_) (bA 10 2) rfl rfl tX (fun _ _ _ h => h) (Or.inl ⟨by rfl, ?_⟩) ?_ ?_; rotate_left
     ·intro w'
      go_simp
      with_reducible rfl
     rotate_left
     ·simp only [Act.put, sL, ay, aA]
      rfl
     refine aH (i := 3) (N := some 42) (v := ?_) (a' := ?_) (bA 10 10) rfl rfl tX (fun _ _ _ h => h) (Or.inl ⟨by rfl, ?_⟩) ?_ ?_; rotate_left
     ·intro w'
      go_simp
      with_reducible rfl
     rotate_left
     ·simp only [Act.put, sL, ay, aA]
      rfl
     refine aH (i := 6) (N := some 45) (v := ?_) (a' := ?_) (bA 10 74) rfl rfl tX (fun _ _ _ h => h) (Or.inl ⟨by rfl, ?_⟩) ?_ ?_; rotate_left
     ·intro w'
      go_simp
      with_reducible rfl
     rotate_left
     ·simp only [Act.put, sL, ay, aA]
      rfl
     refine fC (i := 0) (N := some 39) (v := ?_) (a' := ?_) (bA 10 75) rfl rfl tX (fun _ _ _ h => h) (Or.inl ⟨by rfl, ?_⟩) hHeld ?_ ?_; rotate_left
     ·rintro w' ⟨s0, t0, t1⟩
      go_simp
      with_reducible rfl
     rotate_left
     ·simp only [Act.put, sL, ay, aA]
      rfl
     refine fC (i := 2) (N := some 41) (v := ?_) (a' := ?_) (bA 10 79) rfl rfl tX (fun _ _ _ h => h) (Or.inl ⟨by rfl, ?_⟩) hHeld ?_ ?_; rotate_left
     ·rintro w' ⟨s0, t0, t1⟩
      go_simp
      with_reducible rfl
     rotate_left
     ·simp only [Act.put, sL, ay, aA]
      rfl
     refine aH (i := 4) (N := some 43) (v := ?_) (a' := ?_) (bA 10 95) rfl rfl tX (fun _ _ _ h => h) (Or.inl ⟨by rfl, ?_⟩) ?_ ?_; rotate_left
     ·intro w'
      go_simp
      with_reducible rfl
     rotate_left
     ·simp only [Act.put, sL, ay, aA]
      rfl
     refine fC (i := 5) (N := some 44) (v := ?_) (a' := ?_) (bA 10 127) rfl rfl tX (fun _ _ _ h => h) (Or.inl ⟨by rfl, ?_⟩) hHeld ?_ ?_; rotate_left
     ·rintro w' ⟨s0, t0, t1⟩
      go_simp
      with_reducible rfl
     rotate_left
     ·simp only [Act.put, sL, ay, aA]
      rfl
     refine gI (i := 7) (N := some 46) (bA 10 255) rfl rfl tX (by decide) (fun K hK => ?_); refine fP Tryz.func191 tX rfl #[.agg #[.int .i64 s1[j].f0, .int .i64 s1[j].f1], .int .i64 x.xs[j]] (by rfl) rfl rfl (by (try simp only [List.map_toArray, List.map_cons, List.map_nil]); first | done | rfl) ?_; refine (sM.calls _ _ _ _ _ _ (Sw s1[j] x.xs[j])).mono ?_; rintro e JV ⟨rfl, hx⟩; refine ⟨_, rfl, ?_⟩; have HBE := fu HBD hx; have zI := Dy.out; refine hK.out _ _ ⟨(HBE.out.cell (World.block_lt_of_cell? wr _ zI.1)).trans zI.1, (HBE.out.cell (World.block_lt_of_cell? wr _ zI.2.1)).trans zI.2.1, (HBE.out.cell (World.block_lt_of_cell? wr _ zI.2.2)).trans zI.2.2⟩ (fun hHeld => ?_); clear hK K hx; refine dw (a' := ?_) ?_ ?_; rotate_left
     ·show Act.put _ (some 46) _ = _
      simp only [cu, Act.put, sL, ay, aA]
      rfl
     refine aH (i := 8) (N := some 47) (v := ?_) (a' := ?_) (bA 10 511) rfl rfl tX (fun _ _ _ h => h) (Or.inl ⟨by rfl, ?_⟩) ?_ ?_; rotate_left
     ·intro w'
      go_simp
      with_reducible rfl
     rotate_left
     ·simp only [Act.put, sL, ay, aA]
      rfl
     have HYd : Bx _ w JV := HY.step HBE.out; refine UC (i := 9) (N := none) (bA 10 1023) rfl rfl tX (by decide) (fun K hK => ?_); refine Ub (by rfl) rfl (t := 37) (p := 47) (v := .tmp 46) rfl HYd 0 rfl (i := j * 2) (.agg #[.int .i64 (jX s1[j] x.xs[j]).f0, .int .i64 (jX s1[j] x.xs[j]).f1]) [.int .i64 (jX s1[j] x.xs[j]).f0, .int .i64 (jX s1[j] x.xs[j]).f1] (flat (wT s1 x.xs (j + 1))).toArray rfl rfl rfl tX (by have := vV (wT s1 x.xs j); simp only [List.size_toArray, List.length_cons, List.length_nil]; omega) (by simp [Value.oneCell']) ?_ ?_
     ·have hs := Mx (wT s1 x.xs j) j (jX s1[j] x.xs[j]) (by omega)
      rw [show j * 2 = 2 * j by omega]; refine hs.trans ?_; have h2 := Xx (st := s1) (xs := x.xs) (by rw [Us.out, HSL.out]) j hn; rw [h2]
     intro W1 jS hg1
     dsimp only [List.set] at jS
     have HG1 := aj.mk hg1; clear hg1; refine hK.out _ _ (kZ tX ?_); clear hK K hHeld zI
     gi_wp2
     go_roundw
     case rel => exact ⟨j + 1, by go_num, by omega, ⟨(JI.out.trans (xA.below HBE.out)).trans (xA.grown HG1.out (by rw [HWR.out]; exact .inl rfl) Sr.out.1)⟩, ⟨jS.gb 0 rfl⟩, ⟨jS.gb 1 rfl⟩, ⟨jS.below⟩⟩
     case measure => simp [intOf]; omega
    ·obtain ⟨ct1, ct2⟩ := qP HX8.out
     obtain ⟨cu1, cu2⟩ := HY.g2 1 rfl
     gi_wp2
     refine ⟨trivial, ?_⟩; refine (CallsIn.inRound lp (callsIn_wide.2 (sM.calls _ _ _ _ _ _ (Sw s2 x.eye)))).mono ?_; rintro e JW ⟨rfl, hx⟩; have HYe := HY.step hx; have qm3 := aj.mk (JI.out.trans (xA.below hx)); clear hx ct1 ct2 cu1 cu2 HY pq H70 JI HB0
     gi_wp2_with ((with_reducible refine Xz (t := 37) (p := 7) rfl ?_); refine qmW rfl rfl rfl rfl HYe 1 rfl (i := 0) (.agg #[.int .i64 (jX s2 x.eye).f0, .int .i64 (jX s2 x.eye).f1]) [.int .i64 (jX s2 x.eye).f0, .int .i64 (jX s2 x.eye).f1] #[.int .i64 (jX s2 x.eye).f0, .int .i64 (jX s2 x.eye).f1] rfl rfl rfl tX (by simp) (by simp [Value.oneCell']) rfl ?_; clear HYe; intro y9 HYf hgx; have HG2 := aj.mk hgx; clear hgx; dsimp only [List.set] at HYf)
     have hkb : xA Wr wl.heap.size W _ := qm3.out.trans (xA.grown HG2.out (by rw [HWR.out]; exact .inr rfl) Sr.out.2)
     obtain rfl : j = x.xs.length := by omega
     have hz : wT s1 x.xs x.xs.length = List.zipWith jX s1 x.xs := by rw [show x.xs.length = s1.length by rw [Us.out, HSL.out]]; exact Xy (by rw [Us.out, HSL.out])
     rw [HQ.out]; exact ⟨hkb.from (Nat.le_refl _), ⟨hkb.1, fun k o hk ho => hkb.2 k o (by omega) ho⟩, by rw [← hz]; exact HYf.gb 0 rfl, HYf.gb 1 rfl, HK.out.trans hkb.1, HYf.below, by simp [Us.out, HSL.out]⟩
  ·rw [decide_eq_false hq]
   have HQ := aj.mk (show stP (pre ++ [x]) = (s1, s2) by rw [qbT.out, HST.out, Dk, if_neg (by rw [← Sl.out]; exact hq)]); clear hq
   gi_wp2
   rw [HQ.out]; have hkb : xA Wr wl.heap.size W w8 := xA.below Uf.out; exact ⟨hkb.from (Nat.le_refl _), ⟨hkb.1, fun k o hk ho => hkb.2 k o (by omega) ho⟩, aG HI1.out Uf.out, aG HI2.out Uf.out, HK.out.trans hkb.1, aV rz.out Uf.out, HSL.out⟩
 case done =>
  rintro xs W hxs ⟨i1, i2, i3, i4, i5⟩ hD; obtain ⟨p1, hp1⟩ : ∃ s, s = (jZ dS bJ aY dn l1).1 := ⟨_, rfl⟩; obtain ⟨p2, hp2⟩ : ∃ s, s = (jZ dS bJ aY dn l1).2 := ⟨_, rfl⟩
  have hP : stP xs = jZ dS bJ aY dn l1 := by rw [qap.out]; unfold jZ; rw [← hxs]
  rw [hP] at i1 i2 i5; rw [← hp1] at i1 i5; rw [← hp2] at i2; have HP := aj.mk (And.intro hp1 hp2); have HB := aj.mk i4; have HD := aj.mk hD; have H7 := aj.mk i2; have HG := aj.mk i1; have c6 := fT (i3.box ⟨HX.gb 1 rfl⟩ MU.out.2.2.2.1).out; have c3 := fT (i3.box ⟨HX.gb 5 rfl⟩ MU.out.2.1).out; have H5 := i3.box ⟨HX.gb 4 rfl⟩ MU.out.2.2.1; have HK := aj.mk i3; obtain ⟨c71, c72⟩ := qP i2; clear i1 i2 i3 i4 i5 hD hxs hP hp1 hp2
  by_cases hgt : p2.f0 > p2.f1
  ·have hgi : p2.f1 < p2.f0 := hgt
   go_wp2
   rw [JG]; refine ⟨by simp, .inl ⟨_, _, rfl, run_takeDeferred HD.out, ?_⟩⟩; refine ⟨(stepG ⟨HB.out⟩ (grownBy_putObj' W wl.heap.size (.deferred none)) ⟨HX.below.size⟩).out, ?_⟩; rw [← HP.out.2, if_pos hgt]
  ·have hgi : ¬ p2.f1 < p2.f0 := hgt
   go_wp2
   have HH2 := aj.mk (And.intro c6 (And.intro c71 c72)); refine Dl ?_; refine j6 (n := 4) (S := fun w' => w'.cell? ⟨g6, 0, none⟩ = some (.slice (some ⟨gL, 0, none⟩) dn.length dn.length) ∧ w'.cell? ⟨g7, 0, none⟩ = some (.int .i64 p2.f0) ∧ w'.cell? ⟨g7, 1, none⟩ = some (.int .i64 p2.f1)) (ds := [3]) #[false, false, false, false] tX rfl rfl HH2.out (fun hHeld => ?_); have HY : Bx [(g5, .cells #[.int .i64 0, .int .i64 0] 37 (0, 0))] w W.drew := ⟨aV HB.out (fJ (Below.refl W.heap.size W)), by intro p hp; rw [List.mem_singleton.1 hp]; exact H5.out, by intro p hp; rw [List.mem_singleton.1 hp]; exact HX.lo _ (List.mem_of_getElem? (i := 4) rfl), by simp⟩; have HGd := aj.mk (show W.drew.heap[gL]? = some (.cells (flat p1).toArray 37 (0, 0)) from HG.out); have HDd := aj.mk (show W.drew.heap[wl.heap.size]? = _ from HD.out); clear c6 c71 c72 c3
   generalize W.drew = w6 at HY HGd HDd hHeld ⊢
   refine fC (i := 0) (N := some 61) (v := ?_) (a' := ?_) (bA 4 1) rfl rfl tX (fun _ _ _ h => absurd h.1 (by simp)) (Or.inl ⟨by rfl, ?_⟩) hHeld ?_ ?_; rotate_left
   ·rintro w' ⟨s0, t0, t1⟩
    go_simp
    with_reducible rfl
   rotate_left
   ·simp only [Act.put, sL, ay, aA]
    rfl
   refine fC (i := 1) (N := some 62) (v := ?_) (a' := ?_) (bA 4 3) rfl rfl tX (fun _ _ _ h => absurd h.1 (by simp)) (Or.inl ⟨by rfl, ?_⟩) hHeld ?_ ?_; rotate_left
   ·rintro w' ⟨s0, t0, t1⟩
    go_simp
    with_reducible rfl
   rotate_left
   ·simp only [Act.put, sL, ay, aA]
    rfl
   refine aH (i := 2) (N := some 4) (v := ?_) (a' := ?_) (bA 4 7) rfl rfl tX (fun _ _ _ h => absurd h.1 (by simp)) (Or.inl ⟨by rfl, ?_⟩) ?_ ?_; rotate_left
   ·intro w'
    go_simp
    with_reducible rfl
   rotate_left
   ·simp only [Act.put, sL, ay, aA]
    rfl
   refine UC (i := 3) (N := none) (bA 4 15) rfl rfl tX (by decide) (fun K hK => ?_); refine Ub (by rfl) rfl (t := 37) (p := 5) (v := .tmp 62) rfl HY 0 rfl (i := 0) (.agg #[.int .i64 p2.f0, .int .i64 p2.f1]) [.int .i64 p2.f0, .int .i64 p2.f1] #[.int .i64 p2.f0, .int .i64 p2.f1] rfl rfl rfl tX (by simp) (by simp [Value.oneCell']) rfl ?_; intro W1 jS hg1
   dsimp only [List.set] at jS
   refine hK.out _ _ (kZ tX ⟨rfl, ?_⟩); clear hK K hHeld; have HG2 : aj (W1.heap[gL]? = _) := gW HGd hg1 (fun e => by have := HX.key (i := 2) (j := 4) rfl rfl (by decide); exact this e); have HD2 : aj (W1.heap[wl.heap.size]? = _) := gW HDd hg1 (fun e => by have := cZ (HX.gb 4 rfl); omega)
   go_wp2
   refine ⟨by simp, .inl ⟨_, _, rfl, run_takeDeferred HD2.out, ?_⟩⟩; have HG3 : aj ((W1.putObj wl.heap.size (.deferred none)).heap[gL]? = _) := gW HG2 (grownBy_putObj' W1 wl.heap.size (.deferred none)) (fun e => by have := Sr.out.1; omega); refine ⟨_, M5 rfl _ _ g5 37 #[.int .i64 p2.f0, .int .i64 p2.f1] (0, 0) _ rfl ((gW ⟨jS.gb 0 rfl⟩ (grownBy_putObj' W1 wl.heap.size (.deferred none)) (fun e => by have := cZ (HX.gb 4 rfl); omega)).out) kg (by rfl) tX, (stepG ⟨jS.below⟩ (grownBy_putObj' W1 wl.heap.size (.deferred none)) ⟨HX.below.size⟩).out, ?_⟩; rw [← HP.out.2, if_neg (by omega), ← HP.out.1]; exact ⟨gL, rfl, MQ.out.1, HG3.out⟩
theorem qep (g : Nat) (e0 e1 ti : Int) (A : Option Addr) (n c : Nat) (hn : n ≤ 9223372036854775807) (x : Int) (w : World) (hb : w.heap[g]? = some (.cells #[.int .i64 e0, .int .i64 e1, .int .i64 ti, .slice A n c] 67 (0, 0))) :
  Calls Tryz.prog 143 #[.int .i64 x, .pointer (some ⟨g, 0, none⟩)] w fun e w' => e = .returned (.bool (!o9 x 0 n)) ∧ Below w.heap.size w w' := by
 have NH := Tryz.underlying67; obtain ⟨cs1, cs2, uN, uY⟩ := BQ hb
 go_enter Tryz.func143, Tryz.ntmps143
 go_wp2_with (go_at_call 113; (with_reducible refine (rC x 0 n _).mono ?_); rintro e w1 ⟨rfl, hx⟩; clear cs1 cs2 uN uY)
 go_ret
 exact ⟨rfl, hx⟩
theorem qhs (g : Nat) (e0 e1 ti : Int) (A : Option Addr) (n c : Nat) (hn : n ≤ 9223372036854775807) (A1 : Option Addr) (c1 : Nat) (l1 : List Int) (w : World) (hb : w.heap[g]? = some (.cells #[.int .i64 e0, .int .i64 e1, .int .i64 ti, .slice A n c] 67 (0, 0))) (hr : Kd.C (Kd.int .i64) w A1 l1.length l1) :
  Calls Tryz.prog 142 #[.slice A1 l1.length c1, .func (.func 143) #[] #[.pointer (some ⟨g, 0, none⟩)]] w fun e w' => e = .returned (.bool (l1.any fun x => !o9 x 0 n)) ∧ Below w.heap.size w w' := by
 refine cf3 (fun x => !o9 x 0 n) 143 #[.pointer (some ⟨g, 0, none⟩)] A1 c1 l1 w hr (enters_of Tryz.func143 tX rfl) (fun x hx => ⟨fun W cs hb2 hK => ?_⟩); obtain rfl := hK; exact qep g e0 e1 ti A n c hn x W (aG hb hb2)
theorem ME (ti e0 e1 : Int) (ls : List bT) (tr : List Int) : (jZ ti e0 e1 ls tr).1.length = ls.length := by
 unfold jZ
 exact H6 _ _ (fun p hp => F8 hp) (by simp [EB])
theorem Ib : ∀ (l : List bT) (j : Nat) (p : bT), l[j]? = some p → ((flat l).drop (j * 2)).take 2 = [.int .i64 p.f0, .int .i64 p.f1]
 | s :: l, 0, p, h => by
  simp at h; subst h
  rfl
 | s :: l, j + 1, p, h => by
  have := Ib l j p (by simpa using h); rw [sN, show (j + 1) * 2 = j * 2 + 1 + 1 by omega, List.drop_succ_cons, List.drop_succ_cons, this]
theorem XA {w : World} {g base : Nat} {l : List bT} (hg : base ≤ g) (hl : l.length ≤ 1000000) (h : w.heap[g]? = some (.cells (flat l).toArray 37 (0, 0))) : Kd.R j3 37 w base (fun _ => True) (.slice (some ⟨g, 0, none⟩) l.length l.length) l := by
 refine ⟨fun _ _ => trivial, flat l, ⟨by rw [vV]; show 2 * l.length = l.length * 2; omega, .inr ⟨g, l.length, _, rfl, hg, h, Nat.le_refl _, by unfold maxLen; omega, by rw [List.size_toArray, vV]; show 2 * l.length = l.length * 2; omega, by rw [show l.length * j3.sz = (flat l).length by rw [vV]; show l.length * 2 = 2 * l.length; omega]; simp⟩⟩, ⟨by rw [vV]; show 2 * l.length = l.length * 2; omega, fun j p hp => ?_⟩⟩; rw [show ((flat l).drop (j * j3.sz)).take j3.sz = _ from Ib l j p hp]; exact kE w base _ p
theorem yx {fn : Func} {p q r : Tmp} (h : fn.results = #[.cell p 28, .cell q 37, .cell r 29]) (tmps : Array Value) (w : World) (g1 g2 g3 : Nat) (v : Value) (x y n : Int)
  (hp : tmps.getD p undef = .pointer (some ⟨g1, 0, none⟩)) (hq : tmps.getD q undef = .pointer (some ⟨g2, 0, none⟩)) (hr : tmps.getD r undef = .pointer (some ⟨g3, 0, none⟩))
  (h1 : w.heap[g1]? = some (.cells #[v] 28 (0, 0))) (h2 : w.heap[g2]? = some (.cells #[.int .i64 x, .int .i64 y] 37 (0, 0))) (h3 : w.heap[g3]? = some (.cells #[.int .i64 n] 29 (0, 0))) :
  (results fn tmps).run Tryz.prog w = .ok (.tuple #[v, .agg #[.int .i64 x, .int .i64 y], .int .i64 n]) w := by
 have hp' : tmps[p]?.getD undef = .pointer (some ⟨g1, 0, none⟩) := by simpa using hp
 have hq' : tmps[q]?.getD undef = .pointer (some ⟨g2, 0, none⟩) := by simpa using hq
 have hr' : tmps[r]?.getD undef = .pointer (some ⟨g3, 0, none⟩) := by simpa using hr
 have c1 := fT h1; have c3 := fT h3; obtain ⟨c21, c22⟩ := qP h2; have qm4 := Tryz.underlying28; have qm5 := Tryz.underlying29; have kg := Tryz.underlying37; simp [results, h, hp', hq', hr', asAddr, go_sem, c1, c3, c21, c22, qm4, qm5, kg]
theorem qaq (a b c : Value) (w : World) :
  CallsD Tryz.prog 144 #[a, b, c] .returning w fun e u' w' => e = .returned (.tuple #[]) ∧ u' = .returning ∧ w' = w := by
 refine callsD_of_wpS Tryz.func144 rfl fun c₀ cs hu => ?_
 apply wpS_seq; apply wpS_region; simp [wpOpsS, go_sem, recoverD, hu, Tryz.ntmps144, Exit.thenS, Array.replicate_succ]; refine wpS_of_wp ?_
 go_wp2
 cases c₀
 simp_all [bodyPostS, results, Tryz.results144]
theorem XB {L : List (Nat × Obj)} (g4 g5 g6 : Nat) (pv : Value) (h1 : pv.oneCell' = true) (w W : World) (HX : Bx ((g6, .cells #[.int .i64 0] 29 (0, 0)) :: (g5, .cells #[.int .i64 0, .int .i64 0] 37 (0, 0)) :: (g4, .cells #[.slice none 0 0] 28 (0, 0)) :: L) w W) :
  CallsD Tryz.prog 144 #[.pointer (some ⟨g4, 0, none⟩), .pointer (some ⟨g5, 0, none⟩), .pointer (some ⟨g6, 0, none⟩)] (.panicking [{ v := .iface 181 (.agg #[pv]), recovered := false, goexit := false }]) W fun e u' w' => e = .returned (.tuple #[]) ∧ u' = .panicking [{ v := .iface 181 (.agg #[pv]), recovered := true, goexit := false }] ∧ Bx ((g6, .cells #[.int .i64 7] 29 (0, 0)) :: (g5, .cells #[.int .i64 0, .int .i64 0] 37 (0, 0)) :: (g4, .cells #[.slice none 0 0] 28 (0, 0)) :: L) w w' := by
 refine callsD_of_wpS Tryz.func144 rfl fun c₀ cs hu => ?_
 apply wpS_seq; apply wpS_region; simp [wpOpsS, go_sem, recoverD, hu, Tryz.ntmps144, Exit.thenS, Array.replicate_succ]; refine wpS_of_wp ?_; have qqS := Tryz.underlying181; have kg := Tryz.underlying37
 have hta : ∀ W, (Instr.typeAssert (.iface 181 (.agg #[pv])) 20 181 true).run Tryz.prog W = .ok (.tuple #[.agg #[pv], .bool true]) W := fun W => by kernel_rfl
 go_wp2_with (first | ((with_reducible refine av (N := 4) rfl ?_); refine newX rfl rfl HX (cs := #[.slice none 0 0]) (t := 181) tG ?_; clear HX; intro g7 w7 HX hx hz; clear hx hz) | ((with_reducible refine bE (t := 181) (p := 4) rfl ?_); refine kL rfl rfl rfl HX 0 rfl (i := 0) (.agg #[pv]) [pv] #[pv] rfl rfl rfl tX (by simp) (by simp [h1]) rfl ?_; clear HX; intro w9 HX hx; clear hx; dsimp only [List.set] at HX) | ((with_reducible refine bE (t := 28) (p := 0) rfl ?_); refine kL rfl rfl rfl HX 3 rfl (i := 0) (.slice none 0 0) [.slice none 0 0] #[.slice none 0 0] rfl rfl rfl tX (by simp) (by simp [Value.oneCell']) rfl ?_; clear HX; intro w9 HX hx; clear hx; dsimp only [List.set] at HX) | ((with_reducible refine bE (t := 37) (p := 1) rfl ?_); refine kL rfl rfl rfl HX 2 rfl (i := 0) (.agg #[.int .i64 0, .int .i64 0]) [.int .i64 0, .int .i64 0] #[.int .i64 0, .int .i64 0] rfl rfl rfl tX (by simp) (by simp [Value.oneCell']) rfl ?_; clear HX; intro w9 HX hx; clear hx; dsimp only [List.set] at HX) | ((with_reducible refine bE (t := 29) (p := 2) rfl ?_); refine kL rfl rfl rfl HX 1 rfl (i := 0) (.int .i64 7) [.int .i64 7] #[.int .i64 7] rfl rfl rfl tX (by simp) (by simp [Value.oneCell']) rfl ?_; clear HX; intro w9 HX hx; clear hx; dsimp only [List.set] at HX))
 exact ⟨rfl, _, rfl, .tuple #[], by simp [results, Tryz.results144], rfl, rfl, HX.tail⟩
def tZ.f (e0 e1 ti : Int) (ls : List bT) (nQ : List Int) : Option (List bT × Int × Int × Int) :=
 some (if rE ⟨e0, e1⟩ ti ls && (decide (nQ.length = ls.length) && !(nQ.any fun x => !o9 x 0 ls.length)) then
  (if (jZ ti e0 e1 ls nQ).2.f0 > (jZ ti e0 e1 ls nQ).2.f1 then ([], 0, 0, 7) else ((jZ ti e0 e1 ls nQ).1, (jZ ti e0 e1 ls nQ).2.f0, (jZ ti e0 e1 ls nQ).2.f1, 0)) else ([], 0, 0, 2))
theorem tZ.calls (bJ : Int) (aY : Int) (dS : Int) (jE : Option Addr) (jL : Nat) (dn : List bT) (A1 : Option Addr) (c1 : Nat) (l1 : List Int) (r1 : List bT) (r2 : Int) (r3 : Int) (r4 : Int) (w : World) (pV : Kd.C j3 w jE dn.length dn) (xH : dn.length ≤ jL) (hr1 : Kd.C (Kd.int .i64) w A1 l1.length l1) (hc1 : l1.length ≤ c1) (h : tZ.f bJ aY dS dn l1 = some (r1, r2, r3, r4)) :
  Calls Tryz.prog 54 #[.agg #[.int .i64 bJ, .int .i64 aY, .int .i64 dS, .slice jE dn.length jL], .slice A1 l1.length c1] w fun e w' => ∃ kM : Value, e = .returned (.tuple #[kM, .agg #[.int .i64 r2, .int .i64 r3], .int .i64 r4]) ∧ Kd.R j3 37 w' w.heap.size (fun _ => True) kM r1 ∧ Below w.heap.size w w' := by
 have HX := Bx.nil w
 have K1 := fun w1 (hb : Below w.heap.size w w1) => c138 bJ aY dS jE jL dn w1 (Kd.ak pV hb) xH
 have hm0 : dn.length ≤ 9223372036854775807 := pV.2.1; have hm1 : l1.length ≤ 9223372036854775807 := hr1.2.1; have HR := aj.mk pV; have HR1 := aj.mk hr1
 unfold tZ.f at h
 obtain ⟨b1, hb1⟩ : ∃ b, b = rE ⟨bJ, aY⟩ dS dn := ⟨_, rfl⟩; obtain ⟨b2, hb2⟩ : ∃ b, b = decide (l1.length = dn.length) := ⟨_, rfl⟩; have HG := aj.mk hb1
 have K4 := fun g w1 (hb : w1.heap[g]? = some (.cells #[.int .i64 bJ, .int .i64 aY, .int .i64 dS, .slice jE dn.length jL] 67 (0, 0))) (hx : Below w.heap.size w w1) => qhs g bJ aY dS jE dn.length jL hm0 A1 c1 l1 w1 hb (Kd.ak HR1.out hx)
 rw [← hb1, ← hb2] at h; rw [← hb1] at K1; clear hb1 pV hr1; have NH := Tryz.underlying67; have kg := Tryz.underlying37
 have hc : (b1 = false ∨ b1 = true ∧ b2 = false ∨ b1 = true ∧ b2 = true ∧ (l1.any fun x => !o9 x 0 dn.length) = true) ∨ (b1 = true ∧ b2 = true ∧ (l1.any fun x => !o9 x 0 dn.length) = false) := by
  cases b1 <;> cases b2 <;> cases (l1.any fun x => !o9 x 0 dn.length) <;> simp
 rcases hc with hc | hc
 ·obtain ⟨rfl, rfl, rfl, rfl⟩ : r1 = [] ∧ r2 = 0 ∧ r3 = 0 ∧ r4 = 2 := by
   rcases hc with rfl | ⟨rfl, rfl⟩ | ⟨rfl, rfl, hc⟩ <;> (first | simp only [hc] at h | skip) <;> (simp at h; exact ⟨h.1, h.2.1.symm, h.2.2.1.symm, h.2.2.2.symm⟩)
  clear h HG
  rcases hc with rfl | ⟨rfl, rfl⟩ | ⟨rfl, rfl, hc⟩
  all_goals (try have hne : ¬ l1.length = dn.length := of_decide_eq_false hb2.symm)
  all_goals (try have heq : l1.length = dn.length := of_decide_eq_true hb2.symm)
  all_goals (try simp only [heq, hc] at K4)
  all_goals (try clear hc)
  all_goals
   clear hb2
   go_enter Tryz.func54, Tryz.ntmps54
   go_wp2_with (first | ((with_reducible refine av (N := 2) rfl ?_); refine newX rfl rfl HX (cs := #[.int .i64 bJ, .int .i64 aY, .int .i64 dS, .slice jE dn.length jL]) (t := 67) tG ?_; clear HX; intro g2 w2 HX hx hz; clear hx hz) | ((with_reducible refine av (N := 4) rfl ?_); refine newX rfl rfl HX (cs := #[.slice none 0 0]) (t := 28) tG ?_; clear HX; intro g4 w4 HX hx hz; clear hx hz) | ((with_reducible refine av (N := 5) rfl ?_); refine newX rfl rfl HX (cs := #[.int .i64 0, .int .i64 0]) (t := 37) tG ?_; clear HX; intro g5 w5 HX hx hz; clear hx hz) | ((with_reducible refine av (N := 6) rfl ?_); refine newX rfl rfl HX (cs := #[.int .i64 0]) (t := 29) tG ?_; clear HX; intro g6 w6 HX hx hz; clear hx hz; obtain ⟨cs1, cs2, uN, uY⟩ := HX.g4 3 rfl) | (go_at_call 138; (with_reducible refine (K1 _ HX.below).mono ?_); rintro e w1 ⟨rfl, hx⟩; replace HX := HX.step hx; clear hx cs1 cs2 uN uY; obtain ⟨cs1, cs2, uN, uY⟩ := HX.g4 3 rfl) | (go_at_call 142; refine (K4 g2 _ (HX.gb 3 rfl) HX.below).mono ?_; rintro e w1 ⟨rfl, hx⟩; replace HX := HX.step hx; clear hx cs1 cs2 uN uY; obtain ⟨cs1, cs2, uN, uY⟩ := HX.g4 3 rfl) | ((with_reducible refine bE (t := 28) (p := 4) rfl ?_); refine kL rfl rfl rfl HX 2 rfl (i := 0) (.slice none 0 0) [.slice none 0 0] #[.slice none 0 0] rfl rfl rfl tX (by simp) (by simp [Value.oneCell']) rfl ?_; clear HX; intro w9 HX hx; clear hx; dsimp only [List.set] at HX) | ((with_reducible refine bE (t := 37) (p := 5) rfl ?_); refine kL rfl rfl rfl HX 1 rfl (i := 0) (.agg #[.int .i64 0, .int .i64 0]) [.int .i64 0, .int .i64 0] #[.int .i64 0, .int .i64 0] rfl rfl rfl tX (by simp) (by simp [Value.oneCell']) rfl ?_; clear HX; intro w9 HX hx; clear hx; dsimp only [List.set] at HX) | ((with_reducible refine bE (t := 29) (p := 6) rfl ?_); refine kL rfl rfl rfl HX 0 rfl (i := 0) (.int .i64 2) [.int .i64 2] #[.int .i64 2] rfl rfl rfl tX (by simp) (by simp [Value.oneCell']) rfl ?_; clear HX; intro w9 HX hx; clear hx; dsimp only [List.set] at HX))
   refine bodyPost_ret (yx rfl _ _ g4 g5 g6 _ _ _ _ (by rfl) (by rfl) (by rfl) (HX.gb 2 rfl) (HX.gb 1 rfl) (HX.gb 0 rfl)) rfl ?_; exact ⟨_, rfl, Kd.lJ _ _ _ _ _, HX.below⟩
 ·obtain ⟨rfl, rfl, hc⟩ := hc
  have heq : l1.length = dn.length := of_decide_eq_true hb2.symm; have HSO := aj.mk (Sq HG.out.symm); simp only [heq, hc] at K4; have HEQ := aj.mk heq
  have K5 := fun w1 (hb : Below w.heap.size w w1) => JH bJ aY dS jE jL dn A1 c1 l1 w1 (Kd.ak HR.out hb) xH (Kd.ak HR1.out hb) hc1 HSO.out HEQ.out
  obtain ⟨p1, hp1⟩ : ∃ s, s = (jZ dS bJ aY dn l1).1 := ⟨_, rfl⟩; obtain ⟨p2, hp2⟩ : ∃ s, s = (jZ dS bJ aY dn l1).2 := ⟨_, rfl⟩
  unfold Ia at K5
  rw [← hp1, ← hp2] at K5 h; simp only [heq] at K5; have HC := aj.mk hc; have HL1 := aj.mk (show p1.length = dn.length by rw [hp1]; exact ME _ _ _ _ _); clear hb2 hc hp1 hp2
  by_cases hgt : p2.f0 > p2.f1
  ·obtain ⟨rfl, rfl, rfl, rfl⟩ : r1 = [] ∧ r2 = 0 ∧ r3 = 0 ∧ r4 = 7 := by
    simp [HC.out, hgt] at h; exact ⟨h.1, h.2.1.symm, h.2.2.1.symm, h.2.2.2.symm⟩
   simp only [if_pos hgt] at K5; clear h
   go_enter_defers Tryz.func54, Tryz.ntmps54
   go_wp2_with (first | ((with_reducible refine av (N := 2) rfl ?_); refine newX rfl rfl HX (cs := #[.int .i64 bJ, .int .i64 aY, .int .i64 dS, .slice jE dn.length jL]) (t := 67) tG ?_; clear HX; intro g2 w2 HX hx hz; clear hx hz) | ((with_reducible refine av (N := 4) rfl ?_); refine newX rfl rfl HX (cs := #[.slice none 0 0]) (t := 28) tG ?_; clear HX; intro g4 w4 HX hx hz; clear hx hz) | ((with_reducible refine av (N := 5) rfl ?_); refine newX rfl rfl HX (cs := #[.int .i64 0, .int .i64 0]) (t := 37) tG ?_; clear HX; intro g5 w5 HX hx hz; clear hx hz) | ((with_reducible refine av (N := 6) rfl ?_); refine newX rfl rfl HX (cs := #[.int .i64 0]) (t := 29) tG ?_; clear HX; intro g6 w6 HX hx hz; clear hx hz; obtain ⟨cs1, cs2, uN, uY⟩ := HX.g4 3 rfl) | (go_at_call 138; (with_reducible refine (K1 _ HX.below).mono ?_); rintro e w1 ⟨rfl, hx⟩; replace HX := HX.step hx; clear hx cs1 cs2 uN uY; obtain ⟨cs1, cs2, uN, uY⟩ := HX.g4 3 rfl) | (go_at_call 142; refine (K4 g2 _ (HX.gb 3 rfl) HX.below).mono ?_; rintro e w1 ⟨rfl, hx⟩; replace HX := HX.step hx; clear hx cs1 cs2 uN uY; obtain ⟨cs1, cs2, uN, uY⟩ := HX.g4 3 rfl) | (go_at_call 145; refine (K5 _ HX.below).mono ?_; rintro e w1 ⟨hx, hE⟩; subst hE; replace HX := HX.step hx; clear hx cs1 cs2 uN uY))
   refine leaves_cons (f := 144) (args := #[.pointer (some ⟨g4, 0, none⟩), .pointer (some ⟨g5, 0, none⟩), .pointer (some ⟨g6, 0, none⟩)]) (by simp) (by simp [go_sem]) ?_; refine (XB g4 g5 g6 (.slice A1 dn.length c1) rfl w _ HX).mono ?_; rintro e u' w'' ⟨rfl, rfl, HX⟩; refine ⟨_, yx rfl _ _ g4 g5 g6 _ _ _ _ (by rfl) (by rfl) (by rfl) (HX.gb 2 rfl) (HX.gb 1 rfl) (HX.gb 0 rfl), ?_⟩; exact ⟨_, rfl, Kd.lJ _ _ _ _ _, HX.below⟩
  ·obtain ⟨rfl, rfl, rfl, rfl⟩ : p1 = r1 ∧ p2.f0 = r2 ∧ p2.f1 = r3 ∧ 0 = r4 := by
    simp [HC.out, show ¬ p2.f1 < p2.f0 by omega] at h; exact ⟨h.1, h.2.1, h.2.2.1, h.2.2.2⟩
   simp only [if_neg hgt] at K5; clear h
   go_enter_defers Tryz.func54, Tryz.ntmps54
   go_wp2_with (first | ((with_reducible refine av (N := 2) rfl ?_); refine newX rfl rfl HX (cs := #[.int .i64 bJ, .int .i64 aY, .int .i64 dS, .slice jE dn.length jL]) (t := 67) tG ?_; clear HX; intro g2 w2 HX hx hz; clear hx hz) | ((with_reducible refine av (N := 4) rfl ?_); refine newX rfl rfl HX (cs := #[.slice none 0 0]) (t := 28) tG ?_; clear HX; intro g4 w4 HX hx hz; clear hx hz) | ((with_reducible refine av (N := 5) rfl ?_); refine newX rfl rfl HX (cs := #[.int .i64 0, .int .i64 0]) (t := 37) tG ?_; clear HX; intro g5 w5 HX hx hz; clear hx hz) | ((with_reducible refine av (N := 6) rfl ?_); refine newX rfl rfl HX (cs := #[.int .i64 0]) (t := 29) tG ?_; clear HX; intro g6 w6 HX hx hz; clear hx hz; obtain ⟨cs1, cs2, uN, uY⟩ := HX.g4 3 rfl) | (go_at_call 138; (with_reducible refine (K1 _ HX.below).mono ?_); rintro e w1 ⟨rfl, hx⟩; replace HX := HX.step hx; clear hx cs1 cs2 uN uY; obtain ⟨cs1, cs2, uN, uY⟩ := HX.g4 3 rfl) | (go_at_call 142; refine (K4 g2 _ (HX.gb 3 rfl) HX.below).mono ?_; rintro e w1 ⟨rfl, hx⟩; replace HX := HX.step hx; clear hx cs1 cs2 uN uY; obtain ⟨cs1, cs2, uN, uY⟩ := HX.g4 3 rfl) | (go_at_call 145; refine (K5 _ HX.below).mono ?_; rintro e w1 ⟨hx, gL, hE, hgl, hrow⟩; subst hE; have HGL := aj.mk hgl; have HNL := aj.mk (show g6 < gL ∧ g5 < gL ∧ g4 < gL from ⟨Nat.lt_of_lt_of_le (cZ (HX.gb 0 rfl)) hgl, Nat.lt_of_lt_of_le (cZ (HX.gb 1 rfl)) hgl, Nat.lt_of_lt_of_le (cZ (HX.gb 2 rfl)) hgl⟩); replace HX := HX.add hgl hx hrow; clear hx hgl hrow cs1 cs2 uN uY) | ((with_reducible refine bE (t := 28) (p := 4) rfl ?_); refine kL rfl rfl rfl HX 3 rfl (i := 0) (.slice (some ⟨gL, 0, none⟩) dn.length dn.length) [.slice (some ⟨gL, 0, none⟩) dn.length dn.length] #[.slice (some ⟨gL, 0, none⟩) dn.length dn.length] rfl rfl rfl tX (by simp) (by simp [Value.oneCell']) rfl ?_; clear HX; intro w9 HX hx; clear hx; dsimp only [List.set] at HX) | ((with_reducible refine bE (t := 37) (p := 5) rfl ?_); refine kL rfl rfl rfl HX 2 rfl (i := 0) (.agg #[.int .i64 p2.f0, .int .i64 p2.f1]) [.int .i64 p2.f0, .int .i64 p2.f1] #[.int .i64 p2.f0, .int .i64 p2.f1] rfl rfl rfl tX (by simp) (by simp [Value.oneCell']) rfl ?_; clear HX; intro w9 HX hx; clear hx; dsimp only [List.set] at HX))
   have HD := HX.step (fJ (Below.refl w9.heap.size w9)); refine Dl ?_; refine j6 (n := 5) (S := fun w' => w'.cell? ⟨g4, 0, none⟩ = some (.slice (some ⟨gL, 0, none⟩) dn.length dn.length) ∧ w'.cell? ⟨g5, 0, none⟩ = some (.int .i64 p2.f0) ∧ w'.cell? ⟨g5, 1, none⟩ = some (.int .i64 p2.f1)) (ds := []) #[false, false, false, false, false] tX rfl rfl ⟨HX.g1 3 rfl, (HX.g2 2 rfl).1, (HX.g2 2 rfl).2⟩ (fun hHeld => ?_); clear HX; have HX := HD; clear HD
   generalize w9.drew = JV at HX hHeld ⊢
   refine fC (i := 0) (N := some 31) (v := ?_) (a' := ?_) (bA 5 1) rfl rfl tX (fun _ _ _ h => absurd h.1 (by simp)) (Or.inl ⟨by rfl, ?_⟩) hHeld ?_ ?_; rotate_left
   ·rintro w' ⟨s0, t0, t1⟩
    go_simp
    with_reducible rfl
   rotate_left
   ·simp only [Act.put, sL, ay, aA]
    rfl
   refine fC (i := 1) (N := some 32) (v := ?_) (a' := ?_) (bA 5 3) rfl rfl tX (fun _ _ _ h => absurd h.1 (by simp)) (Or.inl ⟨by rfl, ?_⟩) hHeld ?_ ?_; rotate_left
   ·rintro w' ⟨s0, t0, t1⟩
    go_simp
    with_reducible rfl
   rotate_left
   ·simp only [Act.put, sL, ay, aA]
    rfl
   refine gI (i := 2) (N := none) (bA 5 7) rfl rfl tX (by decide) (fun K hK => ?_); refine Ub (by rfl) rfl (t := 28) (p := 4) (v := .tmp 31) rfl HX 3 rfl (i := 0) (.slice (some ⟨gL, 0, none⟩) dn.length dn.length) [.slice (some ⟨gL, 0, none⟩) dn.length dn.length] #[.slice (some ⟨gL, 0, none⟩) dn.length dn.length] rfl rfl rfl tX (by simp) (by simp [Value.oneCell']) rfl ?_; clear HX hHeld; intro W2 HX hg
   dsimp only [List.set] at HX
   refine hK.out _ _ ⟨HX.g1 3 rfl, (HX.g2 2 rfl).1, (HX.g2 2 rfl).2⟩ (fun hHeld => ?_); clear hK K hg; refine gI (i := 3) (N := none) (bA 5 15) rfl rfl tX (by decide) (fun K hK => ?_); refine Ub (by rfl) rfl (t := 37) (p := 5) (v := .tmp 32) rfl HX 2 rfl (i := 0) (.agg #[.int .i64 p2.f0, .int .i64 p2.f1]) [.int .i64 p2.f0, .int .i64 p2.f1] #[.int .i64 p2.f0, .int .i64 p2.f1] rfl rfl rfl tX (by simp) (by simp [Value.oneCell']) rfl ?_; clear HX hHeld; intro W3 HX hg
   dsimp only [List.set] at HX
   refine hK.out _ _ ⟨HX.g1 3 rfl, (HX.g2 2 rfl).1, (HX.g2 2 rfl).2⟩ (fun hHeld => ?_); clear hK K hg; refine gI (i := 4) (N := none) (bA 5 31) rfl rfl tX (by decide) (fun K hK => ?_); refine Ub (by rfl) rfl (t := 29) (p := 6) (v := .const (.int .i64 0)) rfl HX 1 rfl (i := 0) (.int .i64 0) [.int .i64 0] #[.int .i64 0] rfl rfl rfl tX (by simp) (by simp [Value.oneCell']) rfl ?_; clear HX hHeld; intro W4 HX hg
   dsimp only [List.set] at HX
   refine hK.out _ _ ⟨HX.g1 3 rfl, (HX.g2 2 rfl).1, (HX.g2 2 rfl).2⟩ (fun hHeld => ?_); clear hK K hg; refine kZ tX ⟨rfl, ?_⟩; clear hHeld
   go_wp2
   refine leaves_cons (f := 144) (args := #[.pointer (some ⟨g4, 0, none⟩), .pointer (some ⟨g5, 0, none⟩), .pointer (some ⟨g6, 0, none⟩)]) (by simp) (by simp [go_sem]) ?_; refine (qaq _ _ _ _).mono ?_; rintro e u' w'' ⟨rfl, rfl, rfl⟩; refine ⟨_, yx rfl _ _ g4 g5 g6 _ _ _ _ (by rfl) (by rfl) (by rfl) (HX.gb 3 rfl) (HX.gb 2 rfl) (HX.gb 1 rfl), ?_⟩; have hl := HL1.out; have hR := XA (HX.lo _ (List.mem_of_getElem? (i := 0) rfl)) (by have := HSO.out.len; omega) (HX.gb 0 rfl); rw [hl] at hR; exact ⟨_, rfl, hR, HX.below⟩
end Go.Proofs.YtnpfbjnjdngkhaaGreatDoor.P
namespace Go.Proofs.YtnpfbjnjdngkhaaGreatDoor.P
open Go.RowKit Go.Proofs.YtnpfbjnjdngkhaaGreatDoorW.aW Go.Proofs.YtnpfbjnjdngkhaaGreatDoorW.bZ Go.Proofs.YtnpfbjnjdngkhaaGreatDoorW.dh
def uZ : List bO := [⟨[⟨2, 3⟩, ⟨5, 5⟩, ⟨8, 10⟩], 40⟩, ⟨[⟨1, 1⟩, ⟨2, 2⟩, ⟨4, 4⟩], 20⟩]
def EC : List bg := [⟨0, 0, ⟨4, 5⟩⟩, ⟨1, 1, ⟨3, 3⟩⟩]
def ED : List bg := [⟨0, 0, ⟨5, 5⟩⟩]
def nC : List Int := [1, -2]
def nD : List Int := [1, 1]
def DJ : List ou := [⟨[1, 1]⟩, ⟨[1, -2]⟩]
def DK : List bT := [⟨12, 14⟩, ⟨10, 12⟩]
def Ut : List dN := [⟨[⟨0, 0, ⟨5, 5⟩⟩], 2, 5⟩, ⟨[⟨0, 1, ⟨2, 2⟩⟩], 3, 9⟩, ⟨[⟨0, 0, ⟨5, 5⟩⟩], 2, 4⟩]
def exS : List bT := [⟨10, 12⟩, ⟨13, 14⟩, ⟨17, 17⟩]
def JJ : ByteArray := ⟨#[104, 111, 117, 115, 101, 32, 50, 32, 48, 10, 100, 121, 101, 32, 52, 48, 32, 50, 32, 51, 32, 53, 32, 53, 32, 56, 32, 49, 48, 10, 100, 121, 101, 32, 50, 48, 32, 49, 32, 49, 32, 50, 32, 50, 32, 52, 32, 52, 10, 101, 110, 100, 32, 48, 53, 54, 10]⟩
theorem qhu : rT.f = some uZ := by kernel_rfl
theorem qhv : rU.f = some EC := by kernel_rfl
theorem qhw : iU.f = some ED := by kernel_rfl
theorem qar : jT.f = some nC := by kernel_rfl
theorem qas : jU.f = some nD := by kernel_rfl
theorem qhx : rV.f = some (DJ, 6, 6, DK, 3) := by kernel_rfl
theorem qhy : rW.f = some Ut := by kernel_rfl
theorem qhz : rX.f = some (2, 3, 1, exS) := by kernel_rfl
theorem XC : dZ.f 1000 uZ EC = some ([⟨8, 15⟩, ⟨6, 6⟩], 0) := by kernel_rfl
theorem XD : vP.f uZ nC EC ED = some (-15, -12, 0) := by kernel_rfl
theorem XE : dQ.f 1000 uZ [⟨nD⟩, ⟨nC⟩] EC ED 4 4 = some ([2, 1], 0) := by kernel_rfl
theorem qat : yh.f uZ nD ED 1 2 18 30 = some (2, 3, 0) := by kernel_rfl
theorem qau : yw.f uZ DJ 6 6 DK 3 Ut = some (2, 0) := by kernel_rfl
theorem qeq : Ez.f 2 3 1 exS [10, 14, 17] 2 = some ([0, 1, 1], 0) := by kernel_rfl
theorem Ug : tZ.f 2 3 1 exS [0, 0, 1] = some (exS, 2, 3, 0) := by kernel_rfl
theorem MF : qd.f 2 3 1 exS 1 2 = some (2, 0) := by kernel_rfl
theorem XF : yV.f uZ [] = some (JJ, 0) := by kernel_rfl
theorem XG : bP.f 1000 [⟨8, 15⟩, ⟨6, 6⟩] [⟨8, 15⟩, ⟨6, 6⟩] = some true := by kernel_rfl
theorem XH : eP.f 1000 [2, 1] [2, 1] = some true := by kernel_rfl
theorem XI : gP.f 1000 [0, 1, 1] [0, 1, 1] = some true := by kernel_rfl
theorem XJ : bP.f 1000 exS exS = some true := by kernel_rfl
end Go.Proofs.YtnpfbjnjdngkhaaGreatDoor.P
