/- For every input the law returns true, its arguments read behind the call as before; condition: the listed package-level tables hold what the program's text lays (the card ties them). -/
import Derived.Deep.Slices
import Derived.DataReads
import Derived.ChangeArms
import Derived.WideShapes
import Derived.Test.YtnpfbjnjdngkhaaGreatDoorRows
import Derived.WalkKit
import Derived.ProofKit
import Derived.LaidMore
import Derived.OpenShut
import Derived.ShutString
import Derived.ChangeOld
import Derived.Below
import Derived.Stop.Joined
import Derived.JoinedOf
import Derived.SevenTiedAt
import Derived.Test.YtnpfbjnjdngkhaaGreatDoorTie
import Derived.Test.YtnpfbjnjdngkhaaGreatDoorCards
import Derived.Test.YtnpfbjnjdngkhaaGreatDoorC7
set_option maxHeartbeats 8000000
set_option maxRecDepth 100000
set_option linter.unusedVariables false
set_option linter.unusedSimpArgs false
namespace Go.Proofs.YtnpfbjnjdngkhaaGreatDoor.P
open Go.RowKit Go.Proofs.YtnpfbjnjdngkhaaGreatDoorW.aW Go.Proofs.YtnpfbjnjdngkhaaGreatDoorW.bZ Go.Proofs.YtnpfbjnjdngkhaaGreatDoorW.dh
attribute [local go_sem] fE fF gU gV eX eY fG fH
attribute [local go_sem] Oper.semAt_some
theorem sO (w : World) : Calls Tryz.prog 97 #[] w fun e w' => ∃ A c, e = .returned (.agg #[.slice A uZ.length c]) ∧ uZ.length ≤ c ∧ Kd.C iM w' A uZ.length uZ ∧ Below w.heap.size w w' :=
 (rT.calls uZ w qhu).mono fun e w' h => by
  obtain ⟨v, rfl, ho, hx⟩ := h; obtain ⟨A, c, rfl, hl, hC⟩ := Kd.DV ho; exact ⟨A, c, rfl, hl, hC, hx⟩
theorem Cr (w : World) : Calls Tryz.prog 98 #[] w fun e w' => ∃ A c, e = .returned (.slice A EC.length c) ∧ EC.length ≤ c ∧ Kd.C eT w' A EC.length EC ∧ Below w.heap.size w w' :=
 (rU.calls EC w qhv).mono fun e w' h => by
  obtain ⟨v, rfl, ho, hx⟩ := h; obtain ⟨A, c, rfl, hl, hC⟩ := Kd.fO ho; exact ⟨A, c, rfl, hl, hC, hx⟩
theorem Ct (w : World) : Calls Tryz.prog 100 #[] w fun e w' => ∃ A c, e = .returned (.slice A ED.length c) ∧ ED.length ≤ c ∧ Kd.C eT w' A ED.length ED ∧ Below w.heap.size w w' :=
 (iU.calls ED w qhw).mono fun e w' h => by
  obtain ⟨v, rfl, ho, hx⟩ := h; obtain ⟨A, c, rfl, hl, hC⟩ := Kd.fO ho; exact ⟨A, c, rfl, hl, hC, hx⟩
theorem Dp (w : World) : Calls Tryz.prog 99 #[] w fun e w' => ∃ A c, e = .returned (.agg #[.slice A nC.length c]) ∧ nC.length ≤ c ∧ Kd.C (Kd.int .i64) w' A nC.length nC ∧ Below w.heap.size w w' :=
 (jT.calls nC w qar).mono fun e w' h => by
  obtain ⟨v, rfl, ho, hx⟩ := h; obtain ⟨A, c, rfl, hl, hC⟩ := Kd.fO ho; exact ⟨A, c, rfl, hl, hC, hx⟩
theorem Dq (w : World) : Calls Tryz.prog 101 #[] w fun e w' => ∃ A c, e = .returned (.agg #[.slice A nD.length c]) ∧ nD.length ≤ c ∧ Kd.C (Kd.int .i64) w' A nD.length nD ∧ Below w.heap.size w w' :=
 (jU.calls nD w qas).mono fun e w' h => by
  obtain ⟨v, rfl, ho, hx⟩ := h; obtain ⟨A, c, rfl, hl, hC⟩ := Kd.fO ho; exact ⟨A, c, rfl, hl, hC, hx⟩
theorem Uh (w : World) : Calls Tryz.prog 103 #[] w fun e w' => ∃ A c, e = .returned (.slice A Ut.length c) ∧ Ut.length ≤ c ∧ Kd.C l7 w' A Ut.length Ut ∧ Below w.heap.size w w' :=
 (rW.calls Ut w qhy).mono fun e w' h => by
  obtain ⟨v, rfl, ho, hx⟩ := h; obtain ⟨A, c, rfl, hl, hC⟩ := Kd.DV ho; exact ⟨A, c, rfl, hl, hC, hx⟩
theorem yY (w : World) : Calls Tryz.prog 104 #[] w fun e w' => ∃ A c, e = .returned (.agg #[.int .i64 2, .int .i64 3, .int .i64 1, .slice A exS.length c]) ∧ exS.length ≤ c ∧ Kd.C j3 w' A exS.length exS ∧ Below w.heap.size w w' :=
 (rX.calls 2 3 1 exS w qhz).mono fun e w' h => by
  obtain ⟨v, rfl, ho, hx⟩ := h; obtain ⟨A, c, rfl, hl, hC⟩ := Kd.fO ho; exact ⟨A, c, rfl, hl, hC, hx⟩
def Ui : List Int := [2, 1]
def Uj : List Int := [0, 1, 1]
def Uk : List bT := [⟨8, 15⟩, ⟨6, 6⟩]
theorem Gm (A0 : Option Addr) (c0 : Nat) (A1 : Option Addr) (c1 : Nat) (w : World) (h0 : Kd.C iM w A0 uZ.length uZ) (l0 : uZ.length ≤ c0) (h1 : Kd.C eT w A1 EC.length EC) (l1 : EC.length ≤ c1) :
  Calls Tryz.prog 29 #[.agg #[.slice A0 uZ.length c0], .slice A1 EC.length c1] w fun e w' => ∃ A c, e = .returned (.tuple #[.slice A Uk.length c, .int .i64 0]) ∧ Uk.length ≤ c ∧ Kd.C j3 w' A Uk.length Uk ∧ Below w.heap.size w w' :=
 (dZ.calls 1000 A0 c0 uZ A1 c1 EC Uk 0 w h0 l0 h1 l1 XC).mono fun e w' h => by
  obtain ⟨v, rfl, ho, hx⟩ := h; obtain ⟨A, c, rfl, hl, hC⟩ := Kd.fO ho; exact ⟨A, c, rfl, hl, hC, hx⟩
theorem Gp (A0 : Option Addr) (c0 : Nat) (A1 : Option Addr) (c1 : Nat) (A2 : Option Addr) (c2 : Nat) (A3 : Option Addr) (c3 : Nat) (w : World) (h0 : Kd.C iM w A0 uZ.length uZ) (l0 : uZ.length ≤ c0) (h1 : Kd.C (Kd.int .i64) w A1 nC.length nC) (l1 : nC.length ≤ c1) (h2 : Kd.C eT w A2 EC.length EC) (l2 : EC.length ≤ c2) (h3 : Kd.C eT w A3 ED.length ED) (l3 : ED.length ≤ c3) :
  Calls Tryz.prog 72 #[.agg #[.slice A0 uZ.length c0], .agg #[.slice A1 nC.length c1], .slice A2 EC.length c2, .slice A3 ED.length c3] w fun e w' => e = .returned (.tuple #[.agg #[.int .i64 (-15), .int .i64 (-12)], .int .i64 0]) ∧ Below w.heap.size w w' :=
 vP.calls A0 c0 uZ A1 c1 nC A2 c2 EC A3 c3 ED (-15) (-12) 0 w h0 l0 h1 l1 h2 l2 h3 l3 XD
theorem XK {W : World} {g : Nat} (l : List Int) (h : W.heap[g]? = some (.cells (l.map (Value.int .i64 ·)).toArray 3 (0, 0))) (hl : l.length ≤ 9223372036854775807) : Kd.C (Kd.int .i64) W (some ⟨g, 0, none⟩) l.length l :=
 ⟨rfl, hl, fun _ => ⟨_, rfl, fun j p hj => ⟨[.int .i64 p], rfl, rfl, fun i u hu => by
  cases i with
  | zero =>
   simp at hu; subst hu; rw [Addr.add_mid]; exact (aI h _).trans (by show (l.map (Value.int .i64 ·)).toArray[0 + (j * 1 + 0)]? = _; simp [hj])
  | succ i => simp at hu⟩⟩⟩
theorem Sy {W : World} {g t : Nat} (l : List Int) (h : W.heap[g]? = some (.cells (l.map (Value.int .i64 ·)).toArray t (0, 0))) (hl : l.length ≤ 9223372036854775807) : Kd.C (Kd.int .i64) W (some ⟨g, 0, none⟩) l.length l :=
 ⟨rfl, hl, fun _ => ⟨_, rfl, fun j p hj => ⟨[.int .i64 p], rfl, rfl, fun i u hu => by
  cases i with
  | zero =>
   simp at hu; subst hu; rw [Addr.add_mid]; exact (aI h _).trans (by show (l.map (Value.int .i64 ·)).toArray[0 + (j * 1 + 0)]? = _; simp [hj])
  | succ i => simp at hu⟩⟩⟩
theorem qav {W : World} {g : Nat} (l : List bT) (h : W.heap[g]? = some (.cells (flat l).toArray 37 (0, 0))) (hl : l.length ≤ 1000) : Kd.C j3 W (some ⟨g, 0, none⟩) l.length l := by
 obtain ⟨A, c, e, _, hC⟩ := Kd.fO (XA (base := 0) (Nat.zero_le _) (by omega) h)
 injection e with e1 _ _
 rw [e1]; exact hC
theorem qaw (A0 : Option Addr) (c0 : Nat) (g : Nat) (w : World) (h0 : Kd.C j3 w A0 Uk.length Uk) (l0 : Uk.length ≤ c0) (h : w.heap[g]? = some (.cells #[.int .i64 8, .int .i64 15, .int .i64 6, .int .i64 6] 37 (0, 0))) :
  Calls Tryz.prog 32 #[.slice A0 Uk.length c0, .slice (some ⟨g, 0, none⟩) 2 2] w fun e w' => e = .returned (.bool true) ∧ Below w.heap.size w w' :=
 pK (bP.calls 1000 A0 c0 Uk (some ⟨g, 0, none⟩) 2 Uk true w h0 l0 (qav Uk h (by decide)) (by decide) XG)
theorem qax (A0 : Option Addr) (c0 : Nat) (g : Nat) (w : World) (h0 : Kd.C (Kd.int .i64) w A0 Ui.length Ui) (l0 : Ui.length ≤ c0) (h : w.heap[g]? = some (.cells #[.int .i64 2, .int .i64 1] 88 (0, 0))) :
  Calls Tryz.prog 38 #[.slice A0 Ui.length c0, .slice (some ⟨g, 0, none⟩) 2 2] w fun e w' => e = .returned (.bool true) ∧ Below w.heap.size w w' :=
 pK (eP.calls 1000 A0 c0 Ui (some ⟨g, 0, none⟩) 2 Ui true w h0 l0 (Sy Ui h (by decide)) (by decide) XH)
theorem qay (A0 : Option Addr) (c0 : Nat) (g : Nat) (w : World) (h0 : Kd.C (Kd.int .i64) w A0 Uj.length Uj) (l0 : Uj.length ≤ c0) (h : w.heap[g]? = some (.cells #[.int .i64 0, .int .i64 1, .int .i64 1] 3 (0, 0))) :
  Calls Tryz.prog 65 #[.slice A0 Uj.length c0, .slice (some ⟨g, 0, none⟩) 3 3] w fun e w' => e = .returned (.bool true) ∧ Below w.heap.size w w' :=
 pK (gP.calls 1000 A0 c0 Uj (some ⟨g, 0, none⟩) 3 Uj true w h0 l0 (Sy Uj h (by decide)) (by decide) XI)
theorem qaz (A0 : Option Addr) (c0 : Nat) (A1 : Option Addr) (c1 : Nat) (w : World) (h0 : Kd.C j3 w A0 exS.length exS) (l0 : exS.length ≤ c0) (h1 : Kd.C j3 w A1 exS.length exS) (l1 : exS.length ≤ c1) :
  Calls Tryz.prog 32 #[.slice A0 exS.length c0, .slice A1 exS.length c1] w fun e w' => e = .returned (.bool true) ∧ Below w.heap.size w w' :=
 pK (bP.calls 1000 A0 c0 exS A1 c1 exS true w h0 l0 h1 l1 XJ)
theorem qhB {W : World} {g : Nat} {Ad Aq : Option Addr} {cd cq : Nat} (h : W.heap[g]? = some (.cells #[.slice Ad nD.length cd, .slice Aq nC.length cq] 49 (0, 0))) (h1 : Kd.C (Kd.int .i64) W Ad nD.length nD) (l1 : nD.length ≤ cd) (h2 : Kd.C (Kd.int .i64) W Aq nC.length nC) (l2 : nC.length ≤ cq) : Kd.C ET W (some ⟨g, 0, none⟩) 2 [⟨nD⟩, ⟨nC⟩] := by
 obtain ⟨e0, e1⟩ := qP h; refine ⟨rfl, by decide, fun _ => ⟨_, rfl, fun j p hj => ?_⟩⟩
 match j, hj with
 | 0, hj =>
  simp at hj; subst hj
  exact ⟨[.slice Ad nD.length cd], rfl, Iq W ⟨nD⟩ l1 h1, fun i u hu => by
   cases i with
   | zero => simp at hu; subst hu; rw [Addr.add_mid]; exact e0
   | succ i => simp at hu⟩
 | 1, hj =>
  simp at hj; subst hj
  exact ⟨[.slice Aq nC.length cq], rfl, Iq W ⟨nC⟩ l2 h2, fun i u hu => by
   cases i with
   | zero => simp at hu; subst hu; rw [Addr.add_mid]; exact e1
   | succ i => simp at hu⟩
 | j + 2, hj => simp at hj
theorem Bz (a : Int) (w : World) : Calls Tryz.prog 66 #[.int .i64 a] w fun e w' => e = .returned (.agg #[.int .i64 a, .int .i64 a]) ∧ Below w.heap.size w w' := bH.calls a a a w (by first | rfl | simp [bH.f])
theorem qg (a b : Int) (w : World) : Calls Tryz.prog 67 #[.int .i64 a, .int .i64 b] w fun e w' => e = .returned (.agg #[.int .i64 a, .int .i64 b]) ∧ Below w.heap.size w w' := bL.calls a b a b w (by first | rfl | simp [bL.f])
theorem Gq (A0 : Option Addr) (c0 : Nat) (A1 : Option Addr) (A2 : Option Addr) (c2 : Nat) (A3 : Option Addr) (c3 : Nat) (w : World) (h0 : Kd.C iM w A0 uZ.length uZ) (l0 : uZ.length ≤ c0) (h1 : Kd.C ET w A1 2 [⟨nD⟩, ⟨nC⟩]) (h2 : Kd.C eT w A2 EC.length EC) (l2 : EC.length ≤ c2) (h3 : Kd.C eT w A3 ED.length ED) (l3 : ED.length ≤ c3) :
  Calls Tryz.prog 35 #[.agg #[.slice A0 uZ.length c0], .slice A1 2 2, .slice A2 EC.length c2, .slice A3 ED.length c3, .agg #[.int .i64 4, .int .i64 4]] w fun e w' => ∃ A c, e = .returned (.tuple #[.slice A Ui.length c, .int .i64 0]) ∧ Ui.length ≤ c ∧ Kd.C (Kd.int .i64) w' A Ui.length Ui ∧ Below w.heap.size w w' :=
 (dQ.calls 1000 A0 c0 uZ A1 2 [⟨nD⟩, ⟨nC⟩] A2 c2 EC A3 c3 ED 4 4 Ui 0 w h0 l0 h1 (by decide) h2 l2 h3 l3 XE).mono fun e w' h => by
  obtain ⟨v, rfl, ho, hx⟩ := h; obtain ⟨A, c, rfl, hl, hC⟩ := Kd.fO ho; exact ⟨A, c, rfl, hl, hC, hx⟩
theorem JK (A0 : Option Addr) (c0 : Nat) (A1 : Option Addr) (c1 : Nat) (A2 : Option Addr) (c2 : Nat) (w : World) (h0 : Kd.C iM w A0 uZ.length uZ) (l0 : uZ.length ≤ c0) (h1 : Kd.C (Kd.int .i64) w A1 nD.length nD) (l1 : nD.length ≤ c1) (h2 : Kd.C eT w A2 ED.length ED) (l2 : ED.length ≤ c2) :
  Calls Tryz.prog 40 #[.agg #[.slice A0 uZ.length c0], .agg #[.slice A1 nD.length c1], .slice A2 ED.length c2, .int .i64 1, .int .i64 2, .agg #[.int .i64 18, .int .i64 30]] w fun e w' => e = .returned (.tuple #[.agg #[.int .i64 2, .int .i64 3], .int .i64 0]) ∧ Below w.heap.size w w' :=
 yh.calls A0 c0 uZ A1 c1 nD A2 c2 ED 1 2 18 30 2 3 0 w h0 l0 h1 l1 h2 l2 qat
theorem Ul (w : World) : Calls Tryz.prog 102 #[] w fun e w' => ∃ A c A2 c2, e = .returned (.agg #[.slice A DJ.length c, .int .i64 6, .int .i64 6, .slice A2 DK.length c2, .int .i64 3]) ∧ DJ.length ≤ c ∧ DK.length ≤ c2 ∧ Kd.C ET w' A DJ.length DJ ∧ Kd.C j3 w' A2 DK.length DK ∧ Below w.heap.size w w' :=
 (rV.calls DJ 6 6 DK 3 w qhx).mono fun e w' h => by
  obtain ⟨v, v3, rfl, ho, ho2, hx⟩ := h; obtain ⟨A, c, rfl, hl, hC⟩ := Kd.DV ho; obtain ⟨A2, c2, rfl, hl2, hC2⟩ := Kd.fO ho2; exact ⟨A, c, A2, c2, rfl, hl, hl2, hC, hC2, hx⟩
theorem JL (A0 : Option Addr) (c0 : Nat) (A1 : Option Addr) (c1 : Nat) (A3 : Option Addr) (c3 : Nat) (A2 : Option Addr) (c2 : Nat) (w : World) (h0 : Kd.C iM w A0 uZ.length uZ) (l0 : uZ.length ≤ c0) (h1 : Kd.C ET w A1 DJ.length DJ) (l1 : DJ.length ≤ c1) (h3 : Kd.C j3 w A3 DK.length DK) (l3 : DK.length ≤ c3) (h2 : Kd.C l7 w A2 Ut.length Ut) (l2 : Ut.length ≤ c2) :
  Calls Tryz.prog 48 #[.agg #[.slice A0 uZ.length c0], .agg #[.slice A1 DJ.length c1, .int .i64 6, .int .i64 6, .slice A3 DK.length c3, .int .i64 3], .slice A2 Ut.length c2] w fun e w' => e = .returned (.tuple #[.int .i64 2, .int .i64 0]) ∧ Below w.heap.size w w' :=
 yw.calls A0 c0 uZ A1 c1 DJ 6 6 A3 c3 DK 3 A2 c2 Ut 2 0 w h0 l0 h1 l1 h3 l3 h2 l2 qau
theorem MG (A0 : Option Addr) (c0 : Nat) (A1 : Option Addr) (c1 : Nat) (w : World) (h0 : Kd.C j3 w A0 exS.length exS) (l0 : exS.length ≤ c0) (h1 : Kd.C (Kd.int .i64) w A1 3 [10, 14, 17]) (l1 : 3 ≤ c1 := by decide) :
  Calls Tryz.prog 53 #[.agg #[.int .i64 2, .int .i64 3, .int .i64 1, .slice A0 exS.length c0], .slice A1 3 c1, .int .i64 2] w fun e w' => ∃ A c, e = .returned (.tuple #[.slice A Uj.length c, .int .i64 0]) ∧ Uj.length ≤ c ∧ Kd.C (Kd.int .i64) w' A Uj.length Uj ∧ Below w.heap.size w w' :=
 (Ez.calls 2 3 1 A0 c0 exS A1 c1 [10, 14, 17] 2 Uj 0 w h0 l0 h1 l1 qeq).mono fun e w' h => by
  obtain ⟨v, rfl, ho, hx⟩ := h; obtain ⟨A, c, rfl, hl, hC⟩ := Kd.fO ho; exact ⟨A, c, rfl, hl, hC, hx⟩
theorem F9 (A0 : Option Addr) (c0 : Nat) (A1 : Option Addr) (c1 : Nat) (w : World) (h0 : Kd.C j3 w A0 exS.length exS) (l0 : exS.length ≤ c0) (h1 : Kd.C (Kd.int .i64) w A1 3 [0, 0, 1]) (l1 : 3 ≤ c1 := by decide) :
  Calls Tryz.prog 54 #[.agg #[.int .i64 2, .int .i64 3, .int .i64 1, .slice A0 exS.length c0], .slice A1 3 c1] w fun e w' => ∃ A c, e = .returned (.tuple #[.slice A exS.length c, .agg #[.int .i64 2, .int .i64 3], .int .i64 0]) ∧ exS.length ≤ c ∧ Kd.C j3 w' A exS.length exS ∧ Below w.heap.size w w' :=
 (tZ.calls 2 3 1 A0 c0 exS A1 c1 [0, 0, 1] exS 2 3 0 w h0 l0 h1 l1 Ug).mono fun e w' h => by
  obtain ⟨v, rfl, ho, hx⟩ := h; obtain ⟨A, c, rfl, hl, hC⟩ := Kd.fO ho; exact ⟨A, c, rfl, hl, hC, hx⟩
theorem Cu (A0 : Option Addr) (c0 : Nat) (w : World) (h0 : Kd.C j3 w A0 exS.length exS) (l0 : exS.length ≤ c0) :
  Calls Tryz.prog 64 #[.agg #[.int .i64 2, .int .i64 3, .int .i64 1, .slice A0 exS.length c0], .int .i64 1, .int .i64 2] w fun e w' => e = .returned (.tuple #[.int .i64 2, .int .i64 0]) ∧ Below w.heap.size w w' :=
 qd.calls 2 3 1 A0 c0 exS 1 2 2 0 w h0 l0 MF
theorem Gs (A0 : Option Addr) (c0 : Nat) (w : World) (h0 : Kd.C iM w A0 uZ.length uZ) (l0 : uZ.length ≤ c0) :
  Calls Tryz.prog 60 #[.agg #[.slice A0 uZ.length c0], .slice none 0 0] w fun e w' => e = .returned (.tuple #[.string JJ, .int .i64 0]) ∧ Below w.heap.size w w' :=
 yV.calls A0 c0 uZ none 0 [] JJ 0 w h0 l0 (Kd.PG _ _) (Nat.le_refl _) XF
theorem MH (w : World) : Calls Tryz.prog 28 #[] w fun e w' => e = .returned (.bool true) ∧ Below w.heap.size w w' := by
 have HX := Bx.nil w; have kg := Tryz.underlying37
 go_enter Tryz.func28, Tryz.ntmps28
 go_wp2_with (first | fail)
 refine (sO _).mono ?_; rintro e w1 ⟨Ah1, Gj, rfl, qm6, hC, hx⟩; replace HX := HX.step hx; clear hx; have Hh1 := aj.mk hC; clear hC
 go_wp2_with (first | fail)
 refine (Cr _).mono ?_; rintro e w1 ⟨Aa1, ca1, rfl, qm7, hC, hx⟩; replace HX := HX.step hx; replace Hh1 := aj.mk (Kd.ak Hh1.out hx); clear hx; have Ha1 := aj.mk hC; clear hC
 go_wp2_with (first | fail)
 refine (Gm _ _ _ _ _ Hh1.out qm6 Ha1.out qm7).mono ?_; rintro e w1 ⟨Ak1, ck1, rfl, qm8, hC, hx⟩; replace HX := HX.step hx; replace Hh1 := aj.mk (Kd.ak Hh1.out hx); replace Ha1 := aj.mk (Kd.ak Ha1.out hx); clear hx; have jI := aj.mk hC; clear hC; clear Hh1; clear Ha1
 go_wp2_with (first | fail)
 refine (sO _).mono ?_; rintro e w1 ⟨Ah2, KT, rfl, qm9, hC, hx⟩; replace HX := HX.step hx; replace jI := aj.mk (Kd.ak jI.out hx); clear hx; have X0 := aj.mk hC; clear hC
 go_wp2_with (first | fail)
 refine (Dp _).mono ?_; rintro e w1 ⟨Ag2, cg2, rfl, qna, hC, hx⟩; replace HX := HX.step hx; replace jI := aj.mk (Kd.ak jI.out hx); replace X0 := aj.mk (Kd.ak X0.out hx); clear hx; have Hg2 := aj.mk hC; clear hC
 go_wp2_with (first | fail)
 refine (Cr _).mono ?_; rintro e w1 ⟨Aa2, ca2, rfl, qnb, hC, hx⟩; replace HX := HX.step hx; replace jI := aj.mk (Kd.ak jI.out hx); replace X0 := aj.mk (Kd.ak X0.out hx); replace Hg2 := aj.mk (Kd.ak Hg2.out hx); clear hx; have Ha2 := aj.mk hC; clear hC
 go_wp2_with (first | fail)
 refine (Ct _).mono ?_; rintro e w1 ⟨Ab2, cb2, rfl, qnc, hC, hx⟩; replace HX := HX.step hx; replace jI := aj.mk (Kd.ak jI.out hx); replace X0 := aj.mk (Kd.ak X0.out hx); replace Hg2 := aj.mk (Kd.ak Hg2.out hx); replace Ha2 := aj.mk (Kd.ak Ha2.out hx); clear hx; have Hb2 := aj.mk hC; clear hC
 go_wp2_with (first | fail)
 refine (Gp _ _ _ _ _ _ _ _ _ X0.out qm9 Hg2.out qna Ha2.out qnb Hb2.out qnc).mono ?_; rintro e w1 ⟨rfl, hx⟩; replace HX := HX.step hx; replace jI := aj.mk (Kd.ak jI.out hx); replace X0 := aj.mk (Kd.ak X0.out hx); replace Hg2 := aj.mk (Kd.ak Hg2.out hx); replace Ha2 := aj.mk (Kd.ak Ha2.out hx); replace Hb2 := aj.mk (Kd.ak Hb2.out hx); clear hx; clear X0; clear Hg2; clear Ha2; clear Hb2
 go_wp2_with (first | fail | ((with_reducible refine av (N := 3) rfl ?_); refine newX rfl rfl HX (cs := #[.int .i64 0, .int .i64 0]) (t := 37) tG ?_; clear HX; intro g3 w3 HX hy hz) | ((with_reducible refine bE (t := 37) (p := 3) rfl ?_); refine kL rfl rfl rfl HX 0 rfl (i := 0) (.agg #[.int .i64 (-15), .int .i64 (-12)]) [.int .i64 (-15), .int .i64 (-12)] #[.int .i64 (-15), .int .i64 (-12)] rfl rfl rfl tX (by simp) (by simp [Value.oneCell']) rfl ?_; clear HX; intro w9 HX hg; dsimp only [List.set] at HX; have hx := (stepG ⟨hy⟩ hg ⟨hz⟩).out; replace jI := aj.mk (Kd.ak jI.out hx); clear hx hy hz hg))
 refine (sO _).mono ?_; rintro e w1 ⟨Ah3, ch3, rfl, qnd, hC, hx⟩; replace HX := HX.step hx; replace jI := aj.mk (Kd.ak jI.out hx); clear hx; have MV := aj.mk hC; clear hC
 go_wp2_with (first | fail)
 refine (Dq _).mono ?_; rintro e w1 ⟨Ad3, vY, rfl, qne, hC, hx⟩; replace HX := HX.step hx; replace jI := aj.mk (Kd.ak jI.out hx); replace MV := aj.mk (Kd.ak MV.out hx); clear hx; have Sz := aj.mk hC; clear hC
 go_wp2_with (first | fail)
 refine (Dp _).mono ?_; rintro e w1 ⟨Aq3, cq3, rfl, qnf, hC, hx⟩; replace HX := HX.step hx; replace jI := aj.mk (Kd.ak jI.out hx); replace MV := aj.mk (Kd.ak MV.out hx); replace Sz := aj.mk (Kd.ak Sz.out hx); clear hx; have Uu := aj.mk hC; clear hC
 go_wp2_with (first | fail | ((with_reducible refine av (N := 38) rfl ?_); refine wS rfl rfl HX (ob := .cells #[.slice Ad3 nD.length vY, .slice Aq3 nC.length cq3] 49 (0, 0)) (fun g => .slice (some ⟨g, 0, none⟩) 2 2) tG ?_; clear HX; intro gl3 y9 HX hx hz; replace jI := aj.mk (Kd.ak jI.out hx); replace MV := aj.mk (Kd.ak MV.out hx); replace Sz := aj.mk (Kd.ak Sz.out hx); replace Uu := aj.mk (Kd.ak Uu.out hx); clear hx hz))
 refine (Cr _).mono ?_; rintro e w1 ⟨Aa3, ca3, rfl, qng, hC, hx⟩; replace HX := HX.step hx; replace jI := aj.mk (Kd.ak jI.out hx); replace MV := aj.mk (Kd.ak MV.out hx); replace Sz := aj.mk (Kd.ak Sz.out hx); replace Uu := aj.mk (Kd.ak Uu.out hx); clear hx; have Ha3 := aj.mk hC; clear hC
 go_wp2_with (first | fail)
 refine (Ct _).mono ?_; rintro e w1 ⟨Ab3, cb3, rfl, qnh, hC, hx⟩; replace HX := HX.step hx; replace jI := aj.mk (Kd.ak jI.out hx); replace MV := aj.mk (Kd.ak MV.out hx); replace Sz := aj.mk (Kd.ak Sz.out hx); replace Uu := aj.mk (Kd.ak Uu.out hx); replace Ha3 := aj.mk (Kd.ak Ha3.out hx); clear hx; have Hb3 := aj.mk hC; clear hC
 go_wp2_with (first | fail)
 refine (Bz 4 _).mono ?_; rintro e w1 ⟨rfl, hx⟩; replace HX := HX.step hx; replace jI := aj.mk (Kd.ak jI.out hx); replace MV := aj.mk (Kd.ak MV.out hx); replace Sz := aj.mk (Kd.ak Sz.out hx); replace Uu := aj.mk (Kd.ak Uu.out hx); replace Ha3 := aj.mk (Kd.ak Ha3.out hx); replace Hb3 := aj.mk (Kd.ak Hb3.out hx); clear hx
 go_wp2_with (first | fail)
 refine (Gq _ _ _ _ _ _ _ _ MV.out qnd (qhB (HX.gb 0 rfl) Sz.out qne Uu.out qnf) Ha3.out qng Hb3.out qnh).mono ?_; rintro e w1 ⟨Ak2, ck2, rfl, hlk2, hC, hx⟩; replace HX := HX.step hx; replace jI := aj.mk (Kd.ak jI.out hx); replace MV := aj.mk (Kd.ak MV.out hx); replace Sz := aj.mk (Kd.ak Sz.out hx); replace Uu := aj.mk (Kd.ak Uu.out hx); replace Ha3 := aj.mk (Kd.ak Ha3.out hx); replace Hb3 := aj.mk (Kd.ak Hb3.out hx); clear hx; have mW := aj.mk hC; clear hC; clear MV; clear Sz; clear Uu; clear Ha3; clear Hb3
 go_wp2_with (first | fail)
 refine (sO _).mono ?_; rintro e w1 ⟨Ah4, ch4, rfl, qni, hC, hx⟩; replace HX := HX.step hx; replace jI := aj.mk (Kd.ak jI.out hx); replace mW := aj.mk (Kd.ak mW.out hx); clear hx; have X3 := aj.mk hC; clear hC
 go_wp2_with (first | fail)
 refine (Dq _).mono ?_; rintro e w1 ⟨Ad4, wQ, rfl, qnj, hC, hx⟩; replace HX := HX.step hx; replace jI := aj.mk (Kd.ak jI.out hx); replace mW := aj.mk (Kd.ak mW.out hx); replace X3 := aj.mk (Kd.ak X3.out hx); clear hx; have Hd4 := aj.mk hC; clear hC
 go_wp2_with (first | fail)
 refine (Ct _).mono ?_; rintro e w1 ⟨Ab4, cb4, rfl, qnk, hC, hx⟩; replace HX := HX.step hx; replace jI := aj.mk (Kd.ak jI.out hx); replace mW := aj.mk (Kd.ak mW.out hx); replace X3 := aj.mk (Kd.ak X3.out hx); replace Hd4 := aj.mk (Kd.ak Hd4.out hx); clear hx; have Hb4 := aj.mk hC; clear hC
 go_wp2_with (first | fail)
 refine (qg 18 30 _).mono ?_; rintro e w1 ⟨rfl, hx⟩; replace HX := HX.step hx; replace jI := aj.mk (Kd.ak jI.out hx); replace mW := aj.mk (Kd.ak mW.out hx); replace X3 := aj.mk (Kd.ak X3.out hx); replace Hd4 := aj.mk (Kd.ak Hd4.out hx); replace Hb4 := aj.mk (Kd.ak Hb4.out hx); clear hx
 go_wp2_with (first | fail)
 refine (JK _ _ _ _ _ _ _ X3.out qni Hd4.out qnj Hb4.out qnk).mono ?_; rintro e w1 ⟨rfl, hx⟩; replace HX := HX.step hx; replace jI := aj.mk (Kd.ak jI.out hx); replace mW := aj.mk (Kd.ak mW.out hx); replace X3 := aj.mk (Kd.ak X3.out hx); replace Hd4 := aj.mk (Kd.ak Hd4.out hx); replace Hb4 := aj.mk (Kd.ak Hb4.out hx); clear hx; clear X3; clear Hd4; clear Hb4
 go_wp2_with (first | fail | ((with_reducible refine av (N := 7) rfl ?_); refine newX rfl rfl HX (cs := #[.int .i64 0, .int .i64 0]) (t := 37) tG ?_; clear HX; intro g7 w7 HX hy hz) | ((with_reducible refine bE (t := 37) (p := 7) rfl ?_); refine kL rfl rfl rfl HX 0 rfl (i := 0) (.agg #[.int .i64 2, .int .i64 3]) [.int .i64 2, .int .i64 3] #[.int .i64 2, .int .i64 3] rfl rfl rfl tX (by simp) (by simp [Value.oneCell']) rfl ?_; clear HX; intro w9 HX hg; dsimp only [List.set] at HX; have hx := (stepG ⟨hy⟩ hg ⟨hz⟩).out; replace jI := aj.mk (Kd.ak jI.out hx); replace mW := aj.mk (Kd.ak mW.out hx); clear hx hy hz hg))
 refine (sO _).mono ?_; rintro e w1 ⟨Ah5, ch5, rfl, qnl, hC, hx⟩; replace HX := HX.step hx; replace jI := aj.mk (Kd.ak jI.out hx); replace mW := aj.mk (Kd.ak mW.out hx); clear hx; have Hh5 := aj.mk hC; clear hC
 go_wp2_with (first | fail)
 refine (Ul _).mono ?_; rintro e w1 ⟨Ac5, cc5, Ae5, ce5, rfl, qnm, qnn, hC, hC2, hx⟩; replace HX := HX.step hx; replace jI := aj.mk (Kd.ak jI.out hx); replace mW := aj.mk (Kd.ak mW.out hx); replace Hh5 := aj.mk (Kd.ak Hh5.out hx); clear hx; have Hc5 := aj.mk hC; have He5 := aj.mk hC2; clear hC hC2
 go_wp2_with (first | fail)
 refine (Uh _).mono ?_; rintro e w1 ⟨Al5, cl5, rfl, qnp, hC, hx⟩; replace HX := HX.step hx; replace jI := aj.mk (Kd.ak jI.out hx); replace mW := aj.mk (Kd.ak mW.out hx); replace Hh5 := aj.mk (Kd.ak Hh5.out hx); replace Hc5 := aj.mk (Kd.ak Hc5.out hx); replace He5 := aj.mk (Kd.ak He5.out hx); clear hx; have Hl5 := aj.mk hC; clear hC
 go_wp2_with (first | fail)
 refine (JL _ _ _ _ _ _ _ _ _ Hh5.out qnl Hc5.out qnm He5.out qnn Hl5.out qnp).mono ?_; rintro e w1 ⟨rfl, hx⟩; replace HX := HX.step hx; replace jI := aj.mk (Kd.ak jI.out hx); replace mW := aj.mk (Kd.ak mW.out hx); replace Hh5 := aj.mk (Kd.ak Hh5.out hx); replace Hc5 := aj.mk (Kd.ak Hc5.out hx); replace He5 := aj.mk (Kd.ak He5.out hx); replace Hl5 := aj.mk (Kd.ak Hl5.out hx); clear hx; clear Hh5; clear Hc5; clear He5; clear Hl5
 go_wp2_with (first | fail)
 refine (yY _).mono ?_; rintro e w1 ⟨As6, cs6, rfl, qnq, hC, hx⟩; replace HX := HX.step hx; replace jI := aj.mk (Kd.ak jI.out hx); replace mW := aj.mk (Kd.ak mW.out hx); clear hx; have Hs6 := aj.mk hC; clear hC
 go_wp2_with (first | fail | ((with_reducible refine av (N := 62) rfl ?_); refine wS rfl rfl HX (ob := .cells #[.int .i64 10, .int .i64 14, .int .i64 17] 3 (0, 0)) (fun g => .slice (some ⟨g, 0, none⟩) 3 3) tG ?_; clear HX; intro gl6 y9 HX hx hz; replace jI := aj.mk (Kd.ak jI.out hx); replace mW := aj.mk (Kd.ak mW.out hx); replace Hs6 := aj.mk (Kd.ak Hs6.out hx); clear hx hz))
 refine (MG _ _ _ _ _ Hs6.out qnq (XK [10, 14, 17] (HX.gb 0 rfl) (by decide))).mono ?_; rintro e w1 ⟨Ak3, ck3, rfl, qnr, hC, hx⟩; replace HX := HX.step hx; replace jI := aj.mk (Kd.ak jI.out hx); replace mW := aj.mk (Kd.ak mW.out hx); replace Hs6 := aj.mk (Kd.ak Hs6.out hx); clear hx; have uf := aj.mk hC; clear hC; clear Hs6
 go_wp2_with (first | fail)
 refine (yY _).mono ?_; rintro e w1 ⟨As7, cs7, rfl, qns, hC, hx⟩; replace HX := HX.step hx; replace jI := aj.mk (Kd.ak jI.out hx); replace mW := aj.mk (Kd.ak mW.out hx); replace uf := aj.mk (Kd.ak uf.out hx); clear hx; have Hs7 := aj.mk hC; clear hC
 go_wp2_with (first | fail | ((with_reducible refine av (N := 68) rfl ?_); refine wS rfl rfl HX (ob := .cells #[.int .i64 0, .int .i64 0, .int .i64 1] 3 (0, 0)) (fun g => .slice (some ⟨g, 0, none⟩) 3 3) tG ?_; clear HX; intro gl7 y9 HX hx hz; replace jI := aj.mk (Kd.ak jI.out hx); replace mW := aj.mk (Kd.ak mW.out hx); replace uf := aj.mk (Kd.ak uf.out hx); replace Hs7 := aj.mk (Kd.ak Hs7.out hx); clear hx hz))
 refine (F9 _ _ _ _ _ Hs7.out qns (XK [0, 0, 1] (HX.gb 0 rfl) (by decide))).mono ?_; rintro e w1 ⟨Ak4, ck4, rfl, qnt, hC, hx⟩; replace HX := HX.step hx; replace jI := aj.mk (Kd.ak jI.out hx); replace mW := aj.mk (Kd.ak mW.out hx); replace uf := aj.mk (Kd.ak uf.out hx); replace Hs7 := aj.mk (Kd.ak Hs7.out hx); clear hx; have vW := aj.mk hC; clear hC; clear Hs7
 go_wp2_with (first | fail | ((with_reducible refine av (N := 14) rfl ?_); refine newX rfl rfl HX (cs := #[.int .i64 0, .int .i64 0]) (t := 37) tG ?_; clear HX; intro g14 Uo HX hy hz) | ((with_reducible refine bE (t := 37) (p := 14) rfl ?_); refine kL rfl rfl rfl HX 0 rfl (i := 0) (.agg #[.int .i64 2, .int .i64 3]) [.int .i64 2, .int .i64 3] #[.int .i64 2, .int .i64 3] rfl rfl rfl tX (by simp) (by simp [Value.oneCell']) rfl ?_; clear HX; intro w9 HX hg; dsimp only [List.set] at HX; have hx := (stepG ⟨hy⟩ hg ⟨hz⟩).out; replace jI := aj.mk (Kd.ak jI.out hx); replace mW := aj.mk (Kd.ak mW.out hx); replace uf := aj.mk (Kd.ak uf.out hx); replace vW := aj.mk (Kd.ak vW.out hx); clear hx hy hz hg))
 refine (yY _).mono ?_; rintro e w1 ⟨As8, cs8, rfl, qnu, hC, hx⟩; replace HX := HX.step hx; replace jI := aj.mk (Kd.ak jI.out hx); replace mW := aj.mk (Kd.ak mW.out hx); replace uf := aj.mk (Kd.ak uf.out hx); replace vW := aj.mk (Kd.ak vW.out hx); clear hx; have Hs8 := aj.mk hC; clear hC
 go_wp2_with (first | fail)
 refine (Cu _ _ _ Hs8.out qnu).mono ?_; rintro e w1 ⟨rfl, hx⟩; replace HX := HX.step hx; replace jI := aj.mk (Kd.ak jI.out hx); replace mW := aj.mk (Kd.ak mW.out hx); replace uf := aj.mk (Kd.ak uf.out hx); replace vW := aj.mk (Kd.ak vW.out hx); replace Hs8 := aj.mk (Kd.ak Hs8.out hx); clear hx; clear Hs8
 go_wp2_with (first | fail)
 refine (sO _).mono ?_; rintro e w1 ⟨Ah9, ch9, rfl, qnv, hC, hx⟩; replace HX := HX.step hx; replace jI := aj.mk (Kd.ak jI.out hx); replace mW := aj.mk (Kd.ak mW.out hx); replace uf := aj.mk (Kd.ak uf.out hx); replace vW := aj.mk (Kd.ak vW.out hx); clear hx; have Hh9 := aj.mk hC; clear hC
 go_wp2_with (first | fail)
 refine (Gs _ _ _ Hh9.out qnv).mono ?_; rintro e w1 ⟨rfl, hx⟩; replace HX := HX.step hx; replace jI := aj.mk (Kd.ak jI.out hx); replace mW := aj.mk (Kd.ak mW.out hx); replace uf := aj.mk (Kd.ak uf.out hx); replace vW := aj.mk (Kd.ak vW.out hx); replace Hh9 := aj.mk (Kd.ak Hh9.out hx); clear hx; clear Hh9
 go_wp2_with (first | fail)
 have hxd := fJ (Below.refl w1.heap.size w1); refine j6 (n := 26) (S := fun w' => w'.cell? ⟨g3, 0, none⟩ = some (.int .i64 (-15)) ∧ w'.cell? ⟨g3, 1, none⟩ = some (.int .i64 (-12)) ∧ w'.cell? ⟨g7, 0, none⟩ = some (.int .i64 2) ∧ w'.cell? ⟨g7, 1, none⟩ = some (.int .i64 3)) (ds := []) #[false, false, false, false, false, false, false, false, false, false, false, false, false, false, false, false, false, false, false, false, false, false, false, false, false, false] tX rfl rfl ⟨(HX.g2 5 rfl).1, (HX.g2 5 rfl).2, (HX.g2 3 rfl).1, (HX.g2 3 rfl).2⟩ (fun hHeld => ?_); replace HX := HX.step hxd; replace jI := aj.mk (Kd.ak jI.out hxd); replace mW := aj.mk (Kd.ak mW.out hxd); replace uf := aj.mk (Kd.ak uf.out hxd); replace vW := aj.mk (Kd.ak vW.out hxd); clear hxd
 generalize w1.drew = w2 at *
 refine aH (i := 0) (N := some 117) (v := ?_) (a' := ?_) (bA 26 1) rfl rfl tX (fun _ _ _ h => h) (Or.inl ⟨by rfl, ?_⟩) ?_ ?_; rotate_left
 ·intro w'
  go_simp
  with_reducible rfl
 rotate_left
 ·simp only [Act.put, sL, ay, aA]
  rfl
 refine gI (i := 1) (N := some 118) (bA 26 3) rfl rfl tX (by decide) (fun K hK => ?_); refine fP Tryz.func67 tX rfl #[.int .i64 8, .int .i64 15] (by rfl) rfl rfl (by (try simp only [List.map_toArray, List.map_cons, List.map_nil]); first | done | rfl) ?_; refine (qg 8 15 _).mono ?_; rintro e w1 ⟨rfl, hx⟩; refine ⟨_, rfl, ?_⟩; replace HX := HX.step hx; replace jI := aj.mk (Kd.ak jI.out hx); replace mW := aj.mk (Kd.ak mW.out hx); replace uf := aj.mk (Kd.ak uf.out hx); replace vW := aj.mk (Kd.ak vW.out hx); clear hx; refine hK.out _ _ ⟨(HX.g2 5 rfl).1, (HX.g2 5 rfl).2, (HX.g2 3 rfl).1, (HX.g2 3 rfl).2⟩ (fun hHeld => ?_); clear hK K; refine dw (a' := ?_) ?_ ?_; rotate_left
 ·show Act.put _ (some 118) _ = _
  simp only [cu, Act.put, sL, ay, aA]
  rfl
 refine gI (i := 2) (N := some 119) (bA 26 7) rfl rfl tX (by decide) (fun K hK => ?_); refine fP Tryz.func66 tX rfl #[.int .i64 6] (by rfl) rfl rfl (by (try simp only [List.map_toArray, List.map_cons, List.map_nil]); first | done | rfl) ?_; refine (Bz 6 _).mono ?_; rintro e w1 ⟨rfl, hx⟩; refine ⟨_, rfl, ?_⟩; replace HX := HX.step hx; replace jI := aj.mk (Kd.ak jI.out hx); replace mW := aj.mk (Kd.ak mW.out hx); replace uf := aj.mk (Kd.ak uf.out hx); replace vW := aj.mk (Kd.ak vW.out hx); clear hx; refine hK.out _ _ ⟨(HX.g2 5 rfl).1, (HX.g2 5 rfl).2, (HX.g2 3 rfl).1, (HX.g2 3 rfl).2⟩ (fun hHeld => ?_); clear hK K; refine dw (a' := ?_) ?_ ?_; rotate_left
 ·show Act.put _ (some 119) _ = _
  simp only [cu, Act.put, sL, ay, aA]
  rfl
 refine gI (i := 3) (N := some 120) (bA 26 15) rfl rfl tX (by decide) (fun K hK => ?_); refine qo (by rfl) (v := .slice (some ⟨w1.heap.size, 0, none⟩) 2 2) (w1 := w1.alloc (.cells #[.int .i64 8, .int .i64 15, .int .i64 6, .int .i64 6] 37 (0, 0))) tG ?_; have hx := fU (Below.refl w1.heap.size w1) (.cells #[.int .i64 8, .int .i64 15, .int .i64 6, .int .i64 6] 37 (0, 0)); replace HX := HX.add (Nat.le_refl _) hx (uo w1 _); replace jI := aj.mk (Kd.ak jI.out hx); replace mW := aj.mk (Kd.ak mW.out hx); replace uf := aj.mk (Kd.ak uf.out hx); replace vW := aj.mk (Kd.ak vW.out hx); clear hx; refine hK.out _ _ ⟨(HX.g2 6 rfl).1, (HX.g2 6 rfl).2, (HX.g2 4 rfl).1, (HX.g2 4 rfl).2⟩ (fun hHeld => ?_); clear hK K
 generalize w1.alloc (.cells #[.int .i64 8, .int .i64 15, .int .i64 6, .int .i64 6] 37 (0, 0)) = w3 at *
 generalize w1.heap.size = gb1 at *
 refine dw (a' := ?_) ?_ ?_; rotate_left
 ·show Act.put _ (some 120) _ = _
  simp only [cu, Act.put, sL, ay, aA]
  rfl
 refine gI (i := 4) (N := some 121) (bA 26 31) rfl rfl tX (by decide) (fun K hK => ?_); refine fP Tryz.func32 tX rfl #[.slice Ak1 Uk.length ck1, .slice (some ⟨gb1, 0, none⟩) 2 2] (by rfl) rfl rfl (by (try simp only [List.map_toArray, List.map_cons, List.map_nil]); first | done | rfl) ?_; refine (qaw _ _ _ _ jI.out qm8 (HX.gb 0 rfl)).mono ?_; rintro e w1 ⟨rfl, hx⟩; refine ⟨_, rfl, ?_⟩; replace HX := HX.step hx; replace jI := aj.mk (Kd.ak jI.out hx); replace mW := aj.mk (Kd.ak mW.out hx); replace uf := aj.mk (Kd.ak uf.out hx); replace vW := aj.mk (Kd.ak vW.out hx); clear hx; refine hK.out _ _ ⟨(HX.g2 6 rfl).1, (HX.g2 6 rfl).2, (HX.g2 4 rfl).1, (HX.g2 4 rfl).2⟩ (fun hHeld => ?_); clear hK K; refine dw (a' := ?_) ?_ ?_; rotate_left
 ·show Act.put _ (some 121) _ = _
  simp only [cu, Act.put, sL, ay, aA]
  rfl
 refine aH (i := 5) (N := some 122) (v := ?_) (a' := ?_) (bA 26 63) rfl rfl tX (fun _ _ _ h => h) (Or.inl ⟨by rfl, ?_⟩) ?_ ?_; rotate_left
 ·intro w'
  go_simp
  with_reducible rfl
 rotate_left
 ·simp only [Act.put, sL, ay, aA]
  rfl
 refine aH (i := 6) (N := some 123) (v := ?_) (a' := ?_) (bA 26 127) rfl rfl tX (fun _ _ _ h => h) (Or.inl ⟨by rfl, ?_⟩) ?_ ?_; rotate_left
 ·intro w'
  go_simp
  with_reducible rfl
 rotate_left
 ·simp only [Act.put, sL, ay, aA]
  rfl
 refine fC (i := 7) (N := some 124) (v := ?_) (a' := ?_) (bA 26 255) rfl rfl tX (fun _ _ _ h => h) (Or.inl ⟨by rfl, ?_⟩) hHeld ?_ ?_; rotate_left
 ·rintro w' ⟨s0, s1, s2, s3⟩
  go_simp
  with_reducible rfl
 rotate_left
 ·simp only [Act.put, sL, ay, aA]
  rfl
 refine gI (i := 8) (N := some 125) (bA 26 511) rfl rfl tX (by decide) (fun K hK => ?_); refine fP Tryz.func67 tX rfl #[.int .i64 (-15), .int .i64 (-12)] (by rfl) rfl rfl (by (try simp only [List.map_toArray, List.map_cons, List.map_nil]); first | done | rfl) ?_; refine (qg (-15) (-12) _).mono ?_; rintro e w1 ⟨rfl, hx⟩; refine ⟨_, rfl, ?_⟩; replace HX := HX.step hx; replace jI := aj.mk (Kd.ak jI.out hx); replace mW := aj.mk (Kd.ak mW.out hx); replace uf := aj.mk (Kd.ak uf.out hx); replace vW := aj.mk (Kd.ak vW.out hx); clear hx; refine hK.out _ _ ⟨(HX.g2 6 rfl).1, (HX.g2 6 rfl).2, (HX.g2 4 rfl).1, (HX.g2 4 rfl).2⟩ (fun hHeld => ?_); clear hK K; refine dw (a' := ?_) ?_ ?_; rotate_left
 ·show Act.put _ (some 125) _ = _
  simp only [cu, Act.put, sL, ay, aA]
  rfl
 refine aH (i := 9) (N := some 126) (v := ?_) (a' := ?_) (bA 26 1023) rfl rfl tX (fun _ _ _ h => h) (Or.inl ⟨by rfl, ?_⟩) ?_ ?_; rotate_left
 ·intro w'
  go_simp
  with_reducible rfl
 rotate_left
 ·simp only [Act.put, sL, ay, aA]
  rfl
 refine aH (i := 10) (N := some 127) (v := ?_) (a' := ?_) (bA 26 2047) rfl rfl tX (fun _ _ _ h => h) (Or.inl ⟨by rfl, ?_⟩) ?_ ?_; rotate_left
 ·intro w'
  go_simp
  with_reducible rfl
 rotate_left
 ·simp only [Act.put, sL, ay, aA]
  rfl
 refine aH (i := 11) (N := some 128) (v := ?_) (a' := ?_) (bA 26 4095) rfl rfl tX (fun _ _ _ h => h) (Or.inl ⟨by rfl, ?_⟩) ?_ ?_; rotate_left
 ·intro w'
  go_simp
  with_reducible rfl
 rotate_left
 ·simp only [Act.put, sL, ay, aA]
  rfl
 refine aH (i := 12) (N := some 129) (v := ?_) (a' := ?_) (bA 26 8191) rfl rfl tX (fun _ _ _ h => h) (Or.inl ⟨by rfl, ?_⟩) ?_ ?_; rotate_left
 ·intro w'
  go_simp
  with_reducible rfl
 rotate_left
 ·simp only [Act.put, sL, ay, aA]
  rfl
 refine gI (i := 13) (N := some 130) (bA 26 16383) rfl rfl tX (by decide) (fun K hK => ?_); refine qo (by rfl) (v := .slice (some ⟨w1.heap.size, 0, none⟩) 2 2) (w1 := w1.alloc (.cells #[.int .i64 2, .int .i64 1] 88 (0, 0))) tG ?_; have hx := fU (Below.refl w1.heap.size w1) (.cells #[.int .i64 2, .int .i64 1] 88 (0, 0)); replace HX := HX.add (Nat.le_refl _) hx (uo w1 _); replace jI := aj.mk (Kd.ak jI.out hx); replace mW := aj.mk (Kd.ak mW.out hx); replace uf := aj.mk (Kd.ak uf.out hx); replace vW := aj.mk (Kd.ak vW.out hx); clear hx; refine hK.out _ _ ⟨(HX.g2 7 rfl).1, (HX.g2 7 rfl).2, (HX.g2 5 rfl).1, (HX.g2 5 rfl).2⟩ (fun hHeld => ?_); clear hK K
 generalize w1.alloc (.cells #[.int .i64 2, .int .i64 1] 88 (0, 0)) = w3 at *
 generalize w1.heap.size = gb2 at *
 refine dw (a' := ?_) ?_ ?_; rotate_left
 ·show Act.put _ (some 130) _ = _
  simp only [cu, Act.put, sL, ay, aA]
  rfl
 refine gI (i := 14) (N := some 131) (bA 26 32767) rfl rfl tX (by decide) (fun K hK => ?_); refine fP Tryz.func38 tX rfl #[.slice Ak2 Ui.length ck2, .slice (some ⟨gb2, 0, none⟩) 2 2] (by rfl) rfl rfl (by (try simp only [List.map_toArray, List.map_cons, List.map_nil]); first | done | rfl) ?_; refine (qax _ _ _ _ mW.out hlk2 (HX.gb 0 rfl)).mono ?_; rintro e w1 ⟨rfl, hx⟩; refine ⟨_, rfl, ?_⟩; replace HX := HX.step hx; replace jI := aj.mk (Kd.ak jI.out hx); replace mW := aj.mk (Kd.ak mW.out hx); replace uf := aj.mk (Kd.ak uf.out hx); replace vW := aj.mk (Kd.ak vW.out hx); clear hx; refine hK.out _ _ ⟨(HX.g2 7 rfl).1, (HX.g2 7 rfl).2, (HX.g2 5 rfl).1, (HX.g2 5 rfl).2⟩ (fun hHeld => ?_); clear hK K; refine dw (a' := ?_) ?_ ?_; rotate_left
 ·show Act.put _ (some 131) _ = _
  simp only [cu, Act.put, sL, ay, aA]
  rfl
 refine aH (i := 15) (N := some 132) (v := ?_) (a' := ?_) (bA 26 65535) rfl rfl tX (fun _ _ _ h => h) (Or.inl ⟨by rfl, ?_⟩) ?_ ?_; rotate_left
 ·intro w'
  go_simp
  with_reducible rfl
 rotate_left
 ·simp only [Act.put, sL, ay, aA]
  rfl
 refine aH (i := 16) (N := some 133) (v := ?_) (a' := ?_) (bA 26 131071) rfl rfl tX (fun _ _ _ h => h) (Or.inl ⟨by rfl, ?_⟩) ?_ ?_; rotate_left
 ·intro w'
  go_simp
  with_reducible rfl
 rotate_left
 ·simp only [Act.put, sL, ay, aA]
  rfl
 refine aH (i := 17) (N := some 134) (v := ?_) (a' := ?_) (bA 26 262143) rfl rfl tX (fun _ _ _ h => h) (Or.inl ⟨by rfl, ?_⟩) ?_ ?_; rotate_left
 ·intro w'
  go_simp
  with_reducible rfl
 rotate_left
 ·simp only [Act.put, sL, ay, aA]
  rfl
 refine fC (i := 18) (N := some 135) (v := ?_) (a' := ?_) (bA 26 524287) rfl rfl tX (fun _ _ _ h => h) (Or.inl ⟨by rfl, ?_⟩) hHeld ?_ ?_; rotate_left
 ·rintro w' ⟨s0, s1, s2, s3⟩
  go_simp
  with_reducible rfl
 rotate_left
 ·simp only [Act.put, sL, ay, aA]
  rfl
 refine gI (i := 19) (N := some 136) (bA 26 1048575) rfl rfl tX (by decide) (fun K hK => ?_); refine fP Tryz.func67 tX rfl #[.int .i64 2, .int .i64 3] (by rfl) rfl rfl (by (try simp only [List.map_toArray, List.map_cons, List.map_nil]); first | done | rfl) ?_; refine (qg 2 3 _).mono ?_; rintro e w1 ⟨rfl, hx⟩; refine ⟨_, rfl, ?_⟩; replace HX := HX.step hx; replace jI := aj.mk (Kd.ak jI.out hx); replace mW := aj.mk (Kd.ak mW.out hx); replace uf := aj.mk (Kd.ak uf.out hx); replace vW := aj.mk (Kd.ak vW.out hx); clear hx; refine hK.out _ _ ⟨(HX.g2 7 rfl).1, (HX.g2 7 rfl).2, (HX.g2 5 rfl).1, (HX.g2 5 rfl).2⟩ (fun hHeld => ?_); clear hK K; refine dw (a' := ?_) ?_ ?_; rotate_left
 ·show Act.put _ (some 136) _ = _
  simp only [cu, Act.put, sL, ay, aA]
  rfl
 refine aH (i := 20) (N := some 137) (v := ?_) (a' := ?_) (bA 26 2097151) rfl rfl tX (fun _ _ _ h => h) (Or.inl ⟨by rfl, ?_⟩) ?_ ?_; rotate_left
 ·intro w'
  go_simp
  with_reducible rfl
 rotate_left
 ·simp only [Act.put, sL, ay, aA]
  rfl
 refine aH (i := 21) (N := some 138) (v := ?_) (a' := ?_) (bA 26 4194303) rfl rfl tX (fun _ _ _ h => h) (Or.inl ⟨by rfl, ?_⟩) ?_ ?_; rotate_left
 ·intro w'
  go_simp
  with_reducible rfl
 rotate_left
 ·simp only [Act.put, sL, ay, aA]
  rfl
 refine aH (i := 22) (N := some 139) (v := ?_) (a' := ?_) (bA 26 8388607) rfl rfl tX (fun _ _ _ h => h) (Or.inl ⟨by rfl, ?_⟩) ?_ ?_; rotate_left
 ·intro w'
  go_simp
  with_reducible rfl
 rotate_left
 ·simp only [Act.put, sL, ay, aA]
  rfl
 refine aH (i := 23) (N := some 140) (v := ?_) (a' := ?_) (bA 26 16777215) rfl rfl tX (fun _ _ _ h => h) (Or.inl ⟨by rfl, ?_⟩) ?_ ?_; rotate_left
 ·intro w'
  go_simp
  with_reducible rfl
 rotate_left
 ·simp only [Act.put, sL, ay, aA]
  rfl
 refine aH (i := 24) (N := some 141) (v := ?_) (a' := ?_) (bA 26 33554431) rfl rfl tX (fun _ _ _ h => h) (Or.inl ⟨by rfl, ?_⟩) ?_ ?_; rotate_left
 ·intro w'
  go_simp
  with_reducible rfl
 rotate_left
 ·simp only [Act.put, sL, ay, aA]
  rfl
 refine aH (i := 25) (N := some 142) (v := ?_) (a' := ?_) (bA 26 67108863) rfl rfl tX (fun _ _ _ h => h) (Or.inl ⟨by rfl, ?_⟩) ?_ ?_; rotate_left
 ·intro w'
  go_simp
  with_reducible rfl
 rotate_left
 ·simp only [Act.put, sL, ay, aA]
  rfl
 refine kZ tX ?_
 go_wp2_with (first | fail)
 have hxd := fJ (Below.refl w1.heap.size w1); refine j6 (n := 23) (S := fun w' => w'.cell? ⟨g14, 0, none⟩ = some (.int .i64 2) ∧ w'.cell? ⟨g14, 1, none⟩ = some (.int .i64 3)) (ds := []) #[false, false, false, false, false, false, false, false, false, false, false, false, false, false, false, false, false, false, false, false, false, false, false] tX rfl rfl ⟨(HX.g2 2 rfl).1, (HX.g2 2 rfl).2⟩ (fun hHeld => ?_); replace HX := HX.step hxd; replace jI := aj.mk (Kd.ak jI.out hxd); replace mW := aj.mk (Kd.ak mW.out hxd); replace uf := aj.mk (Kd.ak uf.out hxd); replace vW := aj.mk (Kd.ak vW.out hxd); clear hxd
 generalize w1.drew = w2 at *
 refine aH (i := 0) (N := some 143) (v := ?_) (a' := ?_) (bA 23 1) rfl rfl tX (fun _ _ _ h => h) (Or.inl ⟨by rfl, ?_⟩) ?_ ?_; rotate_left
 ·intro w'
  go_simp
  with_reducible rfl
 rotate_left
 ·simp only [Act.put, sL, ay, aA]
  rfl
 have w1E : ∃ x, x = w2 := ⟨_, rfl⟩; obtain ⟨w1, rfl⟩ := w1E; refine gI (i := 1) (N := some 144) (bA 23 3) rfl rfl tX (by decide) (fun K hK => ?_); refine qo (by rfl) (v := .slice (some ⟨w1.heap.size, 0, none⟩) 3 3) (w1 := w1.alloc (.cells #[.int .i64 0, .int .i64 1, .int .i64 1] 3 (0, 0))) tG ?_; have hx := fU (Below.refl w1.heap.size w1) (.cells #[.int .i64 0, .int .i64 1, .int .i64 1] 3 (0, 0)); replace HX := HX.add (Nat.le_refl _) hx (uo w1 _); replace jI := aj.mk (Kd.ak jI.out hx); replace mW := aj.mk (Kd.ak mW.out hx); replace uf := aj.mk (Kd.ak uf.out hx); replace vW := aj.mk (Kd.ak vW.out hx); clear hx; refine hK.out _ _ ⟨(HX.g2 3 rfl).1, (HX.g2 3 rfl).2⟩ (fun hHeld => ?_); clear hK K
 generalize w1.alloc (.cells #[.int .i64 0, .int .i64 1, .int .i64 1] 3 (0, 0)) = w3 at *
 generalize w1.heap.size = gb3 at *
 refine dw (a' := ?_) ?_ ?_; rotate_left
 ·show Act.put _ (some 144) _ = _
  simp only [cu, Act.put, sL, ay, aA]
  rfl
 refine gI (i := 2) (N := some 145) (bA 23 7) rfl rfl tX (by decide) (fun K hK => ?_); refine fP Tryz.func65 tX rfl #[.slice Ak3 Uj.length ck3, .slice (some ⟨gb3, 0, none⟩) 3 3] (by rfl) rfl rfl (by (try simp only [List.map_toArray, List.map_cons, List.map_nil]); first | done | rfl) ?_; refine (qay _ _ _ _ uf.out qnr (HX.gb 0 rfl)).mono ?_; rintro e w1 ⟨rfl, hx⟩; refine ⟨_, rfl, ?_⟩; replace HX := HX.step hx; replace jI := aj.mk (Kd.ak jI.out hx); replace mW := aj.mk (Kd.ak mW.out hx); replace uf := aj.mk (Kd.ak uf.out hx); replace vW := aj.mk (Kd.ak vW.out hx); clear hx; refine hK.out _ _ ⟨(HX.g2 3 rfl).1, (HX.g2 3 rfl).2⟩ (fun hHeld => ?_); clear hK K; refine dw (a' := ?_) ?_ ?_; rotate_left
 ·show Act.put _ (some 145) _ = _
  simp only [cu, Act.put, sL, ay, aA]
  rfl
 refine aH (i := 3) (N := some 146) (v := ?_) (a' := ?_) (bA 23 15) rfl rfl tX (fun _ _ _ h => h) (Or.inl ⟨by rfl, ?_⟩) ?_ ?_; rotate_left
 ·intro w'
  go_simp
  with_reducible rfl
 rotate_left
 ·simp only [Act.put, sL, ay, aA]
  rfl
 refine aH (i := 4) (N := some 147) (v := ?_) (a' := ?_) (bA 23 31) rfl rfl tX (fun _ _ _ h => h) (Or.inl ⟨by rfl, ?_⟩) ?_ ?_; rotate_left
 ·intro w'
  go_simp
  with_reducible rfl
 rotate_left
 ·simp only [Act.put, sL, ay, aA]
  rfl
 refine gI (i := 5) (N := some 148) (bA 23 63) rfl rfl tX (by decide) (fun K hK => ?_); refine fP Tryz.func104 tX rfl #[] (by rfl) rfl rfl (by (try simp only [List.map_toArray, List.map_cons, List.map_nil]); first | done | rfl) ?_; refine (yY _).mono ?_; rintro e w1 ⟨As9, cs9, rfl, qny, hC, hx⟩; refine ⟨_, rfl, ?_⟩; replace HX := HX.step hx; replace jI := aj.mk (Kd.ak jI.out hx); replace mW := aj.mk (Kd.ak mW.out hx); replace uf := aj.mk (Kd.ak uf.out hx); replace vW := aj.mk (Kd.ak vW.out hx); clear hx; have Hs9 := aj.mk hC; clear hC; refine hK.out _ _ ⟨(HX.g2 3 rfl).1, (HX.g2 3 rfl).2⟩ (fun hHeld => ?_); clear hK K; refine dw (a' := ?_) ?_ ?_; rotate_left
 ·show Act.put _ (some 148) _ = _
  simp only [cu, Act.put, sL, ay, aA]
  rfl
 have hfi : ∀ W, (Instr.field 67 (.agg #[.int .i64 2, .int .i64 3, .int .i64 1, .slice As9 exS.length cs9]) 2).run Tryz.prog W = .ok (.slice As9 exS.length cs9) W := fun W => by kernel_rfl
 refine aH (i := 6) (N := some 149) (v := ?_) (a' := ?_) (bA 23 127) rfl rfl tX (fun _ _ _ h => h) (Or.inl ⟨by rfl, ?_⟩) ?_ ?_; rotate_left
 ·intro w'
  go_simp
  with_reducible rfl
 rotate_left
 ·simp only [Act.put, sL, ay, aA]
  rfl
 refine gI (i := 7) (N := some 150) (bA 23 255) rfl rfl tX (by decide) (fun K hK => ?_); refine fP Tryz.func32 tX rfl #[.slice Ak4 exS.length ck4, .slice As9 exS.length cs9] (by rfl) rfl rfl (by (try simp only [List.map_toArray, List.map_cons, List.map_nil]); first | done | rfl) ?_; refine (qaz _ _ _ _ _ vW.out qnt Hs9.out qny).mono ?_; rintro e w1 ⟨rfl, hx⟩; refine ⟨_, rfl, ?_⟩; replace HX := HX.step hx; replace jI := aj.mk (Kd.ak jI.out hx); replace mW := aj.mk (Kd.ak mW.out hx); replace uf := aj.mk (Kd.ak uf.out hx); replace vW := aj.mk (Kd.ak vW.out hx); replace Hs9 := aj.mk (Kd.ak Hs9.out hx); clear hx; refine hK.out _ _ ⟨(HX.g2 3 rfl).1, (HX.g2 3 rfl).2⟩ (fun hHeld => ?_); clear hK K; refine dw (a' := ?_) ?_ ?_; rotate_left
 ·show Act.put _ (some 150) _ = _
  simp only [cu, Act.put, sL, ay, aA]
  rfl
 refine aH (i := 8) (N := some 151) (v := ?_) (a' := ?_) (bA 23 511) rfl rfl tX (fun _ _ _ h => h) (Or.inl ⟨by rfl, ?_⟩) ?_ ?_; rotate_left
 ·intro w'
  go_simp
  with_reducible rfl
 rotate_left
 ·simp only [Act.put, sL, ay, aA]
  rfl
 refine aH (i := 9) (N := some 152) (v := ?_) (a' := ?_) (bA 23 1023) rfl rfl tX (fun _ _ _ h => h) (Or.inl ⟨by rfl, ?_⟩) ?_ ?_; rotate_left
 ·intro w'
  go_simp
  with_reducible rfl
 rotate_left
 ·simp only [Act.put, sL, ay, aA]
  rfl
 refine fC (i := 10) (N := some 153) (v := ?_) (a' := ?_) (bA 23 2047) rfl rfl tX (fun _ _ _ h => h) (Or.inl ⟨by rfl, ?_⟩) hHeld ?_ ?_; rotate_left
 ·rintro w' ⟨s0, s1⟩
  go_simp
  with_reducible rfl
 rotate_left
 ·simp only [Act.put, sL, ay, aA]
  rfl
 refine gI (i := 11) (N := some 154) (bA 23 4095) rfl rfl tX (by decide) (fun K hK => ?_); refine fP Tryz.func67 tX rfl #[.int .i64 2, .int .i64 3] (by rfl) rfl rfl (by (try simp only [List.map_toArray, List.map_cons, List.map_nil]); first | done | rfl) ?_; refine (qg 2 3 _).mono ?_; rintro e w1 ⟨rfl, hx⟩; refine ⟨_, rfl, ?_⟩; replace HX := HX.step hx; replace jI := aj.mk (Kd.ak jI.out hx); replace mW := aj.mk (Kd.ak mW.out hx); replace uf := aj.mk (Kd.ak uf.out hx); replace vW := aj.mk (Kd.ak vW.out hx); replace Hs9 := aj.mk (Kd.ak Hs9.out hx); clear hx; refine hK.out _ _ ⟨(HX.g2 3 rfl).1, (HX.g2 3 rfl).2⟩ (fun hHeld => ?_); clear hK K; refine dw (a' := ?_) ?_ ?_; rotate_left
 ·show Act.put _ (some 154) _ = _
  simp only [cu, Act.put, sL, ay, aA]
  rfl
 have htx : JJ = ⟨#[104, 111, 117, 115, 101, 32, 50, 32, 48, 10, 100, 121, 101, 32, 52, 48, 32, 50, 32, 51, 32, 53, 32, 53, 32, 56, 32, 49, 48, 10, 100, 121, 101, 32, 50, 48, 32, 49, 32, 49, 32, 50, 32, 50, 32, 52, 32, 52, 10, 101, 110, 100, 32, 48, 53, 54, 10]⟩ := rfl; refine aH (i := 12) (N := some 155) (v := ?_) (a' := ?_) (bA 23 8191) rfl rfl tX (fun _ _ _ h => h) (Or.inl ⟨by rfl, ?_⟩) ?_ ?_; rotate_left
 ·intro w'
  go_simp
  with_reducible rfl
 rotate_left
 ·simp only [Act.put, sL, ay, aA]
  rfl
 refine aH (i := 13) (N := some 156) (v := ?_) (a' := ?_) (bA 23 16383) rfl rfl tX (fun _ _ _ h => h) (Or.inl ⟨by rfl, ?_⟩) ?_ ?_; rotate_left
 ·intro w'
  go_simp
  with_reducible rfl
 rotate_left
 ·simp only [Act.put, sL, ay, aA]
  rfl
 refine aH (i := 14) (N := some 157) (v := ?_) (a' := ?_) (bA 23 32767) rfl rfl tX (fun _ _ _ h => h) (Or.inl ⟨by rfl, ?_⟩) ?_ ?_; rotate_left
 ·intro w'
  go_simp
  with_reducible rfl
 rotate_left
 ·simp only [Act.put, sL, ay, aA]
  rfl
 refine aH (i := 15) (N := some 158) (v := ?_) (a' := ?_) (bA 23 65535) rfl rfl tX (fun _ _ _ h => h) (Or.inl ⟨by rfl, ?_⟩) ?_ ?_; rotate_left
 ·intro w'
  go_simp
  with_reducible rfl
 rotate_left
 ·simp only [Act.put, sL, ay, aA]
  rfl
 refine aH (i := 16) (N := some 159) (v := ?_) (a' := ?_) (bA 23 131071) rfl rfl tX (fun _ _ _ h => h) (Or.inl ⟨by rfl, ?_⟩) ?_ ?_; rotate_left
 ·intro w'
  go_simp
  with_reducible rfl
 rotate_left
 ·simp only [Act.put, sL, ay, aA]
  rfl
 refine aH (i := 17) (N := some 160) (v := ?_) (a' := ?_) (bA 23 262143) rfl rfl tX (fun _ _ _ h => h) (Or.inl ⟨by rfl, ?_⟩) ?_ ?_; rotate_left
 ·intro w'
  go_simp
  with_reducible rfl
 rotate_left
 ·simp only [Act.put, sL, ay, aA]
  rfl
 refine aH (i := 18) (N := some 161) (v := ?_) (a' := ?_) (bA 23 524287) rfl rfl tX (fun _ _ _ h => h) (Or.inl ⟨by rfl, ?_⟩) ?_ ?_; rotate_left
 ·intro w'
  go_simp
  with_reducible rfl
 rotate_left
 ·simp only [Act.put, sL, ay, aA]
  rfl
 refine aH (i := 19) (N := some 162) (v := ?_) (a' := ?_) (bA 23 1048575) rfl rfl tX (fun _ _ _ h => h) (Or.inl ⟨by rfl, ?_⟩) ?_ ?_; rotate_left
 ·intro w'
  go_simp
  with_reducible rfl
 rotate_left
 ·simp only [Act.put, sL, ay, aA]
  rfl
 refine aH (i := 20) (N := some 163) (v := ?_) (a' := ?_) (bA 23 2097151) rfl rfl tX (fun _ _ _ h => h) (Or.inl ⟨by rfl, ?_⟩) ?_ ?_; rotate_left
 ·intro w'
  go_simp
  with_reducible rfl
 rotate_left
 ·simp only [Act.put, sL, ay, aA]
  rfl
 refine aH (i := 21) (N := some 164) (v := ?_) (a' := ?_) (bA 23 4194303) rfl rfl tX (fun _ _ _ h => h) (Or.inl ⟨by rfl, ?_⟩) ?_ ?_; rotate_left
 ·intro w'
  go_simp
  with_reducible rfl
 rotate_left
 ·simp only [Act.put, sL, ay, aA]
  rfl
 refine aH (i := 22) (N := some 0) (v := ?_) (a' := ?_) (bA 23 8388607) rfl rfl tX (fun _ _ _ h => h) (Or.inl ⟨by rfl, ?_⟩) ?_ ?_; rotate_left
 ·intro w'
  go_simp
  with_reducible rfl
 rotate_left
 ·simp only [Act.put, sL, ay, aA]
  rfl
 refine kZ tX ?_
 go_wp2_with (first | fail)
 go_ret
 exact ⟨rfl, HX.below⟩
end Go.Proofs.YtnpfbjnjdngkhaaGreatDoor.P
namespace Go.Proofs.YtnpfbjnjdngkhaaGreatDoor.P
open Go.RowKit Go.Proofs.YtnpfbjnjdngkhaaGreatDoorW.aW Go.Proofs.YtnpfbjnjdngkhaaGreatDoorW.bZ Go.Proofs.YtnpfbjnjdngkhaaGreatDoorW.dh
def iE.f (k : Nat) : Option Bool := some true
theorem iE.calls (k : Nat) (r : Bool) (w : World) (h : iE.f k = some r) : Calls Tryz.prog 28 #[] w fun e w' => e = .returned (.bool r) ∧ Below w.heap.size w w' := by
 injection h with h
 subst h; exact MH w
end Go.Proofs.YtnpfbjnjdngkhaaGreatDoor.P
namespace Go.Proofs.YtnpfbjnjdngkhaaGreatDoor.P
open Go.RowKit Go.Proofs.YtnpfbjnjdngkhaaGreatDoorW.aW Go.Proofs.YtnpfbjnjdngkhaaGreatDoorW.bZ Go.Proofs.YtnpfbjnjdngkhaaGreatDoorW.dh
attribute [local go_sem] fE fF gU gV eX eY fG fH
mutual
def bS.l0 : Nat → Int → List bO → Option Bool
 | 0, _, _ => none
 | k + 1, x3, uO => if x3 < (uO.length : Int) then (bS.j1 k x3 (decide (x3 < 6)) uO) else (bS.j1 k x3 false uO)
def bS.j1 : Nat → Int → Bool → List bO → Option Bool
 | 0, _, _, _ => none
 | k + 1, x3, zF, uO => if zF = true then (if 0 ≤ x3 then (if x3 < (uO.length : Int) then (if (((aT uO x3).f0).length : Int) > 5 then (some false) else (bS.l0 k (wrap64 (x3 + 1)) uO)) else (none)) else (none)) else (some (decide ((uO.length : Int) ≤ 5)))
end
def bS.f (k : Nat) (au : List bO) : Option Bool := bS.l0 k 0 au
theorem bS.calls (k : Nat) (bB : Option Addr) (aZ : Nat) (au : List bO) (r : Bool) (w : World) (dx : Kd.C iM w bB au.length au) (dI : au.length ≤ aZ) (h : bS.f k au = some r) :
  Calls Tryz.prog 27 #[.agg #[.slice bB au.length aZ]] w fun e w' => e = .returned (.bool r) ∧ Below w.heap.size w w' := by
 have o8 := Tryz.underlying24; have dJ := aj.mk dx; have eu := aj.mk dI; clear dx dI; have HB := aj.mk (Below.refl w.heap.size w); have H : (bS.l0 k 0 au) = some r := h; clear h; have H' := aj.mk H; clear H
 go_enter Tryz.func27, Tryz.ntmps27
 go_wp2_with (first | ((with_reducible refine av (N := 1) rfl ?_); refine fA 1 #[.slice bB au.length aZ] 24 HB ?_; clear HB; intro qbY w2 hg xq qqU HB hb; clear hb hg))
 go_loopg [3] k (fun kq v3 w' => ∃ (dM : Int), v3 = .int .i64 dM ∧ aj (bS.l0 kq dM au = some r) ∧ aj (kq ≤ k) ∧ aj (w'.heap[qbY]? = some (.cells #[(.slice bB au.length aZ)] 24 (0, 0))) ∧ aj (Below w.heap.size w w'))
 case atStart => exact ⟨(0), tS, H', ⟨Nat.le_refl _⟩, ⟨tK⟩, ⟨tB⟩⟩
 case round =>
  clear H'
  try clear c2
  try clear p2
  obtain ⟨dM, rfl, HA, ng, xq, HB⟩ := hrel
  cases gk with
  | zero => exact absurd HA.out (by simp [bS.l0])
  | succ k1 =>
   have H := HA.out; clear HA; simp only [bS.l0] at H; have Ke := aj.mk H; clear H
   go_upto_region 2 with (fail)
   go_cut [12] (fun v12 wc => ∃ (kq : Nat) (xU : Bool), v12 = .bool xU ∧ aj (bS.j1 kq dM xU au = some r) ∧ aj (kq ≤ k1) ∧ aj (wc.heap[qbY]? = some (.cells #[(.slice bB au.length aZ)] 24 (0, 0))) ∧ aj (Below w.heap.size w wc))
   case first =>
    have H := Ke.out; clear Ke
    by_cases c4 : dM < (au.length : Int)
    ·rw [if_pos c4] at H
     have o7 : decide (dM < (au.length : Int)) = true := decide_eq_true c4; clear c4
     (first | rw [o7] | (simp only [ay, aA]; rw [o7]) | skip)
     have H' := aj.mk H; clear H; have Ch := bc1 xq; have Ci := bf xq 0
     go_wp2
     go_meet
     case rel => exact ⟨_, (decide (dM < 6)), tS, H', ⟨by have := ng.out; first | omega | exact Nat.le_refl _⟩, ⟨tK⟩, ⟨tB⟩⟩
    ·rw [if_neg c4] at H
     have o7 : decide (dM < (au.length : Int)) = false := decide_eq_false c4; clear c4
     (first | rw [o7] | (simp only [ay, aA]; rw [o7]) | skip)
     have H' := aj.mk H; clear H; have IW := bc1 xq; have IX := bf xq 0
     go_wp2
     go_meet
     case rel => exact ⟨_, (false), tS, H', ⟨by have := ng.out; first | omega | exact Nat.le_refl _⟩, ⟨tK⟩, ⟨tB⟩⟩
   case rest =>
    clear Ke
    try clear c2
    try clear p2
    try clear c4
    try clear o7
    try clear Ch
    try clear IW
    try clear Ci
    try clear IX
    try clear p2
    obtain ⟨kq, xU, rfl, HA, HJ2, xq, HB⟩ := hcut
    cases kq with
    | zero => exact absurd HA.out (by simp [bS.j1])
    | succ JY =>
     have H := HA.out; clear HA; simp only [bS.j1] at H
     by_cases c7 : xU = true
     ·subst c7
      rw [if_pos rfl] at H
      by_cases c8 : 0 ≤ dM
      ·rw [if_pos c8] at H
       have E8 : decide (0 ≤ dM) = true := decide_eq_true c8; clear c8
       by_cases c9 : dM < (au.length : Int)
       ·rw [if_pos c9] at H
        have Kg : decide (dM < (au.length : Int)) = true := decide_eq_true c9; clear c9
        by_cases c10 : (((aT au dM).f0).length : Int) > 5
        ·rw [if_pos c10] at H
         have Kh : decide (5 < (((aT au dM).f0).length : Int)) = true := decide_eq_true c10; have Vb : decide (5 < ((aT au dM).f0).length) = true := decide_eq_true (by omega); clear c10; obtain rfl := Option.some.inj H; have yJ := bc1 xq; have yK := bf xq 0; have Pt : 0 ≤ (dM : Int) := of_decide_eq_true tA; have Pv : dM < (au.length : Int) := of_decide_eq_true tA; obtain ⟨qhD, qer, qes, qet, BA, BD, BF, BG⟩ := iZ dJ.out dM Pt Pv
         cases qet
         replace BA := dz HB BA; replace BD := dz HB BD; have qaA := aj.mk BG; have qaB := aj.mk BF; clear BG BF; replace Pt := eq_true Pt; replace Pv := eq_true Pv
         go_wp2
         go_ret
         exact ⟨tF, tB⟩
        ·rw [if_neg c10] at H
         have Kh : decide (5 < (((aT au dM).f0).length : Int)) = false := decide_eq_false c10; have Vb : decide (5 < ((aT au dM).f0).length) = false := decide_eq_false (by omega); clear c10; have H' := aj.mk H; clear H; have yP := bc1 xq; have yQ := bf xq 0; have Pt : 0 ≤ (dM : Int) := of_decide_eq_true tA; have Pv : dM < (au.length : Int) := of_decide_eq_true tA; obtain ⟨qhD, qer, qes, qet, BA, BD, BF, BG⟩ := iZ dJ.out dM Pt Pv
         cases qet
         replace BA := dz HB BA; replace BD := dz HB BD; have qaA := aj.mk BG; have qaB := aj.mk BF; clear BG BF; replace Pt := eq_true Pt; replace Pv := eq_true Pv
         go_wp2
         go_roundg JY
         case measure => have := ng.out; have := HJ2.out; omega
         case rel => exact ⟨(wrap64 (dM + 1)), tS, H', ⟨by have := ng.out; have := HJ2.out; omega⟩, ⟨tK⟩, ⟨tB⟩⟩
       ·rw [if_neg c9] at H
        exact absurd H (by simp)
      ·rw [if_neg c8] at H
       exact absurd H (by simp)
     ·replace c7 := Bool.eq_false_iff.mpr c7
      subst c7
      have H1 : (some (decide ((au.length : Int) ≤ 5))) = some r := by rw [if_neg (show ¬ (false = true) by decide)] at H; exact H
      clear H; have H := H1; clear H1; obtain rfl := Option.some.inj H; have wD := bc1 xq; have wE := bf xq 0
      go_wp2
      go_ret
      exact ⟨tF, tB⟩
mutual
def bI.j0 : Nat → List bg → Bool → List bO → Option Bool
 | 0, _, _, _ => none
 | k + 1, x1, MK, wU => if MK = true then ((iE.f k).bind fun qeu => (some qeu)) else ((dZ.f k wU x1).bind fun BH => ((bR.f k wU).bind fun XL => (if XL = true then ((bK.f k wU x1).bind fun Um => (bI.j1 k x1 BH.1 BH.2 (!Um) wU)) else (bI.j1 k x1 BH.1 BH.2 true wU))))
def bI.j1 : Nat → List bg → List bT → Int → Bool → List bO → Option Bool
 | 0, _, _, _, _, _ => none
 | k + 1, x1, x5, x6, x30, wU => if x30 = true then (if x6 = 2 then (if (x5.length : Int) = 0 then ((iE.f k).bind fun qev => (some qev)) else (some false)) else (some false)) else (if x6 = 0 then ((bq.f k wU x1).bind fun MI => ((bP.f k x5 MI).bind fun XM => (if XM = true then ((iE.f k).bind fun XO => (some XO)) else (some false)))) else (some false))
end
def bI.f (k : Nat) (au : List bO) (l1 : List bg) : Option Bool := (bS.f k au).bind fun XP => (if XP = true then (bI.j0 k l1 (decide ((l1.length : Int) > 5)) au) else (bI.j0 k l1 true au))
theorem bI.calls (k : Nat) (bB : Option Addr) (aZ : Nat) (au : List bO) (A1 : Option Addr) (c1 : Nat) (l1 : List bg) (r : Bool) (w : World) (dx : Kd.C iM w bB au.length au) (dI : au.length ≤ aZ) (hr1 : Kd.C eT w A1 l1.length l1) (hc1 : l1.length ≤ c1) (h : bI.f k au l1 = some r) :
  Calls Tryz.prog 3 #[.agg #[.slice bB au.length aZ], .slice A1 l1.length c1] w fun e w' => e = .returned (.bool r) ∧ Below w.heap.size w w' := by
 have o8 := Tryz.underlying24; have dJ := aj.mk dx; have eu := aj.mk dI; clear dx dI; have HR1 := aj.mk hr1; have uU := aj.mk hc1; clear hr1 hc1; have HB := aj.mk (Below.refl w.heap.size w); have H : ((bS.f k au).bind fun XP => (if XP = true then (bI.j0 k l1 (decide ((l1.length : Int) > 5)) au) else (bI.j0 k l1 true au))) = some r := h; clear h; have Ke := aj.mk H; clear H
 go_enter Tryz.func3, Tryz.ntmps3
 go_upto_region 1 with (first | ((with_reducible refine av (N := 2) rfl ?_); (try (refine fK (by rfl) ?_; dsimp only)); refine fA 2 #[.slice bB au.length aZ] 24 HB ?_; clear HB; intro Ic w4 hg iO qqV HB hb; clear hb hg))
 (try simp only [Act.put, sL])
 go_cut [14] (fun v14 wc => ∃ (kq : Nat) (SA : Bool), v14 = .bool SA ∧ aj (bI.j0 kq l1 SA au = some r) ∧ aj (kq ≤ k) ∧ aj (wc.heap[Ic]? = some (.cells #[(.slice bB au.length aZ)] 24 (0, 0))) ∧ aj (Below w.heap.size w wc))
 case first =>
  have H := Ke.out; clear Ke; obtain ⟨XP, A5, H⟩ := lV H
  by_cases c6 : XP = true
  ·subst c6
   rw [if_pos rfl] at H; have H' := aj.mk H; clear H; have zl := bc1 iO; have zm := bf iO 0
   go_wp2_with (first | ((with_reducible refine aD (f := 27) rfl ?_); refine bW (some 8) rfl rfl Tryz.func27 tX rfl #[.agg #[.slice bB au.length aZ]] rfl tM ?_; (with_reducible refine (bS.calls k _ _ au true _ ?bF ?bG A5.out).mono ?_); (case bF => repeat (first | exact (Kd.ak dJ.out HB.out) | (with_reducible refine Kd.bC ?_ _) | (with_reducible refine Kd.bD ?_ _) | (with_reducible refine Kd.bQ ?_))); (case bG => exact eu.out); rintro e w8 ⟨rfl, hb⟩; refine ⟨_, rfl, ?_⟩; replace iO := bV iO hb; replace HB := dL HB hb; (try clear hb)))
   go_meet
   case rel => exact ⟨_, (decide ((l1.length : Int) > 5)), tS, H', ⟨by first | omega | exact Nat.le_refl _⟩, ⟨tK⟩, ⟨tB⟩⟩
  ·replace c6 := Bool.eq_false_iff.mpr c6
   subst c6
   have H1 : (bI.j0 k l1 true au) = some r := by rw [if_neg (show ¬ (false = true) by decide)] at H; exact H
   clear H; have H := H1; clear H1; have H' := aj.mk H; clear H; have zn := bc1 iO; have zo := bf iO 0
   go_wp2_with (first | ((with_reducible refine aD (f := 27) rfl ?_); refine bW (some 8) rfl rfl Tryz.func27 tX rfl #[.agg #[.slice bB au.length aZ]] rfl tM ?_; (with_reducible refine (bS.calls k _ _ au false _ ?bF ?bG A5.out).mono ?_); (case bF => repeat (first | exact (Kd.ak dJ.out HB.out) | (with_reducible refine Kd.bC ?_ _) | (with_reducible refine Kd.bD ?_ _) | (with_reducible refine Kd.bQ ?_))); (case bG => exact eu.out); rintro e JV ⟨rfl, hb⟩; refine ⟨_, rfl, ?_⟩; replace iO := bV iO hb; replace HB := dL HB hb; (try clear hb)))
   go_meet
   case rel => exact ⟨_, (true), tS, H', ⟨by first | omega | exact Nat.le_refl _⟩, ⟨tK⟩, ⟨tB⟩⟩
 case rest =>
  clear Ke
  try clear c1
  try clear c2
  try clear p2
  try clear c3
  try clear c6
  try clear zl
  try clear zn
  try clear zm
  try clear zo
  obtain ⟨kq, SA, rfl, HA, HJ2, iO, HB⟩ := hcut
  cases kq with
  | zero => exact absurd HA.out (by simp [bI.j0])
  | succ JY =>
   have H := HA.out; clear HA; simp only [bI.j0] at H
   by_cases c11 : SA = true
   ·subst c11
    rw [if_pos rfl] at H; obtain ⟨qeu, XW, H⟩ := lV H; obtain rfl := Option.some.inj H
    go_wp2_with (first | ((with_reducible refine aD (f := 28) rfl ?_); refine bW (some 15) rfl rfl Tryz.func28 tX rfl #[] rfl tM ?_; (with_reducible refine (iE.calls JY  qeu _ XW.out).mono ?_); rintro e w13 ⟨rfl, hb⟩; refine ⟨_, rfl, ?_⟩; replace iO := bV iO hb; replace HB := dL HB hb; (try clear hb)))
    go_ret
    exact ⟨tF, tB⟩
   ·replace c11 := Bool.eq_false_iff.mpr c11
    subst c11
    have H1 : ((dZ.f JY au l1).bind fun BH => ((bR.f JY au).bind fun XL => (if XL = true then ((bK.f JY au l1).bind fun Um => (bI.j1 JY l1 BH.1 BH.2 (!Um) au)) else (bI.j1 JY l1 BH.1 BH.2 true au)))) = some r := by rw [if_neg (show ¬ (false = true) by decide)] at H; exact H
    clear H; have H := H1; clear H1; obtain ⟨⟨Cv, BI⟩, Wn, H⟩ := bs H; have A14 := aj.mk Wn; clear Wn; have qew := aj.mk H; clear H; have uH := bc1 iO; have uI := bf iO 0
    go_upto_region 4 with (first | ((with_reducible refine aD (f := 29) rfl ?_); refine bW (some 19) rfl rfl Tryz.func29 tX rfl #[.agg #[.slice bB au.length aZ], .slice A1 l1.length c1] rfl tM ?_; (with_reducible refine (dZ.calls JY _ _ au _ _ l1 Cv BI _ ?bF ?bG ?eG ?eH A14.out).mono ?_); (case bF => repeat (first | exact (Kd.ak dJ.out HB.out) | (with_reducible refine Kd.bC ?_ _) | (with_reducible refine Kd.bD ?_ _) | (with_reducible refine Kd.bQ ?_))); (case bG => exact eu.out); (case eG => repeat (first | exact (Kd.ak HR1.out HB.out) | (with_reducible refine Kd.bC ?_ _) | (with_reducible refine Kd.bD ?_ _) | (with_reducible refine Kd.bQ ?_))); (case eH => exact uU.out); rintro e YE ⟨qnz, rfl, ho0, hb⟩; refine ⟨_, rfl, ?_⟩; have Ie := aj.mk (Kd.dP ho0 (aX tB)); replace iO := bV iO hb; replace HB := dL HB hb; (try clear hb); (try clear ho0)))
    (try simp only [Act.put, sL])
    go_cut [30] (fun v30 wc => ∃ (kq : Nat) (JM : Bool), v30 = .bool JM ∧ aj (bI.j1 kq l1 Cv BI JM au = some r) ∧ aj (kq ≤ JY) ∧ aj (Kd.R j3 37 wc w.heap.size (fun _ => True) qnz Cv) ∧ aj (wc.heap[Ic]? = some (.cells #[(.slice bB au.length aZ)] 24 (0, 0))) ∧ aj (Below w.heap.size w wc))
    case first =>
     have H := qew.out; clear qew; obtain ⟨XL, A18, H⟩ := lV H
     by_cases c19 : XL = true
     ·subst c19
      rw [if_pos rfl] at H; obtain ⟨Um, MP, H⟩ := lV H; have H' := aj.mk H; clear H; have Ee := bc1 iO; have Ef := bf iO 0
      go_wp2_with (first | ((with_reducible refine aD (f := 30) rfl ?_); refine bW (some 23) rfl rfl Tryz.func30 tX rfl #[.agg #[.slice bB au.length aZ]] rfl tM ?_; (with_reducible refine (bR.calls JY _ _ au true _ ?bF ?bG A18.out).mono ?_); (case bF => repeat (first | exact (Kd.ak dJ.out HB.out) | (with_reducible refine Kd.bC ?_ _) | (with_reducible refine Kd.bD ?_ _) | (with_reducible refine Kd.bQ ?_))); (case bG => exact eu.out); rintro e w22 ⟨rfl, hb⟩; refine ⟨_, rfl, ?_⟩; replace Ie := kH Ie hb; replace iO := bV iO hb; replace HB := dL HB hb; (try clear hb); have yH := bc1 iO; have yI := bf iO 0) | (go_at_call 31; (with_reducible refine (bK.calls JY _ _ au _ _ l1 Um _ ?bF ?bG ?eG ?eH MP.out).mono ?_); (case bF => repeat (first | exact (Kd.ak dJ.out HB.out) | (with_reducible refine Kd.bC ?_ _) | (with_reducible refine Kd.bD ?_ _) | (with_reducible refine Kd.bQ ?_))); (case bG => exact eu.out); (case eG => repeat (first | exact (Kd.ak HR1.out HB.out) | (with_reducible refine Kd.bC ?_ _) | (with_reducible refine Kd.bD ?_ _) | (with_reducible refine Kd.bQ ?_))); (case eH => exact uU.out); rintro e w24 ⟨rfl, hb⟩; replace Ie := kH Ie hb; replace iO := bV iO hb; replace HB := dL HB hb; (try clear hb)))
      go_meet
      case rel => exact ⟨_, (!Um), tS, H', ⟨by have := HJ2.out; first | omega | exact Nat.le_refl _⟩, ⟨tR⟩, ⟨tK⟩, ⟨tB⟩⟩
     ·replace c19 := Bool.eq_false_iff.mpr c19
      subst c19
      have H1 : (bI.j1 JY l1 Cv BI true au) = some r := by rw [if_neg (show ¬ (false = true) by decide)] at H; exact H
      clear H; have H := H1; clear H1; have H' := aj.mk H; clear H; have yS := bc1 iO; have yT := bf iO 0
      go_wp2_with (first | ((with_reducible refine aD (f := 30) rfl ?_); refine bW (some 23) rfl rfl Tryz.func30 tX rfl #[.agg #[.slice bB au.length aZ]] rfl tM ?_; (with_reducible refine (bR.calls JY _ _ au false _ ?bF ?bG A18.out).mono ?_); (case bF => repeat (first | exact (Kd.ak dJ.out HB.out) | (with_reducible refine Kd.bC ?_ _) | (with_reducible refine Kd.bD ?_ _) | (with_reducible refine Kd.bQ ?_))); (case bG => exact eu.out); rintro e w26 ⟨rfl, hb⟩; refine ⟨_, rfl, ?_⟩; replace Ie := kH Ie hb; replace iO := bV iO hb; replace HB := dL HB hb; (try clear hb)))
      go_meet
      case rel => exact ⟨_, (true), tS, H', ⟨by have := HJ2.out; first | omega | exact Nat.le_refl _⟩, ⟨tR⟩, ⟨tK⟩, ⟨tB⟩⟩
    case rest =>
     clear qew
     try clear c1
     try clear c2
     try clear p2
     try clear c3
     try clear c6
     try clear c11
     try clear c19
     try clear uH
     try clear Ee
     try clear yH
     try clear yS
     try clear zl
     try clear zn
     try clear uI
     try clear Ef
     try clear yI
     try clear yT
     try clear zm
     try clear zo
     try clear p2
     obtain ⟨kq, JM, rfl, HA, qtf, jf, iO, HB⟩ := hcut
     cases kq with
     | zero => exact absurd HA.out (by simp [bI.j1])
     | succ JN =>
      have H := HA.out; clear HA; simp only [bI.j1] at H
      by_cases c27 : JM = true
      ·subst c27
       rw [if_pos rfl] at H
       by_cases c28 : BI = 2
       ·rw [if_pos c28] at H
        have qhE : (BI == 2) = true := beq_iff_eq.mpr c28; have qhF : (BI != 2) = false := bne_eq_false_iff_eq.mpr c28; clear c28
        by_cases c29 : (Cv.length : Int) = 0
        ·rw [if_pos c29] at H
         have qhG : ((Cv.length : Int) == 0) = true := beq_iff_eq.mpr c29; have qhH : ((Cv.length : Int) != 0) = false := bne_eq_false_iff_eq.mpr c29; clear c29; obtain ⟨qev, TF, H⟩ := lV H; obtain rfl := Option.some.inj H; obtain ⟨qtg, qth, qnA⟩ := Kd.gF jf.out; subst qnA
         go_wp2_with (first | (go_at_call 28; (with_reducible refine (iE.calls JN  qev _ TF.out).mono ?_); rintro e w32 ⟨rfl, hb⟩; have JQ := aj.mk (Kd.jy tR hb); have JR := aj.mk (aG (g := Ic) (o := .cells #[.slice bB au.length aZ] 24 (0, 0)) tK hb); have JU := aj.mk (aV tB hb); clear jf; clear iO; clear HB; have jf := JQ; have iO := JR; have HB := JU; clear JQ JR JU; (try clear hb)))
         go_ret
         exact ⟨tF, tB⟩
        ·rw [if_neg c29] at H
         have qhG : ((Cv.length : Int) == 0) = false := beq_eq_false_iff_ne.mpr c29; have qhH : ((Cv.length : Int) != 0) = true := bne_iff_ne.mpr c29
         have qqX : ¬ (Cv = []) := fun h_ => c29 (by rw [h_]; rfl)
         obtain rfl := Option.some.inj H; obtain ⟨qti, qtj, qnB⟩ := Kd.gF jf.out; subst qnB
         go_wp2
         go_ret
         exact ⟨tF, tB⟩
       ·rw [if_neg c28] at H
        have qhE : (BI == 2) = false := beq_eq_false_iff_ne.mpr c28; have qhF : (BI != 2) = true := bne_iff_ne.mpr c28; obtain rfl := Option.some.inj H
        go_wp2
        go_ret
        exact ⟨tF, tB⟩
      ·replace c27 := Bool.eq_false_iff.mpr c27
       subst c27
       have H1 : (if BI = 0 then ((bq.f JN au l1).bind fun MI => ((bP.f JN Cv MI).bind fun XM => (if XM = true then ((iE.f JN).bind fun XO => (some XO)) else (some false)))) else (some false)) = some r := by rw [if_neg (show ¬ (false = true) by decide)] at H; exact H
       clear H; have H := H1; clear H1
       by_cases c34 : BI = 0
       ·rw [if_pos c34] at H
        have qhI : (BI == 0) = true := beq_iff_eq.mpr c34; have qhJ : (BI != 0) = false := bne_eq_false_iff_eq.mpr c34; clear c34; obtain ⟨MI, A35, H⟩ := lV H; obtain ⟨XM, A36, H⟩ := lV H
        by_cases c37 : XM = true
        ·subst c37
         rw [if_pos rfl] at H; obtain ⟨XO, A38, H⟩ := lV H; obtain rfl := Option.some.inj H; have qk5 := bc1 iO; have qk6 := bf iO 0
         go_wp2_with (first | (go_at_call 33; (with_reducible refine (bq.calls JN _ _ au _ _ l1 MI _ ?bF ?bG ?eG ?eH A35.out).mono ?_); (case bF => repeat (first | exact (Kd.ak dJ.out HB.out) | (with_reducible refine Kd.bC ?_ _) | (with_reducible refine Kd.bD ?_ _) | (with_reducible refine Kd.bQ ?_))); (case bG => exact eu.out); (case eG => repeat (first | exact (Kd.ak HR1.out HB.out) | (with_reducible refine Kd.bC ?_ _) | (with_reducible refine Kd.bD ?_ _) | (with_reducible refine Kd.bQ ?_))); (case eH => exact uU.out); rintro e w40 ⟨qnC, rfl, ho0, hb⟩; have JQ := aj.mk (Kd.jl tR (Kd.gH ho0) hb); have JR := aj.mk (Kd.dP (Kd.mY ho0 (Kd.pE tR)) (aX tB)); have JU := aj.mk (aG (g := Ic) (o := .cells #[.slice bB au.length aZ] 24 (0, 0)) tK hb); have Ny := aj.mk (aV tB hb); clear jf; clear iO; clear HB; have jf := JQ; have BJ := JR; have iO := JU; have HB := Ny; clear JQ JR JU Ny; (try clear hb); (try clear ho0); obtain ⟨qtl, qtm, qnD⟩ := Kd.gF jf.out; subst qnD; obtain ⟨qtn, qto, qnE⟩ := Kd.gF BJ.out; subst qnE) | (go_at_call 32; (with_reducible refine (bP.calls JN _ _ Cv _ _ MI true _ ?bF ?bG ?eG ?eH A36.out).mono ?_); (case bF => repeat (first | exact (Kd.cO jf.out).2.2 | (with_reducible refine Kd.bC ?_ _) | (with_reducible refine Kd.bD ?_ _) | (with_reducible refine Kd.bQ ?_))); (case bG => exact (Kd.cO jf.out).2.1); (case eG => repeat (first | exact (Kd.cO BJ.out).2.2 | (with_reducible refine Kd.bC ?_ _) | (with_reducible refine Kd.bD ?_ _) | (with_reducible refine Kd.bQ ?_))); (case eH => exact (Kd.cO BJ.out).2.1); rintro e w' ⟨rfl, ⟨nd, rfl⟩⟩) | (go_at_call 28; (with_reducible refine (iE.calls JN  XO _ A38.out).mono ?_); rintro e w43 ⟨rfl, hb⟩; have JQ := aj.mk (Kd.jy tR hb); have JR := aj.mk (Kd.jy tR hb); have JU := aj.mk (aG (g := Ic) (o := .cells #[.slice bB au.length aZ] 24 (0, 0)) tK hb); have Ny := aj.mk (aV tB hb); clear jf; clear BJ; clear iO; clear HB; have jf := JQ; have BJ := JR; have iO := JU; have HB := Ny; clear JQ JR JU Ny; (try clear hb)))
         go_ret
         exact ⟨tF, tB⟩
        ·replace c37 := Bool.eq_false_iff.mpr c37
         subst c37
         have H1 : (some false) = some r := by rw [if_neg (show ¬ (false = true) by decide)] at H; exact H
         clear H; have H := H1; clear H1; obtain rfl := Option.some.inj H; have YV := bc1 iO; have YW := bf iO 0
         go_wp2_with (first | (go_at_call 33; (with_reducible refine (bq.calls JN _ _ au _ _ l1 MI _ ?bF ?bG ?eG ?eH A35.out).mono ?_); (case bF => repeat (first | exact (Kd.ak dJ.out HB.out) | (with_reducible refine Kd.bC ?_ _) | (with_reducible refine Kd.bD ?_ _) | (with_reducible refine Kd.bQ ?_))); (case bG => exact eu.out); (case eG => repeat (first | exact (Kd.ak HR1.out HB.out) | (with_reducible refine Kd.bC ?_ _) | (with_reducible refine Kd.bD ?_ _) | (with_reducible refine Kd.bQ ?_))); (case eH => exact uU.out); rintro e w45 ⟨qnC, rfl, ho0, hb⟩; have JQ := aj.mk (Kd.jl tR (Kd.gH ho0) hb); have JR := aj.mk (Kd.dP (Kd.mY ho0 (Kd.pE tR)) (aX tB)); have JU := aj.mk (aG (g := Ic) (o := .cells #[.slice bB au.length aZ] 24 (0, 0)) tK hb); have Ny := aj.mk (aV tB hb); clear jf; clear iO; clear HB; have jf := JQ; have BJ := JR; have iO := JU; have HB := Ny; clear JQ JR JU Ny; (try clear hb); (try clear ho0); obtain ⟨qtp, qtq, qnF⟩ := Kd.gF jf.out; subst qnF; obtain ⟨qtr, qts, qnG⟩ := Kd.gF BJ.out; subst qnG) | (go_at_call 32; (with_reducible refine (bP.calls JN _ _ Cv _ _ MI false _ ?bF ?bG ?eG ?eH A36.out).mono ?_); (case bF => repeat (first | exact (Kd.cO jf.out).2.2 | (with_reducible refine Kd.bC ?_ _) | (with_reducible refine Kd.bD ?_ _) | (with_reducible refine Kd.bQ ?_))); (case bG => exact (Kd.cO jf.out).2.1); (case eG => repeat (first | exact (Kd.cO BJ.out).2.2 | (with_reducible refine Kd.bC ?_ _) | (with_reducible refine Kd.bD ?_ _) | (with_reducible refine Kd.bQ ?_))); (case eH => exact (Kd.cO BJ.out).2.1); rintro e w' ⟨rfl, ⟨nd, rfl⟩⟩))
         go_ret
         exact ⟨tF, tB⟩
       ·rw [if_neg c34] at H
        have qhI : (BI == 0) = false := beq_eq_false_iff_ne.mpr c34; have qhJ : (BI != 0) = true := bne_iff_ne.mpr c34; obtain rfl := Option.some.inj H
        go_wp2
        go_ret
        exact ⟨tF, tB⟩
end Go.Proofs.YtnpfbjnjdngkhaaGreatDoor.P
namespace Go.Proofs.YtnpfbjnjdngkhaaGreatDoor.P
open Go.RowKit Go.Proofs.YtnpfbjnjdngkhaaGreatDoorW.aW Go.Proofs.YtnpfbjnjdngkhaaGreatDoorW.bZ Go.Proofs.YtnpfbjnjdngkhaaGreatDoorW.dh
def XQ (h : List bO) : Prop := h.length ≤ 5 ∧ ∀ d ∈ h, d.f0.length ≤ 5
theorem qaC (h : List bO) : ∀ (m k i : Nat), i + m = 7 → i ≤ h.length → 2 * m + 3 < k → (∀ j (hj : j < h.length), j < i → h[j].f0.length ≤ 5) → ∃ b, bS.l0 k (i : Int) h = some b ∧ (b = true → XQ h) := by
 intro m
 induction m with
 | zero =>
  intro k i hi hl hk hp; obtain ⟨k, rfl⟩ : ∃ k', k = k' + 2 := ⟨k - 2, by omega⟩; rw [bS.l0]
  by_cases h1 : (i : Int) < h.length
  ·rw [if_pos h1, decide_eq_false (by omega), bS.j1, if_neg (by decide)]
   exact ⟨_, rfl, fun hb => by have := of_decide_eq_true hb; omega⟩
  ·rw [if_neg h1, bS.j1, if_neg (by decide)]
   exact ⟨_, rfl, fun hb => by have := of_decide_eq_true hb; omega⟩
 | succ m ih =>
  intro k i hi hl hk hp; obtain ⟨k, rfl⟩ : ∃ k', k = k' + 2 := ⟨k - 2, by omega⟩; rw [bS.l0]
  by_cases h1 : (i : Int) < h.length
  ·rw [if_pos h1]
   by_cases h6 : (i : Int) < 6
   ·have hil : i < h.length := by omega
    rw [decide_eq_true h6, bS.j1, if_pos rfl, if_pos (by omega), if_pos h1, VK hil]
    by_cases h5 : (h[i].f0.length : Int) > 5
    ·rw [if_pos h5]; exact ⟨_, rfl, fun hb => by cases hb⟩
    ·rw [if_neg h5, xJ (by omega)]
     exact ih k (i + 1) (by omega) (by omega) (by omega) fun j hj hji => by
      by_cases hq : j < i
      ·exact hp j hj hq
      ·obtain rfl : j = i := by omega
       omega
   ·rw [decide_eq_false h6, bS.j1, if_neg (by decide)]
    exact ⟨_, rfl, fun hb => by have := of_decide_eq_true hb; omega⟩
  ·rw [if_neg h1, bS.j1, if_neg (by decide)]
   refine ⟨_, rfl, fun hb => ?_⟩; have := of_decide_eq_true hb; refine ⟨by omega, fun d hd => ?_⟩; obtain ⟨j, hj, rfl⟩ := List.mem_iff_getElem.1 hd; exact hp j hj (by omega)
theorem qex {k : Nat} (hk : 100 ≤ k) (h : List bO) : ∃ b, bS.f k h = some b ∧ (b = true → XQ h) := by
 have := qaC h 7 k 0 (by omega) (by omega) (by omega) (fun j hj h0 => by omega)
 simpa [bS.f] using this
theorem qnH (h : List bO) (l : List bg) : bI.f 1000 h l = some true := by
 unfold bI.f
 obtain ⟨b, hb, hs⟩ := qex (k := 1000) (by omega) h; rw [hb, Option.bind_some]
 cases b with
 | false => rfl
 | true =>
  rw [if_pos rfl]; have hs := hs rfl
  by_cases h5 : (l.length : Int) > 5
  ·rw [decide_eq_true h5]; rfl
  rw [decide_eq_false h5, bI.j0, if_neg (by decide), WA (by omega), Option.bind_some, Zd (by omega) h (by have := hs.1; omega) hs.2, Option.bind_some]
  cases hh : iA h with
  | false => rfl
  | true =>
   rw [if_pos rfl, Ze (by omega) h l (by have := hs.1; omega) (by omega), Option.bind_some]
   cases hbb : gB h.length l with
   | false => rfl
   | true =>
    rw [if_pos ⟨rfl, rfl⟩, bI.j1, if_neg (by decide), if_pos rfl, Wz (by omega) hh hbb, Option.bind_some, Ld (by omega) _ (by rw [zG]; have := hs.1; omega), Option.bind_some, if_pos rfl]
    rfl
end Go.Proofs.YtnpfbjnjdngkhaaGreatDoor.P
namespace Go.Proofs.YtnpfbjnjdngkhaaGreatDoor.P
open Go.RowKit Go.Proofs.YtnpfbjnjdngkhaaGreatDoorW.aW Go.Proofs.YtnpfbjnjdngkhaaGreatDoorW.bZ Go.Proofs.YtnpfbjnjdngkhaaGreatDoorW.dh
open Go.WideShapes
section
variable {H : Type} (enc : TypeId × Value → H) (P : Program) (W : World)
def Op {α : Type} (d : Kd α) (t : TypeId) (G : α → Prop) : Prop := ∀ (fuel : Nat) (cs : List Value) (x : DataW H × List MemPlace), DataW.trod enc P W 0 (fun _ => true) true fuel t cs = some x → ∃ v, d.K W v cs ∧ G v
def OpF {α : Type} (d : Kd α) (fs : List Field) (off : Nat) (G : α → Prop) : Prop := ∀ (fuel : Nat) (cs : List Value), cs.length = off + d.sz → (∀ f ∈ fs, ∃ x, DataW.trod enc P W 0 (fun _ => true) true fuel f.type ((cs.drop f.offset).take (P.cellsOf f.type)) = some x) → ∃ v, d.K W v (cs.drop off) ∧ G v
variable {enc} {P} {W}
theorem qey {k : IntKind} {t : TypeId} (ht : P.underlying t = some (.int k)) : Op enc P W (Kd.int k) t fun n => (Lit.int k n).wf = true := fun fuel cs x h => by
 obtain ⟨n, rfl, _, hw⟩ := DataW.trod_int ht h; exact ⟨n, rfl, hw⟩
theorem SB {α : Type} {p : Nat → α → Prop} : ∀ n, (∀ i, i < n → ∃ v, p i v) → ∃ l : List α, l.length = n ∧ ∀ i v, l[i]? = some v → p i v
 | 0, _ => ⟨[], rfl, fun i v h => by simp at h⟩
 | n + 1, h => by
  obtain ⟨l, hl, hp⟩ := SB n fun i hi => h i (by omega)
  obtain ⟨v, hv⟩ := h n (by omega); refine ⟨l ++ [v], by simp [hl], fun i u hu => ?_⟩
  by_cases hi : i < l.length
  ·rw [List.getElem?_append_left hi] at hu
   exact hp i u hu
  ·rw [List.getElem?_append_right (by omega)] at hu
   have h0 : i - l.length = 0 := by
    by_cases h1 : i - l.length = 0
    ·exact h1
    ·rw [List.getElem?_eq_none (by simp; omega)] at hu
     cases hu
   rw [h0] at hu
   obtain rfl : i = n := by omega
   simp at hu; exact hu ▸ hv
theorem XR {α : Type} {d : Kd α} {t e : TypeId} {G : α → Prop} (ht : P.underlying t = some (.slice e)) (hs : P.cellsOf e = d.sz) (he : Op enc P W d e G) {fuel : Nat} {cs : List Value} {x : DataW H × List MemPlace}
  (h : DataW.trod enc P W 0 (fun _ => true) true fuel t cs = some x) : ∃ A c, ∃ l : List α, cs = [.slice A l.length c] ∧ l.length ≤ c ∧ d.C W A l.length l ∧ ∀ v ∈ l, G v := by
 rcases Go.Deep.open_slice ht h with ⟨rfl, _⟩ | ⟨a, len, cap, m, n, D, Pl, rfl, _, hl, hm, hmm, _, hel⟩
 ·exact ⟨none, 0, [], rfl, Nat.le_refl _, ⟨rfl, Nat.zero_le _, fun h0 => absurd h0 (by simp)⟩, by simp⟩
 ·obtain ⟨l, hll, hlp⟩ := SB (p := fun i (v : α) => ∃ c, W.cells? 0 (a.add (i * d.sz)) d.sz = some c ∧ d.K W v c ∧ G v) len fun i hi => by
   obtain ⟨c, h1, h2⟩ := hel i (by simp at hmm; omega); obtain ⟨v, hv, hg⟩ := he n c _ h2; rw [hs] at h1; exact ⟨v, c, h1, hv, hg⟩
  subst hll; refine ⟨some a, cap, l, rfl, hl, ⟨rfl, Nat.le_trans hl (Nat.le_trans hm (by decide)), fun _ => ⟨a, rfl, fun j p hp => ?_⟩⟩, fun v hv => ?_⟩
  ·obtain ⟨c, h1, h2, _⟩ := hlp j p hp
   obtain ⟨_, h3, h4⟩ := World.cells?_some h1; refine ⟨c, h3, h2, fun i u hu => ?_⟩
   have hi : i < d.sz := by
    rw [← h3]; exact (List.getElem?_eq_some_iff.1 hu).1
   have := h4 i hi; rw [hu, Go.Deep.add_add] at this; exact this
  ·obtain ⟨i, hi, rfl⟩ := List.mem_iff_getElem.1 hv
   obtain ⟨c, _, _, hg⟩ := hlp i _ (List.getElem?_eq_getElem hi); exact hg
theorem MJ {α : Type} {d : Kd α} {t e : TypeId} {G : α → Prop} (q : Nat) (ht : P.underlying t = some (.slice e)) (hs : P.cellsOf e = d.sz) (he : Op enc P W d e G) : Op enc P W (Kd.slice q d) t fun l => ∀ v ∈ l, G v := fun fuel cs x h => by
 obtain ⟨A, c, l, rfl, h1, h2, h3⟩ := XR ht hs he h; exact ⟨l, ⟨A, c, rfl, h1, h2⟩, h3⟩
theorem EF {α : Type} {d : Kd α} {f : Field} {G : α → Prop} (he : Op enc P W d f.type G) (hs : P.cellsOf f.type = d.sz) : OpF enc P W d [f] f.offset G := fun fuel cs hc h => by
 obtain ⟨x, hx⟩ := h f (List.mem_singleton.2 rfl); rw [List.take_of_length_le (by rw [List.length_drop]; omega)] at hx; exact he _ _ _ hx
theorem BK {α β : Type} {d : Kd α} {e : Kd β} {f : Field} {fs : List Field} {G : α → Prop} {K : β → Prop} (h0 : Op enc P W d f.type G) (hs : P.cellsOf f.type = d.sz) (h1 : OpF enc P W e fs (f.offset + d.sz) K) :
  OpF enc P W (Kd.pair d e) (f :: fs) f.offset fun v => G v.1 ∧ K v.2 := fun fuel cs hc h => by
 have hz : (Kd.pair d e).sz = d.sz + e.sz := rfl; obtain ⟨x, hx⟩ := h f (List.mem_cons_self ..); obtain ⟨v, hv, hg⟩ := h0 _ _ _ hx
 obtain ⟨u, hu, hk⟩ := h1 fuel cs (by omega) fun g hg => h g (List.mem_cons_of_mem _ hg)
 refine ⟨(v, u), ⟨_, _, ?_, hv, hu⟩, hg, hk⟩; rw [hs, ← List.drop_drop, List.take_append_drop]
theorem yZ {α : Type} {d : Kd α} {t : TypeId} {fs : Array Field} {G : α → Prop} (ht : P.underlying t = some (.struct fs)) (hs : P.cellsOf t = d.sz) (h : OpF enc P W d fs.toList 0 G) : Op enc P W d t G := fun fuel cs x hx => by
 obtain ⟨xs, n, rfl, _, hl, hn, hf⟩ := DataW.trod_struct ht hx
 obtain ⟨v, hv, hg⟩ := h n cs (by omega) fun f hm => by
  obtain ⟨i, hi, rfl⟩ := List.mem_iff_getElem.1 hm
  have h2 : i < fs.size := by simpa using hi
  have := hf i fs[i] (by simp [h2]); rw [List.getElem?_eq_getElem (by omega)] at this; exact ⟨_, by simpa using this⟩
 exact ⟨v, by simpa using hv, hg⟩
theorem Pw {α β : Type} {d : Kd α} {t : TypeId} {f : β → α} (g : α → β) (hf : ∀ a, f (g a) = a) {G : α → Prop} (h : Op enc P W d t G) : Op enc P W (Kd.iso d f) t fun v => G (f v) := fun fuel cs x hx => by
 obtain ⟨v, hv, hg⟩ := h fuel cs x hx; exact ⟨g v, by show d.K W (f (g v)) cs; rw [hf]; exact hv, by show G (f (g v)); rw [hf]; exact hg⟩
theorem Op.imp {α : Type} {d : Kd α} {t : TypeId} {G K : α → Prop} (h : Op enc P W d t G) (hi : ∀ v, G v → K v) : Op enc P W d t K := fun fuel cs x hx => by
 obtain ⟨v, hv, hg⟩ := h fuel cs x hx; exact ⟨v, hv, hi v hg⟩
theorem qaD {α : Type} {d : Kd α} {t e : TypeId} {G : α → Prop} {v : Value} {y : DataW H} {ps : List MemPlace} {base : Nat} (ht : P.underlying t = some (.slice e)) (hs : P.cellsOf e = d.sz) (he : Op enc P W d e G)
  (hv : Value.okWide P W .any base t v) (h : DataW.Trod enc P W 0 (fun _ => true) true t v y ps) : ∃ A c, ∃ l : List α, v = .slice A l.length c ∧ l.length ≤ c ∧ d.C W A l.length l ∧ ∀ v ∈ l, G v := by
 obtain ⟨a, len, cap, rfl⟩ := okWide_slice ht hv; obtain ⟨fuel, hf⟩ := h; obtain ⟨A, c, l, e1, h1, h2, h3⟩ := XR ht hs he hf; simp [Value.cells] at e1; obtain ⟨rfl, rfl, rfl⟩ := e1; exact ⟨_, _, l, rfl, h1, h2, h3⟩
theorem Px {α : Type} {d : Kd α} {t : TypeId} {fs : Array Field} {G : α → Prop} {v : Value} {y : DataW H} {ps : List MemPlace} {base : Nat} (ht : P.underlying t = some (.struct fs)) (ho : Op enc P W d t G)
  (hv : Value.okWide P W .any base t v) (h : DataW.Trod enc P W 0 (fun _ => true) true t v y ps) : ∃ cs : List Value, ∃ x, v = .agg cs.toArray ∧ d.K W x cs ∧ G x := by
 obtain ⟨cs, rfl, _⟩ := okWide_struct ht hv; obtain ⟨fuel, hf⟩ := h; obtain ⟨x, hx, hg⟩ := ho _ _ _ hf; exact ⟨cs.toList, x, by simp, hx, hg⟩
end
end Go.Proofs.YtnpfbjnjdngkhaaGreatDoor.P
namespace Go.Proofs.YtnpfbjnjdngkhaaGreatDoor.P
open Go.RowKit Go.Proofs.YtnpfbjnjdngkhaaGreatDoorW.aW Go.Proofs.YtnpfbjnjdngkhaaGreatDoorW.bZ Go.Proofs.YtnpfbjnjdngkhaaGreatDoorW.dh
open Go.WideShapes Go.ChangeShapes Go.ChangeAt
section
variable {H : Type} {enc : TypeId × Value → H} {W : World}
theorem op3 : Op enc Tryz.prog W (Kd.int .i64) 3 fun _ => True := (qey Tryz.underlying3).imp fun _ _ => trivial
theorem qhL : Op enc Tryz.prog W j3 37 fun _ => True :=
 (Pw (f := fun x : bT => (x.f0, x.f1)) (fun p => ⟨p.1, p.2⟩) (fun _ => rfl) (yZ Tryz.underlying37 (by kernel_rfl) (BK op3 (by kernel_rfl) (EF op3 (by kernel_rfl))))).imp fun _ _ => trivial
theorem qhM : Op enc Tryz.prog W eT 154 fun _ => True :=
 (Pw (f := fun x : bg => (x.f0, x.f1, x.f2)) (fun p => ⟨p.1, p.2.1, p.2.2⟩) (fun _ => rfl) (yZ Tryz.underlying154 (by kernel_rfl) (BK op3 (by kernel_rfl) (BK op3 (by kernel_rfl) (EF qhL (by kernel_rfl)))))).imp fun _ _ => trivial
theorem qnI : Op enc Tryz.prog W (Kd.slice 37 j3) 28 fun _ => True := (MJ 37 Tryz.underlying28 (by kernel_rfl) qhL).imp fun _ _ => trivial
theorem qhN : Op enc Tryz.prog W iM 102 fun _ => True :=
 (Pw (f := fun x : bO => (x.f0, x.f1)) (fun p => ⟨p.1, p.2⟩) (fun _ => rfl) (yZ Tryz.underlying102 (by kernel_rfl) (BK qnI (by kernel_rfl) (EF op3 (by kernel_rfl))))).imp fun _ _ => trivial
theorem qnJ : Op enc Tryz.prog W (Kd.slice 102 iM) 22 fun _ => True := (MJ 102 Tryz.underlying22 (by kernel_rfl) qhN).imp fun _ _ => trivial
variable {v : Value} {y : DataW H} {ps : List MemPlace} {base : Nat}
theorem qhO (hv : Value.okWide Tryz.prog W .any base 24 v) (h : DataW.Trod enc Tryz.prog W 0 (fun _ => true) true 24 v y ps) : ∃ A c, ∃ l : List bO, v = .agg #[.slice A l.length c] ∧ l.length ≤ c ∧ Kd.C iM W A l.length l := by
 obtain ⟨cs, x, rfl, ⟨A, c, rfl, h1, h2⟩, _⟩ := Px Tryz.underlying24 (yZ Tryz.underlying24 (by kernel_rfl) (EF qnJ (by kernel_rfl))) hv h; exact ⟨A, c, x, rfl, h1, h2⟩
theorem qhP (hv : Value.okWide Tryz.prog W .any base 25 v) (h : DataW.Trod enc Tryz.prog W 0 (fun _ => true) true 25 v y ps) : ∃ A c, ∃ l : List bg, v = .slice A l.length c ∧ l.length ≤ c ∧ Kd.C eT W A l.length l := by
 obtain ⟨A, c, l, e, h1, h2, _⟩ := qaD Tryz.underlying25 (by kernel_rfl) qhM hv h; exact ⟨A, c, l, e, h1, h2⟩
end
theorem qnK : ownKnob Tryz.prog.godebug = none := by kernel_rfl
theorem laidOut : laidOutB Tryz.prog = true := by kernel_rfl
def SC : List (String × DataW Unit) := [("math/bits.deBruijn32tab", Rows.laid_math_bits_deBruijn32tab), ("math/bits.deBruijn64tab", Rows.laid_math_bits_deBruijn64tab), ("internal/strconv.uint64pow10", Rows.laid_internal_strconv_uint64pow10)]
theorem XT (os : Os) (args : Array Value) : laidMetH Tryz.prog SC ((World.doorLaid Tryz.prog 34 os).forCall (fun _ _ => 0) ⟨#[], args, []⟩).memory :=
 laidMetH_of_parts3 (fuel := 8) (laidMet_of_run' 8 (by kernel_rfl) (by kernel_rfl)) (by kernel_rfl) (by kernel_rfl)
end Go.Proofs.YtnpfbjnjdngkhaaGreatDoor.P
namespace Go.Proofs.YtnpfbjnjdngkhaaGreatDoor.P
open Go
theorem ga {a b : Bool} (h : a = true) (k : b = true) : (a && b) = true := by rw [h, k]; rfl
theorem g1 : laidOutB Tryz.prog = true := by kernel_rfl
theorem g2 : mapsRowed Tryz.prog = true := by kernel_rfl
theorem g6 : (Tryz.prog.stops == []) = true := by kernel_rfl
theorem g8 : (Tryz.prog.stopKnobs == []) = true := by kernel_rfl
theorem g23 : (true == Tryz.prog.plainKeys) = true := by kernel_rfl
theorem g25 : Tryz.prog.stopsHeard = true := by kernel_rfl
theorem g26 : Tryz.prog.mayEnter = true := by kernel_rfl
theorem g27 : (false == Tryz.prog.liftsFinal) = true := by kernel_rfl
theorem g28 : (Tryz.prog.make == some .cut) = true := by kernel_rfl
theorem g30 : Tryz.prog.mainIs = some (true, "02506c6772bdc43bd513de4e4af4406d9241d99a8fb894d2eb1f57dc419b7a24".toList) := by kernel_rfl
theorem g31 : true = Tryz.prog.looks [] := by kernel_rfl
end Go.Proofs.YtnpfbjnjdngkhaaGreatDoor.P
namespace Go.Proofs.YtnpfbjnjdngkhaaGreatDoor.Ig
open Go.ChangeShapes Go.WideShapes Go.ChangeAt Go.RowKit Go.Proofs.YtnpfbjnjdngkhaaGreatDoor.P
theorem lifted (os : Os) (started : os.Started) (H : Type) (enc : TypeId × Value → H) :
  ReturnsInHanded {} Tryz.checked os 3 .any (fun w args => (Rows.dyeKnownsSpec.pre enc Tryz.prog Tryz.f3 [] false w args ∧ laidMetH Tryz.prog SC w) ∧ sizedMet enc Tryz.prog Tryz.f3 (OpenSpec.ofChange Rows.dyeKnownsSpec) false w args)
   (Rows.dyeKnownsSpec.post enc Tryz.prog Tryz.f3 false true false false) := by
 refine returnsInHanded_of_change_and (C := Tryz.checked) (X := fun w _ => laidMetH Tryz.prog SC w) (fun _ _ _ hh h => h.of_heap hh) qnK started (by kernel_rfl) Tryz.func3
  (ChangeSpec.witness_shaped (enc := enc) (C := Tryz.checked) (os := os) (X := fun w _ => laidMetH Tryz.prog SC w) false (World.doorLaid Tryz.prog 34 os) #[.agg #[.slice none 0 0], .slice none 0 0] 8 rfl (World.shaped_of_RefB (by kernel_rfl) (by kernel_rfl)) (by kernel_rfl) (by kernel_rfl) (by kernel_rfl) (XT os _)) ?_
 intro W base args ds gs before hval0 hW _ _ hL _; have hval : ∀ (j : Nat) t v, Tryz.f3.params[j]? = some t → args[j]? = some v → Value.okWide Tryz.prog W .any base t v := hval0; have hW' := hW; obtain ⟨p, q, hA0, hV, rfl, hfz, hnd⟩ := hW; have hA : DataW.TrodAll enc Tryz.prog W 0 (fun _ => true) true Tryz.f3.params.toList args.toList ds p := hA0; rw [Tryz.params3] at hA hval; obtain ⟨v0, vs0, d0, ds0, p0, q0, hargs, rfl, rfl, h0, r0⟩ := trodAll_cons hA; obtain ⟨v1, vs1, d1, ds1, p1, q1, rfl, rfl, rfl, h1, r1⟩ := trodAll_cons r0; obtain ⟨rfl, rfl, rfl⟩ := trodAll_nil r1
 obtain rfl : args = #[v0, v1] := by cases args; simp_all
 obtain ⟨rfl, rfl⟩ := trodVars_none hV; have k0 := h0
 have lt0 : ∀ x ∈ p0, x.block < W.heap.size := by obtain ⟨m, hm⟩ := k0; exact DataW.trod_lt m _ _ _ hm
 obtain ⟨A0, c0, l0, rfl, i0, j0⟩ := qhO (hval 0 24 v0 rfl rfl) h0; have k1 := h1
 have lt1 : ∀ x ∈ p1, x.block < W.heap.size := by obtain ⟨m, hm⟩ := k1; exact DataW.trod_lt m _ _ _ hm
 obtain ⟨A1, c1, l1, rfl, i1, j1⟩ := qhP (hval 1 25 v1 rfl rfl) h1; clear hA0 hval0
 refine (bI.calls 1000 A0 c0 l0 A1 c1 l1 true W j0 i0 j1 i1 (qnH l0 l1)).mono fun e W' ⟨he, bel⟩ => ?_
 subst he; exact ⟨_, rfl, _, _, _, [], _, [], hW', trodAll_mk1 (shut_bool Tryz.underlying4 _), (trodAll_cons_mk (Below.trod laidOut (by kernel_rfl) (of_decide_eq_true (by kernel_rfl)) k0 bel lt0) (trodAll_cons_mk (Below.trod laidOut (by kernel_rfl) (of_decide_eq_true (by kernel_rfl)) k1 bel lt1) trodAll_mk0)), rfl, bel.frame _, fun h => by cases h⟩
theorem q9 : (Rows.dyeKnownsRow.inPlace == Tryz.prog.inPlace 3) = true := by kernel_rfl
theorem q10 : (Rows.dyeKnownsRow.unfollowed == Tryz.prog.unfollowed 3) = true := by kernel_rfl
theorem q11 : (Rows.dyeKnownsRow.recurses == Tryz.prog.recurses 3) = true := by kernel_rfl
theorem q12 : (Rows.dyeKnownsRow.named == Tryz.prog.varsNamed 3) = true := by kernel_rfl
theorem closed : joinedFacts Tryz.prog 3 Tryz.f3 Rows.dyeKnownsSpec Rows.dyeKnownsRow = true := (ga (ga (ga (ga (ga (ga (ga (ga (ga (ga (ga (ga (ga (ga (ga (ga (ga (ga (ga (ga (ga (ga (ga (ga (ga (ga (ga (ga (ga (ga (ga (show (Rows.dyeKnownsRow.wf (OpenSpec.ofChange Rows.dyeKnownsSpec)) = true by kernel_rfl) g1) g2) (show (Tryz.f3.params.all (Tryz.prog.readableRec ·)) = true by kernel_rfl)) (show (namedTie Tryz.prog Rows.dyeKnownsRow.named Rows.dyeKnownsSpec.vars) = true by kernel_rfl)) (show ((Rows.dyeKnownsRow.stops == [])) = true by kernel_rfl)) g6) (show ((Rows.dyeKnownsRow.knobs == [])) = true by kernel_rfl)) g8) q9) q10) q11) q12) (show ((Rows.dyeKnownsRow.maps == (Tryz.f3.params.toList ++ Rows.dyeKnownsSpec.plain.varTypes Tryz.prog).any (Tryz.prog.mapsRec ·))) = true by kernel_rfl)) (show ((Rows.dyeKnownsRow.ifaces == (Tryz.f3.params.toList ++ Rows.dyeKnownsSpec.plain.varTypes Tryz.prog).any (Tryz.prog.ifacesRec ·))) = true by kernel_rfl)) (show ((Rows.dyeKnownsRow.mapsOut == Tryz.prog.mapsAmong Tryz.f3.resultTypes.toList)) = true by kernel_rfl)) (show ((Rows.dyeKnownsRow.loops == (Tryz.f3.params.toList ++ Rows.dyeKnownsSpec.plain.varTypes Tryz.prog).any (Tryz.prog.loopsFrom ·))) = true by kernel_rfl)) (show ((Rows.dyeKnownsRow.wideKeys == (Tryz.f3.params.toList ++ Rows.dyeKnownsSpec.plain.varTypes Tryz.prog ++ Tryz.f3.resultTypes.toList).any (Tryz.prog.wideKeysFrom ·))) = true by kernel_rfl)) (show (Rows.dyeKnownsSpec.vars.all (Tryz.prog.varReadable ·)) = true by kernel_rfl)) (show (Tryz.f3.resultTypes.all (fun t => Tryz.prog.readableRec t && decide (t < Tryz.prog.types.size))) = true by kernel_rfl)) (show ((Rows.dyeKnownsRow.ifacesOut == Tryz.f3.resultTypes.toList.any (Tryz.prog.ifacesRec ·))) = true by kernel_rfl)) (show ((Rows.dyeKnownsRow.loopsOut == Tryz.f3.resultTypes.toList.any (Tryz.prog.loopsFrom ·))) = true by kernel_rfl)) g23) (show (Rows.dyeKnownsRow.shortTexts.isNone) = true by kernel_rfl)) g25) g26) g27) g28) (show ((Rows.dyeKnownsRow.kinds == (if Rows.dyeKnownsRow.domain.isEmpty then [] else Tryz.f3.params.toList.map fun t => match Tryz.prog.underlying t with | some (.int k) => some k | _ => none))) = true by kernel_rfl)) (show ((Rows.dyeKnownsRow.pinned == Rows.dyeKnownsRow.pinnedBy)) = true by kernel_rfl)) (show ((Rows.dyeKnownsRow.veiled == (Tryz.f3.params.toList ++ Rows.dyeKnownsSpec.plain.varTypes Tryz.prog ++ Tryz.f3.resultTypes.toList).any (Tryz.prog.veiledRec ·))) = true by kernel_rfl)) (show (Rows.dyeKnownsRow.veiledFits Tryz.prog Tryz.f3.params.toList (Tryz.f3.params.toList ++ Rows.dyeKnownsSpec.plain.varTypes Tryz.prog ++ Tryz.f3.resultTypes.toList)) = true by kernel_rfl))
theorem named : Tryz.prog.funcNamed "nacre/nacrelaw04.DyeKnowns" = some 3 := by kernel_rfl
theorem wrap : Tryz.f3.isWrapper Tryz.prog Rows.dyeKnownsRow.wrapper Rows.dyeKnownsRow.mainSum := by unfold Func.isWrapper; first | (rw [if_pos (by decide +kernel)]; kernel_rfl) | (rw [if_neg (by decide +kernel)]; exact ⟨rfl, rfl⟩)
theorem over : Rows.dyeKnownsRow.holds Tryz.pinned (OpenSpec.ofChange Rows.dyeKnownsSpec) :=
 OpenClaim.holds_of_wide 3 Tryz.f3 rfl rfl rfl rfl rfl rfl rfl ⟨rfl, rfl, rfl, rfl, rfl⟩ rfl rfl rfl rfl rfl named Tryz.func3 closed
  (of_decide_eq_true (by kernel_rfl)) wrap (fun os started H enc _ => lifted os started H enc)
theorem qez : Rows.dyeKnownsRow.wfByText (OpenSpec.ofChange Rows.dyeKnownsSpec) = true := by kernel_rfl
theorem goes : false = Rows.dyeKnownsRow.goesBy Tryz.prog := by kernel_rfl
theorem stand : ([24, 25].all fun u => !Tryz.prog.wantsStandIn u) = true := by kernel_rfl
theorem card : Rows.DyeKnownsCardSaid :=
 Claim7.holds_tied_plain_at .later [] [.data, .data, .data] true (true, "02506c6772bdc43bd513de4e4af4406d9241d99a8fb894d2eb1f57dc419b7a24") true
  over (fun _ h => by cases h) qez (fun _ h => by cases h) dyeKnowns_row_tie rfl ⟨rfl, rfl⟩ g30 rfl
  (fun f fn hf hfn => by
   obtain rfl : f = 3 := Option.some.inj (named.symm.trans hf) |>.symm; obtain rfl : fn = Tryz.f3 := (Option.some.inj (Tryz.func3.symm.trans hfn)).symm
   exact ⟨g31, fun j t ht => by
    rw [Tryz.params3] at ht
    have hm : t ∈ [24, 25] := by simpa using Array.mem_of_getElem? ht
    exact (show Tryz.prog.wantsStandIn t = false by simpa using List.all_eq_true.1 stand t hm)⟩)
  goes
end Go.Proofs.YtnpfbjnjdngkhaaGreatDoor.Ig
namespace Go.Proofs.YtnpfbjnjdngkhaaGreatDoor
theorem dyeKnowns_card : Rows.DyeKnownsCardSaid := Ig.card
end Go.Proofs.YtnpfbjnjdngkhaaGreatDoor
