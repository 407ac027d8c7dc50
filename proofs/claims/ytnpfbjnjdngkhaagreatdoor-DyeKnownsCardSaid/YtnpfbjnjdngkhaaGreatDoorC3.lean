import Derived.Sort.MapsRangeIn
import Derived.Test.YtnpfbjnjdngkhaaGreatDoorC2
set_option maxHeartbeats 8000000
set_option maxRecDepth 100000
set_option linter.unusedVariables false
set_option linter.unusedSimpArgs false
namespace Go.Proofs.YtnpfbjnjdngkhaaGreatDoor.P
open Go.RowKit Go.Proofs.YtnpfbjnjdngkhaaGreatDoorW.aW Go.Proofs.YtnpfbjnjdngkhaaGreatDoorW.bZ Go.Proofs.YtnpfbjnjdngkhaaGreatDoorW.dh
attribute [local go_sem] fE fF gU gV eX eY fG fH
def bK.l0 : Nat → List bg → Int → List bO → Option Bool
 | 0, _, _, _ => none
 | k + 1, x1, x5, QG => if x5 < (x1.length : Int) then (if 0 ≤ x5 then ((iR.f QG ((aC x1 x5).f0)).bind fun qcZ => (if qcZ = true then ((iG.f ((aC x1 x5).f1)).bind fun qc0 => (if qc0 = true then ((iB.f ((aC x1 x5).f2.f0) ((aC x1 x5).f2.f1) 0 12 2).bind fun qc7 => (if qc7 = true then (bK.l0 k x1 (wrap64 (x5 + 1)) QG) else (some false))) else (some false))) else (some false))) else (none)) else (some (decide ((x1.length : Int) ≤ 3)))
def bK.f (k : Nat) (au : List bO) (l1 : List bg) : Option Bool := bK.l0 k l1 0 au
def bK.T4 : Bool × List (List Nat × List Nat) := (true, [([], []), ([], []), ([], []), ([1, 2], [1, 2]), ([3], [3]), ([4], [4]), ([0, 5], [0, 5]), ([6], [6]), ([7, 6], [7]), ([8], [8]), ([8], [8]), ([9, 10, 8], [8, 9, 10]), ([11, 8], [8, 11]), ([12, 8], [8, 12]), ([13, 8, 8], [8, 13]), ([14, 8], [8, 14]), ([8, 15], [8, 15]), ([16, 14], [16]), ([17], [17]), ([17], [17]), ([18, 19, 17], [17, 18, 19]), ([20, 17], [17, 20]), ([21, 17], [17, 21]), ([22, 17, 17], [17, 22]), ([23, 17], [17, 23]), ([17, 24], [17, 24])])
def bK.B4 : List Nat := [0, 0, 0, 6, 14, 30, 63, 127, 255, 511, 511, 2047, 4095, 8191, 16383, 32767, 65535, 131071, 262143, 262143, 1048575, 2097151, 4194303, 8388607, 16777215, 33554431]
theorem bK.Zc : qj .any (opsOf Tryz.f31 4) = bK.T4 := by kernel_rfl
theorem bK.QI : oq bK.T4.2 bK.B4 = true := by kernel_rfl
theorem bK.calls (k : Nat) (bB : Option Addr) (aZ : Nat) (au : List bO) (A1 : Option Addr) (c1 : Nat) (l1 : List bg) (r : Bool) (w : World) (dx : Kd.C iM w bB au.length au) (dI : au.length ≤ aZ) (hr1 : Kd.C eT w A1 l1.length l1) (hc1 : l1.length ≤ c1) (h : bK.f k au l1 = some r) :
  Calls Tryz.prog 31 #[.agg #[.slice bB au.length aZ], .slice A1 l1.length c1] w fun e w' => e = .returned (.bool r) ∧ Below w.heap.size w w' := by
 have o8 := Tryz.underlying24; have kg := Tryz.underlying37; have dJ := aj.mk dx; have eu := aj.mk dI; clear dx dI; have HR1 := aj.mk hr1; have uU := aj.mk hc1; clear hr1 hc1; have HB := aj.mk (Below.refl w.heap.size w); have H : (bK.l0 k l1 0 au) = some r := h; clear h; have H' := aj.mk H; clear H
 go_enter Tryz.func31, Tryz.ntmps31
 go_wp2_with (first | ((with_reducible refine av (N := 2) rfl ?_); refine fA 2 #[.slice bB au.length aZ] 24 HB ?_; clear HB; intro KM w3 hg iW qoK HB hb; clear hb hg))
 go_loopg [5] k (fun kq v5 w' => ∃ (aQ : Int), v5 = .int .i64 aQ ∧ aj (bK.l0 kq l1 aQ au = some r) ∧ aj (kq ≤ k) ∧ aj (w'.heap[KM]? = some (.cells #[(.slice bB au.length aZ)] 24 (0, 0))) ∧ aj (Below w.heap.size w w'))
 case atStart => exact ⟨(0), tS, H', ⟨Nat.le_refl _⟩, ⟨tK⟩, ⟨tB⟩⟩
 case round =>
  clear H'
  try clear c1
  try clear p2
  try clear c3
  obtain ⟨aQ, rfl, HA, ng, iW, HB⟩ := hrel
  cases gk with
  | zero => exact absurd HA.out (by simp [bK.l0])
  | succ k1 =>
   have H := HA.out; clear HA; simp only [bK.l0] at H
   by_cases c4 : aQ < (l1.length : Int)
   ·rw [if_pos c4] at H
    have o7 : decide (aQ < (l1.length : Int)) = true := decide_eq_true c4; clear c4
    by_cases c5 : 0 ≤ aQ
    ·rw [if_pos c5] at H
     have y5 : decide (0 ≤ aQ) = true := decide_eq_true c5; clear c5; obtain ⟨qcZ, A6, H⟩ := lV H
     by_cases c7 : qcZ = true
     ·subst c7
      rw [if_pos rfl] at H; obtain ⟨qc0, A8, H⟩ := lV H
      by_cases c9 : qc0 = true
      ·subst c9
       rw [if_pos rfl] at H; obtain ⟨qc7, JX, H⟩ := lV H
       by_cases c11 : qc7 = true
       ·subst c11
        rw [if_pos rfl] at H; have H' := aj.mk H; clear H
        try go_wp2
        replace iW := aj.mk (aN iW.out); replace HB := aj.mk (iV HB.out); have zB : 0 ≤ (aQ : Int) := of_decide_eq_true tA; have zC : aQ < (l1.length : Int) := of_decide_eq_true tA; obtain ⟨eO, NT, jM, jN, jO, jP⟩ := jK HR1.out aQ zB zC; have kR := jP; have kS := jO; have kT := jN; have kU := jM
        cases NT
        replace jM := dz HB jM; replace jN := dz HB jN; replace jO := dz HB jO; replace jP := dz HB jP; replace zB := eq_true zB; replace zC := eq_true zC; have FD : 0 ≤ (aQ : Int) := of_decide_eq_true tA; have FE : aQ < (l1.length : Int) := of_decide_eq_true tA; obtain ⟨KN, VI, mQ, mR, mU, mV⟩ := jK HR1.out aQ FD FE; have nI := mV; have nJ := mU; have nK := mR; have nL := mQ; obtain rfl : eO = KN := (by injection VI); replace mQ := dz HB mQ; replace mR := dz HB mR; replace mU := dz HB mU; replace mV := dz HB mV; replace FD := eq_true FD; replace FE := eq_true FE; have NU : 0 ≤ (aQ : Int) := of_decide_eq_true tA; have NV : aQ < (l1.length : Int) := of_decide_eq_true tA; obtain ⟨VJ, qc8, rG, rH, rJ, rM⟩ := jK HR1.out aQ NU NV; have rO := rM; have rP := rJ; have rQ := rH; have rR := rG; obtain rfl : eO = VJ := (by injection qc8); replace rG := dz HB rG; replace rH := dz HB rH; replace rJ := dz HB rJ; replace rM := dz HB rM; replace NU := eq_true NU; replace NV := eq_true NV; refine j6 (n := 26) (S := fun w' => w'.cell? ⟨KM, 0, none⟩ = some (.slice bB au.length aZ) ∧ w'.cell? (eO.add ((aQ).toNat * 4)) = some (.int .i64 ((aC l1 aQ).f0)) ∧ w'.cell? ⟨(eO.add ((aQ).toNat * 4)).block, (eO.add ((aQ).toNat * 4)).off + 1, none⟩ = some (.int .i64 ((aC l1 aQ).f1)) ∧ w'.cell? ⟨(eO.add ((aQ).toNat * 4)).block, (eO.add ((aQ).toNat * 4)).off + 2, none⟩ = some (.int .i64 ((aC l1 aQ).f2.f0)) ∧ w'.cell? ⟨(eO.add ((aQ).toNat * 4)).block, (eO.add ((aQ).toNat * 4)).off + 3, none⟩ = some (.int .i64 ((aC l1 aQ).f2.f1)) ∧ w'.cell? (eO.add ((aQ).toNat * 4)) = some (.int .i64 ((aC l1 aQ).f0)) ∧ w'.cell? ⟨(eO.add ((aQ).toNat * 4)).block, (eO.add ((aQ).toNat * 4)).off + 1, none⟩ = some (.int .i64 ((aC l1 aQ).f1)) ∧ w'.cell? ⟨(eO.add ((aQ).toNat * 4)).block, (eO.add ((aQ).toNat * 4)).off + 2, none⟩ = some (.int .i64 ((aC l1 aQ).f2.f0)) ∧ w'.cell? ⟨(eO.add ((aQ).toNat * 4)).block, (eO.add ((aQ).toNat * 4)).off + 3, none⟩ = some (.int .i64 ((aC l1 aQ).f2.f1)) ∧ w'.cell? (eO.add ((aQ).toNat * 4)) = some (.int .i64 ((aC l1 aQ).f0)) ∧ w'.cell? ⟨(eO.add ((aQ).toNat * 4)).block, (eO.add ((aQ).toNat * 4)).off + 1, none⟩ = some (.int .i64 ((aC l1 aQ).f1)) ∧ w'.cell? ⟨(eO.add ((aQ).toNat * 4)).block, (eO.add ((aQ).toNat * 4)).off + 2, none⟩ = some (.int .i64 ((aC l1 aQ).f2.f0)) ∧ w'.cell? ⟨(eO.add ((aQ).toNat * 4)).block, (eO.add ((aQ).toNat * 4)).off + 3, none⟩ = some (.int .i64 ((aC l1 aQ).f2.f1))) (ds := []) #[false, false, false, false, false, false, false, false, false, false, false, false, false, false, false, false, false, false, false, false, false, false, false, false, false, false] tX rfl rfl ⟨(aI iW.out 0).trans rfl, (dz HB kU :), (dz HB kT :), (dz HB kS :), (dz HB kR :), (dz HB nL :), (dz HB nK :), (dz HB nJ :), (dz HB nI :), (dz HB rR :), (dz HB rQ :), (dz HB rP :), (dz HB rO :)⟩ (fun hHeld => ?_); refine lg bK.Zc bK.QI (fun dY vX => ?_)
        generalize wr.drew = y9 at iW HB jM jN jO jP mQ mR mU mV rG rH rJ rM hHeld ⊢
        refine aH (i := 1) (N := some 13) (v := ?_) (a' := ?_) (bA 26 2) rfl rfl (aU dY.out tX) (fun _ _ _ h => h) (Or.inl ⟨by rfl, ?_⟩) ?_ ?_; rotate_left
        ·intro w'
         go_simp
         with_reducible rfl
        rotate_left
        ·simp only [Act.put, sL, ay, aA]
         rfl
        refine aH (i := 2) (N := some 14) (v := ?_) (a' := ?_) (bA 26 6) rfl rfl (aU dY.out tX) (fun _ _ _ h => h) (Or.inl ⟨by rfl, ?_⟩) ?_ ?_; rotate_left
        ·intro w'
         go_simp
         with_reducible rfl
        rotate_left
        ·simp only [Act.put, sL, ay, aA]
         rfl
        refine aH (i := 3) (N := some 15) (v := ?_) (a' := ?_) (bA 26 14) rfl rfl (aU dY.out tX) (fun _ _ _ h => h) (Or.inl ⟨by rfl, ?_⟩) ?_ ?_; rotate_left
        ·intro w'
         go_simp
         with_reducible rfl
        rotate_left
        ·simp only [Act.put, sL, ay, aA]
         rfl
        refine aH (i := 4) (N := some 16) (v := ?_) (a' := ?_) (bA 26 30) rfl rfl (aU dY.out tX) (fun _ _ _ h => h) (Or.inl ⟨by rfl, ?_⟩) ?_ ?_; rotate_left
        ·intro w'
         go_simp
         with_reducible rfl
        rotate_left
        ·simp only [Act.put, sL, ay, aA]
         rfl
        refine fC (i := 0) (N := some 12) (v := ?_) (a' := ?_) (bA 26 31) rfl rfl (fD dY.out vX.out tX) (fun _ _ _ h => h) (Or.inl ⟨by rfl, ?_⟩) hHeld ?_ ?_; rotate_left
        ·rintro w' ⟨s0, s1, s2, s3, s4, s5, s6, s7, s8, s9, s10, s11, s12⟩
         go_simp
         with_reducible rfl
        rotate_left
        ·simp only [Act.put, sL, ay, aA]
         rfl
        refine fC (i := 5) (N := some 17) (v := ?_) (a' := ?_) (bA 26 63) rfl rfl (fD dY.out vX.out tX) (fun _ _ _ h => h) (Or.inl ⟨by rfl, ?_⟩) hHeld ?_ ?_; rotate_left
        ·rintro w' ⟨s0, s1, s2, s3, s4, s5, s6, s7, s8, s9, s10, s11, s12⟩
         go_simp
         with_reducible rfl
        rotate_left
        ·simp only [Act.put, sL, ay, aA]
         rfl
        refine gI (i := 6) (N := some 18) (bA 26 127) rfl rfl (iF dY.out tX) (by decide) (fun K hK => ?_); refine fP Tryz.func42 tX rfl #[.agg #[.slice bB au.length aZ], .int .i64 ((aC l1 aQ).f0)] (by rfl) rfl rfl tM ?_
        with_reducible refine (iR.calls _ _ au ((aC l1 aQ).f0) true _ ?bF ?bG A6.out).mono ?_
        (case bF => repeat (first | exact (Kd.ak dJ.out HB.out) | (with_reducible refine Kd.bC ?_ _) | (with_reducible refine Kd.bD ?_ _) | (with_reducible refine Kd.bQ ?_)))
        (case bG => exact eu.out)
        rintro e w13 ⟨rfl, hb⟩; refine ⟨_, rfl, ?_⟩; replace iW := bV iW hb; replace HB := dL HB hb
        (try clear hb)
        (try clear hb2)
        (try clear hk)
        (try clear hi)
        refine hK.out _ _ ⟨(aI iW.out 0).trans rfl, (dz HB kU :), (dz HB kT :), (dz HB kS :), (dz HB kR :), (dz HB nL :), (dz HB nK :), (dz HB nJ :), (dz HB nI :), (dz HB rR :), (dz HB rQ :), (dz HB rP :), (dz HB rO :)⟩ (fun hHeld => ?_); clear hK K; refine dw (a' := ?_) ?_ ?_; rotate_left
        ·show Act.put _ (some 18) _ = _
         simp only [Act.put, sL, ay, aA]
         rfl
        refine aH (i := 7) (N := some 19) (v := ?_) (a' := ?_) (bA 26 255) rfl rfl (aU dY.out tX) (fun _ _ _ h => h) (Or.inl ⟨by rfl, ?_⟩) ?_ ?_; rotate_left
        ·intro w'
         go_simp
         with_reducible rfl
        rotate_left
        ·simp only [Act.put, sL, ay, aA]
         rfl
        refine aH (i := 8) (N := some 20) (v := ?_) (a' := ?_) (bA 26 511) rfl rfl (aU dY.out tX) (fun _ _ _ h => h) (Or.inl ⟨by rfl, ?_⟩) ?_ ?_; rotate_left
        ·intro w'
         go_simp
         with_reducible rfl
        rotate_left
        ·simp only [Act.put, sL, ay, aA]
         rfl
        refine aH (i := 9) (N := some 21) (v := ?_) (a' := ?_) (bA 26 1023) rfl rfl (aU dY.out tX) (fun _ _ _ h => h) (Or.inl ⟨by rfl, ?_⟩) ?_ ?_; rotate_left
        ·intro w'
         go_simp
         with_reducible rfl
        rotate_left
        ·simp only [Act.put, sL, ay, aA]
         rfl
        refine aH (i := 10) (N := some 22) (v := ?_) (a' := ?_) (bA 26 2047) rfl rfl (aU dY.out tX) (fun _ _ _ h => h) (Or.inl ⟨by rfl, ?_⟩) ?_ ?_; rotate_left
        ·intro w'
         go_simp
         with_reducible rfl
        rotate_left
        ·simp only [Act.put, sL, ay, aA]
         rfl
        refine aH (i := 11) (N := some 23) (v := ?_) (a' := ?_) (bA 26 4095) rfl rfl (aU dY.out tX) (fun _ _ _ h => h) (Or.inl ⟨by rfl, ?_⟩) ?_ ?_; rotate_left
        ·intro w'
         go_simp
         with_reducible rfl
        rotate_left
        ·simp only [Act.put, sL, ay, aA]
         rfl
        refine aH (i := 12) (N := some 24) (v := ?_) (a' := ?_) (bA 26 8191) rfl rfl (aU dY.out tX) (fun _ _ _ h => h) (Or.inl ⟨by rfl, ?_⟩) ?_ ?_; rotate_left
        ·intro w'
         go_simp
         with_reducible rfl
        rotate_left
        ·simp only [Act.put, sL, ay, aA]
         rfl
        refine fC (i := 13) (N := some 25) (v := ?_) (a' := ?_) (bA 26 16383) rfl rfl (fD dY.out vX.out tX) (fun _ _ _ h => h) (Or.inl ⟨by rfl, ?_⟩) hHeld ?_ ?_; rotate_left
        ·rintro w' ⟨s0, s1, s2, s3, s4, s5, s6, s7, s8, s9, s10, s11, s12⟩
         go_simp
         with_reducible rfl
        rotate_left
        ·simp only [Act.put, sL, ay, aA]
         rfl
        refine gI (i := 14) (N := some 26) (bA 26 32767) rfl rfl (iF dY.out tX) (by decide) (fun K hK => ?_); refine fP Tryz.func43 tX rfl #[.int .i64 ((aC l1 aQ).f1)] (by rfl) rfl rfl tM ?_
        with_reducible refine (iG.calls ((aC l1 aQ).f1) true _ A8.out).mono ?_
        rintro e w' ⟨rfl, ⟨nd, rfl⟩⟩; refine ⟨_, rfl, ?_⟩; refine hK.out _ _ ⟨(aI iW.out 0).trans rfl, (dz HB kU :), (dz HB kT :), (dz HB kS :), (dz HB kR :), (dz HB nL :), (dz HB nK :), (dz HB nJ :), (dz HB nI :), (dz HB rR :), (dz HB rQ :), (dz HB rP :), (dz HB rO :)⟩ (fun hHeld => ?_); clear hK K; refine dw (a' := ?_) ?_ ?_; rotate_left
        ·show Act.put _ (some 26) _ = _
         simp only [Act.put, sL, ay, aA]
         rfl
        refine aH (i := 15) (N := some 27) (v := ?_) (a' := ?_) (bA 26 65535) rfl rfl (aU dY.out tX) (fun _ _ _ h => h) (Or.inl ⟨by rfl, ?_⟩) ?_ ?_; rotate_left
        ·intro w'
         go_simp
         with_reducible rfl
        rotate_left
        ·simp only [Act.put, sL, ay, aA]
         rfl
        refine aH (i := 16) (N := some 28) (v := ?_) (a' := ?_) (bA 26 131071) rfl rfl (aU dY.out tX) (fun _ _ _ h => h) (Or.inl ⟨by rfl, ?_⟩) ?_ ?_; rotate_left
        ·intro w'
         go_simp
         with_reducible rfl
        rotate_left
        ·simp only [Act.put, sL, ay, aA]
         rfl
        refine aH (i := 17) (N := some 29) (v := ?_) (a' := ?_) (bA 26 262143) rfl rfl (aU dY.out tX) (fun _ _ _ h => h) (Or.inl ⟨by rfl, ?_⟩) ?_ ?_; rotate_left
        ·intro w'
         go_simp
         with_reducible rfl
        rotate_left
        ·simp only [Act.put, sL, ay, aA]
         rfl
        refine aH (i := 18) (N := some 30) (v := ?_) (a' := ?_) (bA 26 524287) rfl rfl (aU dY.out tX) (fun _ _ _ h => h) (Or.inl ⟨by rfl, ?_⟩) ?_ ?_; rotate_left
        ·intro w'
         go_simp
         with_reducible rfl
        rotate_left
        ·simp only [Act.put, sL, ay, aA]
         rfl
        refine aH (i := 19) (N := some 31) (v := ?_) (a' := ?_) (bA 26 1048575) rfl rfl (aU dY.out tX) (fun _ _ _ h => h) (Or.inl ⟨by rfl, ?_⟩) ?_ ?_; rotate_left
        ·intro w'
         go_simp
         with_reducible rfl
        rotate_left
        ·simp only [Act.put, sL, ay, aA]
         rfl
        refine aH (i := 20) (N := some 32) (v := ?_) (a' := ?_) (bA 26 2097151) rfl rfl (aU dY.out tX) (fun _ _ _ h => h) (Or.inl ⟨by rfl, ?_⟩) ?_ ?_; rotate_left
        ·intro w'
         go_simp
         with_reducible rfl
        rotate_left
        ·simp only [Act.put, sL, ay, aA]
         rfl
        refine aH (i := 21) (N := some 33) (v := ?_) (a' := ?_) (bA 26 4194303) rfl rfl (aU dY.out tX) (fun _ _ _ h => h) (Or.inl ⟨by rfl, ?_⟩) ?_ ?_; rotate_left
        ·intro w'
         go_simp
         with_reducible rfl
        rotate_left
        ·simp only [Act.put, sL, ay, aA]
         rfl
        refine fC (i := 22) (N := some 34) (v := ?_) (a' := ?_) (bA 26 8388607) rfl rfl (fD dY.out vX.out tX) (fun _ _ _ h => h) (Or.inl ⟨by rfl, ?_⟩) hHeld ?_ ?_; rotate_left
        ·rintro w' ⟨s0, s1, s2, s3, s4, s5, s6, s7, s8, s9, s10, s11, s12⟩
         go_simp
         with_reducible rfl
        rotate_left
        ·simp only [Act.put, sL, ay, aA]
         rfl
        refine gI (i := 23) (N := some 35) (bA 26 16777215) rfl rfl (iF dY.out tX) (by decide) (fun K hK => ?_); refine fP Tryz.func108 tX rfl #[.agg #[.int .i64 ((aC l1 aQ).f2.f0), .int .i64 ((aC l1 aQ).f2.f1)], .int .i64 0, .int .i64 12, .int .i64 2] (by rfl) rfl rfl tM ?_
        with_reducible refine (iB.calls ((aC l1 aQ).f2.f0) ((aC l1 aQ).f2.f1) 0 12 2 true _ JX.out).mono ?_
        rintro e Uo ⟨rfl, hb⟩; refine ⟨_, rfl, ?_⟩; replace iW := bV iW hb; replace HB := dL HB hb
        (try clear hb)
        (try clear hb2)
        (try clear hk)
        (try clear hi)
        refine hK.out _ _ ⟨(aI iW.out 0).trans rfl, (dz HB kU :), (dz HB kT :), (dz HB kS :), (dz HB kR :), (dz HB nL :), (dz HB nK :), (dz HB nJ :), (dz HB nI :), (dz HB rR :), (dz HB rQ :), (dz HB rP :), (dz HB rO :)⟩ (fun hHeld => ?_); clear hK K; refine dw (a' := ?_) ?_ ?_; rotate_left
        ·show Act.put _ (some 35) _ = _
         simp only [Act.put, sL, ay, aA]
         rfl
        refine aH (i := 24) (N := some 36) (v := ?_) (a' := ?_) (bA 26 33554431) rfl rfl (aU dY.out tX) (fun _ _ _ h => h) (Or.inl ⟨by rfl, ?_⟩) ?_ ?_; rotate_left
        ·intro w'
         go_simp
         with_reducible rfl
        rotate_left
        ·simp only [Act.put, sL, ay, aA]
         rfl
        refine aH (i := 25) (N := some 37) (v := ?_) (a' := ?_) (bA 26 67108863) rfl rfl (aU dY.out tX) (fun _ _ _ h => h) (Or.inl ⟨by rfl, ?_⟩) ?_ ?_; rotate_left
        ·intro w'
         go_simp
         with_reducible rfl
        rotate_left
        ·simp only [Act.put, sL, ay, aA]
         rfl
        refine kZ (pF dY.out tX) ?_
        try go_wp2
        go_roundg k1
        case measure => have := ng.out; omega
        case rel => exact ⟨(wrap64 (aQ + 1)), tS, H', ⟨by have := ng.out; omega⟩, ⟨tK⟩, ⟨tB⟩⟩
       ·replace c11 := Bool.eq_false_iff.mpr c11
        subst c11
        have H1 : (some false) = some r := by rw [if_neg (show ¬ (false = true) by decide)] at H; exact H
        clear H; have H := H1; clear H1; obtain rfl := Option.some.inj H
        try go_wp2
        replace iW := aj.mk (aN iW.out); replace HB := aj.mk (iV HB.out); have zB : 0 ≤ (aQ : Int) := of_decide_eq_true tA; have zC : aQ < (l1.length : Int) := of_decide_eq_true tA; obtain ⟨eO, NT, jM, jN, jO, jP⟩ := jK HR1.out aQ zB zC; have kR := jP; have kS := jO; have kT := jN; have kU := jM
        cases NT
        replace jM := dz HB jM; replace jN := dz HB jN; replace jO := dz HB jO; replace jP := dz HB jP; replace zB := eq_true zB; replace zC := eq_true zC; have FD : 0 ≤ (aQ : Int) := of_decide_eq_true tA; have FE : aQ < (l1.length : Int) := of_decide_eq_true tA; obtain ⟨KN, VI, mQ, mR, mU, mV⟩ := jK HR1.out aQ FD FE; have nI := mV; have nJ := mU; have nK := mR; have nL := mQ; obtain rfl : eO = KN := (by injection VI); replace mQ := dz HB mQ; replace mR := dz HB mR; replace mU := dz HB mU; replace mV := dz HB mV; replace FD := eq_true FD; replace FE := eq_true FE; have NU : 0 ≤ (aQ : Int) := of_decide_eq_true tA; have NV : aQ < (l1.length : Int) := of_decide_eq_true tA; obtain ⟨VJ, qc8, rG, rH, rJ, rM⟩ := jK HR1.out aQ NU NV; have rO := rM; have rP := rJ; have rQ := rH; have rR := rG; obtain rfl : eO = VJ := (by injection qc8); replace rG := dz HB rG; replace rH := dz HB rH; replace rJ := dz HB rJ; replace rM := dz HB rM; replace NU := eq_true NU; replace NV := eq_true NV; refine j6 (n := 26) (S := fun w' => w'.cell? ⟨KM, 0, none⟩ = some (.slice bB au.length aZ) ∧ w'.cell? (eO.add ((aQ).toNat * 4)) = some (.int .i64 ((aC l1 aQ).f0)) ∧ w'.cell? ⟨(eO.add ((aQ).toNat * 4)).block, (eO.add ((aQ).toNat * 4)).off + 1, none⟩ = some (.int .i64 ((aC l1 aQ).f1)) ∧ w'.cell? ⟨(eO.add ((aQ).toNat * 4)).block, (eO.add ((aQ).toNat * 4)).off + 2, none⟩ = some (.int .i64 ((aC l1 aQ).f2.f0)) ∧ w'.cell? ⟨(eO.add ((aQ).toNat * 4)).block, (eO.add ((aQ).toNat * 4)).off + 3, none⟩ = some (.int .i64 ((aC l1 aQ).f2.f1)) ∧ w'.cell? (eO.add ((aQ).toNat * 4)) = some (.int .i64 ((aC l1 aQ).f0)) ∧ w'.cell? ⟨(eO.add ((aQ).toNat * 4)).block, (eO.add ((aQ).toNat * 4)).off + 1, none⟩ = some (.int .i64 ((aC l1 aQ).f1)) ∧ w'.cell? ⟨(eO.add ((aQ).toNat * 4)).block, (eO.add ((aQ).toNat * 4)).off + 2, none⟩ = some (.int .i64 ((aC l1 aQ).f2.f0)) ∧ w'.cell? ⟨(eO.add ((aQ).toNat * 4)).block, (eO.add ((aQ).toNat * 4)).off + 3, none⟩ = some (.int .i64 ((aC l1 aQ).f2.f1)) ∧ w'.cell? (eO.add ((aQ).toNat * 4)) = some (.int .i64 ((aC l1 aQ).f0)) ∧ w'.cell? ⟨(eO.add ((aQ).toNat * 4)).block, (eO.add ((aQ).toNat * 4)).off + 1, none⟩ = some (.int .i64 ((aC l1 aQ).f1)) ∧ w'.cell? ⟨(eO.add ((aQ).toNat * 4)).block, (eO.add ((aQ).toNat * 4)).off + 2, none⟩ = some (.int .i64 ((aC l1 aQ).f2.f0)) ∧ w'.cell? ⟨(eO.add ((aQ).toNat * 4)).block, (eO.add ((aQ).toNat * 4)).off + 3, none⟩ = some (.int .i64 ((aC l1 aQ).f2.f1))) (ds := []) #[false, false, false, false, false, false, false, false, false, false, false, false, false, false, false, false, false, false, false, false, false, false, false, false, false, false] tX rfl rfl ⟨(aI iW.out 0).trans rfl, (dz HB kU :), (dz HB kT :), (dz HB kS :), (dz HB kR :), (dz HB nL :), (dz HB nK :), (dz HB nJ :), (dz HB nI :), (dz HB rR :), (dz HB rQ :), (dz HB rP :), (dz HB rO :)⟩ (fun hHeld => ?_); refine lg bK.Zc bK.QI (fun dY vX => ?_)
        generalize wr.drew = ML at iW HB jM jN jO jP mQ mR mU mV rG rH rJ rM hHeld ⊢
        refine aH (i := 1) (N := some 13) (v := ?_) (a' := ?_) (bA 26 2) rfl rfl (aU dY.out tX) (fun _ _ _ h => h) (Or.inl ⟨by rfl, ?_⟩) ?_ ?_; rotate_left
        ·intro w'
         go_simp
         with_reducible rfl
        rotate_left
        ·simp only [Act.put, sL, ay, aA]
         rfl
        refine aH (i := 2) (N := some 14) (v := ?_) (a' := ?_) (bA 26 6) rfl rfl (aU dY.out tX) (fun _ _ _ h => h) (Or.inl ⟨by rfl, ?_⟩) ?_ ?_; rotate_left
        ·intro w'
         go_simp
         with_reducible rfl
        rotate_left
        ·simp only [Act.put, sL, ay, aA]
         rfl
        refine aH (i := 3) (N := some 15) (v := ?_) (a' := ?_) (bA 26 14) rfl rfl (aU dY.out tX) (fun _ _ _ h => h) (Or.inl ⟨by rfl, ?_⟩) ?_ ?_; rotate_left
        ·intro w'
         go_simp
         with_reducible rfl
        rotate_left
        ·simp only [Act.put, sL, ay, aA]
         rfl
        refine aH (i := 4) (N := some 16) (v := ?_) (a' := ?_) (bA 26 30) rfl rfl (aU dY.out tX) (fun _ _ _ h => h) (Or.inl ⟨by rfl, ?_⟩) ?_ ?_; rotate_left
        ·intro w'
         go_simp
         with_reducible rfl
        rotate_left
        ·simp only [Act.put, sL, ay, aA]
         rfl
        refine fC (i := 0) (N := some 12) (v := ?_) (a' := ?_) (bA 26 31) rfl rfl (fD dY.out vX.out tX) (fun _ _ _ h => h) (Or.inl ⟨by rfl, ?_⟩) hHeld ?_ ?_; rotate_left
        ·rintro w' ⟨s0, s1, s2, s3, s4, s5, s6, s7, s8, s9, s10, s11, s12⟩
         go_simp
         with_reducible rfl
        rotate_left
        ·simp only [Act.put, sL, ay, aA]
         rfl
        refine fC (i := 5) (N := some 17) (v := ?_) (a' := ?_) (bA 26 63) rfl rfl (fD dY.out vX.out tX) (fun _ _ _ h => h) (Or.inl ⟨by rfl, ?_⟩) hHeld ?_ ?_; rotate_left
        ·rintro w' ⟨s0, s1, s2, s3, s4, s5, s6, s7, s8, s9, s10, s11, s12⟩
         go_simp
         with_reducible rfl
        rotate_left
        ·simp only [Act.put, sL, ay, aA]
         rfl
        refine gI (i := 6) (N := some 18) (bA 26 127) rfl rfl (iF dY.out tX) (by decide) (fun K hK => ?_); refine fP Tryz.func42 tX rfl #[.agg #[.slice bB au.length aZ], .int .i64 ((aC l1 aQ).f0)] (by rfl) rfl rfl tM ?_
        with_reducible refine (iR.calls _ _ au ((aC l1 aQ).f0) true _ ?bF ?bG A6.out).mono ?_
        (case bF => repeat (first | exact (Kd.ak dJ.out HB.out) | (with_reducible refine Kd.bC ?_ _) | (with_reducible refine Kd.bD ?_ _) | (with_reducible refine Kd.bQ ?_)))
        (case bG => exact eu.out)
        rintro e w16 ⟨rfl, hb⟩; refine ⟨_, rfl, ?_⟩; replace iW := bV iW hb; replace HB := dL HB hb
        (try clear hb)
        (try clear hb2)
        (try clear hk)
        (try clear hi)
        refine hK.out _ _ ⟨(aI iW.out 0).trans rfl, (dz HB kU :), (dz HB kT :), (dz HB kS :), (dz HB kR :), (dz HB nL :), (dz HB nK :), (dz HB nJ :), (dz HB nI :), (dz HB rR :), (dz HB rQ :), (dz HB rP :), (dz HB rO :)⟩ (fun hHeld => ?_); clear hK K; refine dw (a' := ?_) ?_ ?_; rotate_left
        ·show Act.put _ (some 18) _ = _
         simp only [Act.put, sL, ay, aA]
         rfl
        refine aH (i := 7) (N := some 19) (v := ?_) (a' := ?_) (bA 26 255) rfl rfl (aU dY.out tX) (fun _ _ _ h => h) (Or.inl ⟨by rfl, ?_⟩) ?_ ?_; rotate_left
        ·intro w'
         go_simp
         with_reducible rfl
        rotate_left
        ·simp only [Act.put, sL, ay, aA]
         rfl
        refine aH (i := 8) (N := some 20) (v := ?_) (a' := ?_) (bA 26 511) rfl rfl (aU dY.out tX) (fun _ _ _ h => h) (Or.inl ⟨by rfl, ?_⟩) ?_ ?_; rotate_left
        ·intro w'
         go_simp
         with_reducible rfl
        rotate_left
        ·simp only [Act.put, sL, ay, aA]
         rfl
        refine aH (i := 9) (N := some 21) (v := ?_) (a' := ?_) (bA 26 1023) rfl rfl (aU dY.out tX) (fun _ _ _ h => h) (Or.inl ⟨by rfl, ?_⟩) ?_ ?_; rotate_left
        ·intro w'
         go_simp
         with_reducible rfl
        rotate_left
        ·simp only [Act.put, sL, ay, aA]
         rfl
        refine aH (i := 10) (N := some 22) (v := ?_) (a' := ?_) (bA 26 2047) rfl rfl (aU dY.out tX) (fun _ _ _ h => h) (Or.inl ⟨by rfl, ?_⟩) ?_ ?_; rotate_left
        ·intro w'
         go_simp
         with_reducible rfl
        rotate_left
        ·simp only [Act.put, sL, ay, aA]
         rfl
        refine aH (i := 11) (N := some 23) (v := ?_) (a' := ?_) (bA 26 4095) rfl rfl (aU dY.out tX) (fun _ _ _ h => h) (Or.inl ⟨by rfl, ?_⟩) ?_ ?_; rotate_left
        ·intro w'
         go_simp
         with_reducible rfl
        rotate_left
        ·simp only [Act.put, sL, ay, aA]
         rfl
        refine aH (i := 12) (N := some 24) (v := ?_) (a' := ?_) (bA 26 8191) rfl rfl (aU dY.out tX) (fun _ _ _ h => h) (Or.inl ⟨by rfl, ?_⟩) ?_ ?_; rotate_left
        ·intro w'
         go_simp
         with_reducible rfl
        rotate_left
        ·simp only [Act.put, sL, ay, aA]
         rfl
        refine fC (i := 13) (N := some 25) (v := ?_) (a' := ?_) (bA 26 16383) rfl rfl (fD dY.out vX.out tX) (fun _ _ _ h => h) (Or.inl ⟨by rfl, ?_⟩) hHeld ?_ ?_; rotate_left
        ·rintro w' ⟨s0, s1, s2, s3, s4, s5, s6, s7, s8, s9, s10, s11, s12⟩
         go_simp
         with_reducible rfl
        rotate_left
        ·simp only [Act.put, sL, ay, aA]
         rfl
        refine gI (i := 14) (N := some 26) (bA 26 32767) rfl rfl (iF dY.out tX) (by decide) (fun K hK => ?_); refine fP Tryz.func43 tX rfl #[.int .i64 ((aC l1 aQ).f1)] (by rfl) rfl rfl tM ?_
        with_reducible refine (iG.calls ((aC l1 aQ).f1) true _ A8.out).mono ?_
        rintro e w' ⟨rfl, ⟨nd, rfl⟩⟩; refine ⟨_, rfl, ?_⟩; refine hK.out _ _ ⟨(aI iW.out 0).trans rfl, (dz HB kU :), (dz HB kT :), (dz HB kS :), (dz HB kR :), (dz HB nL :), (dz HB nK :), (dz HB nJ :), (dz HB nI :), (dz HB rR :), (dz HB rQ :), (dz HB rP :), (dz HB rO :)⟩ (fun hHeld => ?_); clear hK K; refine dw (a' := ?_) ?_ ?_; rotate_left
        ·show Act.put _ (some 26) _ = _
         simp only [Act.put, sL, ay, aA]
         rfl
        refine aH (i := 15) (N := some 27) (v := ?_) (a' := ?_) (bA 26 65535) rfl rfl (aU dY.out tX) (fun _ _ _ h => h) (Or.inl ⟨by rfl, ?_⟩) ?_ ?_; rotate_left
        ·intro w'
         go_simp
         with_reducible rfl
        rotate_left
        ·simp only [Act.put, sL, ay, aA]
         rfl
        refine aH (i := 16) (N := some 28) (v := ?_) (a' := ?_) (bA 26 131071) rfl rfl (aU dY.out tX) (fun _ _ _ h => h) (Or.inl ⟨by rfl, ?_⟩) ?_ ?_; rotate_left
        ·intro w'
         go_simp
         with_reducible rfl
        rotate_left
        ·simp only [Act.put, sL, ay, aA]
         rfl
        refine aH (i := 17) (N := some 29) (v := ?_) (a' := ?_) (bA 26 262143) rfl rfl (aU dY.out tX) (fun _ _ _ h => h) (Or.inl ⟨by rfl, ?_⟩) ?_ ?_; rotate_left
        ·intro w'
         go_simp
         with_reducible rfl
        rotate_left
        ·simp only [Act.put, sL, ay, aA]
         rfl
        refine aH (i := 18) (N := some 30) (v := ?_) (a' := ?_) (bA 26 524287) rfl rfl (aU dY.out tX) (fun _ _ _ h => h) (Or.inl ⟨by rfl, ?_⟩) ?_ ?_; rotate_left
        ·intro w'
         go_simp
         with_reducible rfl
        rotate_left
        ·simp only [Act.put, sL, ay, aA]
         rfl
        refine aH (i := 19) (N := some 31) (v := ?_) (a' := ?_) (bA 26 1048575) rfl rfl (aU dY.out tX) (fun _ _ _ h => h) (Or.inl ⟨by rfl, ?_⟩) ?_ ?_; rotate_left
        ·intro w'
         go_simp
         with_reducible rfl
        rotate_left
        ·simp only [Act.put, sL, ay, aA]
         rfl
        refine aH (i := 20) (N := some 32) (v := ?_) (a' := ?_) (bA 26 2097151) rfl rfl (aU dY.out tX) (fun _ _ _ h => h) (Or.inl ⟨by rfl, ?_⟩) ?_ ?_; rotate_left
        ·intro w'
         go_simp
         with_reducible rfl
        rotate_left
        ·simp only [Act.put, sL, ay, aA]
         rfl
        refine aH (i := 21) (N := some 33) (v := ?_) (a' := ?_) (bA 26 4194303) rfl rfl (aU dY.out tX) (fun _ _ _ h => h) (Or.inl ⟨by rfl, ?_⟩) ?_ ?_; rotate_left
        ·intro w'
         go_simp
         with_reducible rfl
        rotate_left
        ·simp only [Act.put, sL, ay, aA]
         rfl
        refine fC (i := 22) (N := some 34) (v := ?_) (a' := ?_) (bA 26 8388607) rfl rfl (fD dY.out vX.out tX) (fun _ _ _ h => h) (Or.inl ⟨by rfl, ?_⟩) hHeld ?_ ?_; rotate_left
        ·rintro w' ⟨s0, s1, s2, s3, s4, s5, s6, s7, s8, s9, s10, s11, s12⟩
         go_simp
         with_reducible rfl
        rotate_left
        ·simp only [Act.put, sL, ay, aA]
         rfl
        refine gI (i := 23) (N := some 35) (bA 26 16777215) rfl rfl (iF dY.out tX) (by decide) (fun K hK => ?_); refine fP Tryz.func108 tX rfl #[.agg #[.int .i64 ((aC l1 aQ).f2.f0), .int .i64 ((aC l1 aQ).f2.f1)], .int .i64 0, .int .i64 12, .int .i64 2] (by rfl) rfl rfl tM ?_
        with_reducible refine (iB.calls ((aC l1 aQ).f2.f0) ((aC l1 aQ).f2.f1) 0 12 2 false _ JX.out).mono ?_
        rintro e YE ⟨rfl, hb⟩; refine ⟨_, rfl, ?_⟩; replace iW := bV iW hb; replace HB := dL HB hb
        (try clear hb)
        (try clear hb2)
        (try clear hk)
        (try clear hi)
        refine hK.out _ _ ⟨(aI iW.out 0).trans rfl, (dz HB kU :), (dz HB kT :), (dz HB kS :), (dz HB kR :), (dz HB nL :), (dz HB nK :), (dz HB nJ :), (dz HB nI :), (dz HB rR :), (dz HB rQ :), (dz HB rP :), (dz HB rO :)⟩ (fun hHeld => ?_); clear hK K; refine dw (a' := ?_) ?_ ?_; rotate_left
        ·show Act.put _ (some 35) _ = _
         simp only [Act.put, sL, ay, aA]
         rfl
        refine aH (i := 24) (N := some 36) (v := ?_) (a' := ?_) (bA 26 33554431) rfl rfl (aU dY.out tX) (fun _ _ _ h => h) (Or.inl ⟨by rfl, ?_⟩) ?_ ?_; rotate_left
        ·intro w'
         go_simp
         with_reducible rfl
        rotate_left
        ·simp only [Act.put, sL, ay, aA]
         rfl
        refine aH (i := 25) (N := some 37) (v := ?_) (a' := ?_) (bA 26 67108863) rfl rfl (aU dY.out tX) (fun _ _ _ h => h) (Or.inl ⟨by rfl, ?_⟩) ?_ ?_; rotate_left
        ·intro w'
         go_simp
         with_reducible rfl
        rotate_left
        ·simp only [Act.put, sL, ay, aA]
         rfl
        refine kZ (pF dY.out tX) ?_
        try go_wp2
        go_ret
        exact ⟨tF, tB⟩
      ·replace c9 := Bool.eq_false_iff.mpr c9
       subst c9
       have H1 : (some false) = some r := by rw [if_neg (show ¬ (false = true) by decide)] at H; exact H
       clear H; have H := H1; clear H1; obtain rfl := Option.some.inj H
       try go_wp2
       replace iW := aj.mk (aN iW.out); replace HB := aj.mk (iV HB.out); have zB : 0 ≤ (aQ : Int) := of_decide_eq_true tA; have zC : aQ < (l1.length : Int) := of_decide_eq_true tA; obtain ⟨eO, NT, jM, jN, jO, jP⟩ := jK HR1.out aQ zB zC; have kR := jP; have kS := jO; have kT := jN; have kU := jM
       cases NT
       replace jM := dz HB jM; replace jN := dz HB jN; replace jO := dz HB jO; replace jP := dz HB jP; replace zB := eq_true zB; replace zC := eq_true zC; have FD : 0 ≤ (aQ : Int) := of_decide_eq_true tA; have FE : aQ < (l1.length : Int) := of_decide_eq_true tA; obtain ⟨KN, VI, mQ, mR, mU, mV⟩ := jK HR1.out aQ FD FE; have nI := mV; have nJ := mU; have nK := mR; have nL := mQ; obtain rfl : eO = KN := (by injection VI); replace mQ := dz HB mQ; replace mR := dz HB mR; replace mU := dz HB mU; replace mV := dz HB mV; replace FD := eq_true FD; replace FE := eq_true FE; refine j6 (n := 26) (S := fun w' => w'.cell? ⟨KM, 0, none⟩ = some (.slice bB au.length aZ) ∧ w'.cell? (eO.add ((aQ).toNat * 4)) = some (.int .i64 ((aC l1 aQ).f0)) ∧ w'.cell? ⟨(eO.add ((aQ).toNat * 4)).block, (eO.add ((aQ).toNat * 4)).off + 1, none⟩ = some (.int .i64 ((aC l1 aQ).f1)) ∧ w'.cell? ⟨(eO.add ((aQ).toNat * 4)).block, (eO.add ((aQ).toNat * 4)).off + 2, none⟩ = some (.int .i64 ((aC l1 aQ).f2.f0)) ∧ w'.cell? ⟨(eO.add ((aQ).toNat * 4)).block, (eO.add ((aQ).toNat * 4)).off + 3, none⟩ = some (.int .i64 ((aC l1 aQ).f2.f1)) ∧ w'.cell? (eO.add ((aQ).toNat * 4)) = some (.int .i64 ((aC l1 aQ).f0)) ∧ w'.cell? ⟨(eO.add ((aQ).toNat * 4)).block, (eO.add ((aQ).toNat * 4)).off + 1, none⟩ = some (.int .i64 ((aC l1 aQ).f1)) ∧ w'.cell? ⟨(eO.add ((aQ).toNat * 4)).block, (eO.add ((aQ).toNat * 4)).off + 2, none⟩ = some (.int .i64 ((aC l1 aQ).f2.f0)) ∧ w'.cell? ⟨(eO.add ((aQ).toNat * 4)).block, (eO.add ((aQ).toNat * 4)).off + 3, none⟩ = some (.int .i64 ((aC l1 aQ).f2.f1))) (ds := []) #[false, false, false, false, false, false, false, false, false, false, false, false, false, false, false, false, false, false, false, false, false, false, false, false, false, false] tX rfl rfl ⟨(aI iW.out 0).trans rfl, (dz HB kU :), (dz HB kT :), (dz HB kS :), (dz HB kR :), (dz HB nL :), (dz HB nK :), (dz HB nJ :), (dz HB nI :)⟩ (fun hHeld => ?_); refine lg bK.Zc bK.QI (fun dY vX => ?_)
       generalize wr.drew = Vd at iW HB jM jN jO jP mQ mR mU mV hHeld ⊢
       refine aH (i := 1) (N := some 13) (v := ?_) (a' := ?_) (bA 26 2) rfl rfl (aU dY.out tX) (fun _ _ _ h => h) (Or.inl ⟨by rfl, ?_⟩) ?_ ?_; rotate_left
       ·intro w'
        go_simp
        with_reducible rfl
       rotate_left
       ·simp only [Act.put, sL, ay, aA]
        rfl
       refine aH (i := 2) (N := some 14) (v := ?_) (a' := ?_) (bA 26 6) rfl rfl (aU dY.out tX) (fun _ _ _ h => h) (Or.inl ⟨by rfl, ?_⟩) ?_ ?_; rotate_left
       ·intro w'
        go_simp
        with_reducible rfl
       rotate_left
       ·simp only [Act.put, sL, ay, aA]
        rfl
       refine aH (i := 3) (N := some 15) (v := ?_) (a' := ?_) (bA 26 14) rfl rfl (aU dY.out tX) (fun _ _ _ h => h) (Or.inl ⟨by rfl, ?_⟩) ?_ ?_; rotate_left
       ·intro w'
        go_simp
        with_reducible rfl
       rotate_left
       ·simp only [Act.put, sL, ay, aA]
        rfl
       refine aH (i := 4) (N := some 16) (v := ?_) (a' := ?_) (bA 26 30) rfl rfl (aU dY.out tX) (fun _ _ _ h => h) (Or.inl ⟨by rfl, ?_⟩) ?_ ?_; rotate_left
       ·intro w'
        go_simp
        with_reducible rfl
       rotate_left
       ·simp only [Act.put, sL, ay, aA]
        rfl
       refine fC (i := 0) (N := some 12) (v := ?_) (a' := ?_) (bA 26 31) rfl rfl (fD dY.out vX.out tX) (fun _ _ _ h => h) (Or.inl ⟨by rfl, ?_⟩) hHeld ?_ ?_; rotate_left
       ·rintro w' ⟨s0, s1, s2, s3, s4, s5, s6, s7, s8⟩
        go_simp
        with_reducible rfl
       rotate_left
       ·simp only [Act.put, sL, ay, aA]
        rfl
       refine fC (i := 5) (N := some 17) (v := ?_) (a' := ?_) (bA 26 63) rfl rfl (fD dY.out vX.out tX) (fun _ _ _ h => h) (Or.inl ⟨by rfl, ?_⟩) hHeld ?_ ?_; rotate_left
       ·rintro w' ⟨s0, s1, s2, s3, s4, s5, s6, s7, s8⟩
        go_simp
        with_reducible rfl
       rotate_left
       ·simp only [Act.put, sL, ay, aA]
        rfl
       refine gI (i := 6) (N := some 18) (bA 26 127) rfl rfl (iF dY.out tX) (by decide) (fun K hK => ?_); refine fP Tryz.func42 tX rfl #[.agg #[.slice bB au.length aZ], .int .i64 ((aC l1 aQ).f0)] (by rfl) rfl rfl tM ?_
       with_reducible refine (iR.calls _ _ au ((aC l1 aQ).f0) true _ ?bF ?bG A6.out).mono ?_
       (case bF => repeat (first | exact (Kd.ak dJ.out HB.out) | (with_reducible refine Kd.bC ?_ _) | (with_reducible refine Kd.bD ?_ _) | (with_reducible refine Kd.bQ ?_)))
       (case bG => exact eu.out)
       rintro e w19 ⟨rfl, hb⟩; refine ⟨_, rfl, ?_⟩; replace iW := bV iW hb; replace HB := dL HB hb
       (try clear hb)
       (try clear hb2)
       (try clear hk)
       (try clear hi)
       refine hK.out _ _ ⟨(aI iW.out 0).trans rfl, (dz HB kU :), (dz HB kT :), (dz HB kS :), (dz HB kR :), (dz HB nL :), (dz HB nK :), (dz HB nJ :), (dz HB nI :)⟩ (fun hHeld => ?_); clear hK K; refine dw (a' := ?_) ?_ ?_; rotate_left
       ·show Act.put _ (some 18) _ = _
        simp only [Act.put, sL, ay, aA]
        rfl
       refine aH (i := 7) (N := some 19) (v := ?_) (a' := ?_) (bA 26 255) rfl rfl (aU dY.out tX) (fun _ _ _ h => h) (Or.inl ⟨by rfl, ?_⟩) ?_ ?_; rotate_left
       ·intro w'
        go_simp
        with_reducible rfl
       rotate_left
       ·simp only [Act.put, sL, ay, aA]
        rfl
       refine aH (i := 8) (N := some 20) (v := ?_) (a' := ?_) (bA 26 511) rfl rfl (aU dY.out tX) (fun _ _ _ h => h) (Or.inl ⟨by rfl, ?_⟩) ?_ ?_; rotate_left
       ·intro w'
        go_simp
        with_reducible rfl
       rotate_left
       ·simp only [Act.put, sL, ay, aA]
        rfl
       refine aH (i := 9) (N := some 21) (v := ?_) (a' := ?_) (bA 26 1023) rfl rfl (aU dY.out tX) (fun _ _ _ h => h) (Or.inl ⟨by rfl, ?_⟩) ?_ ?_; rotate_left
       ·intro w'
        go_simp
        with_reducible rfl
       rotate_left
       ·simp only [Act.put, sL, ay, aA]
        rfl
       refine aH (i := 10) (N := some 22) (v := ?_) (a' := ?_) (bA 26 2047) rfl rfl (aU dY.out tX) (fun _ _ _ h => h) (Or.inl ⟨by rfl, ?_⟩) ?_ ?_; rotate_left
       ·intro w'
        go_simp
        with_reducible rfl
       rotate_left
       ·simp only [Act.put, sL, ay, aA]
        rfl
       refine aH (i := 11) (N := some 23) (v := ?_) (a' := ?_) (bA 26 4095) rfl rfl (aU dY.out tX) (fun _ _ _ h => h) (Or.inl ⟨by rfl, ?_⟩) ?_ ?_; rotate_left
       ·intro w'
        go_simp
        with_reducible rfl
       rotate_left
       ·simp only [Act.put, sL, ay, aA]
        rfl
       refine aH (i := 12) (N := some 24) (v := ?_) (a' := ?_) (bA 26 8191) rfl rfl (aU dY.out tX) (fun _ _ _ h => h) (Or.inl ⟨by rfl, ?_⟩) ?_ ?_; rotate_left
       ·intro w'
        go_simp
        with_reducible rfl
       rotate_left
       ·simp only [Act.put, sL, ay, aA]
        rfl
       refine fC (i := 13) (N := some 25) (v := ?_) (a' := ?_) (bA 26 16383) rfl rfl (fD dY.out vX.out tX) (fun _ _ _ h => h) (Or.inl ⟨by rfl, ?_⟩) hHeld ?_ ?_; rotate_left
       ·rintro w' ⟨s0, s1, s2, s3, s4, s5, s6, s7, s8⟩
        go_simp
        with_reducible rfl
       rotate_left
       ·simp only [Act.put, sL, ay, aA]
        rfl
       refine gI (i := 14) (N := some 26) (bA 26 32767) rfl rfl (iF dY.out tX) (by decide) (fun K hK => ?_); refine fP Tryz.func43 tX rfl #[.int .i64 ((aC l1 aQ).f1)] (by rfl) rfl rfl tM ?_
       with_reducible refine (iG.calls ((aC l1 aQ).f1) false _ A8.out).mono ?_
       rintro e w' ⟨rfl, ⟨nd, rfl⟩⟩; refine ⟨_, rfl, ?_⟩; refine hK.out _ _ ⟨(aI iW.out 0).trans rfl, (dz HB kU :), (dz HB kT :), (dz HB kS :), (dz HB kR :), (dz HB nL :), (dz HB nK :), (dz HB nJ :), (dz HB nI :)⟩ (fun hHeld => ?_); clear hK K; refine dw (a' := ?_) ?_ ?_; rotate_left
       ·show Act.put _ (some 26) _ = _
        simp only [Act.put, sL, ay, aA]
        rfl
       refine aH (i := 15) (N := some 27) (v := ?_) (a' := ?_) (bA 26 65535) rfl rfl (aU dY.out tX) (fun _ _ _ h => h) (Or.inl ⟨by rfl, ?_⟩) ?_ ?_; rotate_left
       ·intro w'
        go_simp
        with_reducible rfl
       rotate_left
       ·simp only [Act.put, sL, ay, aA]
        rfl
       refine aH (i := 16) (N := some 28) (v := ?_) (a' := ?_) (bA 26 131071) rfl rfl (aU dY.out tX) (fun _ _ _ h => h) (Or.inl ⟨by rfl, ?_⟩) ?_ ?_; rotate_left
       ·intro w'
        go_simp
        with_reducible rfl
       rotate_left
       ·simp only [Act.put, sL, ay, aA]
        rfl
       refine aH (i := 17) (N := some 29) (v := ?_) (a' := ?_) (bA 26 262143) rfl rfl (aU dY.out tX) (fun _ _ _ h => h) (Or.inl ⟨by rfl, ?_⟩) ?_ ?_; rotate_left
       ·intro w'
        go_simp
        with_reducible rfl
       rotate_left
       ·simp only [Act.put, sL, ay, aA]
        rfl
       refine aH (i := 18) (N := some 30) (v := undef) (a' := ?_) (bA 26 524287) rfl rfl (aU dY.out tX) (fun _ _ _ h => h) (Or.inr ⟨by rfl, rfl⟩) ?_ ?_; rotate_left
       ·simp only [Act.put, sL, ay, aA]
        rfl
       refine aH (i := 19) (N := some 31) (v := undef) (a' := ?_) (bA 26 1048575) rfl rfl (aU dY.out tX) (fun _ _ _ h => h) (Or.inr ⟨by rfl, rfl⟩) ?_ ?_; rotate_left
       ·simp only [Act.put, sL, ay, aA]
        rfl
       refine aH (i := 20) (N := some 32) (v := undef) (a' := ?_) (bA 26 2097151) rfl rfl (aU dY.out tX) (fun _ _ _ h => h) (Or.inr ⟨by rfl, rfl⟩) ?_ ?_; rotate_left
       ·simp only [Act.put, sL, ay, aA]
        rfl
       refine aH (i := 21) (N := some 33) (v := undef) (a' := ?_) (bA 26 4194303) rfl rfl (aU dY.out tX) (fun _ _ _ h => h) (Or.inr ⟨by rfl, rfl⟩) ?_ ?_; rotate_left
       ·simp only [Act.put, sL, ay, aA]
        rfl
       refine aH (i := 22) (N := some 34) (v := undef) (a' := ?_) (bA 26 8388607) rfl rfl (aU dY.out tX) (fun _ _ _ h => h) (Or.inr ⟨by rfl, rfl⟩) ?_ ?_; rotate_left
       ·simp only [Act.put, sL, ay, aA]
        rfl
       refine aH (i := 23) (N := some 35) (v := undef) (a' := ?_) (bA 26 16777215) rfl rfl (aU dY.out tX) (fun _ _ _ h => h) (Or.inr ⟨by rfl, rfl⟩) ?_ ?_; rotate_left
       ·simp only [Act.put, sL, ay, aA]
        rfl
       refine aH (i := 24) (N := some 36) (v := undef) (a' := ?_) (bA 26 33554431) rfl rfl (aU dY.out tX) (fun _ _ _ h => h) (Or.inr ⟨by rfl, rfl⟩) ?_ ?_; rotate_left
       ·simp only [Act.put, sL, ay, aA]
        rfl
       refine aH (i := 25) (N := some 37) (v := ?_) (a' := ?_) (bA 26 67108863) rfl rfl (aU dY.out tX) (fun _ _ _ h => h) (Or.inl ⟨by rfl, ?_⟩) ?_ ?_; rotate_left
       ·intro w'
        go_simp
        with_reducible rfl
       rotate_left
       ·simp only [Act.put, sL, ay, aA]
        rfl
       refine kZ (pF dY.out tX) ?_
       try go_wp2
       go_ret
       exact ⟨tF, tB⟩
     ·replace c7 := Bool.eq_false_iff.mpr c7
      subst c7
      have H1 : (some false) = some r := by rw [if_neg (show ¬ (false = true) by decide)] at H; exact H
      clear H; have H := H1; clear H1; obtain rfl := Option.some.inj H
      try go_wp2
      replace iW := aj.mk (aN iW.out); replace HB := aj.mk (iV HB.out); have zB : 0 ≤ (aQ : Int) := of_decide_eq_true tA; have zC : aQ < (l1.length : Int) := of_decide_eq_true tA; obtain ⟨eO, NT, jM, jN, jO, jP⟩ := jK HR1.out aQ zB zC; have kR := jP; have kS := jO; have kT := jN; have kU := jM
      cases NT
      replace jM := dz HB jM; replace jN := dz HB jN; replace jO := dz HB jO; replace jP := dz HB jP; replace zB := eq_true zB; replace zC := eq_true zC; refine j6 (n := 26) (S := fun w' => w'.cell? ⟨KM, 0, none⟩ = some (.slice bB au.length aZ) ∧ w'.cell? (eO.add ((aQ).toNat * 4)) = some (.int .i64 ((aC l1 aQ).f0)) ∧ w'.cell? ⟨(eO.add ((aQ).toNat * 4)).block, (eO.add ((aQ).toNat * 4)).off + 1, none⟩ = some (.int .i64 ((aC l1 aQ).f1)) ∧ w'.cell? ⟨(eO.add ((aQ).toNat * 4)).block, (eO.add ((aQ).toNat * 4)).off + 2, none⟩ = some (.int .i64 ((aC l1 aQ).f2.f0)) ∧ w'.cell? ⟨(eO.add ((aQ).toNat * 4)).block, (eO.add ((aQ).toNat * 4)).off + 3, none⟩ = some (.int .i64 ((aC l1 aQ).f2.f1))) (ds := []) #[false, false, false, false, false, false, false, false, false, false, false, false, false, false, false, false, false, false, false, false, false, false, false, false, false, false] tX rfl rfl ⟨(aI iW.out 0).trans rfl, (dz HB kU :), (dz HB kT :), (dz HB kS :), (dz HB kR :)⟩ (fun hHeld => ?_); refine lg bK.Zc bK.QI (fun dY vX => ?_)
      generalize wr.drew = w20 at iW HB jM jN jO jP hHeld ⊢
      refine aH (i := 1) (N := some 13) (v := ?_) (a' := ?_) (bA 26 2) rfl rfl (aU dY.out tX) (fun _ _ _ h => h) (Or.inl ⟨by rfl, ?_⟩) ?_ ?_; rotate_left
      ·intro w'
       go_simp
       with_reducible rfl
      rotate_left
      ·simp only [Act.put, sL, ay, aA]
       rfl
      refine aH (i := 2) (N := some 14) (v := ?_) (a' := ?_) (bA 26 6) rfl rfl (aU dY.out tX) (fun _ _ _ h => h) (Or.inl ⟨by rfl, ?_⟩) ?_ ?_; rotate_left
      ·intro w'
       go_simp
       with_reducible rfl
      rotate_left
      ·simp only [Act.put, sL, ay, aA]
       rfl
      refine aH (i := 3) (N := some 15) (v := ?_) (a' := ?_) (bA 26 14) rfl rfl (aU dY.out tX) (fun _ _ _ h => h) (Or.inl ⟨by rfl, ?_⟩) ?_ ?_; rotate_left
      ·intro w'
       go_simp
       with_reducible rfl
      rotate_left
      ·simp only [Act.put, sL, ay, aA]
       rfl
      refine aH (i := 4) (N := some 16) (v := ?_) (a' := ?_) (bA 26 30) rfl rfl (aU dY.out tX) (fun _ _ _ h => h) (Or.inl ⟨by rfl, ?_⟩) ?_ ?_; rotate_left
      ·intro w'
       go_simp
       with_reducible rfl
      rotate_left
      ·simp only [Act.put, sL, ay, aA]
       rfl
      refine fC (i := 0) (N := some 12) (v := ?_) (a' := ?_) (bA 26 31) rfl rfl (fD dY.out vX.out tX) (fun _ _ _ h => h) (Or.inl ⟨by rfl, ?_⟩) hHeld ?_ ?_; rotate_left
      ·rintro w' ⟨s0, s1, s2, s3, s4⟩
       go_simp
       with_reducible rfl
      rotate_left
      ·simp only [Act.put, sL, ay, aA]
       rfl
      refine fC (i := 5) (N := some 17) (v := ?_) (a' := ?_) (bA 26 63) rfl rfl (fD dY.out vX.out tX) (fun _ _ _ h => h) (Or.inl ⟨by rfl, ?_⟩) hHeld ?_ ?_; rotate_left
      ·rintro w' ⟨s0, s1, s2, s3, s4⟩
       go_simp
       with_reducible rfl
      rotate_left
      ·simp only [Act.put, sL, ay, aA]
       rfl
      refine gI (i := 6) (N := some 18) (bA 26 127) rfl rfl (iF dY.out tX) (by decide) (fun K hK => ?_); refine fP Tryz.func42 tX rfl #[.agg #[.slice bB au.length aZ], .int .i64 ((aC l1 aQ).f0)] (by rfl) rfl rfl tM ?_
      with_reducible refine (iR.calls _ _ au ((aC l1 aQ).f0) false _ ?bF ?bG A6.out).mono ?_
      (case bF => repeat (first | exact (Kd.ak dJ.out HB.out) | (with_reducible refine Kd.bC ?_ _) | (with_reducible refine Kd.bD ?_ _) | (with_reducible refine Kd.bQ ?_)))
      (case bG => exact eu.out)
      rintro e w21 ⟨rfl, hb⟩; refine ⟨_, rfl, ?_⟩; replace iW := bV iW hb; replace HB := dL HB hb
      (try clear hb)
      (try clear hb2)
      (try clear hk)
      (try clear hi)
      refine hK.out _ _ ⟨(aI iW.out 0).trans rfl, (dz HB kU :), (dz HB kT :), (dz HB kS :), (dz HB kR :)⟩ (fun hHeld => ?_); clear hK K; refine dw (a' := ?_) ?_ ?_; rotate_left
      ·show Act.put _ (some 18) _ = _
       simp only [Act.put, sL, ay, aA]
       rfl
      refine aH (i := 7) (N := some 19) (v := ?_) (a' := ?_) (bA 26 255) rfl rfl (aU dY.out tX) (fun _ _ _ h => h) (Or.inl ⟨by rfl, ?_⟩) ?_ ?_; rotate_left
      ·intro w'
       go_simp
       with_reducible rfl
      rotate_left
      ·simp only [Act.put, sL, ay, aA]
       rfl
      refine aH (i := 8) (N := some 20) (v := ?_) (a' := ?_) (bA 26 511) rfl rfl (aU dY.out tX) (fun _ _ _ h => h) (Or.inl ⟨by rfl, ?_⟩) ?_ ?_; rotate_left
      ·intro w'
       go_simp
       with_reducible rfl
      rotate_left
      ·simp only [Act.put, sL, ay, aA]
       rfl
      refine aH (i := 9) (N := some 21) (v := undef) (a' := ?_) (bA 26 1023) rfl rfl (aU dY.out tX) (fun _ _ _ h => h) (Or.inr ⟨by rfl, rfl⟩) ?_ ?_; rotate_left
      ·simp only [Act.put, sL, ay, aA]
       rfl
      refine aH (i := 10) (N := some 22) (v := undef) (a' := ?_) (bA 26 2047) rfl rfl (aU dY.out tX) (fun _ _ _ h => h) (Or.inr ⟨by rfl, rfl⟩) ?_ ?_; rotate_left
      ·simp only [Act.put, sL, ay, aA]
       rfl
      refine aH (i := 11) (N := some 23) (v := undef) (a' := ?_) (bA 26 4095) rfl rfl (aU dY.out tX) (fun _ _ _ h => h) (Or.inr ⟨by rfl, rfl⟩) ?_ ?_; rotate_left
      ·simp only [Act.put, sL, ay, aA]
       rfl
      refine aH (i := 12) (N := some 24) (v := undef) (a' := ?_) (bA 26 8191) rfl rfl (aU dY.out tX) (fun _ _ _ h => h) (Or.inr ⟨by rfl, rfl⟩) ?_ ?_; rotate_left
      ·simp only [Act.put, sL, ay, aA]
       rfl
      refine aH (i := 13) (N := some 25) (v := undef) (a' := ?_) (bA 26 16383) rfl rfl (aU dY.out tX) (fun _ _ _ h => h) (Or.inr ⟨by rfl, rfl⟩) ?_ ?_; rotate_left
      ·simp only [Act.put, sL, ay, aA]
       rfl
      refine aH (i := 14) (N := some 26) (v := undef) (a' := ?_) (bA 26 32767) rfl rfl (aU dY.out tX) (fun _ _ _ h => h) (Or.inr ⟨by rfl, rfl⟩) ?_ ?_; rotate_left
      ·simp only [Act.put, sL, ay, aA]
       rfl
      refine aH (i := 15) (N := some 27) (v := undef) (a' := ?_) (bA 26 65535) rfl rfl (aU dY.out tX) (fun _ _ _ h => h) (Or.inr ⟨by rfl, rfl⟩) ?_ ?_; rotate_left
      ·simp only [Act.put, sL, ay, aA]
       rfl
      refine aH (i := 16) (N := some 28) (v := ?_) (a' := ?_) (bA 26 131071) rfl rfl (aU dY.out tX) (fun _ _ _ h => h) (Or.inl ⟨by rfl, ?_⟩) ?_ ?_; rotate_left
      ·intro w'
       go_simp
       with_reducible rfl
      rotate_left
      ·simp only [Act.put, sL, ay, aA]
       rfl
      refine aH (i := 17) (N := some 29) (v := ?_) (a' := ?_) (bA 26 262143) rfl rfl (aU dY.out tX) (fun _ _ _ h => h) (Or.inl ⟨by rfl, ?_⟩) ?_ ?_; rotate_left
      ·intro w'
       go_simp
       with_reducible rfl
      rotate_left
      ·simp only [Act.put, sL, ay, aA]
       rfl
      refine aH (i := 18) (N := some 30) (v := undef) (a' := ?_) (bA 26 524287) rfl rfl (aU dY.out tX) (fun _ _ _ h => h) (Or.inr ⟨by rfl, rfl⟩) ?_ ?_; rotate_left
      ·simp only [Act.put, sL, ay, aA]
       rfl
      refine aH (i := 19) (N := some 31) (v := undef) (a' := ?_) (bA 26 1048575) rfl rfl (aU dY.out tX) (fun _ _ _ h => h) (Or.inr ⟨by rfl, rfl⟩) ?_ ?_; rotate_left
      ·simp only [Act.put, sL, ay, aA]
       rfl
      refine aH (i := 20) (N := some 32) (v := undef) (a' := ?_) (bA 26 2097151) rfl rfl (aU dY.out tX) (fun _ _ _ h => h) (Or.inr ⟨by rfl, rfl⟩) ?_ ?_; rotate_left
      ·simp only [Act.put, sL, ay, aA]
       rfl
      refine aH (i := 21) (N := some 33) (v := undef) (a' := ?_) (bA 26 4194303) rfl rfl (aU dY.out tX) (fun _ _ _ h => h) (Or.inr ⟨by rfl, rfl⟩) ?_ ?_; rotate_left
      ·simp only [Act.put, sL, ay, aA]
       rfl
      refine aH (i := 22) (N := some 34) (v := undef) (a' := ?_) (bA 26 8388607) rfl rfl (aU dY.out tX) (fun _ _ _ h => h) (Or.inr ⟨by rfl, rfl⟩) ?_ ?_; rotate_left
      ·simp only [Act.put, sL, ay, aA]
       rfl
      refine aH (i := 23) (N := some 35) (v := undef) (a' := ?_) (bA 26 16777215) rfl rfl (aU dY.out tX) (fun _ _ _ h => h) (Or.inr ⟨by rfl, rfl⟩) ?_ ?_; rotate_left
      ·simp only [Act.put, sL, ay, aA]
       rfl
      refine aH (i := 24) (N := some 36) (v := undef) (a' := ?_) (bA 26 33554431) rfl rfl (aU dY.out tX) (fun _ _ _ h => h) (Or.inr ⟨by rfl, rfl⟩) ?_ ?_; rotate_left
      ·simp only [Act.put, sL, ay, aA]
       rfl
      refine aH (i := 25) (N := some 37) (v := ?_) (a' := ?_) (bA 26 67108863) rfl rfl (aU dY.out tX) (fun _ _ _ h => h) (Or.inl ⟨by rfl, ?_⟩) ?_ ?_; rotate_left
      ·intro w'
       go_simp
       with_reducible rfl
      rotate_left
      ·simp only [Act.put, sL, ay, aA]
       rfl
      refine kZ (pF dY.out tX) ?_
      try go_wp2
      go_ret
      exact ⟨tF, tB⟩
    ·rw [if_neg c5] at H
     exact absurd H (by simp)
   ·rw [if_neg c4] at H
    have o7 : decide (aQ < (l1.length : Int)) = false := decide_eq_false c4; clear c4; obtain rfl := Option.some.inj H
    go_wp2
    go_ret
    exact ⟨tF, tB⟩
end Go.Proofs.YtnpfbjnjdngkhaaGreatDoor.P
namespace Go.Proofs.YtnpfbjnjdngkhaaGreatDoor.P
open Go.RowKit Go.Proofs.YtnpfbjnjdngkhaaGreatDoorW.aW Go.Proofs.YtnpfbjnjdngkhaaGreatDoorW.bZ Go.Proofs.YtnpfbjnjdngkhaaGreatDoorW.dh
theorem QJ (x lo hi : Int) : fM.f x lo hi = some (o9 x lo hi) := (show fM.f x lo hi = eF.f x lo hi from rfl).trans (Fp x lo hi)
theorem QK (s : bT) (lo hi wide : Int) : iB.f s.f0 s.f1 lo hi wide = some (jB s lo hi wide) := (show iB.f s.f0 s.f1 lo hi wide = fZ.f s.f0 s.f1 lo hi wide from rfl).trans (vI s lo hi wide)
theorem VK {l : List bO} {i : Nat} (hi : i < l.length) : aT l (i : Int) = l[i] := by rw [aT, Int.toNat_natCast, List.getD_eq_getElem?_getD, List.getElem?_eq_getElem hi]; rfl
theorem qc9 {l : List bT} {i : Nat} (hi : i < l.length) : bM l (i : Int) = l[i] := by rw [bM, Int.toNat_natCast, List.getD_eq_getElem?_getD, List.getElem?_eq_getElem hi]; rfl
theorem VL {l : List bg} {i : Nat} (hi : i < l.length) : aC l (i : Int) = l[i] := by rw [aC, Int.toNat_natCast, List.getD_eq_getElem?_getD, List.getElem?_eq_getElem hi]; rfl
theorem xJ {i : Nat} (h : i ≤ 100000) : wrap64 ((i : Int) + 1) = ((i + 1 : Nat) : Int) := by rw [z8 (by omega) (by omega)]; omega
theorem VN (h : List bO) (i : Nat) (hi : i < h.length) (hl : h[i].f0.length ≤ 900) : ∀ (m k j : Nat), j + m = h[i].f0.length → bR.l1 (k + m + 1) i j h = if ((h[i].f0.drop j).any fun s => !jB s 0 20 2) = true then some false else if h[i].f0.length = 3 ∧ o9 h[i].f1 0 100 = true then bR.l0 k (wrap64 ((i : Int) + 1)) h else some false := by
 intro m
 induction m with
 | zero =>
  intro k j hj; rw [Nat.add_zero]; simp only [bR.l1, VK hi]; rw [if_pos (by omega), if_pos (by omega), if_neg (by omega), List.drop_eq_nil_of_le (by omega), QJ, Option.bind_some]
  by_cases h3 : h[i].f0.length = 3
  ·rw [if_pos (by omega)]
   simp [h3]
  ·rw [if_neg (by omega)]
   simp [h3]
 | succ m ih =>
  intro k j hj
  have hjl : j < h[i].f0.length := by omega
  rw [show k + (m + 1) + 1 = (k + m + 1) + 1 by omega]; rw [bR.l1, VK hi]; rw [if_pos (by omega), if_pos (by omega), if_pos (by omega), if_pos (by omega), qc9 hjl, QK, Option.bind_some, xJ (by omega), List.drop_eq_getElem_cons hjl, List.any_cons]
  cases hs : jB h[i].f0[j] 0 20 2 with
  | true =>
   rw [if_pos rfl, ih k (j + 1) (by omega)]; simp
  | false => simp
theorem VO (h : List bO) (hl : h.length ≤ 900) (hs : ∀ d ∈ h, d.f0.length ≤ 5) : ∀ (m k i : Nat), i + m = h.length → 7 * m < k → bR.l0 k i h = some (!((h.drop i).any zA) && o9 h.length 1 3) := by
 intro m
 induction m with
 | zero =>
  intro k i him hk; obtain ⟨k, rfl⟩ : ∃ m, k = m + 1 := ⟨k - 1, by omega⟩; rw [bR.l0, if_neg (by omega), QJ, List.drop_eq_nil_of_le (by omega)]; simp
 | succ m ih =>
  intro k i him hk
  have hi : i < h.length := by omega
  have h5 := hs _ (List.getElem_mem hi); obtain ⟨k2, rfl⟩ : ∃ k2, k = (k2 + h[i].f0.length + 1) + 1 := ⟨k - h[i].f0.length - 2, by omega⟩; rw [bR.l0, if_pos (by omega)]; have h1 := VN h i hi (by omega) h[i].f0.length k2 0 (by omega); rw [show ((0 : Nat) : Int) = 0 from rfl] at h1; rw [h1, xJ (by omega), ih k2 (i + 1) (by omega) (by omega), List.drop_zero, List.drop_eq_getElem_cons hi, List.any_cons]; have hd : zA h[i] = (!(decide (h[i].f0.length = 3)) || (!o9 h[i].f1 0 100 || (h[i].f0.any fun s => !jB s 0 20 2))) := rfl; rw [hd]
  by_cases h3 : h[i].f0.length = 3 <;> cases o9 h[i].f1 0 100 <;> cases (h[i].f0.any fun s => !jB s 0 20 2) <;> simp [h3]
theorem Zd {k : Nat} (hk : 900 ≤ k) (h : List bO) (hl : h.length ≤ 100) (hs : ∀ d ∈ h, d.f0.length ≤ 5) : bR.f k h = some (iA h) := by
 unfold bR.f
 have := VO h (by omega) hs h.length k 0 (by omega) (by omega); rw [show ((0 : Nat) : Int) = 0 from rfl] at this; rw [this, List.drop_zero, iA, Bool.and_comm]
theorem VP (h : List bO) (l : List bg) (hh : h.length ≤ 900) (hl : l.length ≤ 900) : ∀ (m k i : Nat), i + m = l.length → m < k → bK.l0 k l i h = some (!((l.drop i).any (rA h.length)) && decide (l.length ≤ 3)) := by
 intro m
 induction m with
 | zero =>
  intro k i him hk; obtain ⟨k, rfl⟩ : ∃ m, k = m + 1 := ⟨k - 1, by omega⟩; rw [bK.l0, if_neg (by omega), List.drop_eq_nil_of_le (by omega)]; simp
  omega
 | succ m ih =>
  intro k i him hk; obtain ⟨k, rfl⟩ : ∃ m, k = m + 1 := ⟨k - 1, by omega⟩
  have hi : i < l.length := by omega
  have hw : wrap64 ((h.length : Int) - 1) = (h.length : Int) - 1 := z8 (by omega) (by omega)
  have hd : ∀ d, iR.f h d = some (o9 d 0 ((h.length : Int) - 1)) := fun d => by unfold iR.f; rw [hw, QJ]; rfl
  have ht : ∀ d, iG.f d = some (o9 d 0 2) := fun d => by unfold iG.f; rw [QJ]; rfl
  rw [bK.l0, if_pos (by omega), if_pos (by omega), VL hi, hd, Option.bind_some, ht, Option.bind_some, QK, Option.bind_some, xJ (by omega), ih k (i + 1) (by omega) (by omega), List.drop_eq_getElem_cons hi, List.any_cons]; have hb : rA h.length l[i] = (!(o9 l[i].f0 0 ((h.length : Int) - 1)) || (!(o9 l[i].f1 0 2) || !(jB l[i].f2 0 12 2))) := rfl; rw [hb]
  cases o9 l[i].f0 0 ((h.length : Int) - 1) <;> cases o9 l[i].f1 0 2 <;> cases jB l[i].f2 0 12 2 <;> simp
theorem Ze {k : Nat} (hk : 900 ≤ k) (h : List bO) (l : List bg) (hh : h.length ≤ 100) (hl : l.length ≤ 100) : bK.f k h l = some (gB h.length l) := by
 unfold bK.f
 have := VP h l (by omega) (by omega) l.length k 0 (by omega) (by omega); rw [show ((0 : Nat) : Int) = 0 from rfl] at this; rw [this, List.drop_zero, gB, Bool.and_comm]
structure Bx (L : List (Nat × Obj)) (w W : World) : Prop where
 below : Below w.heap.size w W
 get : ∀ p ∈ L, W.heap[p.1]? = some p.2
 lo : ∀ p ∈ L, w.heap.size ≤ p.1
 nd : (L.map Prod.fst).Nodup
theorem Bx.nil (w : World) : Bx [] w w := ⟨Below.refl _ _, by simp, by simp, by simp⟩
section
variable {L : List (Nat × Obj)} {w W w1 : World} {g : Nat} {o : Obj}
theorem Bx.step (h : Bx L w W) (hb : Below W.heap.size W w1) : Bx L w w1 := ⟨aV h.below hb, fun p hp => aG (h.get p hp) hb, h.lo, h.nd⟩
theorem Bx.grow {r : Nat} (h : Bx L w W) (hr : aj (w.heap.size ≤ r)) (hg : W.grownBy w1 (some r)) (hne : ∀ p ∈ L, p.1 ≠ r) : Bx L w w1 :=
 ⟨(stepG ⟨h.below⟩ hg hr).out, fun p hp => (hg.block _ (cZ (h.get p hp)) (fun e => hne p hp (by injection e))).trans (h.get p hp), h.lo, h.nd⟩
theorem Bx.lt (h : Bx L w W) (hp : (g, o) ∈ L) : g < W.heap.size := cZ (h.get _ hp)
theorem Bx.add (h : Bx L w W) (hg : W.heap.size ≤ g) (hb : Below W.heap.size W w1) (ho : w1.heap[g]? = some o) : Bx ((g, o) :: L) w w1 :=
 ⟨aV h.below hb, fun p hp => by rcases List.mem_cons.1 hp with rfl | hp; exact ho; exact aG (h.get p hp) hb, fun p hp => by rcases List.mem_cons.1 hp with rfl | hp; exact Nat.le_trans h.below.size hg; exact h.lo p hp,
  List.nodup_cons.2 ⟨fun hm => by obtain ⟨p, hp, e⟩ := List.mem_map.1 hm; have := cZ (h.get p hp); omega, h.nd⟩⟩
theorem Bx.key (h : Bx L w W) {i j : Nat} {p q : Nat × Obj} (hi : L[i]? = some p) (hj : L[j]? = some q) (hne : i ≠ j) : p.1 ≠ q.1 := by
 intro e; obtain ⟨hi1, hi2⟩ := List.getElem?_eq_some_iff.1 hi; obtain ⟨hj1, hj2⟩ := List.getElem?_eq_some_iff.1 hj; refine hne ((List.getElem_inj (h₀ := by simpa using hi1) (h₁ := by simpa using hj1) h.nd).1 ?_); simp [hi2, hj2, e]
theorem Bx.put (h : Bx L w W) (i : Nat) {t : TypeId} {cs cs' : Array Value} (hi : L[i]? = some (g, .cells cs t (0, 0))) (hg : W.grownBy w1 (some g)) (ho : w1.heap[g]? = some (.cells cs' t (0, 0))) : Bx (L.set i (g, .cells cs' t (0, 0))) w w1 := by
 have hm := List.mem_of_getElem? hi; have hgl := h.lo _ hm; refine ⟨(stepG ⟨h.below⟩ hg ⟨hgl⟩).out, fun p hp => ?_, fun p hp => ?_, ?_⟩
 ·obtain ⟨j, hj, e⟩ := List.mem_iff_getElem.1 hp
  rw [List.getElem_set] at e
  split at e
  ·subst e; exact ho
  ·rename_i hne
   have hj2 : L[j]? = some p := by rw [List.length_set] at hj; rw [List.getElem?_eq_getElem hj, e]
   have := h.key hi hj2 hne; have h2 := h.get p (List.mem_of_getElem? hj2); exact (hg.block _ (cZ h2) (fun e => by injection e with e; exact this e.symm)).trans h2
 ·rcases List.mem_or_eq_of_mem_set hp with hp | rfl
  ·exact h.lo p hp
  ·exact hgl
 ·rw [List.map_set]
  have : (L.map Prod.fst)[i]? = some g := by simp [hi]
  obtain ⟨h1, h2⟩ := List.getElem?_eq_some_iff.1 this; rw [← h2, List.set_getElem_self]; exact h.nd
section
variable {t : TypeId} {a b c d e : Value}
theorem Bx.c1 (h : Bx L w W) (hm : (g, Obj.cells #[a] t (0, 0)) ∈ L) : W.cell? ⟨g, 0, none⟩ = some a := fT (h.get _ hm)
theorem Bx.c2 (h : Bx L w W) (hm : (g, Obj.cells #[a, b] t (0, 0)) ∈ L) : W.cell? ⟨g, 0, none⟩ = some a ∧ W.cell? ⟨g, 1, none⟩ = some b := qP (h.get _ hm)
theorem Bx.c3 (h : Bx L w W) (hm : (g, Obj.cells #[a, b, c] t (0, 0)) ∈ L) : W.cell? ⟨g, 0, none⟩ = some a ∧ W.cell? ⟨g, 1, none⟩ = some b ∧ W.cell? ⟨g, 2, none⟩ = some c := S9 (h.get _ hm)
theorem Bx.c4 (h : Bx L w W) (hm : (g, Obj.cells #[a, b, c, d] t (0, 0)) ∈ L) : W.cell? ⟨g, 0, none⟩ = some a ∧ W.cell? ⟨g, 1, none⟩ = some b ∧ W.cell? ⟨g, 2, none⟩ = some c ∧ W.cell? ⟨g, 3, none⟩ = some d := BQ (h.get _ hm)
theorem Bx.c5 (h : Bx L w W) (hm : (g, Obj.cells #[a, b, c, d, e] t (0, 0)) ∈ L) : W.cell? ⟨g, 0, none⟩ = some a ∧ W.cell? ⟨g, 1, none⟩ = some b ∧ W.cell? ⟨g, 2, none⟩ = some c ∧ W.cell? ⟨g, 3, none⟩ = some d ∧ W.cell? ⟨g, 4, none⟩ = some e := EX (h.get _ hm)
end
section
variable {t : TypeId} {a b c d e : Value}
theorem Bx.g1 (h : Bx L w W) (i : Nat) (hi : L[i]? = some (g, Obj.cells #[a] t (0, 0))) : W.cell? ⟨g, 0, none⟩ = some a := h.c1 (List.mem_of_getElem? hi)
theorem Bx.g2 (h : Bx L w W) (i : Nat) (hi : L[i]? = some (g, Obj.cells #[a, b] t (0, 0))) : W.cell? ⟨g, 0, none⟩ = some a ∧ W.cell? ⟨g, 1, none⟩ = some b := h.c2 (List.mem_of_getElem? hi)
theorem Bx.g3 (h : Bx L w W) (i : Nat) (hi : L[i]? = some (g, Obj.cells #[a, b, c] t (0, 0))) : W.cell? ⟨g, 0, none⟩ = some a ∧ W.cell? ⟨g, 1, none⟩ = some b ∧ W.cell? ⟨g, 2, none⟩ = some c := h.c3 (List.mem_of_getElem? hi)
theorem Bx.g4 (h : Bx L w W) (i : Nat) (hi : L[i]? = some (g, Obj.cells #[a, b, c, d] t (0, 0))) : W.cell? ⟨g, 0, none⟩ = some a ∧ W.cell? ⟨g, 1, none⟩ = some b ∧ W.cell? ⟨g, 2, none⟩ = some c ∧ W.cell? ⟨g, 3, none⟩ = some d := h.c4 (List.mem_of_getElem? hi)
theorem Bx.g5 (h : Bx L w W) (i : Nat) (hi : L[i]? = some (g, Obj.cells #[a, b, c, d, e] t (0, 0))) : W.cell? ⟨g, 0, none⟩ = some a ∧ W.cell? ⟨g, 1, none⟩ = some b ∧ W.cell? ⟨g, 2, none⟩ = some c ∧ W.cell? ⟨g, 3, none⟩ = some d ∧ W.cell? ⟨g, 4, none⟩ = some e := h.c5 (List.mem_of_getElem? hi)
theorem Bx.gb (h : Bx L w W) (i : Nat) {o : Obj} (hi : L[i]? = some (g, o)) : W.heap[g]? = some o := h.get _ (List.mem_of_getElem? hi)
end
section
variable {P : Program} {ops : Array Oper} {rest : List Oper} {o : Oper} {a : Act} {Q : Exit → Act → World → Prop}
theorem newX (hgd : o.guard = none) {N : Tmp} (hd : o.dst = some N) (HX : Bx L w W) {cs : Array Value} {t : TypeId}
  (hrun : (execOp a.eval o).run P W = .ok (.value (.pointer (some ⟨W.heap.size, 0, none⟩))) (W.alloc (.cells cs t (0, 0))))
  (h : ∀ g w1, Bx ((g, .cells cs t (0, 0)) :: L) w w1 → Below W.heap.size W w1 → W.heap.size ≤ g → wpList P ops Q rest (a.put o.dst (.pointer (some ⟨g, 0, none⟩))) w1) : wpList P ops Q (o :: rest) a W :=
 oK hgd hd hrun fun g hg w1 hb hx => h g w1 (HX.add (by omega) hx hb) hx (by omega)
theorem kL (hgd : o.guard = none) (hN : o.dst = none) {t : TypeId} {p : Tmp} {v : Operand} (ho : o.op = .store t (.tmp p) v) (HX : Bx L w W) (n : Nat)
  {g i : Nat} {cs : Array Value} {t' : TypeId} (hn : L[n]? = some (g, .cells cs t' (0, 0))) (u : Value) (seg : List Value) (cs' : Array Value)
  (hp : a.eval (.tmp p) = .pointer (some ⟨g, i, none⟩)) (hv : a.eval v = u) (hu : u.cells.toList = seg) (ht : (P.info? t).map (·.size) = some seg.length) (hfit : i + seg.length ≤ cs.size) (h1 : ∀ q ∈ seg, q.oneCell' = true)
  (hcs : cs.toList.take i ++ seg ++ cs.toList.drop (i + seg.length) = cs'.toList)
  (h : ∀ w1, Bx (L.set n (g, .cells cs' t' (0, 0))) w w1 → W.grownBy w1 (some g) → wpList P ops Q rest a w1) : wpList P ops Q (o :: rest) a W :=
 have hm := List.mem_of_getElem? hn
 je hgd hN ho ⟨HX.get _ hm⟩ ⟨HX.lo _ hm⟩ ⟨HX.below⟩ u seg cs' hp hv hu ht hfit h1 hcs fun w1 hk _ hg => h w1 (HX.put n hn hg hk.out) hg
end
end
end Go.Proofs.YtnpfbjnjdngkhaaGreatDoor.P
namespace Go.Proofs.YtnpfbjnjdngkhaaGreatDoor.P
open Go.RowKit Go.Proofs.YtnpfbjnjdngkhaaGreatDoorW.aW Go.Proofs.YtnpfbjnjdngkhaaGreatDoorW.bZ Go.Proofs.YtnpfbjnjdngkhaaGreatDoorW.dh
attribute [local go_sem] fE fF gU gV eX eY fG fH
def dX.f (k : Nat) (au : List bO) (gM : List Int) (l1 : List bg) (a2 : Int) : Option Int := if 0 ≤ a2 then (if a2 < (au.length : Int) then ((iJ.f k ((aT au a2).f0)).bind fun t137 => ((gD.f k l1).bind fun t140 => ((iJ.f k t140).bind fun t143 => ((dB.f k au l1 a2 t137 t143).bind fun t146 => (some t146))))) else (none)) else (none)
def dX.T1 : Bool × List (List Nat × List Nat) := (true, [([], []), ([0], [0]), ([], []), ([], []), ([], []), ([4], [4]), ([5], [5]), ([], []), ([6, 7], [6, 7]), ([8], [8]), ([9], [9]), ([10], [10]), ([], []), ([12, 11], [12]), ([13, 13], [13]), ([1, 2, 3, 11, 14, 14], [1, 2, 3, 11, 14]), ([15, 15, 0, 1, 2, 3, 4, 5, 6, 7, 8, 9, 10, 11, 12, 13, 14, 15], [15])])
def dX.B1 : List Nat := [0, 1, 0, 0, 0, 16, 48, 0, 240, 496, 1008, 2032, 0, 8176, 16368, 32767, 65535]
theorem dX.qda : qj .any (opsOf Tryz.f170 1) = dX.T1 := by kernel_rfl
theorem dX.VQ : oq dX.T1.2 dX.B1 = true := by kernel_rfl
theorem dX.calls (k : Nat) (bB : Option Addr) (aZ : Nat) (au : List bO) (nZ : Option Addr) (nM : Nat) (gM : List Int) (A1 : Option Addr) (c1 : Nat) (l1 : List bg) (a2 : Int) (r : Int) (w : World) (dx : Kd.C iM w bB au.length au) (dI : au.length ≤ aZ) (tN : Kd.C (Kd.int .i64) w nZ gM.length gM) (vM : gM.length ≤ nM) (hr1 : Kd.C eT w A1 l1.length l1) (hc1 : l1.length ≤ c1) (h : dX.f k au gM l1 a2 = some r) :
  Calls Tryz.prog 170 #[.agg #[.slice bB au.length aZ, .slice nZ gM.length nM], .slice A1 l1.length c1, .int .i64 a2] w fun e w' => e = .returned (.int .i64 r) ∧ Below w.heap.size w w' := by
 have wY := Tryz.underlying149; have o8 := Tryz.underlying24; have dJ := aj.mk dx; have eu := aj.mk dI; clear dx dI; have QL := aj.mk tN; have VR := aj.mk vM; clear tN vM; have HR1 := aj.mk hr1; have uU := aj.mk hc1; clear hr1 hc1; have HB := aj.mk (Below.refl w.heap.size w); have H : (if 0 ≤ a2 then (if a2 < (au.length : Int) then ((iJ.f k ((aT au a2).f0)).bind fun t137 => ((gD.f k l1).bind fun t140 => ((iJ.f k t140).bind fun t143 => ((dB.f k au l1 a2 t137 t143).bind fun t146 => (some t146))))) else (none)) else (none)) = some r := h; clear h
 by_cases c4 : 0 ≤ a2
 ·rw [if_pos c4] at H
  have o7 : decide (0 ≤ a2) = true := decide_eq_true c4; clear c4
  by_cases c5 : a2 < (au.length : Int)
  ·rw [if_pos c5] at H
   have y5 : decide (a2 < (au.length : Int)) = true := decide_eq_true c5; clear c5; obtain ⟨t137, A6, H⟩ := lV H; obtain ⟨t140, A7, H⟩ := lV H; obtain ⟨t143, A8, H⟩ := lV H; obtain ⟨t146, A9, H⟩ := lV H; obtain rfl := Option.some.inj H
   go_enter Tryz.func170, Tryz.ntmps170
   try go_wp2_with (first | ((with_reducible refine av (N := 3) rfl ?_); refine fA 3 #[.slice bB au.length aZ, .slice nZ gM.length nM] 149 HB ?_; clear HB; intro qaZ JV hg og qoL HB hb; clear hb hg))
   replace og := aj.mk (aN og.out); replace HB := aj.mk (iV HB.out); have qdb : 0 ≤ (a2 : Int) := of_decide_eq_true tA; have qdc : a2 < (au.length : Int) := of_decide_eq_true tA; obtain ⟨KO, VT, VU, qlI, Ej, El, QM, QN⟩ := iZ dJ.out a2 qdb qdc; have AO := El; have AP := Ej
   cases qlI
   replace Ej := dz HB Ej; replace El := dz HB El; have QO := aj.mk QN; have Zf := aj.mk QM; clear QN QM; replace qdb := eq_true qdb; replace qdc := eq_true qdc; refine j6 (n := 17) (S := fun w' => w'.cell? ⟨qaZ, 0, none⟩ = some (.slice (some KO) au.length aZ) ∧ w'.cell? ⟨qaZ, 1, none⟩ = some (.slice nZ gM.length nM) ∧ w'.cell? (KO.add ((a2).toNat * 2)) = some (.slice VT ((aT au a2).f0).length VU) ∧ w'.cell? ⟨(KO.add ((a2).toNat * 2)).block, (KO.add ((a2).toNat * 2)).off + 1, none⟩ = some (.int .i64 ((aT au a2).f1))) (ds := []) #[false, false, false, false, false, false, false, false, false, false, false, false, false, false, false, false, false] tX rfl rfl ⟨(aI og.out 0).trans rfl, (aI og.out 1).trans rfl, (dz HB AP :), (dz HB AO :)⟩ (fun hHeld => ?_); refine lg dX.qda dX.VQ (fun dY vX => ?_)
   generalize JV.drew = JW at og HB QO Ej El hHeld ⊢
   refine aH (i := 0) (N := some 7) (v := ?_) (a' := ?_) (bA 17 1) rfl rfl (aU dY.out tX) (fun _ _ _ h => h) (Or.inl ⟨by rfl, ?_⟩) ?_ ?_; rotate_left
   ·intro w'
    go_simp
    with_reducible rfl
   rotate_left
   ·simp only [Act.put, sL, ay, aA]
    rfl
   refine aH (i := 2) (N := some 9) (v := ?_) (a' := ?_) (bA 17 5) rfl rfl (aU dY.out tX) (fun _ _ _ h => h) (Or.inl ⟨by rfl, ?_⟩) ?_ ?_; rotate_left
   ·intro w'
    go_simp
    with_reducible rfl
   rotate_left
   ·simp only [Act.put, sL, ay, aA]
    rfl
   refine aH (i := 3) (N := some 10) (v := ?_) (a' := ?_) (bA 17 13) rfl rfl (aU dY.out tX) (fun _ _ _ h => h) (Or.inl ⟨by rfl, ?_⟩) ?_ ?_; rotate_left
   ·intro w'
    go_simp
    with_reducible rfl
   rotate_left
   ·simp only [Act.put, sL, ay, aA]
    rfl
   refine aH (i := 4) (N := some 11) (v := ?_) (a' := ?_) (bA 17 29) rfl rfl (aU dY.out tX) (fun _ _ _ h => h) (Or.inl ⟨by rfl, ?_⟩) ?_ ?_; rotate_left
   ·intro w'
    go_simp
    with_reducible rfl
   rotate_left
   ·simp only [Act.put, sL, ay, aA]
    rfl
   refine aH (i := 5) (N := some 12) (v := ?_) (a' := ?_) (bA 17 61) rfl rfl (aU dY.out tX) (fun _ _ _ h => h) (Or.inl ⟨by rfl, ?_⟩) ?_ ?_; rotate_left
   ·intro w'
    go_simp
    with_reducible rfl
   rotate_left
   ·simp only [Act.put, sL, ay, aA]
    rfl
   refine aH (i := 7) (N := some 14) (v := ?_) (a' := ?_) (bA 17 189) rfl rfl (aU dY.out tX) (fun _ _ _ h => h) (Or.inl ⟨by rfl, ?_⟩) ?_ ?_; rotate_left
   ·intro w'
    go_simp
    with_reducible rfl
   rotate_left
   ·simp only [Act.put, sL, ay, aA]
    rfl
   refine aH (i := 12) (N := some 19) (v := ?_) (a' := ?_) (bA 17 4285) rfl rfl (aU dY.out tX) (fun _ _ _ h => h) (Or.inl ⟨by rfl, ?_⟩) ?_ ?_; rotate_left
   ·intro w'
    go_simp
    with_reducible rfl
   rotate_left
   ·simp only [Act.put, sL, ay, aA]
    rfl
   refine fC (i := 1) (N := some 8) (v := ?_) (a' := ?_) (bA 17 4287) rfl rfl (fD dY.out vX.out tX) (fun _ _ _ h => h) (Or.inl ⟨by rfl, ?_⟩) hHeld ?_ ?_; rotate_left
   ·rintro w' ⟨s0, s1, s2, s3⟩
    go_simp
    with_reducible rfl
   rotate_left
   ·simp only [Act.put, sL, ay, aA]
    rfl
   refine fC (i := 6) (N := some 13) (v := ?_) (a' := ?_) (bA 17 4351) rfl rfl (fD dY.out vX.out tX) (fun _ _ _ h => h) (Or.inl ⟨by rfl, ?_⟩) hHeld ?_ ?_; rotate_left
   ·rintro w' ⟨s0, s1, s2, s3⟩
    go_simp
    with_reducible rfl
   rotate_left
   ·simp only [Act.put, sL, ay, aA]
    rfl
   refine aH (i := 8) (N := some 15) (v := ?_) (a' := ?_) (bA 17 4607) rfl rfl (aU dY.out tX) (fun _ _ _ h => h) (Or.inl ⟨by rfl, ?_⟩) ?_ ?_; rotate_left
   ·intro w'
    go_simp
    with_reducible rfl
   rotate_left
   ·simp only [Act.put, sL, ay, aA]
    rfl
   refine aH (i := 9) (N := some 16) (v := ?_) (a' := ?_) (bA 17 5119) rfl rfl (aU dY.out tX) (fun _ _ _ h => h) (Or.inl ⟨by rfl, ?_⟩) ?_ ?_; rotate_left
   ·intro w'
    go_simp
    with_reducible rfl
   rotate_left
   ·simp only [Act.put, sL, ay, aA]
    rfl
   refine fC (i := 10) (N := some 17) (v := ?_) (a' := ?_) (bA 17 6143) rfl rfl (fD dY.out vX.out tX) (fun _ _ _ h => h) (Or.inl ⟨by rfl, ?_⟩) hHeld ?_ ?_; rotate_left
   ·rintro w' ⟨s0, s1, s2, s3⟩
    go_simp
    with_reducible rfl
   rotate_left
   ·simp only [Act.put, sL, ay, aA]
    rfl
   refine gI (i := 11) (N := some 18) (bA 17 8191) rfl rfl (iF dY.out tX) (by decide) (fun K hK => ?_); refine fP Tryz.func209 tX rfl #[.slice VT ((aT au a2).f0).length VU] (by rfl) rfl rfl tM ?_
   with_reducible refine (iJ.calls k _ _ ((aT au a2).f0) t137 _ ?bF ?bG A6.out).mono ?_
   (case bF => repeat (first | exact (Kd.ak QO.out HB.out) | (with_reducible refine Kd.bC ?_ _) | (with_reducible refine Kd.bD ?_ _) | (with_reducible refine Kd.bQ ?_)))
   (case bG => exact Zf.out)
   rintro e y9 ⟨v138, rfl, ho0, hb⟩; refine ⟨_, rfl, ?_⟩; have CP := aj.mk (Kd.dP ho0 (aX tB)); replace og := bV og hb; replace HB := dL HB hb
   (try clear hb)
   (try clear hb2)
   (try clear hk)
   (try clear hi)
   (try clear ho0)
   refine hK.out _ _ ⟨(aI og.out 0).trans rfl, (aI og.out 1).trans rfl, (dz HB AP :), (dz HB AO :)⟩ (fun hHeld => ?_); clear hK K; refine dw (a' := ?_) ?_ ?_; rotate_left
   ·show Act.put _ (some 18) _ = _
    simp only [Act.put, sL, ay, aA]
    rfl
   refine gI (i := 13) (N := some 20) (bA 17 16383) rfl rfl (iF dY.out tX) (by decide) (fun K hK => ?_); refine fP Tryz.func210 tX rfl #[.slice A1 l1.length c1] (by rfl) rfl rfl tM ?_
   with_reducible refine (gD.calls k _ _ l1 t140 _ ?bF ?bG A7.out).mono ?_
   (case bF => repeat (first | exact (Kd.ak HR1.out HB.out) | (with_reducible refine Kd.bC ?_ _) | (with_reducible refine Kd.bD ?_ _) | (with_reducible refine Kd.bQ ?_)))
   (case bG => exact uU.out)
   rintro e w13 ⟨v141, rfl, ho0, hb⟩; refine ⟨_, rfl, ?_⟩; replace CP := kH CP hb; have FH := aj.mk (Kd.dP ho0 (aX tB)); replace og := bV og hb; replace HB := dL HB hb
   (try clear hb)
   (try clear hb2)
   (try clear hk)
   (try clear hi)
   (try clear ho0)
   obtain ⟨qdd, qde, VW⟩ := Kd.gF FH.out
   (first | subst VW | (injection VW with xD E9 xE; have Fa := xD.symm; have Fb := xE.symm; clear xD E9 xE; subst Fa; subst Fb))
   refine hK.out _ _ ⟨(aI og.out 0).trans rfl, (aI og.out 1).trans rfl, (dz HB AP :), (dz HB AO :)⟩ (fun hHeld => ?_); clear hK K; refine dw (a' := ?_) ?_ ?_; rotate_left
   ·show Act.put _ (some 20) _ = _
    simp only [Act.put, sL, ay, aA]
    rfl
   refine gI (i := 14) (N := some 21) (bA 17 32767) rfl rfl (iF dY.out tX) (by decide) (fun K hK => ?_); refine fP Tryz.func209 tX rfl #[.slice qdd t140.length qde] (by rfl) rfl rfl tM ?_
   with_reducible refine (iJ.calls k _ _ t140 t143 _ ?bF ?bG A8.out).mono ?_
   (case bF => repeat (first | exact (Kd.cO FH.out).2.2 | (with_reducible refine Kd.bC ?_ _) | (with_reducible refine Kd.bD ?_ _) | (with_reducible refine Kd.bQ ?_)))
   (case bG => exact (Kd.cO FH.out).2.1)
   rintro e ML ⟨qru, rfl, ho0, hb⟩; refine ⟨_, rfl, ?_⟩; replace FH := kH FH hb; have KP := aj.mk (Kd.dP (Kd.mY ho0 (Kd.pE tR)) (aX tB)); replace CP := aj.mk (Kd.jl tR (Kd.gH ho0) hb); replace og := bV og hb; replace HB := dL HB hb
   (try clear hb)
   (try clear hb2)
   (try clear hk)
   (try clear hi)
   (try clear ho0)
   obtain ⟨qdf, qdg, VX⟩ := Kd.gF CP.out
   (first | subst VX | (injection VX with xD E9 xE; have Fa := xD.symm; have Fb := xE.symm; clear xD E9 xE; subst Fa; subst Fb))
   obtain ⟨VY, VZ, NW⟩ := Kd.gF KP.out
   (first | subst NW | (injection NW with xD E9 xE; have Fa := xD.symm; have Fb := xE.symm; clear xD E9 xE; subst Fa; subst Fb))
   refine hK.out _ _ ⟨(aI og.out 0).trans rfl, (aI og.out 1).trans rfl, (dz HB AP :), (dz HB AO :)⟩ (fun hHeld => ?_); clear hK K; refine dw (a' := ?_) ?_ ?_; rotate_left
   ·show Act.put _ (some 21) _ = _
    simp only [Act.put, sL, ay, aA]
    rfl
   refine gI (i := 15) (N := some 22) (bA 17 65535) rfl rfl (iF dY.out tX) (by decide) (fun K hK => ?_); refine fP Tryz.func160 tX rfl #[.agg #[.slice (some KO) au.length aZ], .slice A1 l1.length c1, .int .i64 a2, .slice qdf t137.length qdg, .slice VY t143.length VZ] (by rfl) rfl rfl tM ?_
   with_reducible refine (dB.calls k _ _ au _ _ l1 a2 _ _ t137 _ _ t143 t146 _ ?bF ?bG ?eG ?eH ?jo ?vN ?AQ ?AR A9.out).mono ?_
   (case bF => repeat (first | exact (Kd.ak dJ.out HB.out) | (with_reducible refine Kd.bC ?_ _) | (with_reducible refine Kd.bD ?_ _) | (with_reducible refine Kd.bQ ?_)))
   (case bG => exact eu.out)
   (case eG => repeat (first | exact (Kd.ak HR1.out HB.out) | (with_reducible refine Kd.bC ?_ _) | (with_reducible refine Kd.bD ?_ _) | (with_reducible refine Kd.bQ ?_)))
   (case eH => exact uU.out)
   (case jo => repeat (first | exact (Kd.cO CP.out).2.2 | (with_reducible refine Kd.bC ?_ _) | (with_reducible refine Kd.bD ?_ _) | (with_reducible refine Kd.bQ ?_)))
   (case vN => exact (Kd.cO CP.out).2.1)
   (case AQ => repeat (first | exact (Kd.cO KP.out).2.2 | (with_reducible refine Kd.bC ?_ _) | (with_reducible refine Kd.bD ?_ _) | (with_reducible refine Kd.bQ ?_)))
   (case AR => exact (Kd.cO KP.out).2.1)
   rintro e Vd ⟨rfl, hb⟩; refine ⟨_, rfl, ?_⟩; replace CP := kH CP hb; replace FH := kH FH hb; replace KP := kH KP hb; replace og := bV og hb; replace HB := dL HB hb
   (try clear hb)
   (try clear hb2)
   (try clear hk)
   (try clear hi)
   refine hK.out _ _ ⟨(aI og.out 0).trans rfl, (aI og.out 1).trans rfl, (dz HB AP :), (dz HB AO :)⟩ (fun hHeld => ?_); clear hK K; refine dw (a' := ?_) ?_ ?_; rotate_left
   ·show Act.put _ (some 22) _ = _
    simp only [Act.put, sL, ay, aA]
    rfl
   refine aH (i := 16) (N := some 6) (v := ?_) (a' := ?_) (bA 17 131071) rfl rfl (aU dY.out tX) (fun _ _ _ h => h) (Or.inl ⟨by rfl, ?_⟩) ?_ ?_; rotate_left
   ·intro w'
    go_simp
    with_reducible rfl
   rotate_left
   ·simp only [Act.put, sL, ay, aA]
    rfl
   refine kZ (pF dY.out tX) ?_
   try go_wp2
   go_ret
   exact ⟨tF, tB⟩
  ·rw [if_neg c5] at H
   exact absurd H (by simp)
 ·rw [if_neg c4] at H
  exact absurd H (by simp)
def fI.f (k : Nat) (au : List bO) (gM : List Int) (l1 : List bg) (a2 : Int) : Option Int := if 0 ≤ a2 then (if a2 < (au.length : Int) then ((gQ.f k ((aT au a2).f0)).bind fun t154 => ((gD.f k l1).bind fun t157 => ((gQ.f k t157).bind fun t160 => ((dB.f k au l1 a2 t154 t160).bind fun t163 => (some t163))))) else (none)) else (none)
def fI.T1 : Bool × List (List Nat × List Nat) := (true, [([], []), ([0], [0]), ([], []), ([], []), ([], []), ([4], [4]), ([5], [5]), ([], []), ([6, 7], [6, 7]), ([8], [8]), ([9], [9]), ([10], [10]), ([], []), ([12, 11], [12]), ([13, 13], [13]), ([1, 2, 3, 11, 14, 14], [1, 2, 3, 11, 14]), ([15, 15, 0, 1, 2, 3, 4, 5, 6, 7, 8, 9, 10, 11, 12, 13, 14, 15], [15])])
def fI.B1 : List Nat := [0, 1, 0, 0, 0, 16, 48, 0, 240, 496, 1008, 2032, 0, 8176, 16368, 32767, 65535]
theorem fI.qda : qj .any (opsOf Tryz.f171 1) = fI.T1 := by kernel_rfl
theorem fI.VQ : oq fI.T1.2 fI.B1 = true := by kernel_rfl
theorem fI.calls (k : Nat) (bB : Option Addr) (aZ : Nat) (au : List bO) (nZ : Option Addr) (nM : Nat) (gM : List Int) (A1 : Option Addr) (c1 : Nat) (l1 : List bg) (a2 : Int) (r : Int) (w : World) (dx : Kd.C iM w bB au.length au) (dI : au.length ≤ aZ) (tN : Kd.C (Kd.int .i64) w nZ gM.length gM) (vM : gM.length ≤ nM) (hr1 : Kd.C eT w A1 l1.length l1) (hc1 : l1.length ≤ c1) (h : fI.f k au gM l1 a2 = some r) :
  Calls Tryz.prog 171 #[.agg #[.slice bB au.length aZ, .slice nZ gM.length nM], .slice A1 l1.length c1, .int .i64 a2] w fun e w' => e = .returned (.int .i64 r) ∧ Below w.heap.size w w' := by
 have wY := Tryz.underlying149; have o8 := Tryz.underlying24; have dJ := aj.mk dx; have eu := aj.mk dI; clear dx dI; have QL := aj.mk tN; have VR := aj.mk vM; clear tN vM; have HR1 := aj.mk hr1; have uU := aj.mk hc1; clear hr1 hc1; have HB := aj.mk (Below.refl w.heap.size w); have H : (if 0 ≤ a2 then (if a2 < (au.length : Int) then ((gQ.f k ((aT au a2).f0)).bind fun t154 => ((gD.f k l1).bind fun t157 => ((gQ.f k t157).bind fun t160 => ((dB.f k au l1 a2 t154 t160).bind fun t163 => (some t163))))) else (none)) else (none)) = some r := h; clear h
 by_cases c4 : 0 ≤ a2
 ·rw [if_pos c4] at H
  have o7 : decide (0 ≤ a2) = true := decide_eq_true c4; clear c4
  by_cases c5 : a2 < (au.length : Int)
  ·rw [if_pos c5] at H
   have y5 : decide (a2 < (au.length : Int)) = true := decide_eq_true c5; clear c5; obtain ⟨t154, A6, H⟩ := lV H; obtain ⟨t157, A7, H⟩ := lV H; obtain ⟨t160, A8, H⟩ := lV H; obtain ⟨t163, A9, H⟩ := lV H; obtain rfl := Option.some.inj H
   go_enter Tryz.func171, Tryz.ntmps171
   try go_wp2_with (first | ((with_reducible refine av (N := 3) rfl ?_); refine fA 3 #[.slice bB au.length aZ, .slice nZ gM.length nM] 149 HB ?_; clear HB; intro qa0 JV hg oh qoM HB hb; clear hb hg))
   replace oh := aj.mk (aN oh.out); replace HB := aj.mk (iV HB.out); have qdh : 0 ≤ (a2 : Int) := of_decide_eq_true tA; have qdi : a2 < (au.length : Int) := of_decide_eq_true tA; obtain ⟨KQ, V3, V4, e153, Em, En, QS, QT⟩ := iZ dJ.out a2 qdh qdi; have AU := En; have AV := Em
   cases e153
   replace Em := dz HB Em; replace En := dz HB En; have QU := aj.mk QT; have Zg := aj.mk QS; clear QT QS; replace qdh := eq_true qdh; replace qdi := eq_true qdi; refine j6 (n := 17) (S := fun w' => w'.cell? ⟨qa0, 0, none⟩ = some (.slice (some KQ) au.length aZ) ∧ w'.cell? ⟨qa0, 1, none⟩ = some (.slice nZ gM.length nM) ∧ w'.cell? (KQ.add ((a2).toNat * 2)) = some (.slice V3 ((aT au a2).f0).length V4) ∧ w'.cell? ⟨(KQ.add ((a2).toNat * 2)).block, (KQ.add ((a2).toNat * 2)).off + 1, none⟩ = some (.int .i64 ((aT au a2).f1))) (ds := []) #[false, false, false, false, false, false, false, false, false, false, false, false, false, false, false, false, false] tX rfl rfl ⟨(aI oh.out 0).trans rfl, (aI oh.out 1).trans rfl, (dz HB AV :), (dz HB AU :)⟩ (fun hHeld => ?_); refine lg fI.qda fI.VQ (fun dY vX => ?_)
   generalize JV.drew = JW at oh HB QU Em En hHeld ⊢
   refine aH (i := 0) (N := some 7) (v := ?_) (a' := ?_) (bA 17 1) rfl rfl (aU dY.out tX) (fun _ _ _ h => h) (Or.inl ⟨by rfl, ?_⟩) ?_ ?_; rotate_left
   ·intro w'
    go_simp
    with_reducible rfl
   rotate_left
   ·simp only [Act.put, sL, ay, aA]
    rfl
   refine aH (i := 2) (N := some 9) (v := ?_) (a' := ?_) (bA 17 5) rfl rfl (aU dY.out tX) (fun _ _ _ h => h) (Or.inl ⟨by rfl, ?_⟩) ?_ ?_; rotate_left
   ·intro w'
    go_simp
    with_reducible rfl
   rotate_left
   ·simp only [Act.put, sL, ay, aA]
    rfl
   refine aH (i := 3) (N := some 10) (v := ?_) (a' := ?_) (bA 17 13) rfl rfl (aU dY.out tX) (fun _ _ _ h => h) (Or.inl ⟨by rfl, ?_⟩) ?_ ?_; rotate_left
   ·intro w'
    go_simp
    with_reducible rfl
   rotate_left
   ·simp only [Act.put, sL, ay, aA]
    rfl
   refine aH (i := 4) (N := some 11) (v := ?_) (a' := ?_) (bA 17 29) rfl rfl (aU dY.out tX) (fun _ _ _ h => h) (Or.inl ⟨by rfl, ?_⟩) ?_ ?_; rotate_left
   ·intro w'
    go_simp
    with_reducible rfl
   rotate_left
   ·simp only [Act.put, sL, ay, aA]
    rfl
   refine aH (i := 5) (N := some 12) (v := ?_) (a' := ?_) (bA 17 61) rfl rfl (aU dY.out tX) (fun _ _ _ h => h) (Or.inl ⟨by rfl, ?_⟩) ?_ ?_; rotate_left
   ·intro w'
    go_simp
    with_reducible rfl
   rotate_left
   ·simp only [Act.put, sL, ay, aA]
    rfl
   refine aH (i := 7) (N := some 14) (v := ?_) (a' := ?_) (bA 17 189) rfl rfl (aU dY.out tX) (fun _ _ _ h => h) (Or.inl ⟨by rfl, ?_⟩) ?_ ?_; rotate_left
   ·intro w'
    go_simp
    with_reducible rfl
   rotate_left
   ·simp only [Act.put, sL, ay, aA]
    rfl
   refine aH (i := 12) (N := some 19) (v := ?_) (a' := ?_) (bA 17 4285) rfl rfl (aU dY.out tX) (fun _ _ _ h => h) (Or.inl ⟨by rfl, ?_⟩) ?_ ?_; rotate_left
   ·intro w'
    go_simp
    with_reducible rfl
   rotate_left
   ·simp only [Act.put, sL, ay, aA]
    rfl
   refine fC (i := 1) (N := some 8) (v := ?_) (a' := ?_) (bA 17 4287) rfl rfl (fD dY.out vX.out tX) (fun _ _ _ h => h) (Or.inl ⟨by rfl, ?_⟩) hHeld ?_ ?_; rotate_left
   ·rintro w' ⟨s0, s1, s2, s3⟩
    go_simp
    with_reducible rfl
   rotate_left
   ·simp only [Act.put, sL, ay, aA]
    rfl
   refine fC (i := 6) (N := some 13) (v := ?_) (a' := ?_) (bA 17 4351) rfl rfl (fD dY.out vX.out tX) (fun _ _ _ h => h) (Or.inl ⟨by rfl, ?_⟩) hHeld ?_ ?_; rotate_left
   ·rintro w' ⟨s0, s1, s2, s3⟩
    go_simp
    with_reducible rfl
   rotate_left
   ·simp only [Act.put, sL, ay, aA]
    rfl
   refine aH (i := 8) (N := some 15) (v := ?_) (a' := ?_) (bA 17 4607) rfl rfl (aU dY.out tX) (fun _ _ _ h => h) (Or.inl ⟨by rfl, ?_⟩) ?_ ?_; rotate_left
   ·intro w'
    go_simp
    with_reducible rfl
   rotate_left
   ·simp only [Act.put, sL, ay, aA]
    rfl
   refine aH (i := 9) (N := some 16) (v := ?_) (a' := ?_) (bA 17 5119) rfl rfl (aU dY.out tX) (fun _ _ _ h => h) (Or.inl ⟨by rfl, ?_⟩) ?_ ?_; rotate_left
   ·intro w'
    go_simp
    with_reducible rfl
   rotate_left
   ·simp only [Act.put, sL, ay, aA]
    rfl
   refine fC (i := 10) (N := some 17) (v := ?_) (a' := ?_) (bA 17 6143) rfl rfl (fD dY.out vX.out tX) (fun _ _ _ h => h) (Or.inl ⟨by rfl, ?_⟩) hHeld ?_ ?_; rotate_left
   ·rintro w' ⟨s0, s1, s2, s3⟩
    go_simp
    with_reducible rfl
   rotate_left
   ·simp only [Act.put, sL, ay, aA]
    rfl
   refine gI (i := 11) (N := some 18) (bA 17 8191) rfl rfl (iF dY.out tX) (by decide) (fun K hK => ?_); refine fP Tryz.func211 tX rfl #[.slice V3 ((aT au a2).f0).length V4] (by rfl) rfl rfl tM ?_
   with_reducible refine (gQ.calls k _ _ ((aT au a2).f0) t154 _ ?bF ?bG A6.out).mono ?_
   (case bF => repeat (first | exact (Kd.ak QU.out HB.out) | (with_reducible refine Kd.bC ?_ _) | (with_reducible refine Kd.bD ?_ _) | (with_reducible refine Kd.bQ ?_)))
   (case bG => exact Zg.out)
   rintro e y9 ⟨qrv, rfl, ho0, hb⟩; refine ⟨_, rfl, ?_⟩; have CQ := aj.mk (Kd.dP ho0 (aX tB)); replace oh := bV oh hb; replace HB := dL HB hb
   (try clear hb)
   (try clear hb2)
   (try clear hk)
   (try clear hi)
   (try clear ho0)
   refine hK.out _ _ ⟨(aI oh.out 0).trans rfl, (aI oh.out 1).trans rfl, (dz HB AV :), (dz HB AU :)⟩ (fun hHeld => ?_); clear hK K; refine dw (a' := ?_) ?_ ?_; rotate_left
   ·show Act.put _ (some 18) _ = _
    simp only [Act.put, sL, ay, aA]
    rfl
   refine gI (i := 13) (N := some 20) (bA 17 16383) rfl rfl (iF dY.out tX) (by decide) (fun K hK => ?_); refine fP Tryz.func210 tX rfl #[.slice A1 l1.length c1] (by rfl) rfl rfl tM ?_
   with_reducible refine (gD.calls k _ _ l1 t157 _ ?bF ?bG A7.out).mono ?_
   (case bF => repeat (first | exact (Kd.ak HR1.out HB.out) | (with_reducible refine Kd.bC ?_ _) | (with_reducible refine Kd.bD ?_ _) | (with_reducible refine Kd.bQ ?_)))
   (case bG => exact uU.out)
   rintro e w13 ⟨qrw, rfl, ho0, hb⟩; refine ⟨_, rfl, ?_⟩; replace CQ := kH CQ hb; have FI := aj.mk (Kd.dP ho0 (aX tB)); replace oh := bV oh hb; replace HB := dL HB hb
   (try clear hb)
   (try clear hb2)
   (try clear hk)
   (try clear hi)
   (try clear ho0)
   obtain ⟨qdd, qde, VW⟩ := Kd.gF FI.out
   (first | subst VW | (injection VW with xD E9 xE; have Fa := xD.symm; have Fb := xE.symm; clear xD E9 xE; subst Fa; subst Fb))
   refine hK.out _ _ ⟨(aI oh.out 0).trans rfl, (aI oh.out 1).trans rfl, (dz HB AV :), (dz HB AU :)⟩ (fun hHeld => ?_); clear hK K; refine dw (a' := ?_) ?_ ?_; rotate_left
   ·show Act.put _ (some 20) _ = _
    simp only [Act.put, sL, ay, aA]
    rfl
   refine gI (i := 14) (N := some 21) (bA 17 32767) rfl rfl (iF dY.out tX) (by decide) (fun K hK => ?_); refine fP Tryz.func211 tX rfl #[.slice qdd t157.length qde] (by rfl) rfl rfl tM ?_
   with_reducible refine (gQ.calls k _ _ t157 t160 _ ?bF ?bG A8.out).mono ?_
   (case bF => repeat (first | exact (Kd.cO FI.out).2.2 | (with_reducible refine Kd.bC ?_ _) | (with_reducible refine Kd.bD ?_ _) | (with_reducible refine Kd.bQ ?_)))
   (case bG => exact (Kd.cO FI.out).2.1)
   rintro e ML ⟨qrx, rfl, ho0, hb⟩; refine ⟨_, rfl, ?_⟩; replace FI := kH FI hb; have KR := aj.mk (Kd.dP (Kd.mY ho0 (Kd.pE tR)) (aX tB)); replace CQ := aj.mk (Kd.jl tR (Kd.gH ho0) hb); replace oh := bV oh hb; replace HB := dL HB hb
   (try clear hb)
   (try clear hb2)
   (try clear hk)
   (try clear hi)
   (try clear ho0)
   obtain ⟨qdf, qdg, VX⟩ := Kd.gF CQ.out
   (first | subst VX | (injection VX with xD E9 xE; have Fa := xD.symm; have Fb := xE.symm; clear xD E9 xE; subst Fa; subst Fb))
   obtain ⟨VY, VZ, NW⟩ := Kd.gF KR.out
   (first | subst NW | (injection NW with xD E9 xE; have Fa := xD.symm; have Fb := xE.symm; clear xD E9 xE; subst Fa; subst Fb))
   refine hK.out _ _ ⟨(aI oh.out 0).trans rfl, (aI oh.out 1).trans rfl, (dz HB AV :), (dz HB AU :)⟩ (fun hHeld => ?_); clear hK K; refine dw (a' := ?_) ?_ ?_; rotate_left
   ·show Act.put _ (some 21) _ = _
    simp only [Act.put, sL, ay, aA]
    rfl
   refine gI (i := 15) (N := some 22) (bA 17 65535) rfl rfl (iF dY.out tX) (by decide) (fun K hK => ?_); refine fP Tryz.func160 tX rfl #[.agg #[.slice (some KQ) au.length aZ], .slice A1 l1.length c1, .int .i64 a2, .slice qdf t154.length qdg, .slice VY t160.length VZ] (by rfl) rfl rfl tM ?_
   with_reducible refine (dB.calls k _ _ au _ _ l1 a2 _ _ t154 _ _ t160 t163 _ ?bF ?bG ?eG ?eH ?jo ?vN ?AQ ?AR A9.out).mono ?_
   (case bF => repeat (first | exact (Kd.ak dJ.out HB.out) | (with_reducible refine Kd.bC ?_ _) | (with_reducible refine Kd.bD ?_ _) | (with_reducible refine Kd.bQ ?_)))
   (case bG => exact eu.out)
   (case eG => repeat (first | exact (Kd.ak HR1.out HB.out) | (with_reducible refine Kd.bC ?_ _) | (with_reducible refine Kd.bD ?_ _) | (with_reducible refine Kd.bQ ?_)))
   (case eH => exact uU.out)
   (case jo => repeat (first | exact (Kd.cO CQ.out).2.2 | (with_reducible refine Kd.bC ?_ _) | (with_reducible refine Kd.bD ?_ _) | (with_reducible refine Kd.bQ ?_)))
   (case vN => exact (Kd.cO CQ.out).2.1)
   (case AQ => repeat (first | exact (Kd.cO KR.out).2.2 | (with_reducible refine Kd.bC ?_ _) | (with_reducible refine Kd.bD ?_ _) | (with_reducible refine Kd.bQ ?_)))
   (case AR => exact (Kd.cO KR.out).2.1)
   rintro e Vd ⟨rfl, hb⟩; refine ⟨_, rfl, ?_⟩; replace CQ := kH CQ hb; replace FI := kH FI hb; replace KR := kH KR hb; replace oh := bV oh hb; replace HB := dL HB hb
   (try clear hb)
   (try clear hb2)
   (try clear hk)
   (try clear hi)
   refine hK.out _ _ ⟨(aI oh.out 0).trans rfl, (aI oh.out 1).trans rfl, (dz HB AV :), (dz HB AU :)⟩ (fun hHeld => ?_); clear hK K; refine dw (a' := ?_) ?_ ?_; rotate_left
   ·show Act.put _ (some 22) _ = _
    simp only [Act.put, sL, ay, aA]
    rfl
   refine aH (i := 16) (N := some 6) (v := ?_) (a' := ?_) (bA 17 131071) rfl rfl (aU dY.out tX) (fun _ _ _ h => h) (Or.inl ⟨by rfl, ?_⟩) ?_ ?_; rotate_left
   ·intro w'
    go_simp
    with_reducible rfl
   rotate_left
   ·simp only [Act.put, sL, ay, aA]
    rfl
   refine kZ (pF dY.out tX) ?_
   try go_wp2
   go_ret
   exact ⟨tF, tB⟩
  ·rw [if_neg c5] at H
   exact absurd H (by simp)
 ·rw [if_neg c4] at H
  exact absurd H (by simp)
def iT.f (h : List bO) (ws : List Int) (l : List bg) (d : Int) : Option (Int × Int) := (dX.f 1000 h ws l d).bind fun a => (fI.f 1000 h ws l d).map fun b => (a, b)
theorem iT.calls (bB : Option Addr) (aZ : Nat) (au : List bO) (nZ : Option Addr) (nM : Nat) (gM : List Int) (A1 : Option Addr) (c1 : Nat) (l1 : List bg) (a2 : Int) (r1 : Int) (r2 : Int) (w : World) (dx : Kd.C iM w bB au.length au) (dI : au.length ≤ aZ) (tN : Kd.C (Kd.int .i64) w nZ gM.length gM) (vM : gM.length ≤ nM) (hr1 : Kd.C eT w A1 l1.length l1) (hc1 : l1.length ≤ c1) (h : iT.f au gM l1 a2 = some (r1, r2)) :
  Calls Tryz.prog 107 #[.agg #[.slice bB au.length aZ, .slice nZ gM.length nM], .slice A1 l1.length c1, .int .i64 a2] w fun e w' => e = .returned (.agg #[.int .i64 r1, .int .i64 r2]) ∧ Below w.heap.size w w' := by
 have HX := Bx.nil w
 unfold iT.f at h
 obtain ⟨x1, h1, h⟩ := Option.bind_eq_some_iff.1 h; obtain ⟨x2, h2, h⟩ := Option.map_eq_some_iff.1 h
 obtain ⟨rfl, rfl⟩ : x1 = r1 ∧ x2 = r2 := by injection h with e1 e2; exact ⟨e1, e2⟩
 have K1 := fun w1 (hb : Below w.heap.size w w1) => dX.calls 1000 bB aZ au nZ nM gM A1 c1 l1 a2 x1 w1 (Kd.ak dx hb) dI (Kd.ak tN hb) vM (Kd.ak hr1 hb) hc1 h1
 have K2 := fun w1 (hb : Below w.heap.size w w1) => fI.calls 1000 bB aZ au nZ nM gM A1 c1 l1 a2 x2 w1 (Kd.ak dx hb) dI (Kd.ak tN hb) vM (Kd.ak hr1 hb) hc1 h2
 clear h1 h2 h dx tN hr1
 have hmf : ∀ (fn : Fn) (first cap : Array Value) (w : World), (Instr.makeFunc fn first cap).run Tryz.prog w = .ok (.func fn first cap) w := fun _ _ _ _ => rfl
 have i0 : ∀ w, (Instr.index 212 (.agg #[.func (.func 170) #[.agg #[.slice bB au.length aZ, .slice nZ gM.length nM]] #[], .func (.func 171) #[.agg #[.slice bB au.length aZ, .slice nZ gM.length nM]] #[]]) (.int .i64 0)).run Tryz.prog w = .ok (.func (.func 170) #[.agg #[.slice bB au.length aZ, .slice nZ gM.length nM]] #[]) w := fun _ => by kernel_rfl
 have i1 : ∀ w, (Instr.index 212 (.agg #[.func (.func 170) #[.agg #[.slice bB au.length aZ, .slice nZ gM.length nM]] #[], .func (.func 171) #[.agg #[.slice bB au.length aZ, .slice nZ gM.length nM]] #[]]) (.int .i64 1)).run Tryz.prog w = .ok (.func (.func 171) #[.agg #[.slice bB au.length aZ, .slice nZ gM.length nM]] #[]) w := fun _ => by kernel_rfl
 have kg := Tryz.underlying37; have wY := Tryz.underlying149
 go_enter Tryz.func107, Tryz.ntmps107
 go_wp2_with (first | ((with_reducible refine av (N := 3) rfl ?_); refine newX rfl rfl HX (cs := #[.slice bB au.length aZ, .slice nZ gM.length nM]) (t := 149) tG ?_; clear HX; intro g3 w3 HX hx hz; clear hx hz) | ((with_reducible refine av (N := 6) rfl ?_); refine newX rfl rfl HX (cs := #[.int .i64 0, .int .i64 0]) (t := 37) tG ?_; clear HX; intro g6 w6 HX hx hz; clear hx hz) | ((with_reducible refine av (N := 7) rfl ?_); refine newX rfl rfl HX (cs := #[.int .i64 0, .int .i64 0]) (t := 210) tG ?_; clear HX; intro g7 w7 HX hx hz; clear hx hz; have ch := HX.g2 2 rfl; obtain ⟨Gj, KT⟩ := ch))
 refine wp_loop_rounds 3 ?_; rw [rounds_succ]
 go_wp2_with (first | (go_at_call 170; (with_reducible refine (K1 _ HX.below).mono ?_); rintro e w1 ⟨rfl, hx⟩; replace HX := HX.step hx; clear hx Gj KT; have ch := HX.g2 0 rfl; obtain ⟨Gj, KT⟩ := ch) | ((with_reducible refine bE (t := 3) (p := 24) rfl ?_); refine kL rfl rfl rfl HX 0 rfl (i := 0) (.int .i64 x1) [.int .i64 x1] #[.int .i64 x1, .int .i64 0] rfl rfl rfl tX (by simp) (by simp [Value.oneCell']) rfl ?_; clear HX Gj KT; intro w1 HX hx; clear hx; dsimp only [List.set] at HX; have ch := HX.g2 0 rfl; obtain ⟨Gj, KT⟩ := ch))
 rw [rounds_succ]
 go_wp2_with (first | (go_at_call 171; (with_reducible refine (K2 _ HX.below).mono ?_); rintro e w1 ⟨rfl, hx⟩; replace HX := HX.step hx; clear hx Gj KT; have ch := HX.g2 0 rfl; obtain ⟨Gj, KT⟩ := ch) | ((with_reducible refine bE (t := 3) (p := 24) rfl ?_); refine kL rfl rfl rfl HX 0 rfl (i := 1) (.int .i64 x2) [.int .i64 x2] #[.int .i64 x1, .int .i64 x2] rfl rfl rfl tX (by simp) (by simp [Value.oneCell']) rfl ?_; clear HX Gj KT; intro w1 HX hx; clear hx; dsimp only [List.set] at HX; have ch := HX.g2 0 rfl; obtain ⟨Gj, KT⟩ := ch))
 rw [rounds_succ]
 go_wp2_with (first | ((with_reducible refine bE (t := 37) (p := 6) rfl ?_); refine kL rfl rfl rfl HX 1 rfl (i := 0) (.agg #[.int .i64 x1, .int .i64 x2]) [.int .i64 x1, .int .i64 x2] #[.int .i64 x1, .int .i64 x2] rfl rfl rfl tX (by simp) (by simp [Value.oneCell']) rfl ?_; clear HX Gj KT; intro w1 HX hx; clear hx; dsimp only [List.set] at HX))
 refine bodyPost_ret (results_cell_row rfl _ _ g6 37 #[.int .i64 x1, .int .i64 x2] (0, 0) _ rfl (HX.gb 1 rfl) Tryz.underlying37 rfl tX) rfl ?_; exact ⟨rfl, HX.below⟩
section
variable {F : Fence} {nF : Nat} {ops : Array Oper} {rest : List Oper} {o : Oper} {a : Act} {Q : Exit → Act → World → Prop} {w : World}
theorem AX (hg : o.guard = none) (m : Operand) (hop : o.op = .range 199 m) {b n : Nat} {S : List Int} (hm : a.eval m = .map (some b)) (hS : kJ w b n S)
  (h : ∀ w' r cnt, r = w.heap.size → iI w' b r n S [] cnt → Below w.heap.size w w' → wpListIn F nF Tryz.prog ops Q rest (a.put o.dst (.pointer (some ⟨r, 0, none⟩))) w') : wpListIn F nF Tryz.prog ops Q (o :: rest) a w := by
 obtain ⟨D, h1, h2⟩ := hS
 refine wpListIn_range_own w hg m 199 hop 3 4 (Maps.int_keyed Tryz.underlying3) Tryz.underlying199 _ b n D hm h1 fun w' r1 r2 _ => h w' _ (Maps.size D) rfl ⟨D, _, r1, h2, fun x hx => by rw [h2 x hx]; simp, by have := h1.size_le; simp; exact this⟩ ⟨r2.os, r2.tape, r2.output, r2.size, fun k hk => r2.block k hk (by simp)⟩
theorem CR (hg : o.guard = none) (it : Operand) (hop : o.op = .next it false) {b r n cnt : Nat} {S V : List Int} (hit : a.eval it = .pointer (some ⟨r, 0, none⟩)) (hR : iI w b r n S V cnt)
  (hDone : (∀ x, PY x → x ∈ S → x ∈ V) → wpListIn F nF Tryz.prog ops Q rest (a.put o.dst (.tuple #[.bool false])) w)
  (hMore : ∀ (x : Int) (c : Bool) (w' : World) (cnt' : Nat), PY x → x ∈ S → x ∉ V → iI w' b r n S (V ++ [x]) cnt' → cnt' < cnt → w.grownBy w' (some r) → w'.heap.size = w.heap.size → (Instr.entry (.pointer (some ⟨r, 0, none⟩))).run Tryz.prog w' = .ok (.tuple #[.int .i64 x, .bool c]) w' →
   wpListIn F nF Tryz.prog ops Q rest (a.put o.dst (.tuple #[.bool true, .int .i64 x, .bool c])) w') : wpListIn F nF Tryz.prog ops Q (o :: rest) a w := by
 obtain ⟨D, left, h1, h2, h3, h4⟩ := hR; refine wpListIn_next_ranges w hg it hop 3 (Maps.int_keyed Tryz.underlying3) (plainElem Tryz.prog 4) (Value.int .i64) Value.bool ?_ ?_ b r n D left cnt hit h1 ?_ ?_
 ·intro key kl hk
  obtain ⟨x, rfl, _⟩ := Maps.keyOf_int_inv Tryz.underlying3 hk; exact ⟨x, rfl⟩
 ·intro v y hv
  unfold plainElem at hv
  rw [Tryz.underlying4] at hv
  cases v <;> simp at hv
  exact ⟨_, rfl⟩
 ·intro h0 hl
  refine hDone fun x hx hm => ?_
  have := h3 x hx; rw [hl] at this
  simpa [hm] using this.symm
 ·intro x c kl y w' cnt' hk hl hv hat hr hlt hgr hsz hen
  obtain ⟨x', he, rfl, hx⟩ := Maps.keyOf_int_inv Tryz.underlying3 hk
  injection he with _ he
  subst he; have h5 := h3 x hx; rw [hl] at h5
  have h6 : x ∈ S ∧ x ∉ V := by simpa using h5.symm
  refine hMore x c w' cnt' hx h6.1 h6.2 ⟨D, _, hr, h2, fun z hz => ?_, by simp; omega⟩ hlt hgr hsz hen; rw [h3 z hz]
  by_cases e : z = x
  ·subst e
   simp [WideAt.sameKey_self U0]
  ·rw [Maps.sameKey_ne (by intro h; injection h with _ h; exact e h)]
   simp [e]
theorem KU (hg : o.guard = none) (m x : Operand) {v : Operand} (hop : o.op = .insert 199 m x v) {b n : Nat} {S : List Int} (hm : a.eval m = .map (some b)) (hS : kJ w b n S) (hn : n < 1000000000000000000) {z : Int} (hz : PY z) (hx : a.eval x = .int .i64 z) (hv : a.eval v = .bool true)
  (h : ∀ w', kJ w' b (n + 1) (S ++ [z]) → w.grownBy w' (some b) → wpList Tryz.prog ops Q rest (a.put o.dst undef) w') : wpList Tryz.prog ops Q (o :: rest) a w := by
 obtain ⟨D, h1, h2⟩ := hS
 refine wpList_plain hg fun K' hK' => ?_
 obtain ⟨w', hrun, r1, r2⟩ := h1.update (Maps.int_keyed Tryz.underlying3) Tryz.underlying199 (by unfold maxLen; omega) (Maps.keyOf_int_mk Tryz.underlying3 hz) (plainElem_bool Tryz.underlying4 true)
 unfold Oper.wp
 simp [execOp, hop, hm, hx, hv, hrun, Result.andThen]; refine hK' _ _ (h w' ⟨_, r1, fun y hy => ?_⟩ r2)
 by_cases e : y = z
 ·subst e
  rw [Maps.has_put_same h1.isMap U0]; simp
 ·rw [Maps.has_put_other (by intro h; injection h with _ h; exact e h), h2 y hy]
  simp [e]
end
end Go.Proofs.YtnpfbjnjdngkhaaGreatDoor.P
namespace Go.Proofs.YtnpfbjnjdngkhaaGreatDoor.P
open Go.RowKit Go.Proofs.YtnpfbjnjdngkhaaGreatDoorW.aW Go.Proofs.YtnpfbjnjdngkhaaGreatDoorW.bZ Go.Proofs.YtnpfbjnjdngkhaaGreatDoorW.dh
attribute [local go_sem] fE fF gU gV eX eY fG fH
attribute [local go_sem] Oper.semAt_some
theorem xK {A B C : World} {g : Nat} {row : Option Nat} (h1 : A.grownBy B (some g)) (h2 : B.grownBy C row) (hr : ∀ k, row = some k → k = g ∨ A.heap.size ≤ k) : A.grownBy C (some g) :=
 ⟨h2.os.trans h1.os, h2.tape.trans h1.tape, h2.output.trans h1.output, Nat.le_trans h1.size h2.size, fun k hk hne => (h2.block k (Nat.lt_of_lt_of_le hk h1.size) (fun e => by
  rcases hr k e.symm with h | h
  ·exact hne (by rw [h])
  ·omega)).trans (h1.block k hk hne)⟩
theorem qlK {v m n N : Nat} (h1 : v + 1 ≤ n) (h2 : m ≤ 20000) (h3 : n ≤ N) : v * m ≤ N * 20000 := Nat.mul_le_mul (by omega) h2
theorem mulC {QV nn v m n P R v2 : Nat} (h1 : QV ≤ nn + v2) (h2 : nn ≤ v * m) (h3 : v + 1 ≤ n) (h4 : m ≤ 20000) (h5 : n ≤ P) (h6 : P * 20000 = R) (h7 : R ≤ 8000000000000) (h8 : v2 ≤ 20000) : QV < 1000000000000000000 := by have := qlK h3 h4 h5; omega
theorem qdj {V V2 Y : List Int} {f : Int → List Int} {g : Int → Int} {p : Int} (hf : f p = Y.map g) (h1 : ∀ q ∈ V2, q ∈ Y) (h2 : ∀ q ∈ Y, q ∈ V2) : ∀ y, y ∈ V.flatMap f ++ V2.map g ↔ y ∈ (V ++ [p]).flatMap f := by
 intro y
 have : y ∈ V2.map g ↔ y ∈ Y.map g := by
  simp only [List.mem_map]; exact ⟨fun ⟨q, hq, e⟩ => ⟨q, h1 q hq, e⟩, fun ⟨q, hq, e⟩ => ⟨q, h2 q hq, e⟩⟩
 simp only [List.flatMap_append, List.flatMap_cons, List.flatMap_nil, List.append_nil, hf, List.mem_append, this]
theorem Jf {A B : World} {g : Nat} (h : Below A.heap.size A B) : A.grownBy B (some g) := ⟨h.os, h.tape, h.output, h.size, fun k hk _ => h.block k hk⟩
theorem V5 {wt z : Int} (hw : -9 ≤ wt ∧ wt ≤ 9) (hz : -100 ≤ z ∧ z ≤ 100) : -900 ≤ wt * z ∧ wt * z ≤ 900 := by
 have : wt = -9 ∨ wt = -8 ∨ wt = -7 ∨ wt = -6 ∨ wt = -5 ∨ wt = -4 ∨ wt = -3 ∨ wt = -2 ∨ wt = -1 ∨ wt = 0 ∨ wt = 1 ∨ wt = 2 ∨ wt = 3 ∨ wt = 4 ∨ wt = 5 ∨ wt = 6 ∨ wt = 7 ∨ wt = 8 ∨ wt = 9 := by omega
 rcases this with rfl | rfl | rfl | rfl | rfl | rfl | rfl | rfl | rfl | rfl | rfl | rfl | rfl | rfl | rfl | rfl | rfl | rfl | rfl <;> omega
theorem qfJ {T V V2 Y : List Int} {f : Int → List Int} {g : Int → Int} {p : Int} (hf : f p = Y.map g) (h1 : ∀ q ∈ V2, q ∈ Y) (h2 : ∀ q ∈ Y, q ∈ V2) : ∀ y, y ∈ T ++ V.flatMap f ++ V2.map g ↔ y ∈ T ++ (V ++ [p]).flatMap f := by
 intro y
 have : y ∈ V2.map g ↔ y ∈ Y.map g := by
  simp only [List.mem_map]; exact ⟨fun ⟨q, hq, e⟩ => ⟨q, h1 q hq, e⟩, fun ⟨q, hq, e⟩ => ⟨q, h2 q hq, e⟩⟩
 simp only [List.flatMap_append, List.flatMap_cons, List.flatMap_nil, List.append_nil, hf, List.mem_append, this, or_assoc]
theorem qfK {T V X : List Int} {f : Int → List Int} (h1 : ∀ q ∈ V, q ∈ X) (h2 : ∀ q ∈ X, q ∈ V) : ∀ y, y ∈ T ++ V.flatMap f ↔ y ∈ T ++ X.flatMap f := by
 intro y; simp only [List.mem_append, List.mem_flatMap]; exact ⟨fun h => h.imp id fun ⟨q, hq, e⟩ => ⟨q, h1 q hq, e⟩, fun h => h.imp id fun ⟨q, hq, e⟩ => ⟨q, h2 q hq, e⟩⟩
theorem qa1 {A B C : World} {b g : Nat} {cs : Array Value} {t : TypeId} (hg : aj (B.grownBy C (some b))) (hk : aj (mX (fun _ => False) A B)) (h : aj (A.heap[g]? = some (.cells cs t (0, 0)))) (hne : g ≠ b) : aj (C.heap[g]? = some (.cells cs t (0, 0))) :=
 have h2 := (hk.out.box h (fun h => h)).out
 ⟨(hg.out.block g (cZ h2) (fun e => by injection e with e; exact hne e)).trans h2⟩
theorem AY {F : Fence} {n : Nat} {P : Program} {fn : Func} {tmps : Array Value} {R : Ending → World → Prop} (Inv : World → Prop) (B : Nat) (hI : ∀ W D, B ≤ D → W.heap[D]? = some (.deferred (some [])) → Inv W → Inv (W.putObj D (.deferred none))) :
  ∀ (Ds : List Nat) (W : World), Ds.Nodup → (∀ D ∈ Ds, B ≤ D ∧ W.heap[D]? = some (.deferred (some []))) → Inv W → (∀ W', Inv W' → ∃ v, (results fn tmps).run P W' = .ok v W' ∧ R (.returned v) W') → LeavesInM F n P fn tmps R (Ds.map fun D => { target := Target.collected D, args := #[] }) .returning W
 | [], W, _, _, hi, h => h W hi
 | D :: Ds, W, hn, hd, hi, h => by
  have h0 := hd D (List.mem_cons_self ..); have h1 := List.nodup_cons.1 hn; refine ⟨by simp, .inl ⟨D, _, rfl, run_takeDeferred h0.2, ?_⟩⟩; exact AY Inv B hI Ds _ h1.2 (fun k hk => ⟨(hd k (List.mem_cons_of_mem _ hk)).1, (World.putObj_heap_other (r := D) (k := k) (fun e => h1.1 (by rw [← e]; exact hk))).trans (hd k (List.mem_cons_of_mem _ hk)).2⟩) (hI W D h0.1 h0.2 hi) h
theorem QW (A : Option Addr) (c : Nat) (h : List bO) (A1 : Option Addr) (c1 : Nat) (m : List Int) (A2 : Option Addr) (c2 : Nat) (l : List bg) (d : Int) (A3 : Option Addr) (c3 : Nat) (takes : List Int) (w : World)
  (hr : Kd.C iM w A h.length h) (hc : h.length ≤ c) (hr2 : Kd.C eT w A2 l.length l) (hc2 : l.length ≤ c2) (hr3 : Kd.C (Kd.int .i64) w A3 takes.length takes) (hc3 : takes.length ≤ c3)
  (hh : uz h) (hb : oz h.length l) (hd : 0 ≤ d ∧ d < h.length) (ht : takes ∈ lW (aT h d).f0) :
  Calls Tryz.prog 201 #[.agg #[.slice A h.length c, .slice A1 m.length c1], .slice A2 l.length c2, .int .i64 d, .slice A3 takes.length c3] w fun e w' => ∃ b n, e = .returned (.map (some b)) ∧ kJ w' b n (kQ h l d takes) ∧ n ≤ 27 ∧ w.heap.size ≤ b ∧ Below w.heap.size w w' := by
 have hlen := Kq (h := h) d takes hb; have htb := CK hh hd ht; refine (IC A c h A1 c1 m A2 c2 l d A3 c3 takes w hr hc hr2 hc2 hr3 hc3 hd (by have := hb.len; omega) (fun b hb2 => by have := hb.hours b hb2; omega) (fun x hx => by have := htb.2 x hx; omega) (fun b hb2 => by have := hb.NC b hb2; have := htb.1; omega) (by omega) (by have := hh.full _ (l9 hd); omega)).mono ?_; rintro e w' ⟨b, n, h1, h2, h3, h4, h5⟩; exact ⟨b, n, h1, h2, by omega, h4, h5⟩
theorem CS (A : Option Addr) (c : Nat) (h : List bO) (A1 : Option Addr) (c1 : Nat) (ws : List Int) (A2 : Option Addr) (c2 : Nat) (a : List bg) (A3 : Option Addr) (c3 : Nat) (b : List bg) (w : World)
  (hr : Kd.C iM w A h.length h) (hc : h.length ≤ c) (hr1 : Kd.C (Kd.int .i64) w A1 ws.length ws) (hc1 : ws.length ≤ c1) (hr2 : Kd.C eT w A2 a.length a) (hc2 : a.length ≤ c2) (hr3 : Kd.C eT w A3 b.length b) (hc3 : b.length ≤ c3)
  (hh : uz h) (hw : Vn h.length ws) (ha : oz h.length a) (hb : oz h.length b) :
  Calls Tryz.prog 156 #[.agg #[.slice A h.length c, .slice A1 ws.length c1], .slice A2 a.length c2, .slice A3 b.length c3] w fun e w' => ∃ bm n, e = .returned (.map (some bm)) ∧ kJ w' bm n (qy h a b ws 0 [0]) ∧ w.heap.size ≤ bm ∧ Below w.heap.size w w' := by
 have HB := aj.mk (Below.refl w.heap.size w); have HR := aj.mk hr; have HR1 := aj.mk hr1; have HR2 := aj.mk hr2; have HR3 := aj.mk hr3; have HH := aj.mk hh; have HW := aj.mk hw; have HA := aj.mk ha; have HBB := aj.mk hb; have hm : ws.length ≤ 9223372036854775807 := hr1.2.1; have hmm := @run_makeMap Tryz.prog; have o8 := Tryz.underlying24; have IY := Tryz.underlying49; have wY := Tryz.underlying149; clear hr hr1 hr2 hr3 hh hw ha hb; refine (callsIn_wide (n := 3)).1 ?_; refine callsIn_of_wp_marks Tryz.func156 rfl trivial ?_ rfl; refine wpIn_wide.2 ?_; simp only [Tryz.ntmps156, List.size_toArray, List.length_cons, List.length_nil, Nat.reduceAdd, Nat.reduceSub, Array.replicate_succ, Array.replicate_zero, List.push_toArray, List.append_toArray, List.nil_append, List.cons_append]
 go_wp2_with (first | ((with_reducible refine av (N := 3) rfl ?_); refine ko rfl rfl (cs := #[.slice A h.length c, .slice A1 ws.length c1]) (t := 149) tG HB ?_; clear HB; intro gh wa G5 GH HB hx; have Gj := (qP G5.out).2; clear hx) | ((with_reducible refine av (N := 4) rfl ?_); refine ko rfl rfl (cs := #[.slice A2 a.length c2]) (t := 25) tG HB ?_; clear HB; intro ga wb Tj GA HB hx; replace G5 := dW G5 hx; clear hx Gj) | ((with_reducible refine av (N := 5) rfl ?_); refine ko rfl rfl (cs := #[.slice A3 b.length c3]) (t := 25) tG HB ?_; clear HB; intro gb wc V6 GB HB hx; replace G5 := dW G5 hx; replace Tj := dW Tj hx; clear hx) | ((with_reducible refine av (N := 19) rfl ?_); refine yG rfl rfl tG HB ?_; clear HB; intro bm wd HS GM HB hx hz; replace G5 := dW G5 hx; replace Tj := dW Tj hx; replace V6 := dW V6 hx; clear hx hz) | ((with_reducible refine qaE (.insert 199 (.tmp 19) (.const (.int .i64 0)) (.const (.bool true))) rfl ?_); refine KU rfl _ _ rfl rfl HS.out (by decide) (uS (x := 0) (by decide) (by decide)) rfl rfl ?_; intro we hs1 hx; replace G5 := gW G5 hx (HS.out.pO G5); replace Tj := gW Tj hx (HS.out.pO Tj); replace V6 := gW V6 hx (HS.out.pO V6); replace HB := stepG HB hx GM; clear HS; have HS := aj.mk hs1; have Gj := (qP G5.out).2; clear hs1 hx))
 obtain ⟨b0, hb0⟩ : ∃ b0, b0 = bm := ⟨_, rfl⟩; refine wp_loop (fun (a' : Act) (W : World) => ∃ (u : Nat → Value) (Ds : List Nat) (k : Int) (S : List Int) (bm n : Nat), (0 ≤ k ∧ k ≤ ws.length ∧ aj (qy h a b (ws.drop k.toNat) k S = qy h a b ws 0 [0] ∧ n ≤ 20000 ^ k.toNat ∧ ∀ x ∈ S, -1000 * k ≤ x ∧ x ≤ 1000 * k) ∧ aj (kJ W bm n S) ∧ aj (w.heap.size ≤ bm) ∧ aj (W.heap[gh]? = some (.cells #[.slice A h.length c, .slice A1 ws.length c1] 149 (0, 0))) ∧ aj (W.heap[ga]? = some (.cells #[.slice A2 a.length c2] 25 (0, 0))) ∧ aj (W.heap[gb]? = some (.cells #[.slice A3 b.length c3] 25 (0, 0))) ∧ aj (Below w.heap.size w W) ∧ aj (Ds.Nodup ∧ ∀ D ∈ Ds, w.heap.size ≤ D ∧ W.heap[D]? = some (.deferred (some [])))) ∧ a' = { tmps := #[.agg #[.slice A h.length c, .slice A1 ws.length c1], .slice A2 a.length c2, .slice A3 b.length c3, .pointer (some ⟨gh, 0, none⟩), .pointer (some ⟨ga, 0, none⟩), .pointer (some ⟨gb, 0, none⟩), .map none, .map (some bm), u 8, u 9, u 10, u 11, u 12, u 13, u 14, u 15, u 16, u 17, u 18, .map (some b0), .map (some b0), .pointer (some ⟨gh, 1, none⟩), .pointer (some ⟨gh, 1, none⟩), .slice A1 ws.length c1, .int .i64 ws.length, .int .i64 k, u 26, u 27, u 28, u 29, u 30, u 31, u 32, u 33, u 34, u 35, u 36, u 37, u 38, u 39, u 40, u 41, u 42, u 43, u 44, u 45, u 46, u 47, u 48, u 49, u 50, u 51, u 52, u 53, u 54, u 55, u 56, u 57, u 58, u 59, u 60, u 61, u 62, u 63, u 64, u 65, u 66, u 67, u 68, u 69, u 70, u 71, u 72, u 73, u 74, u 75, u 76, u 77, u 78, u 79, u 80, u 81, u 82, u 83, u 84, u 85, u 86, u 87], defers := Ds.map fun D => { target := .collected D, args := #[] } }) (fun a' _ => ws.length - (intOf (a'.tmps.getD 25 undef)).toNat) ?_ ?_
 ·subst hb0
  exact ⟨fun _ => undef, [], 0, [0], b0, 1, ⟨by omega, by omega, ⟨rfl, Nat.le_refl _, by simp⟩, HS, GM, G5, Tj, V6, HB, ⟨List.nodup_nil, by simp⟩⟩, rfl⟩
 ·clear HS G5 Tj V6 HB Gj GM hb0
  rintro _ wo ⟨u, Ds, k, S, bm, n, ⟨hk0, hk, HI, HS, GM, G5, Tj, V6, HB0, HDs⟩, rfl⟩
  by_cases hlt : k < ws.length
  ·obtain ⟨wt, hwt⟩ : ∃ wt, wt = rd ws k := ⟨_, rfl⟩
   have hdl : k < h.length := by have := HW.out.len; omega
   obtain ⟨Zh, rfl, hw0⟩ := Kd.iH HR1.out k hk0 hlt; replace hw0 := (HB0.out.cell (World.block_lt_of_cell? w _ hw0)).trans hw0; obtain ⟨Uq, Ad, cd, rfl, hd0, _, hdl0, hdC⟩ := iZ HR.out k hk0 hdl; replace hd0 := (HB0.out.cell (World.block_lt_of_cell? w _ hd0)).trans hd0; have HDC := aj.mk (Kd.ak hdC HB0.out); have HD0 := aj.mk hd0; have HWT := aj.mk (show wt = rd ws k ∧ -9 ≤ wt ∧ wt ≤ 9 by rw [hwt]; exact ⟨rfl, HW.out.wt _ (getD_at ws (0 : Int) k hk0 hlt).1⟩); rw [← hwt] at hw0; have HB := aj.mk (Below.refl wo.heap.size wo); clear hdC hd0 hwt
   go_wp2_with (first | ((with_reducible refine av (N := 8) rfl ?_); refine jD rfl rfl (cs := #[.int .i64 0]) (t := 3) tG HB ?_; clear HB; intro g8 w8 H8 G8 HB hx hz; clear hx hz) | ((with_reducible refine av (N := 9) rfl ?_); refine jD rfl rfl (cs := #[.int .i64 0]) (t := 3) tG HB ?_; clear HB; intro g9 w9 H9 G9 HB hx hz; have D9 := aj.mk (show g8 ≠ g9 from fun e => by have := cZ H8.out; omega); replace H8 := dW H8 hx; clear hx hz) | ((with_reducible refine bE (t := 3) (p := 8) rfl ?_); refine je rfl rfl rfl H8 G8 HB (.int .i64 k) [.int .i64 k] #[.int .i64 k] rfl rfl rfl tX (Nat.le_refl _) (by simp [Value.oneCell']) rfl ?_; clear HB H8; intro wx H8 HB hx; replace H9 := gW H9 hx D9.out.symm; clear hx) | ((with_reducible refine bE (t := 3) (p := 9) rfl ?_); refine je rfl rfl rfl H9 G9 HB (.int .i64 wt) [.int .i64 wt] #[.int .i64 wt] rfl rfl rfl tX (Nat.le_refl _) (by simp [Value.oneCell']) rfl ?_; clear HB H9; intro wy H9 HB hx; replace H8 := gW H8 hx D9.out; clear hx) | ((with_reducible refine av (N := 30) rfl ?_); refine yG rfl rfl tG HB ?_; clear HB; intro bh wm Ur GBH HB hx hz; replace H8 := dW H8 hx; replace H9 := dW H9 hx; clear hx hz) | ((with_reducible refine av (N := 10) rfl ?_); refine jD rfl rfl (cs := #[.map none]) (t := 199) tG HB ?_; clear HB; intro g10 wi Gd G10 HB hx hz; have Yy := aj.mk (show g8 ≠ g10 ∧ g9 ≠ g10 ∧ bh ≠ g10 from ⟨fun e => by have := cZ H8.out; omega, fun e => by have := cZ H9.out; omega, fun e => by have := Ur.out.lt; omega⟩); replace H8 := dW H8 hx; replace H9 := dW H9 hx; have HS2 := aj.mk (Ur.out.below hx); clear Ur; have Ur := HS2; clear HS2 hx hz) | ((with_reducible refine bE (t := 199) (p := 10) rfl ?_); refine je rfl rfl rfl Gd G10 HB (.map (some bh)) [.map (some bh)] #[.map (some bh)] rfl rfl rfl tX (Nat.le_refl _) (by simp [Value.oneCell']) rfl ?_; clear HB Gd; intro wj Gd HB hx; replace H8 := gW H8 hx Yy.out.1; replace H9 := gW H9 hx Yy.out.2.1; have HS2 := aj.mk (Ur.out.kept hx (by have := Yy.out.2.2; intro e; injection e; exact this ‹_›)); clear Ur; have Ur := HS2; have ch0 := (qP (aG G5.out HB.out)).1; have c8 := fT H8.out; have hd0 := (HB.out.cell (World.block_lt_of_cell? wo _ HD0.out)).trans HD0.out; clear HS2 hx) | (go_at_call 200; refine (uT Ad cd (aT h k).f0 _).mono ?_; rintro e wl ⟨gn, rfl, hgn, kI, hx⟩; have GN := aj.mk hgn; have HN := aj.mk kI; replace H8 := dW H8 hx; replace H9 := dW H9 hx; replace Gd := dW Gd hx; have HS2 := aj.mk (Ur.out.below hx); clear Ur; have Ur := HS2; replace HB := fu HB hx; clear HS2 hx hgn kI ch0 c8 hd0))
   have hx102 : aT h k ∈ h := l9 ⟨hk0, hdl⟩; have XV := aj.mk (show (aT h k).f0.length = 3 ∧ ∀ s ∈ (aT h k).f0, 0 ≤ s.f0 ∧ s.f1 ≤ 20 ∧ s.f1 - s.f0 ≤ 2 from ⟨HH.out.takes _ hx102, HH.out.span _ hx102⟩); have HBL := aj.mk Ur.out.lt; clear hx102; refine (wpIn_wide (n := 3)).1 ?_
   refine Ns (gf := 223) (lb := #[.pointer (some ⟨gn, 0, none⟩)]) rfl (enters_of Tryz.func223 tX rfl) (CB gn Ad cd (aT h k).f0 (fun _ => False) wl (by have := XV.out.1; omega) (fun s hs => by have := XV.out.2 s hs; omega) HN.out (Kd.ak HDC.out HB.out) (fun h => h) (fun _ _ h => h) (fun _ h => h.elim)) mX.trans (fun W o o' ho hc => mX.put ho hc) (Below.refl _ _) (fun _ => rfl) (fun x _ W W' row h hg hr => ⟨Vm x _ () W W' row h.1 hg hr, h.2⟩)
    (fun (pre : List pQ) W => ∃ n', kJ W bh n' (pre.flatMap fun (x : pQ) => BX h a b k wt x.xs) ∧ n' ≤ pre.length * 729 ∧ mX (fun _ => False) wl W ∧ Below wo.heap.size wo W)
    (fun pre W W' row hi hg hr => by
     obtain ⟨n', i1, i2, i3, i4⟩ := hi
     exact ⟨n', i1.kept hg (fun e => by have := (hr _ e.symm).1; have := HBL.out; omega), i2, i3.trans (mX.own hg fun r e => (hr r e).2), ⟨hg.os.trans i4.os, hg.tape.trans i4.tape, hg.output.trans i4.output, Nat.le_trans i4.size hg.size, fun q hq => (hg.block q (Nat.lt_of_lt_of_le hq i4.size) (fun e => by have := (hr _ e.symm).1; have := HB.out.size; omega)).trans (i4.block q hq)⟩⟩)
    ⟨0, by simpa using Ur.out, by simp, mX.refl _ _, HB.out⟩
    (fun x => { tmps := #[.agg #[.slice (some Uq) h.length c, .slice (some Zh) ws.length c1], .slice A2 a.length c2, .slice A3 b.length c3, .pointer (some ⟨gh, 0, none⟩), .pointer (some ⟨ga, 0, none⟩), .pointer (some ⟨gb, 0, none⟩), .map none, .map (some bm), .pointer (some ⟨g8, 0, none⟩), .pointer (some ⟨g9, 0, none⟩), .pointer (some ⟨g10, 0, none⟩), .slice x.A x.xs.length x.c, u 12, u 13, u 14, u 15, u 16, u 17, u 18, .map (some b0), .map (some b0), .pointer (some ⟨gh, 1, none⟩), .pointer (some ⟨gh, 1, none⟩), .slice (some Zh) ws.length c1, .int .i64 ws.length, .int .i64 k, .bool true, .int .i64 k, .pointer (some (Zh.add k.toNat)), .int .i64 wt, .map (some bh), .pointer (some ⟨gh, 0, none⟩), .pointer (some ⟨gh, 0, none⟩), .slice (some Uq) h.length c, .int .i64 k, .pointer (some (Uq.add (k.toNat * 2))), .pointer (some (Uq.add (k.toNat * 2))), .slice Ad (aT h k).f0.length cd, .func (.func 223) #[] #[.pointer (some ⟨gn, 0, none⟩)], .slice x.A x.xs.length x.c, u 40, u 41, u 42, u 43, u 44, u 45, u 46, u 47, u 48, u 49, u 50, u 51, u 52, u 53, u 54, u 55, u 56, u 57, u 58, u 59, u 60, u 61, u 62, u 63, u 64, u 65, u 66, u 67, u 68, u 69, u 70, u 71, u 72, u 73, u 74, u 75, u 76, u 77, u 78, u 79, u 80, u 81, u 82, u 83, u 84, u 85, u 86, u 87], defers := [] }) ?assign ?body ?done
   case assign =>
    intro lp x W K hK
    unfold pQ.enc
    gi_wp2
    exact hK
   case body =>
    rintro lp pre x W ⟨n', i1, i2, i3, i4⟩ hrd hpre; have Qt := aj.mk i3; have rz := aj.mk i4; have HI1 := aj.mk i1; have HI2 := aj.mk i2; have xG := aj.mk hrd; have HPR := aj.mk hpre; have HB2 := fu HB0 rz.out; clear i1 i2 i3 i4 hrd hpre; have q0 := (qP (aG G5.out rz.out)).1; have q1 := (qP (aG G5.out rz.out)).2; have q2 := fT (aG Tj.out rz.out); have q3 := fT (aG V6.out rz.out); have q4 := fT (Qt.out.box H8 (fun h => h)).out; have q0 := (qP (aG G5.out rz.out)).1; have q1 := (qP (aG G5.out rz.out)).2; have q2 := fT (aG Tj.out rz.out); have q3 := fT (aG V6.out rz.out); have q4 := fT (Qt.out.box H8 (fun h => h)).out
    gi_wp2
    refine EZ (some lp) (fun ⟨_, _, h⟩ => by have h2 : Exit.outgrown = Exit.normal ∧ _ := h; cases h2.1) (by rfl) (S := fun w' => w'.cell? ⟨gh, 0, none⟩ = some (.slice (some Uq) h.length c) ∧ w'.cell? ⟨gh, 1, none⟩ = some (.slice (some Zh) ws.length c1) ∧ w'.cell? ⟨ga, 0, none⟩ = some (.slice A2 a.length c2) ∧ w'.cell? ⟨gb, 0, none⟩ = some (.slice A3 b.length c3) ∧ w'.cell? ⟨g8, 0, none⟩ = some (.int .i64 k)) (ds := []) (bA 12 0) tX rfl rfl ⟨q0, q1, q2, q3, q4⟩ (fun hHeld => ?_); have AZ := aj.mk (fJ (Below.refl W.heap.size W))
    generalize W.drew = W6 at AZ hHeld ⊢
    refine aH (i := 3) (N := some 43) (v := ?_) (a' := ?_) (bA 12 8) rfl rfl tX (fun _ _ _ h => h) (Or.inl ⟨by rfl, ?_⟩) ?_ ?_; rotate_left
    ·intro w'
     go_simp
     with_reducible rfl
    rotate_left
    ·simp only [Act.put, sL, ay, aA]
     rfl
    refine aH (i := 8) (N := some 48) (v := ?_) (a' := ?_) (bA 12 264) rfl rfl tX (fun _ _ _ h => h) (Or.inl ⟨by rfl, ?_⟩) ?_ ?_; rotate_left
    ·intro w'
     go_simp
     with_reducible rfl
    rotate_left
    ·simp only [Act.put, sL, ay, aA]
     rfl
    refine fC (i := 0) (N := some 40) (v := ?_) (a' := ?_) (bA 12 265) rfl rfl tX (fun _ _ _ h => h) (Or.inl ⟨by rfl, ?_⟩) hHeld ?_ ?_; rotate_left
    ·rintro w' ⟨s0, s1, s2, s3, s4⟩
     go_simp
     with_reducible rfl
    rotate_left
    ·simp only [Act.put, sL, ay, aA]
     rfl
    refine fC (i := 1) (N := some 41) (v := ?_) (a' := ?_) (bA 12 267) rfl rfl tX (fun _ _ _ h => h) (Or.inl ⟨by rfl, ?_⟩) hHeld ?_ ?_; rotate_left
    ·rintro w' ⟨s0, s1, s2, s3, s4⟩
     go_simp
     with_reducible rfl
    rotate_left
    ·simp only [Act.put, sL, ay, aA]
     rfl
    refine fC (i := 2) (N := some 42) (v := ?_) (a' := ?_) (bA 12 271) rfl rfl tX (fun _ _ _ h => h) (Or.inl ⟨by rfl, ?_⟩) hHeld ?_ ?_; rotate_left
    ·rintro w' ⟨s0, s1, s2, s3, s4⟩
     go_simp
     with_reducible rfl
    rotate_left
    ·simp only [Act.put, sL, ay, aA]
     rfl
    refine fC (i := 5) (N := some 45) (v := ?_) (a' := ?_) (bA 12 303) rfl rfl tX (fun _ _ _ h => h) (Or.inl ⟨by rfl, ?_⟩) hHeld ?_ ?_; rotate_left
    ·rintro w' ⟨s0, s1, s2, s3, s4⟩
     go_simp
     with_reducible rfl
    rotate_left
    ·simp only [Act.put, sL, ay, aA]
     rfl
    refine fC (i := 6) (N := some 46) (v := ?_) (a' := ?_) (bA 12 367) rfl rfl tX (fun _ _ _ h => h) (Or.inl ⟨by rfl, ?_⟩) hHeld ?_ ?_; rotate_left
    ·rintro w' ⟨s0, s1, s2, s3, s4⟩
     go_simp
     with_reducible rfl
    rotate_left
    ·simp only [Act.put, sL, ay, aA]
     rfl
    refine fC (i := 7) (N := some 47) (v := ?_) (a' := ?_) (bA 12 495) rfl rfl tX (fun _ _ _ h => h) (Or.inl ⟨by rfl, ?_⟩) hHeld ?_ ?_; rotate_left
    ·rintro w' ⟨s0, s1, s2, s3, s4⟩
     go_simp
     with_reducible rfl
    rotate_left
    ·simp only [Act.put, sL, ay, aA]
     rfl
    refine gI (i := 4) (N := some 44) (bA 12 511) rfl rfl tX (by decide) (fun K hK => ?_); refine fP Tryz.func201 tX rfl #[.agg #[.slice (some Uq) h.length c, .slice (some Zh) ws.length c1], .slice A2 a.length c2, .int .i64 k, .slice x.A x.xs.length x.c] (by rfl) rfl rfl (by (try simp only [List.map_toArray, List.map_cons, List.map_nil]); first | done | rfl) ?_; refine (QW (some Uq) c h (some Zh) c1 ws A2 c2 a k x.A x.c x.xs W6 (Kd.ak HR.out (fu HB2 AZ.out).out) hc (Kd.ak HR2.out (fu HB2 AZ.out).out) hc2 (Kd.ak xG.out.1.1 AZ.out) xG.out.1.2 HH.out HA.out ⟨hk0, hdl⟩ xG.out.2).mono ?_; rintro e W7 ⟨bx, nx, rfl, hsx, hnx, hbx, hx⟩; refine ⟨_, rfl, ?_⟩; have HSX := aj.mk hsx; have HNX := aj.mk hnx; have GX := aj.mk (Nat.le_trans AZ.out.size hbx); replace AZ := fu AZ hx; clear hsx hnx hbx hx hHeld; refine hK.out _ _ ⟨(AZ.out.cell (World.block_lt_of_cell? _ _ q0)).trans q0, (AZ.out.cell (World.block_lt_of_cell? _ _ q1)).trans q1, (AZ.out.cell (World.block_lt_of_cell? _ _ q2)).trans q2, (AZ.out.cell (World.block_lt_of_cell? _ _ q3)).trans q3, (AZ.out.cell (World.block_lt_of_cell? _ _ q4)).trans q4⟩ (fun hHeld => ?_); clear hK K; refine dw (a' := ?_) ?_ ?_; rotate_left
    ·show Act.put _ (some 44) _ = _
     simp only [Act.put, sL, ay, aA]
     rfl
    refine gI (i := 9) (N := some 49) (bA 12 1023) rfl rfl tX (by decide) (fun K hK => ?_); refine fP Tryz.func201 tX rfl #[.agg #[.slice (some Uq) h.length c, .slice (some Zh) ws.length c1], .slice A3 b.length c3, .int .i64 k, .slice x.A x.xs.length x.c] (by rfl) rfl rfl (by (try simp only [List.map_toArray, List.map_cons, List.map_nil]); first | done | rfl) ?_; refine (QW (some Uq) c h (some Zh) c1 ws A3 c3 b k x.A x.c x.xs W7 (Kd.ak HR.out (fu HB2 AZ.out).out) hc (Kd.ak HR3.out (fu HB2 AZ.out).out) hc3 (Kd.ak xG.out.1.1 AZ.out) xG.out.1.2 HH.out HBB.out ⟨hk0, hdl⟩ xG.out.2).mono ?_; rintro e W8 ⟨bY, nY, rfl, hsx, hnx, hbx, hx⟩; refine ⟨_, rfl, ?_⟩; have Tk := aj.mk hsx; have HNY := aj.mk hnx; have GY := aj.mk (Nat.le_trans AZ.out.size hbx); have HS2 := aj.mk (HSX.out.below hx); have DXY := aj.mk (show bx ≠ bY from fun e => by have := HSX.out.lt; omega); clear HSX; have HSX := HS2; replace AZ := fu AZ hx; clear HS2 hsx hnx hbx hx hHeld; refine hK.out _ _ ⟨(AZ.out.cell (World.block_lt_of_cell? _ _ q0)).trans q0, (AZ.out.cell (World.block_lt_of_cell? _ _ q1)).trans q1, (AZ.out.cell (World.block_lt_of_cell? _ _ q2)).trans q2, (AZ.out.cell (World.block_lt_of_cell? _ _ q3)).trans q3, (AZ.out.cell (World.block_lt_of_cell? _ _ q4)).trans q4⟩ (fun hHeld => ?_); clear hK K; refine dw (a' := ?_) ?_ ?_; rotate_left
    ·show Act.put _ (some 49) _ = _
     simp only [Act.put, sL, ay, aA]
     rfl
    refine aH (i := 10) (N := some 12) (v := ?_) (a' := ?_) (bA 12 2047) rfl rfl tX (fun _ _ _ h => h) (Or.inl ⟨by rfl, ?_⟩) ?_ ?_; rotate_left
    ·intro w'
     go_simp
     with_reducible rfl
    rotate_left
    ·simp only [Act.put, sL, ay, aA]
     rfl
    refine aH (i := 11) (N := some 13) (v := ?_) (a' := ?_) (bA 12 4095) rfl rfl tX (fun _ _ _ h => h) (Or.inl ⟨by rfl, ?_⟩) ?_ ?_; rotate_left
    ·intro w'
     go_simp
     with_reducible rfl
    rotate_left
    ·simp only [Act.put, sL, ay, aA]
     rfl
    refine kZ tX ?_; clear hHeld q0 q1 q2 q3 q4
    gi_wp2_with (gi_at_range; refine AX rfl _ rfl rfl HSX.out ?_; intro W9 r1 cnt1 hr1 KV hx; have qF := aj.mk KV; have GR1 := aj.mk (show W.heap.size ≤ r1 ∧ bY ≠ r1 from ⟨by have := AZ.out.size; omega, fun e => by have := Tk.out.lt; omega⟩); have HS2 := aj.mk (Tk.out.below hx); clear Tk; have Tk := HS2; replace AZ := fu AZ hx; clear HS2 KV hr1 hx)
    obtain ⟨X, hX⟩ : ∃ X, X = kQ h a k x.xs := ⟨_, rfl⟩; obtain ⟨Y, hY⟩ : ∃ Y, Y = kQ h b k x.xs := ⟨_, rfl⟩
    obtain ⟨f, hf⟩ : ∃ f : Int → List Int, f = fun p => Y.map fun q => wt * (p - q) := ⟨_, rfl⟩
    obtain ⟨T, hT⟩ : ∃ T, T = pre.flatMap fun (x : pQ) => BX h a b k wt x.xs := ⟨_, rfl⟩
    have HXB := aj.mk (show ∀ p ∈ X, 0 ≤ p ∧ p ≤ 100 by rw [hX]; exact qE HH.out ⟨hk0, hdl⟩ HA.out xG.out.2); have JO := aj.mk (show ∀ p ∈ Y, 0 ≤ p ∧ p ≤ 100 by rw [hY]; exact qE HH.out ⟨hk0, hdl⟩ HBB.out xG.out.2); have HPL := aj.mk (show BX h a b k wt x.xs = X.flatMap f by rw [hf, hX, hY]; rfl); have HF := aj.mk hf; have HCT := aj.mk (show pre.length ≤ 27 from by have a1 := HPR.out; have a2 := Ac (ls := (aT h k).f0) (fun s hs => (XV.out.2 s hs).2.2); have a3 := IE (n := (aT h k).f0.length) (by have := XV.out.1; omega); omega); rw [← hX] at qF; rw [← hY] at Tk; rw [← hT] at HI1; have HTT := aj.mk hT; have pq := aj.mk (Jf (g := bh) AZ.out); have HBH := aj.mk (show bh ≠ bx ∧ bh ≠ bY ∧ bh ≠ r1 from ⟨fun e => by have := GX.out; have := HI1.out.lt; omega, fun e => by have := GY.out; have := HI1.out.lt; omega, fun e => by have := GR1.out.1; have := HI1.out.lt; omega⟩); have Dy := aj.mk (HI1.out.below AZ.out); clear hX hY hf hT HSX AZ
    go_frame
    gi_loopw [14] (fun _ W' => ∃ (V : List Int) (cnt nn : Nat), aj (iI W' bx r1 nx X V cnt) ∧ aj (kJ W' bY nY Y) ∧ aj (kJ W' bh nn (T ++ V.flatMap f)) ∧ aj (nn ≤ n' + V.length * 27 ∧ ∀ p ∈ V, p ∈ X) ∧ aj (W.grownBy W' (some bh))) (fun _ W' => W'.rangeLeft bx r1)
    case atStart => exact ⟨[], cnt1, n', qF, Tk, ⟨by simpa using Dy.out⟩, ⟨by simp, by simp⟩, pq⟩
    case round =>
     clear qF Tk Dy pq; obtain ⟨V, cnt, nn, qF, Tk, Dy, V7, pq⟩ := hrel; have LE1 := aj.mk qF.out.left
     gi_wp2_with (first | (gi_at_next; refine CR rfl _ rfl rfl qF.out ?nd1 ?nm1; (case' nd1 => (intro hd; have HD := aj.mk hd; clear hd)); (case' nm1 => (intro p cc wn V8 hpw hpS hpV QX hlt3 hgn hsz hen; have V9 := aj.mk (And.intro hpS hlt3); have NR1 := aj.mk (show bY ≠ r1 ∧ bh ≠ r1 from ⟨GR1.out.2, HBH.out.2.2⟩); have HS2 := aj.mk (Tk.out.kept hgn (fun e => NR1.out.1 (by injection e))); have Gl := aj.mk (Dy.out.kept hgn (fun e => NR1.out.2 (by injection e))); have HG2 := aj.mk (xK pq.out hgn (fun q e => .inr (by injection e with e; have := GR1.out.1; omega))); clear Tk Dy pq qF; have Tk := HS2; have Dy := Gl; have pq := HG2; have qF := aj.mk QX; clear HS2 Gl HG2 hpw hpS hpV QX hlt3 hgn hsz))) | (gi_at_range; refine AX rfl _ rfl rfl Tk.out ?_; intro W10 r2 cnt2 hr2 KV hx; have zD := aj.mk KV; have Wh := aj.mk (show W.heap.size ≤ r2 ∧ bx ≠ r2 ∧ r1 ≠ r2 ∧ bh ≠ r2 from ⟨by have := pq.out.size; omega, fun e => by have := qF.out.set.lt; omega, fun e => by have := qF.out.lt; omega, fun e => by have := Dy.out.lt; omega⟩); have HS2 := aj.mk (qF.out.below hx); have Gl := aj.mk (Dy.out.below hx); have HG2 := aj.mk (xK pq.out (Jf (g := bh) hx) (fun q e => .inl (by injection e with e; exact e.symm))); clear qF Dy pq Tk; have qF := HS2; have Dy := Gl; have pq := HG2; clear HS2 Gl HG2 KV hr2 hx))
     ·have hp := V9.out.1
      go_frame
      gi_loopw [15] (fun _ W' => ∃ (V2 : List Int) (cnt3 QV : Nat), aj (iI W' bY r2 nY Y V2 cnt3) ∧ aj (iI W' bx r1 nx X (V ++ [p]) V8) ∧ aj (kJ W' bh QV (T ++ V.flatMap f ++ V2.map fun q => wt * (p - q))) ∧ aj (QV ≤ nn + V2.length ∧ ∀ q ∈ V2, q ∈ Y) ∧ aj (W.grownBy W' (some bh))) (fun _ W' => W'.rangeLeft bY r2)
      case atStart => exact ⟨[], cnt2, nn, zD, qF, ⟨by simpa using Dy.out⟩, ⟨by simp, by simp⟩, pq⟩
      case round =>
       clear zD qF Dy pq; obtain ⟨V2, cnt3, QV, zD, qF, Dy, Wi, pq⟩ := hrel; have LE2 := aj.mk zD.out.left
       gi_wp2_with (first | (gi_at_next; refine CR rfl _ rfl rfl zD.out ?nd2 ?nm2; (case' nd2 => (intro hd; have HD2 := aj.mk hd; clear hd)); (case' nm2 => (intro q cc2 wn2 qdl hqw hqS hqV hR4 Wj hgn hsz qlU; have HQX := aj.mk (And.intro hqS Wj); have HS2 := aj.mk (qF.out.kept hgn (fun e => Wh.out.2.1 (by injection e)) (fun e => Wh.out.2.2.1 (by injection e))); have Gl := aj.mk (Dy.out.kept hgn (fun e => Wh.out.2.2.2 (by injection e))); have HG2 := aj.mk (xK pq.out hgn (fun q e => .inr (by injection e with e; have := Wh.out.1; omega))); clear qF Dy pq zD; have qF := HS2; have Dy := Gl; have pq := HG2; have zD := aj.mk hR4; have c10 := fT (qa1 pq Qt Gd (HI1.out.pO (Qt.out.box Gd (fun h => h)))).out; have c9 := fT (qa1 pq Qt H9 (HI1.out.pO (Qt.out.box H9 (fun h => h)))).out; have HZ := aj.mk (show wrap64 (wt * wrap64 (p - q)) = wt * (p - q) ∧ -900 ≤ wt * (p - q) ∧ wt * (p - q) ≤ 900 from by have b1 := HXB.out p V9.out.1; have b2 := JO.out q hqS; have b3 := V5 (z := p - q) HWT.out.2 (by omega); exact ⟨by rw [z8 (x := p - q) (by omega) (by omega), z8 (by omega) (by omega)], b3⟩); clear HS2 Gl HG2 hqw hqS hqV hR4 Wj hgn hsz))) | (gi_at_mapUpdate; refine Aa rfl _ _ rfl rfl Dy.out (by have a1 := Wi.out.1; have a2 := V7.out.1; have a3 := HI2.out; have a4 := HCT.out; have a5 := zD.out.size; have a6 := HNY.out; have a7 := qF.out.size; have a8 := HNX.out; simp only [List.length_append] at a5 a7; omega) (z := wrap64 (wt * wrap64 (p - q))) (by rw [HZ.out.1]; exact uS (by have := HZ.out; omega) (by have := HZ.out; omega)) rfl rfl ?_; intro JW hs6 NA; rw [HZ.out.1] at hs6; have HS2 := aj.mk (qF.out.kept NA (fun e => HBH.out.1 (by injection e with e; exact e.symm)) (fun e => HBH.out.2.2 (by injection e with e; exact e.symm))); have HS4 := aj.mk (zD.out.kept NA (fun e => HBH.out.2.1 (by injection e with e; exact e.symm)) (fun e => Wh.out.2.2.2 (by injection e with e; exact e.symm))); have HG2 := aj.mk (xK pq.out NA (fun q e => .inl (by injection e with e; exact e.symm))); clear qF zD Dy pq c9 c10; have qF := HS2; have zD := HS4; have Dy := aj.mk hs6; have pq := HG2; clear HS2 HS4 HG2 hs6 NA))
       all_goals first
        | exact ⟨⟨_, _, _, _, _, _, _, _, _, _, _, ⟨V2 ++ [q], qdl, QV + 1, zD, qF, ⟨by simpa using Dy.out⟩, ⟨by have := Wi.out.1; simp; omega, fun y hy => by rcases List.mem_append.1 hy with hy | hy; exact Wi.out.2 y hy; rw [List.mem_singleton.1 hy]; exact HQX.out.1⟩, pq⟩, rfl⟩, by rw [zD.out.left, LE2.out]; exact HQX.out.2⟩
        | exact ⟨⟨V ++ [p], V8, QV, qF, ⟨zD.out.set⟩, ⟨Dy.out.same (qfJ (by rw [HF.out]) Wi.out.2 (fun q hq => HD2.out q (uS (by have := JO.out q hq; omega) (by have := JO.out q hq; omega)) hq))⟩, ⟨by have a1 := Wi.out.1; have a2 := V7.out.1; have a5 := zD.out.size; have a6 := HNY.out; simp; omega, fun y hy => by rcases List.mem_append.1 hy with hy | hy; exact V7.out.2 y hy; rw [List.mem_singleton.1 hy]; exact V9.out.1⟩, pq⟩, by rw [qF.out.left, LE1.out]; exact V9.out.2⟩
     ·refine ⟨⟨pq.out.size, fun q o hq0 hq1 _ => (pq.out.block q (cZ hq1) (fun e => by injection e with e; have := HBL.out; omega)).trans hq1⟩, mX.map HI1.out pq.out, nn, ?_, ?_, Qt.out.trans (mX.map HI1.out pq.out), (stepG rz pq.out GBH).out⟩
      ·rw [← HTT.out, HPL.out]
       exact Dy.out.same (qfK V7.out.2 (fun q hq => HD.out q (uS (by have := HXB.out q hq; omega) (by have := HXB.out q hq; omega)) hq))
      ·have a1 := V7.out.1
       have a2 := HI2.out; have a3 := qF.out.size; have a4 := HNX.out
       omega
   case done =>
    rintro xs W hxs ⟨n', i1, i2, i3, i4⟩ hD; have Us := aj.mk (show xs.flatMap (fun x => BX h a b k wt x.xs) = GU h a b k wt by rw [GU, ← hxs, List.flatMap_map]); have HXN := aj.mk (show n' ≤ 20000 from by have a1 : xs.length = (lW (aT h k).f0).length := by { rw [← hxs, List.length_map] }; have a2 := Ac (ls := (aT h k).f0) (fun s hs => (XV.out.2 s hs).2.2); have a3 := IE (n := (aT h k).f0.length) (by have := XV.out.1; omega); omega); rw [Us.out] at i1; obtain ⟨Y, hY⟩ : ∃ Y, Y = GU h a b k wt := ⟨_, rfl⟩; rw [← hY] at i1; have JO := aj.mk (show ∀ q ∈ Y, -900 ≤ q ∧ q ≤ 900 by rw [hY]; intro q hq; obtain ⟨t, ht, hq⟩ := List.mem_flatMap.1 hq; exact Ae HH.out ⟨hk0, hdl⟩ HA.out HBB.out HWT.out.2 ht q hq); have HYY := aj.mk hY; have HXB := aj.mk (show ∀ q ∈ S, -3000 ≤ q ∧ q ≤ 3000 from fun q hq => by have a1 := HI.out.2.2 q hq; have a2 := HH.out.len; omega); have HNN := aj.mk (show n ≤ 20000 ^ k.toNat ∧ 20000 ^ k.toNat * 20000 = 20000 ^ (k + 1).toNat ∧ 20000 ^ (k + 1).toNat ≤ 8000000000000 from ⟨HI.out.2.1, by rw [← Nat.pow_succ, show (k + 1).toNat = k.toNat + 1 by omega], Nat.le_trans (Nat.pow_le_pow_right (by decide) (show (k + 1).toNat ≤ 3 by have a2 := HH.out.len; omega)) (by decide)⟩); have HK := aj.mk i3; have HB1 := aj.mk i4; have rz := fu HB0 i4; have qrH := aj.mk (show bm < wo.heap.size ∧ bm ≠ bh from ⟨HS.out.lt, fun e => by have := HS.out.lt; have := GBH.out; omega⟩); have jS := aj.mk (HS.out.below i4); have MN := aj.mk i1; have HD1 := aj.mk hD; have c10 := fT (i3.box Gd (fun h => h)).out; clear HS i1 i2 i3 i4 hD hY
    go_wp2_with (first | ((with_reducible refine av (N := 68) rfl ?_); refine yG rfl rfl tG HB1 ?_; clear HB1; intro bn wn Gl GBN HB1 hx hz; have uG := aj.mk (jS.out.below hx); have Zi := aj.mk (MN.out.below hx); have HD2 := dW HD1 hx; have HBN := aj.mk (show bn ≠ bm ∧ bn ≠ bh ∧ bn ≠ g10 ∧ bn ≠ wl.heap.size from ⟨fun e => by have := jS.out.lt; omega, fun e => by have := MN.out.lt; omega, fun e => by have := cZ (HK.out.box Gd (fun h => h)).out; omega, fun e => by have := cZ HD1.out; omega⟩); clear jS MN HD1; have jS := uG; have MN := Zi; have HD1 := HD2; have qdn := dW (HK.out.box Gd (fun h => h)) hx; have c10 := fT qdn.out; clear uG Zi HD2 hx hz) | ((with_reducible refine av (N := 70) rfl ?_); refine wu rfl _ rfl rfl jS.out ?_; intro wp r1 cnt1 hr1 KV hx; have qF := aj.mk KV; have GR1 := aj.mk (show wn.heap.size ≤ r1 ∧ bh ≠ r1 ∧ bn ≠ r1 from ⟨by omega, fun e => by have := MN.out.lt; omega, fun e => by have := Gl.out.lt; omega⟩); have pq := aj.mk (Jf (g := bn) hx); have Zi := aj.mk (MN.out.below hx); have HS2 := aj.mk (Gl.out.below hx); clear jS MN Gl; have MN := Zi; have Gf := HS2; clear Zi HS2 KV hr1 hx))
    obtain ⟨f, hf⟩ : ∃ f : Int → List Int, f = fun p => Y.map fun q => p + q := ⟨_, rfl⟩
    have HF := aj.mk hf; clear hf
    go_frame
    go_loopw [17] (fun _ W' => ∃ (V : List Int) (cnt nn : Nat), aj (iI W' bm r1 n S V cnt) ∧ aj (kJ W' bh n' Y) ∧ aj (kJ W' bn nn (V.flatMap f)) ∧ aj (nn ≤ V.length * n' ∧ ∀ p ∈ V, p ∈ S) ∧ aj (wn.grownBy W' (some bn))) (fun _ W' => W'.rangeLeft bm r1)
    case atStart => exact ⟨[], cnt1, 0, qF, MN, ⟨by simpa using Gf.out⟩, ⟨by simp, by simp⟩, pq⟩
    case round =>
     clear qF MN Gf pq; obtain ⟨V, cnt, nn, qF, MN, Gf, V7, pq⟩ := hrel; have LE1 := aj.mk qF.out.left; have c10 := fT (gW qdn pq.out HBN.out.2.2.1.symm).out
     go_wp2_with (first | (at_next; refine vF rfl _ rfl rfl qF.out ?nd3 ?nm3; (case' nd3 => (intro hd; have HD := aj.mk hd; clear hd)); (case' nm3 => (intro p cc wn2 V8 hpw hpS hpV QX hlt3 hgn hsz hen; have V9 := aj.mk (And.intro hpS hlt3); have HS2 := aj.mk (MN.out.kept hgn (fun e => GR1.out.2.1 (by injection e))); have Gl := aj.mk (Gf.out.kept hgn (fun e => GR1.out.2.2 (by injection e))); have HG2 := aj.mk (xK pq.out hgn (fun q e => .inr (by injection e with e; have := GR1.out.1; omega))); clear MN Gf pq qF; have MN := HS2; have Gf := Gl; have pq := HG2; have qF := aj.mk QX; have c10 := fT (gW qdn pq.out HBN.out.2.2.1.symm).out; clear HS2 Gl HG2 hpw hpS hpV QX hlt3 hgn hsz))) | ((with_reducible refine av (N := 76) rfl ?_); refine wu rfl _ rfl rfl MN.out ?_; intro wq r2 cnt2 hr2 KV hx; have zD := aj.mk KV; have Wh := aj.mk (show wn.heap.size ≤ r2 ∧ bm ≠ r2 ∧ r1 ≠ r2 ∧ bn ≠ r2 from ⟨by have := pq.out.size; omega, fun e => by have := qF.out.set.lt; omega, fun e => by have := qF.out.lt; omega, fun e => by have := Gf.out.lt; omega⟩); have HS2 := aj.mk (qF.out.below hx); have Gl := aj.mk (Gf.out.below hx); have HG2 := aj.mk (xK pq.out (Jf (g := bn) hx) (fun q e => .inl (by injection e with e; exact e.symm))); clear qF MN Gf pq; have qF := HS2; have Gf := Gl; have pq := HG2; clear HS2 Gl HG2 KV hr2 hx))
     ·go_frame
      go_loopw [18] (fun _ W' => ∃ (V2 : List Int) (cnt3 QV : Nat), aj (iI W' bh r2 n' Y V2 cnt3) ∧ aj (iI W' bm r1 n S (V ++ [p]) V8) ∧ aj (kJ W' bn QV (V.flatMap f ++ V2.map fun q => p + q)) ∧ aj (QV ≤ nn + V2.length ∧ ∀ q ∈ V2, q ∈ Y) ∧ aj (wn.grownBy W' (some bn))) (fun _ W' => W'.rangeLeft bh r2)
      case atStart => exact ⟨[], cnt2, nn, zD, qF, ⟨by simpa using Gf.out⟩, ⟨by simp, by simp⟩, pq⟩
      case round =>
       clear zD qF Gf pq; obtain ⟨V2, cnt3, QV, zD, qF, Gf, Wi, pq⟩ := hrel; have LE2 := aj.mk zD.out.left
       go_wp2_with (first | (at_next; refine vF rfl _ rfl rfl zD.out ?nd4 ?nm4; (case' nd4 => (intro hd; have HD2 := aj.mk hd; clear hd)); (case' nm4 => (intro q cc2 wn4 qdl hqw hqS hqV hR4 Wj hgn hsz qlU; have HQX := aj.mk (And.intro hqS Wj); have HZ := aj.mk (show wrap64 (p + q) = p + q from z8 (by have := HXB.out p V9.out.1; have := JO.out q hqS; omega) (by have := HXB.out p V9.out.1; have := JO.out q hqS; omega)); have HS2 := aj.mk (qF.out.kept hgn (fun e => Wh.out.2.1 (by injection e)) (fun e => Wh.out.2.2.1 (by injection e))); have Gl := aj.mk (Gf.out.kept hgn (fun e => Wh.out.2.2.2 (by injection e))); have HG2 := aj.mk (xK pq.out hgn (fun q e => .inr (by injection e with e; have := Wh.out.1; omega))); clear qF Gf pq zD; have qF := HS2; have Gf := Gl; have pq := HG2; have zD := aj.mk hR4; clear HS2 Gl HG2 hqw hqS hqV hR4 Wj hgn hsz))) | ((with_reducible refine qaE (.mapUpdate 199 (.tmp 81) (.tmp 84) (.const (.bool true))) rfl ?_); refine Nr rfl _ _ rfl rfl Gf.out (mulC Wi.out.1 V7.out.1 (by have a7 := qF.out.size; simp only [List.length_append, List.length_cons, List.length_nil] at a7; omega) HXN.out HNN.out.1 HNN.out.2.1 HNN.out.2.2 (by have a5 := zD.out.size; have a10 := HXN.out; simp only [List.length_append, List.length_cons, List.length_nil] at a5; omega)) (z := wrap64 (p + q)) (by rw [HZ.out]; exact uS (by have := HXB.out p V9.out.1; have := JO.out q HQX.out.1; omega) (by have := HXB.out p V9.out.1; have := JO.out q HQX.out.1; omega)) rfl rfl ?_; intro y9 hs6 NA; rw [HZ.out] at hs6; have HS2 := aj.mk (qF.out.kept NA (fun e => HBN.out.1 (by injection e with e; exact e.symm)) (fun e => GR1.out.2.2 (by injection e with e; exact e.symm))); have HS4 := aj.mk (zD.out.kept NA (fun e => HBN.out.2.1 (by injection e with e; exact e.symm)) (fun e => Wh.out.2.2.2 (by injection e with e; exact e.symm))); have HG2 := aj.mk (xK pq.out NA (fun q e => .inl (by injection e with e; exact e.symm))); clear qF zD Gf pq; have qF := HS2; have zD := HS4; have Gf := aj.mk hs6; have pq := HG2; clear HS2 HS4 HG2 hs6 NA))
       all_goals first
        | exact ⟨⟨_, _, _, _, _, _, _, _, _, ⟨V2 ++ [q], qdl, QV + 1, zD, qF, ⟨by simpa using Gf.out⟩, ⟨by have := Wi.out.1; simp; omega, fun y hy => by rcases List.mem_append.1 hy with hy | hy; exact Wi.out.2 y hy; rw [List.mem_singleton.1 hy]; exact HQX.out.1⟩, pq⟩, rfl⟩, by rw [zD.out.left, LE2.out]; exact HQX.out.2⟩
        | exact ⟨⟨V ++ [p], V8, QV, qF, ⟨zD.out.set⟩, ⟨Gf.out.same (qdj (by rw [HF.out]) Wi.out.2 (fun q hq => HD2.out q (uS (by have := JO.out q hq; omega) (by have := JO.out q hq; omega)) hq))⟩, ⟨by have a1 := Wi.out.1; have a2 := V7.out.1; have a5 := zD.out.size; rw [List.length_append, List.length_cons, List.length_nil, Nat.zero_add, Nat.add_mul, Nat.one_mul]; omega, fun y hy => by rcases List.mem_append.1 hy with hy | hy; exact V7.out.2 y hy; rw [List.mem_singleton.1 hy]; exact V9.out.1⟩, pq⟩, by rw [qF.out.left, LE1.out]; exact V9.out.2⟩
     ·have HBw := stepG HB1 pq.out GBN
      have HBz := fu HB0 HBw.out
      have hS : ∀ y, y ∈ V.flatMap f ↔ y ∈ S.flatMap f := by
       intro y; simp only [List.mem_flatMap]; exact ⟨fun ⟨q, hq, e⟩ => ⟨q, V7.out.2 q hq, e⟩, fun ⟨q, hq, e⟩ => ⟨q, HD.out q (uS (by have := HXB.out q hq; omega) (by have := HXB.out q hq; omega)) hq, e⟩⟩
      have hk2 : ws.drop k.toNat = wt :: ws.drop (k + 1).toNat := by
       have hkn : k.toNat < ws.length := by omega
       rw [List.drop_eq_getElem_cons hkn, show (k + 1).toNat = k.toNat + 1 by omega, HWT.out.1]
       congr 1
       unfold rd
       rw [List.getD_eq_getElem?_getD, List.getElem?_eq_getElem hkn]
       rfl
      have hI : qy h a b (ws.drop (k + 1).toNat) (k + 1) (S.flatMap f) = qy h a b ws 0 [0] := by
       rw [← HI.out.1, hk2, qy, HF.out, HYY.out]
      have hX : ∀ x ∈ S.flatMap f, -1000 * (k + 1) ≤ x ∧ x ≤ 1000 * (k + 1) := by
       intro x hx; obtain ⟨p, hp, hx⟩ := List.mem_flatMap.1 hx; rw [HF.out] at hx; obtain ⟨q, hq, rfl⟩ := List.mem_map.1 hx; have := HI.out.2.2 p hp; have := JO.out q hq
       omega
      have hnn : nn ≤ 20000 ^ (k + 1).toNat := by
       have a1 := qF.out.size; have a2 := HNN.out.2.1; have a3 : V.length * n' ≤ 20000 ^ k.toNat * 20000 := Nat.mul_le_mul (by have := HNN.out.1; omega) HXN.out; have a4 := V7.out.1
       omega
      have hwl : wo.heap.size ≤ wl.heap.size := HB.out.size; refine ⟨⟨fun i => (#[undef, undef, undef, undef, undef, undef, undef, undef, .pointer (some ⟨g8, 0, none⟩), .pointer (some ⟨g9, 0, none⟩), .pointer (some ⟨g10, 0, none⟩), u 11, u 12, u 13, u 14, u 15, .map (some bn), u17, u18, undef, undef, undef, undef, undef, undef, undef, .bool true, .int .i64 k, .pointer (some (Zh.add k.toNat)), .int .i64 wt, .map (some bh), .pointer (some ⟨gh, 0, none⟩), .pointer (some ⟨gh, 0, none⟩), .slice (some Uq) h.length c, .int .i64 k, .pointer (some (Uq.add (k.toNat * 2))), .pointer (some (Uq.add (k.toNat * 2))), .slice Ad (aT h k).f0.length cd, .func (.func 223) #[] #[.pointer (some ⟨gn, 0, none⟩)], u 39, u 40, u 41, u 42, u 43, u 44, u 45, u 46, u 47, u 48, u 49, u 50, u 51, u 52, u 53, u 54, u 55, u 56, u 57, u 58, u 59, u 60, u 61, u 62, u 63, u 64, u 65, u 66, u 67, .map (some bn), .map (some bm), .pointer (some ⟨r1, 0, none⟩), .tuple #[.bool false], .bool false, u73, u74, u75, u76, u77, u78, u79, u80, u81, u82, u83, u84, .map (some bn), .int .i64 (k + 1), u 87] : Array Value).getD i undef, wl.heap.size :: Ds, k + 1, S.flatMap f, bn, nn, ⟨by omega, by omega, ⟨hI, hnn, hX⟩, ⟨Gf.out.same hS⟩, ⟨Nat.le_trans HB0.out.size GBN.out⟩, ⟨aG G5.out HBw.out⟩, ⟨aG Tj.out HBw.out⟩, ⟨aG V6.out HBw.out⟩, HBz, ⟨List.nodup_cons.2 ⟨fun hm => by have := cZ (HDs.out.2 _ hm).2; omega, HDs.out.1⟩, fun D hD => ?_⟩⟩, rfl⟩, ?_⟩
      ·rcases List.mem_cons.1 hD with rfl | hD
       ·exact ⟨by have := HB0.out.size; omega, (pq.out.block _ (cZ HD1.out) (fun e => HBN.out.2.2.2 (by injection e with e; exact e.symm))).trans HD1.out⟩
       ·exact ⟨(HDs.out.2 D hD).1, aG (HDs.out.2 D hD).2 HBw.out⟩
      ·show ws.length - (k + 1).toNat < ws.length - k.toNat
       omega
  ·obtain rfl : k = ws.length := by omega
   go_wp2
   have hS : qy h a b ws 0 [0] = S := by
    rw [← HI.out.1, Int.toNat_natCast, List.drop_length, qy]
   show LeavesInM _ _ _ _ _ _ _ _ _
   refine AY (fun W => kJ W bm n S ∧ Below w.heap.size w W) w.heap.size (fun W D hD hd hi => ?_) Ds wo HDs.out.1 HDs.out.2 ⟨HS.out, HB0.out⟩ (fun W hi => ⟨_, results_tmp rfl _ _ _, bm, rfl, ⟨n, by rw [hS]; exact hi.1⟩, GM.out, hi.2⟩)
   have hne : D ≠ bm := by
    obtain ⟨Dm, ⟨es, clock, hb, _⟩, _⟩ := hi.1; intro e; subst e; rw [hd] at hb
    cases hb
   exact ⟨hi.1.kept (grownBy_putObj' W D _) (fun e => hne (by injection e with e; exact e.symm)), (stepG ⟨hi.2⟩ (grownBy_putObj' W D _) ⟨hD⟩).out⟩
end Go.Proofs.YtnpfbjnjdngkhaaGreatDoor.P
namespace Go.Proofs.YtnpfbjnjdngkhaaGreatDoor.P
open Go.RowKit Go.Proofs.YtnpfbjnjdngkhaaGreatDoorW.aW Go.Proofs.YtnpfbjnjdngkhaaGreatDoorW.bZ Go.Proofs.YtnpfbjnjdngkhaaGreatDoorW.dh
attribute [local go_sem] fE fF gU gV eX eY fG fH
def xL.f (bJ : Int) (aY : Int) (xM : Int) (iq : Int) : Option (Int × Int) := some (wrap64 (bJ + xM), wrap64 (aY + iq))
theorem xL.calls (bJ : Int) (aY : Int) (xM : Int) (iq : Int) (r1 : Int) (r2 : Int) (w : World) (h : xL.f bJ aY xM iq = some (r1, r2)) :
  Calls Tryz.prog 175 #[.agg #[.int .i64 bJ, .int .i64 aY], .agg #[.int .i64 xM, .int .i64 iq]] w fun e w' => e = .returned (.agg #[.int .i64 r1, .int .i64 r2]) ∧ Below w.heap.size w w' := by
 have kg := Tryz.underlying37; have HB := aj.mk (Below.refl w.heap.size w); have H : (some (wrap64 (bJ + xM), wrap64 (aY + iq))) = some (r1, r2) := h; clear h; simp only [Option.some.injEq, Prod.mk.injEq] at H; obtain ⟨rfl, rfl⟩ := H
 go_enter Tryz.func175, Tryz.ntmps175
 go_wp2_with (first | ((with_reducible refine av (N := 2) rfl ?_); refine fA 2 #[.int .i64 bJ, .int .i64 aY] 37 HB ?_; clear HB; intro qoS w3 hg xO qoT HB hb; clear hb hg) | ((with_reducible refine av (N := 3) rfl ?_); refine fA 3 #[.int .i64 xM, .int .i64 iq] 37 HB ?_; clear HB; intro qoU w4 hg FJ qoV HB hb; have Tn := Gb xO hg; have Tp := Gc xO hg; replace xO := bV xO hb; clear hb hg) | ((with_reducible refine av (N := 4) rfl ?_); refine fA 4 #[.int .i64 0, .int .i64 0] 37 HB ?_; clear HB; intro qfS w5 hg QY qoW HB hb; have Tq := Gb xO hg; have Tt := Gc xO hg; replace xO := bV xO hb; have Tv := Gb FJ hg; have Tw := Gc FJ hg; replace FJ := bV FJ hb; clear hb hg; have qfT := Tn.out; have qfU := Tp.out; have qfy := Tq.out; have qfz := Tt.out; obtain ⟨zx, NY⟩ := bc2 xO; have zy := bf xO 0; have NZ := bf xO 1; have qlC := Tv.out; have qlD := Tw.out; obtain ⟨yN, IU⟩ := bc2 FJ; have yO := bf FJ 0; have IV := bf FJ 1; obtain ⟨yJ, II⟩ := bc2 QY; have yK := bf QY 0; have IJ := bf QY 1))
 refine bodyPost_ret (results_cell_row rfl _ _ qfS 37 #[.int .i64 (wrap64 (bJ + xM)), .int .i64 (wrap64 (aY + iq))] (0, 0) _ rfl (by (with_reducible repeat (first | refine aM ?_ _ | refine aN ?_ | refine aJ ?_ _)); refine dU (cs := #[.int .i64 (wrap64 (bJ + xM)), .int .i64 0]) ?_ 1 _ rfl; (with_reducible repeat (first | refine aM ?_ _ | refine aN ?_ | refine aJ ?_ _)); refine dU (cs := #[.int .i64 0, .int .i64 0]) ?_ 0 _ rfl; (with_reducible repeat (first | refine aM ?_ _ | refine aN ?_ | refine aJ ?_ _)); exact QY.out) Tryz.underlying37 rfl tX) rfl ?_; exact ⟨tF, tB⟩
def sJ.f (bJ : Int) (aY : Int) (a1 : Int) : Option (Int × Int) := some (mn (wrap64 (bJ * a1)) (wrap64 (aY * a1)), mx (wrap64 (bJ * a1)) (wrap64 (aY * a1)))
theorem Bx.drewN {L : List (Nat × Obj)} {w W : World} (h : Bx L w W) (n : Nat) : Bx L w (W.drewN n) := h.step (kV (Below.refl _ _) n)
theorem sJ.calls (bJ : Int) (aY : Int) (a1 : Int) (r1 : Int) (r2 : Int) (w : World) (h : sJ.f bJ aY a1 = some (r1, r2)) :
  Calls Tryz.prog 176 #[.agg #[.int .i64 bJ, .int .i64 aY], .int .i64 a1] w fun e w' => e = .returned (.agg #[.int .i64 r1, .int .i64 r2]) ∧ Below w.heap.size w w' := by
 have HX := Bx.nil w; have kg := Tryz.underlying37
 have h2 : mn (wrap64 (bJ * a1)) (wrap64 (aY * a1)) = r1 ∧ mx (wrap64 (bJ * a1)) (wrap64 (aY * a1)) = r2 := by unfold sJ.f at h; injection h with h; injection h with e1 e2; exact ⟨e1, e2⟩
 have HE := aj.mk h2; clear h h2
 go_enter Tryz.func176, Tryz.ntmps176
 go_wp2_with (first | ((with_reducible refine av (N := 2) rfl ?_); refine newX rfl rfl HX (cs := #[.int .i64 bJ, .int .i64 aY]) (t := 37) tG ?_; clear HX; intro g2 w2 HX hx hz; clear hx hz) | ((with_reducible refine av (N := 4) rfl ?_); refine newX rfl rfl HX (cs := #[.int .i64 0, .int .i64 0]) (t := 37) tG ?_; clear HX; intro g4 w4 HX hx hz; clear hx hz; have ch := HX.g2 1 rfl; obtain ⟨Gj, KT⟩ := ch))
 go_quiet (fail)
 clear Gj KT
 rename_i nq
 have uG := HX.drewN nq; clear HX; have HX := uG; clear uG; have HE2 := aj.mk (show mn (IntKind.i64.wrap (bJ * a1)) (IntKind.i64.wrap (aY * a1)) = r1 ∧ mx (IntKind.i64.wrap (bJ * a1)) (IntKind.i64.wrap (aY * a1)) = r2 by rw [show IntKind.i64.wrap (bJ * a1) = wrap64 (bJ * a1) from by rw [IntKind.wrap_i64]; unfold wrap64; omega, show IntKind.i64.wrap (aY * a1) = wrap64 (aY * a1) from by rw [IntKind.wrap_i64]; unfold wrap64; omega]; exact HE.out); clear HE
 revert HE2
 generalize IntKind.i64.wrap (bJ * a1) = p
 generalize IntKind.i64.wrap (aY * a1) = q
 intro HE
 rcases Int.lt_trichotomy p q with hpq | hpq | hpq
 ·have HF := aj.mk (show p = r1 ∧ q = r2 from ⟨by rw [← HE.out.1]; unfold mn; rw [if_neg (by omega)], by rw [← HE.out.2]; unfold mx; rw [if_pos (by omega)]⟩)
  go_wp2_with ((with_reducible refine bE (t := 37) (p := 4) rfl ?_); refine kL rfl rfl rfl HX 0 rfl (i := 0) (.agg #[.int .i64 p, .int .i64 q]) [.int .i64 p, .int .i64 q] #[.int .i64 p, .int .i64 q] rfl rfl rfl tX (by simp) (by simp [Value.oneCell']) rfl ?_; clear HX; intro w1 HX hx; clear hx; dsimp only [List.set] at HX)
  refine bodyPost_ret (results_cell_row rfl _ _ g4 37 #[.int .i64 p, .int .i64 q] (0, 0) _ rfl (HX.gb 0 rfl) Tryz.underlying37 rfl tX) rfl ?_; exact ⟨by rw [← HF.out.1, ← HF.out.2], HX.below⟩
 ·subst hpq
  have HF := aj.mk (show p = r1 ∧ p = r2 from ⟨by rw [← HE.out.1]; unfold mn; rw [if_neg (by omega)], by rw [← HE.out.2]; unfold mx; rw [if_neg (by omega)]⟩)
  go_wp2_with ((with_reducible refine bE (t := 37) (p := 4) rfl ?_); refine kL rfl rfl rfl HX 0 rfl (i := 0) (.agg #[.int .i64 p, .int .i64 p]) [.int .i64 p, .int .i64 p] #[.int .i64 p, .int .i64 p] rfl rfl rfl tX (by simp) (by simp [Value.oneCell']) rfl ?_; clear HX; intro w1 HX hx; clear hx; dsimp only [List.set] at HX)
  refine bodyPost_ret (results_cell_row rfl _ _ g4 37 #[.int .i64 p, .int .i64 p] (0, 0) _ rfl (HX.gb 0 rfl) Tryz.underlying37 rfl tX) rfl ?_; exact ⟨by rw [← HF.out.1, ← HF.out.2], HX.below⟩
 ·have HF := aj.mk (show q = r1 ∧ p = r2 from ⟨by rw [← HE.out.1]; unfold mn; rw [if_pos (by omega)], by rw [← HE.out.2]; unfold mx; rw [if_neg (by omega)]⟩)
  go_wp2_with ((with_reducible refine bE (t := 37) (p := 4) rfl ?_); refine kL rfl rfl rfl HX 0 rfl (i := 0) (.agg #[.int .i64 q, .int .i64 p]) [.int .i64 q, .int .i64 p] #[.int .i64 q, .int .i64 p] rfl rfl rfl tX (by simp) (by simp [Value.oneCell']) rfl ?_; clear HX; intro w1 HX hx; clear hx; dsimp only [List.set] at HX)
  refine bodyPost_ret (results_cell_row rfl _ _ g4 37 #[.int .i64 q, .int .i64 p] (0, 0) _ rfl (HX.gb 0 rfl) Tryz.underlying37 rfl tX) rfl ?_; exact ⟨by rw [← HF.out.1, ← HF.out.2], HX.below⟩
def cK.l0 : Nat → List bg → List Int → Int → Int → List bO → List Int → Int → Int → Option (Int × Int)
 | 0, _, _, _, _, _, _, _, _ => none
 | k + 1, x1, x10, U9, zF, QZ, Q0, Q5, Q6 => if zF < U9 then (if 0 ≤ zF then (if zF < (x10.length : Int) then ((iT.f QZ Q0 x1 zF).bind fun qa4 => ((sJ.f qa4.1 qa4.2 (rd x10 zF)).bind fun qa5 => ((xL.f Q5 Q6 qa5.1 qa5.2).bind fun qa6 => (cK.l0 k x1 x10 U9 (wrap64 (zF + 1)) QZ Q0 qa6.1 qa6.2)))) else (none)) else (none)) else (some (Q5, Q6))
def cK.f (k : Nat) (au : List bO) (gM : List Int) (l1 : List bg) : Option (Int × Int) := cK.l0 k l1 gM (gM.length : Int) 0 au gM 0 0
def cK.T5 : Bool × List (List Nat × List Nat) := (true, [([], []), ([], []), ([], []), ([], []), ([1, 2, 3], [1, 2, 3]), ([], []), ([4, 5, 4], [4, 5]), ([0, 6, 6], [0, 6]), ([7, 7, 0, 1, 2, 3, 4, 5, 6, 7], [7])])
def cK.B5 : List Nat := [0, 0, 0, 0, 14, 0, 62, 127, 255]
theorem cK.qdo : qj .any (opsOf Tryz.f123 5) = cK.T5 := by kernel_rfl
theorem cK.Wl : oq cK.T5.2 cK.B5 = true := by kernel_rfl
theorem cK.calls (k : Nat) (bB : Option Addr) (aZ : Nat) (au : List bO) (nZ : Option Addr) (nM : Nat) (gM : List Int) (A1 : Option Addr) (c1 : Nat) (l1 : List bg) (r1 : Int) (r2 : Int) (w : World) (dx : Kd.C iM w bB au.length au) (dI : au.length ≤ aZ) (tN : Kd.C (Kd.int .i64) w nZ gM.length gM) (vM : gM.length ≤ nM) (hr1 : Kd.C eT w A1 l1.length l1) (hc1 : l1.length ≤ c1) (h : cK.f k au gM l1 = some (r1, r2)) :
  Calls Tryz.prog 123 #[.agg #[.slice bB au.length aZ, .slice nZ gM.length nM], .slice A1 l1.length c1] w fun e w' => e = .returned (.agg #[.int .i64 r1, .int .i64 r2]) ∧ Below w.heap.size w w' := by
 have wY := Tryz.underlying149; have kg := Tryz.underlying37; have dJ := aj.mk dx; have eu := aj.mk dI; clear dx dI; have QL := aj.mk tN; have VR := aj.mk vM; clear tN vM; have HR1 := aj.mk hr1; have uU := aj.mk hc1; clear hr1 hc1; have HB := aj.mk (Below.refl w.heap.size w); have H : (cK.l0 k l1 gM (gM.length : Int) 0 au gM 0 0) = some (r1, r2) := h; clear h; have H' := aj.mk H; clear H
 go_enter Tryz.func123, Tryz.ntmps123
 go_wp2_with (first | ((with_reducible refine av (N := 2) rfl ?_); refine fA 2 #[.slice bB au.length aZ, .slice nZ gM.length nM] 149 HB ?_; clear HB; intro Wm w3 hg j4 qoX HB hb; clear hb hg) | ((with_reducible refine av (N := 4) rfl ?_); refine fA 4 #[.int .i64 0, .int .i64 0] 37 HB ?_; clear HB; intro qa7 w4 hg pY qoY HB hb; have G6 := Gb j4 hg; have G7 := Gc j4 hg; replace j4 := bV j4 hb; clear hb hg) | ((with_reducible refine av (N := 5) rfl ?_); refine fA 5 #[.int .i64 0, .int .i64 0] 37 HB ?_; clear HB; intro KW w5 hg lK qoZ HB hb; have sK := Gb j4 hg; have yR := Gc j4 hg; replace j4 := bV j4 hb; have vO := Gb pY hg; have Cj := Gc pY hg; replace pY := bV pY hb; clear hb hg; have qfT := G6.out; have qfU := G7.out; have qfy := sK.out; have qfz := yR.out; obtain ⟨zx, NY⟩ := bc2 j4; have zy := bf j4 0; have NZ := bf j4 1))
 go_loopg [12] k (fun kq v12 w' => ∃ (fQ : Int) (mo : Int) (mq : Int), v12 = .int .i64 fQ ∧ aj (cK.l0 kq l1 gM (gM.length : Int) fQ au gM mo mq = some (r1, r2)) ∧ aj (kq ≤ k) ∧ aj (w'.heap[Wm]? = some (.cells #[(.slice bB au.length aZ), (.slice nZ gM.length nM)] 149 (0, 0))) ∧ aj (w'.heap[qa7]? = some (.cells #[.int .i64 0, .int .i64 0] 37 (0, 0))) ∧ aj (w'.heap[KW]? = some (.cells #[.int .i64 mo, .int .i64 mq] 37 (0, 0))) ∧ aj (Below w.heap.size w w'))
 case atStart => exact ⟨(0), (0), (0), tS, H', ⟨Nat.le_refl _⟩, ⟨tK⟩, ⟨tK⟩, ⟨tK⟩, ⟨tB⟩⟩
 case round =>
  clear H'
  try clear c1
  try clear p2
  try clear c6
  try clear c7
  try clear zx
  try clear NY
  try clear zy
  try clear NZ
  obtain ⟨fQ, mo, mq, rfl, HA, ng, j4, pY, lK, HB⟩ := hrel
  cases gk with
  | zero => exact absurd HA.out (by simp [cK.l0])
  | succ k1 =>
   have H := HA.out; clear HA; simp only [cK.l0] at H
   by_cases c9 : fQ < (gM.length : Int)
   ·rw [if_pos c9] at H
    have Kg : decide (fQ < (gM.length : Int)) = true := decide_eq_true c9; clear c9
    by_cases c10 : 0 ≤ fQ
    ·rw [if_pos c10] at H
     have Kh : decide (0 ≤ fQ) = true := decide_eq_true c10; clear c10
     by_cases c11 : fQ < (gM.length : Int)
     ·rw [if_pos c11] at H
      have qaP : decide (fQ < (gM.length : Int)) = true := decide_eq_true c11; clear c11; obtain ⟨⟨t207, t208⟩, qfV, H⟩ := bs H; have XW := aj.mk qfV; clear qfV; obtain ⟨⟨t209, t210⟩, qfW, H⟩ := bs H; have A13 := aj.mk qfW; clear qfW; obtain ⟨⟨t211, t212⟩, Wn, H⟩ := bs H; have A14 := aj.mk Wn; clear Wn; have H' := aj.mk H; clear H; have qdp : 0 ≤ (fQ : Int) := of_decide_eq_true tA; have qdq : fQ < (gM.length : Int) := of_decide_eq_true tA; obtain ⟨qa8, e206, Q7⟩ := Kd.iH QL.out fQ qdp qdq
      cases e206
      replace Q7 := dz HB Q7; replace qdp := eq_true qdp; replace qdq := eq_true qdq
      try go_wp2
      replace j4 := aj.mk (aN j4.out); replace pY := aj.mk (aN pY.out); replace lK := aj.mk (aN lK.out); replace HB := aj.mk (iV HB.out); refine j6 (n := 9) (S := fun w' => w'.cell? ⟨KW, 0, none⟩ = some (.int .i64 mo) ∧ w'.cell? ⟨KW, 1, none⟩ = some (.int .i64 mq) ∧ w'.cell? ⟨Wm, 0, none⟩ = some (.slice bB au.length aZ) ∧ w'.cell? ⟨Wm, 1, none⟩ = some (.slice (some qa8) gM.length nM)) (ds := [8]) #[false, false, false, false, false, false, false, false, false] tX rfl rfl ⟨(aI lK.out 0).trans rfl, (aI lK.out 1).trans rfl, (aI j4.out 0).trans rfl, (aI j4.out 1).trans rfl⟩ (fun hHeld => ?_); refine lg cK.qdo cK.Wl (fun dY vX => ?_)
      generalize wr.drew = ML at j4 pY lK HB hHeld ⊢
      refine aH (i := 2) (N := some 19) (v := ?_) (a' := ?_) (bA 9 4) rfl rfl (aU dY.out tX) (fun _ _ _ h => h) (Or.inl ⟨by rfl, ?_⟩) ?_ ?_; rotate_left
      ·intro w'
       go_simp
       with_reducible rfl
      rotate_left
      ·simp only [Act.put, sL, ay, aA]
       rfl
      refine aH (i := 3) (N := some 20) (v := ?_) (a' := ?_) (bA 9 12) rfl rfl (aU dY.out tX) (fun _ _ _ h => h) (Or.inl ⟨by rfl, ?_⟩) ?_ ?_; rotate_left
      ·intro w'
       go_simp
       with_reducible rfl
      rotate_left
      ·simp only [Act.put, sL, ay, aA]
       rfl
      refine aH (i := 5) (N := some 22) (v := ?_) (a' := ?_) (bA 9 44) rfl rfl (aU dY.out tX) (fun _ _ _ h => h) (Or.inl ⟨by rfl, ?_⟩) ?_ ?_; rotate_left
      ·intro w'
       go_simp
       with_reducible rfl
      rotate_left
      ·simp only [Act.put, sL, ay, aA]
       rfl
      refine fC (i := 0) (N := some 17) (v := ?_) (a' := ?_) (bA 9 45) rfl rfl (fD dY.out vX.out tX) (fun _ _ _ h => h) (Or.inl ⟨by rfl, ?_⟩) hHeld ?_ ?_; rotate_left
      ·rintro w' ⟨s0, s1, s2, s3⟩
       go_simp
       with_reducible rfl
      rotate_left
      ·simp only [Act.put, sL, ay, aA]
       rfl
      refine fC (i := 1) (N := some 18) (v := ?_) (a' := ?_) (bA 9 47) rfl rfl (fD dY.out vX.out tX) (fun _ _ _ h => h) (Or.inl ⟨by rfl, ?_⟩) hHeld ?_ ?_; rotate_left
      ·rintro w' ⟨s0, s1, s2, s3⟩
       go_simp
       with_reducible rfl
      rotate_left
      ·simp only [Act.put, sL, ay, aA]
       rfl
      refine gI (i := 4) (N := some 21) (bA 9 63) rfl rfl (iF dY.out tX) (by decide) (fun K hK => ?_); refine fP Tryz.func107 tX rfl #[.agg #[.slice bB au.length aZ, .slice (some qa8) gM.length nM], .slice A1 l1.length c1, .int .i64 fQ] (by rfl) rfl rfl tM ?_
      with_reducible refine (iT.calls _ _ au _ _ gM _ _ l1 fQ t207 t208 _ ?bF ?bG ?eG ?eH ?jo ?vN XW.out).mono ?_
      (case bF => repeat (first | exact (Kd.ak dJ.out HB.out) | (with_reducible refine Kd.bC ?_ _) | (with_reducible refine Kd.bD ?_ _) | (with_reducible refine Kd.bQ ?_)))
      (case bG => exact eu.out)
      (case eG => repeat (first | exact (Kd.ak QL.out HB.out) | (with_reducible refine Kd.bC ?_ _) | (with_reducible refine Kd.bD ?_ _) | (with_reducible refine Kd.bQ ?_)))
      (case eH => exact VR.out)
      (case jo => repeat (first | exact (Kd.ak HR1.out HB.out) | (with_reducible refine Kd.bC ?_ _) | (with_reducible refine Kd.bD ?_ _) | (with_reducible refine Kd.bQ ?_)))
      (case vN => exact uU.out)
      rintro e w16 ⟨rfl, hb⟩; refine ⟨_, rfl, ?_⟩; replace j4 := bV j4 hb; replace pY := bV pY hb; replace lK := bV lK hb; replace HB := dL HB hb
      (try clear hb)
      (try clear hb2)
      (try clear hk)
      (try clear hi)
      refine hK.out _ _ ⟨(aI lK.out 0).trans rfl, (aI lK.out 1).trans rfl, (aI j4.out 0).trans rfl, (aI j4.out 1).trans rfl⟩ (fun hHeld => ?_); clear hK K; refine dw (a' := ?_) ?_ ?_; rotate_left
      ·show Act.put _ (some 21) _ = _
       simp only [Act.put, sL, ay, aA]
       rfl
      refine gI (i := 6) (N := some 23) (bA 9 127) rfl rfl (iF dY.out tX) (by decide) (fun K hK => ?_); refine fP Tryz.func176 tX rfl #[.agg #[.int .i64 t207, .int .i64 t208], .int .i64 (rd gM fQ)] (by rfl) rfl rfl tM ?_
      with_reducible refine (sJ.calls t207 t208 (rd gM fQ) t209 t210 _ A13.out).mono ?_
      rintro e YE ⟨rfl, hb⟩; refine ⟨_, rfl, ?_⟩; replace j4 := bV j4 hb; replace pY := bV pY hb; replace lK := bV lK hb; replace HB := dL HB hb
      (try clear hb)
      (try clear hb2)
      (try clear hk)
      (try clear hi)
      refine hK.out _ _ ⟨(aI lK.out 0).trans rfl, (aI lK.out 1).trans rfl, (aI j4.out 0).trans rfl, (aI j4.out 1).trans rfl⟩ (fun hHeld => ?_); clear hK K; refine dw (a' := ?_) ?_ ?_; rotate_left
      ·show Act.put _ (some 23) _ = _
       simp only [Act.put, sL, ay, aA]
       rfl
      refine gI (i := 7) (N := some 24) (bA 9 255) rfl rfl (iF dY.out tX) (by decide) (fun K hK => ?_); refine fP Tryz.func175 tX rfl #[.agg #[.int .i64 mo, .int .i64 mq], .agg #[.int .i64 t209, .int .i64 t210]] (by rfl) rfl rfl tM ?_
      with_reducible refine (xL.calls mo mq t209 t210 t211 t212 _ A14.out).mono ?_
      rintro e Vd ⟨rfl, hb⟩; refine ⟨_, rfl, ?_⟩; replace j4 := bV j4 hb; replace pY := bV pY hb; replace lK := bV lK hb; replace HB := dL HB hb
      (try clear hb)
      (try clear hb2)
      (try clear hk)
      (try clear hi)
      refine hK.out _ _ ⟨(aI lK.out 0).trans rfl, (aI lK.out 1).trans rfl, (aI j4.out 0).trans rfl, (aI j4.out 1).trans rfl⟩ (fun hHeld => ?_); clear hK K; refine dw (a' := ?_) ?_ ?_; rotate_left
      ·show Act.put _ (some 24) _ = _
       simp only [Act.put, sL, ay, aA]
       rfl
      refine UC (i := 8) (N := none) (bA 9 511) rfl rfl (iF dY.out tX) (by decide) (fun K hK => ?_); have qrN : Vd.cell? ⟨KW, 0, none⟩ = some (.int .i64 mo) := (aI lK.out 0).trans rfl; have qo0 := bf lK 0; have qjR := sK.out; have qjS := vO.out; have qjT := yR.out; have qjU := Cj.out; have qrO : Vd.cell? ⟨KW, 1, none⟩ = some (.int .i64 mq) := (aI lK.out 1).trans rfl; have qo1 := bf lK 1; have qjV := sK.out; have qjW := vO.out; have qjX := yR.out; have qjY := Cj.out; refine qaF (w1 := ?_) (by rfl) rfl ?_ ?_; rotate_left
      ·go_simp
       rfl
      refine hK.out _ _ ?_; clear hK K; refine kZ (pF dY.out tX) ?_
      try go_wp2
      go_roundg k1
      case measure => have := ng.out; omega
      case rel => exact ⟨(wrap64 (fQ + 1)), (t211), (t212), tS, H', ⟨by have := ng.out; omega⟩, ⟨by (with_reducible repeat (first | refine aM ?_ _ | refine aN ?_ | refine aJ ?_ _)); refine kN ?_ sK.out _; (with_reducible repeat (first | refine aM ?_ _ | refine aN ?_ | refine aJ ?_ _)); refine kN ?_ sK.out _; (with_reducible repeat (first | refine aM ?_ _ | refine aN ?_ | refine aJ ?_ _)); exact j4.out⟩, ⟨by (with_reducible repeat (first | refine aM ?_ _ | refine aN ?_ | refine aJ ?_ _)); refine kN ?_ vO.out _; (with_reducible repeat (first | refine aM ?_ _ | refine aN ?_ | refine aJ ?_ _)); refine kN ?_ vO.out _; (with_reducible repeat (first | refine aM ?_ _ | refine aN ?_ | refine aJ ?_ _)); exact pY.out⟩, ⟨by (with_reducible repeat (first | refine aM ?_ _ | refine aN ?_ | refine aJ ?_ _)); refine dU (cs := #[.int .i64 t211, .int .i64 mq]) ?_ 1 _ rfl; (with_reducible repeat (first | refine aM ?_ _ | refine aN ?_ | refine aJ ?_ _)); refine dU (cs := #[.int .i64 mo, .int .i64 mq]) ?_ 0 _ rfl; (with_reducible repeat (first | refine aM ?_ _ | refine aN ?_ | refine aJ ?_ _)); exact lK.out⟩, ⟨tB⟩⟩
     ·rw [if_neg c11] at H
      exact absurd H (by simp)
    ·rw [if_neg c10] at H
     exact absurd H (by simp)
   ·rw [if_neg c9] at H
    have Kg : decide (fQ < (gM.length : Int)) = false := decide_eq_false c9; clear c9; simp only [Option.some.injEq, Prod.mk.injEq] at H; obtain ⟨rfl, rfl⟩ := H; have qo2 := yR.out; have qo3 := sK.out; have qff := Cj.out; have qfg := vO.out; obtain ⟨yH, Iu⟩ := bc2 lK; have yI := bf lK 0; have Iw := bf lK 1; have qfX := G7.out; have qfY := G6.out; obtain ⟨yS, Zj⟩ := bc2 pY; have yT := bf pY 0; have Zk := bf pY 1
    go_wp2
    refine bodyPost_ret (results_cell_row rfl _ _ qa7 37 #[.int .i64 mo, .int .i64 mq] (0, 0) _ rfl (by (with_reducible repeat (first | refine aM ?_ _ | refine aN ?_ | refine aJ ?_ _)); refine dU (cs := #[.int .i64 mo, .int .i64 0]) ?_ 1 _ rfl; (with_reducible repeat (first | refine aM ?_ _ | refine aN ?_ | refine aJ ?_ _)); refine dU (cs := #[.int .i64 0, .int .i64 0]) ?_ 0 _ rfl; (with_reducible repeat (first | refine aM ?_ _ | refine aN ?_ | refine aJ ?_ _)); exact pY.out) Tryz.underlying37 rfl tX) rfl ?_; exact ⟨tF, tB⟩
end Go.Proofs.YtnpfbjnjdngkhaaGreatDoor.P
