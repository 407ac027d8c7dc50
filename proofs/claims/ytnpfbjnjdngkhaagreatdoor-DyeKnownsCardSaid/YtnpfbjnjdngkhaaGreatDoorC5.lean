import Derived.Shelf.Strconv.Itoa3
import Derived.Shelf.Strings.OnBuilder
import Derived.Test.YtnpfbjnjdngkhaaGreatDoorProg
import Derived.Laws.IdiomCopy
import Derived.Test.YtnpfbjnjdngkhaaGreatDoorC4
set_option maxHeartbeats 8000000
set_option maxRecDepth 100000
set_option linter.unusedVariables false
set_option linter.unusedSimpArgs false
namespace Go.Proofs.YtnpfbjnjdngkhaaGreatDoor.P
open Go.RowKit Go.Proofs.YtnpfbjnjdngkhaaGreatDoorW.aW Go.Proofs.YtnpfbjnjdngkhaaGreatDoorW.bZ Go.Proofs.YtnpfbjnjdngkhaaGreatDoorW.dh
attribute [local go_sem] fE fF gU gV eX eY fG fH
mutual
def dQ.j0 : Nat → List ou → List bg → List bg → Bool → List bO → Int → Int → Option (List Int × Int)
 | 0, _, _, _, _, _, _, _ => none
 | k + 1, x1, x2, x3, x45, Et, Eu, Ew => if x45 = true then (some (([] : List Int), 2)) else (dQ.l0 k x2 x3 ([] : List Int) x1 (x1.length : Int) 0 Et Eu Ew)
def dQ.l0 : Nat → List bg → List bg → List Int → List ou → Int → Int → List bO → Int → Int → Option (List Int × Int)
 | 0, _, _, _, _, _, _, _, _, _ => none
 | k + 1, x2, x3, zF, x46, x47, x48, Et, Eu, Ew => if x48 < x47 then (if 0 ≤ x48 then (if x48 < (x46.length : Int) then ((jF.f Et ((nR x46 x48).f0) x2 x3 Eu Ew).bind fun t186 => (if zF.length < 17592186044416 then (dQ.l0 k x2 x3 (zF ++ [t186]) x46 x47 (wrap64 (x48 + 1)) Et Eu Ew) else (none))) else (none)) else (none)) else (some (zF, 0))
end
def dQ.f (k : Nat) (au : List bO) (l1 : List ou) (l2 : List bg) (l3 : List bg) (mE : Int) (mF : Int) : Option (List Int × Int) := (fq.f au).bind fun t178 => (if t178 = true then ((eF.f (l1.length : Int) 1 3).bind fun t179 => (if t179 = true then ((oN.f l1 au).bind fun t180 => (if t180 = true then (dQ.j0 k l1 l2 l3 true au mE mF) else ((fB.f au l2).bind fun t181 => (if t181 = true then ((fB.f au l3).bind fun t182 => (if t182 = true then ((gT.f mE mF).bind fun t183 => (dQ.j0 k l1 l2 l3 (!t183) au mE mF)) else (dQ.j0 k l1 l2 l3 true au mE mF))) else (dQ.j0 k l1 l2 l3 true au mE mF))))) else (dQ.j0 k l1 l2 l3 true au mE mF))) else (dQ.j0 k l1 l2 l3 true au mE mF))
theorem dQ.calls (k : Nat) (bB : Option Addr) (aZ : Nat) (au : List bO) (A1 : Option Addr) (c1 : Nat) (l1 : List ou) (A2 : Option Addr) (c2 : Nat) (l2 : List bg) (A3 : Option Addr) (c3 : Nat) (l3 : List bg) (mE : Int) (mF : Int) (r1 : List Int) (r2 : Int) (w : World) (dx : Kd.C iM w bB au.length au) (dI : au.length ≤ aZ) (hr1 : Kd.C ET w A1 l1.length l1) (hc1 : l1.length ≤ c1) (hr2 : Kd.C eT w A2 l2.length l2) (hc2 : l2.length ≤ c2) (hr3 : Kd.C eT w A3 l3.length l3) (hc3 : l3.length ≤ c3) (h : dQ.f k au l1 l2 l3 mE mF = some (r1, r2)) :
  Calls Tryz.prog 35 #[.agg #[.slice bB au.length aZ], .slice A1 l1.length c1, .slice A2 l2.length c2, .slice A3 l3.length c3, .agg #[.int .i64 mE, .int .i64 mF]] w fun e w' => ∃ kM : Value, e = .returned (.tuple #[kM, .int .i64 r2]) ∧ Kd.R (Kd.int .i64) 88 w' w.heap.size (fun _ => True) kM r1 ∧ Below w.heap.size w w' := by
 have o8 := Tryz.underlying24; have kg := Tryz.underlying37; have IY := Tryz.underlying49; have wY := Tryz.underlying149; have dJ := aj.mk dx; have eu := aj.mk dI; clear dx dI; have HR1 := aj.mk hr1; have uU := aj.mk hc1; clear hr1 hc1; have HR2 := aj.mk hr2; have HC2 := aj.mk hc2; clear hr2 hc2; have HR3 := aj.mk hr3; have Ke := aj.mk hc3; clear hr3 hc3; have HB := aj.mk (Below.refl w.heap.size w); have H : ((fq.f au).bind fun t178 => (if t178 = true then ((eF.f (l1.length : Int) 1 3).bind fun t179 => (if t179 = true then ((oN.f l1 au).bind fun t180 => (if t180 = true then (dQ.j0 k l1 l2 l3 true au mE mF) else ((fB.f au l2).bind fun t181 => (if t181 = true then ((fB.f au l3).bind fun t182 => (if t182 = true then ((gT.f mE mF).bind fun t183 => (dQ.j0 k l1 l2 l3 (!t183) au mE mF)) else (dQ.j0 k l1 l2 l3 true au mE mF))) else (dQ.j0 k l1 l2 l3 true au mE mF))))) else (dQ.j0 k l1 l2 l3 true au mE mF))) else (dQ.j0 k l1 l2 l3 true au mE mF))) = some (r1, r2) := h; clear h; have HC6 := aj.mk H; clear H
 go_enter Tryz.func35, Tryz.ntmps35
 go_upto_region 1 with (first | ((with_reducible refine av (N := 5) rfl ?_); (try (refine fK (by rfl) ?_; dsimp only)); refine fA 5 #[.slice bB au.length aZ] 24 HB ?_; clear HB; intro RN w7 hg eU qpv HB hb; clear hb hg) | ((with_reducible refine av (N := 9) rfl ?_); (try (refine fK (by rfl) ?_; dsimp only)); refine fA 9 #[.int .i64 mE, .int .i64 mF] 37 HB ?_; clear HB; intro RO w8 hg gZ qpw HB hb; have qz := Gb eU hg; have qA := Gc eU hg; replace eU := bV eU hb; clear hb hg))
 (try simp only [Act.put, sL])
 go_cut [45] (fun v45 wc => ∃ (kq : Nat) (RP : Bool), v45 = .bool RP ∧ aj (dQ.j0 kq l1 l2 l3 RP au mE mF = some (r1, r2)) ∧ aj (kq ≤ k) ∧ aj (wc.heap[RN]? = some (.cells #[(.slice bB au.length aZ)] 24 (0, 0))) ∧ aj (wc.heap[RO]? = some (.cells #[.int .i64 mE, .int .i64 mF] 37 (0, 0))) ∧ aj (Below w.heap.size w wc))
 case first =>
  have H := HC6.out; clear HC6; obtain ⟨t178, A9, H⟩ := lV H
  by_cases c10 : t178 = true
  ·subst c10
   rw [if_pos rfl] at H; obtain ⟨t179, A11, H⟩ := lV H
   by_cases c12 : t179 = true
   ·subst c12
    rw [if_pos rfl] at H; obtain ⟨t180, A13, H⟩ := lV H
    by_cases c14 : t180 = true
    ·subst c14
     rw [if_pos rfl] at H; have H' := aj.mk H; clear H; have qpx := qz.out; have qpy := qA.out; have uH := bc1 eU; have uI := bf eU 0
     go_wp2_with (first | ((with_reducible refine aD (f := 105) rfl ?_); refine bW (some 16) rfl rfl Tryz.func105 tX rfl #[.agg #[.slice bB au.length aZ]] rfl tM ?_; (with_reducible refine (fq.calls _ _ au true _ ?bF ?bG A9.out).mono ?_); (case bF => repeat (first | exact (Kd.ak dJ.out HB.out) | (with_reducible refine Kd.bC ?_ _) | (with_reducible refine Kd.bD ?_ _) | (with_reducible refine Kd.bQ ?_))); (case bG => exact eu.out); rintro e YE ⟨rfl, hb⟩; refine ⟨_, rfl, ?_⟩; replace eU := bV eU hb; replace gZ := bV gZ hb; replace HB := dL HB hb; (try clear hb)) | (go_at_call 113; (with_reducible refine (eF.calls (l1.length : Int) 1 3 true _ A11.out).mono ?_); rintro e w' ⟨rfl, ⟨nd, rfl⟩⟩) | (go_at_call 114; (with_reducible refine (oN.calls (gu := bB) (gq := aZ) _ _ l1 au true _ ?bF ?bG ?eG ?eH ?jo A13.out).mono ?_); (case bF => exact cS HR1); (case bG => exact uU.out); (case eG => exact cS dJ); (case eH => exact eu.out); (case jo => exact tK); rintro e Vd ⟨rfl, hb⟩; replace eU := bV eU hb; replace gZ := bV gZ hb; replace HB := dL HB hb; (try clear hb)))
     go_meet
     case rel => exact ⟨_, (true), tS, H', ⟨by first | omega | exact Nat.le_refl _⟩, ⟨tK⟩, ⟨tK⟩, ⟨tB⟩⟩
    ·replace c14 := Bool.eq_false_iff.mpr c14
     subst c14
     have H1 : ((fB.f au l2).bind fun t181 => (if t181 = true then ((fB.f au l3).bind fun t182 => (if t182 = true then ((gT.f mE mF).bind fun t183 => (dQ.j0 k l1 l2 l3 (!t183) au mE mF)) else (dQ.j0 k l1 l2 l3 true au mE mF))) else (dQ.j0 k l1 l2 l3 true au mE mF))) = some (r1, r2) := by rw [if_neg (show ¬ (false = true) by decide)] at H; exact H
     clear H; have H := H1; clear H1; obtain ⟨t181, A19, H⟩ := lV H
     by_cases c20 : t181 = true
     ·subst c20
      rw [if_pos rfl] at H; obtain ⟨t182, A21, H⟩ := lV H
      by_cases c22 : t182 = true
      ·subst c22
       rw [if_pos rfl] at H; obtain ⟨t183, A23, H⟩ := lV H; have H' := aj.mk H; clear H; have qfX := qz.out; have qfY := qA.out; have yS := bc1 eU; have yT := bf eU 0
       go_wp2_with (first | ((with_reducible refine aD (f := 105) rfl ?_); refine bW (some 16) rfl rfl Tryz.func105 tX rfl #[.agg #[.slice bB au.length aZ]] rfl tM ?_; (with_reducible refine (fq.calls _ _ au true _ ?bF ?bG A9.out).mono ?_); (case bF => repeat (first | exact (Kd.ak dJ.out HB.out) | (with_reducible refine Kd.bC ?_ _) | (with_reducible refine Kd.bD ?_ _) | (with_reducible refine Kd.bQ ?_))); (case bG => exact eu.out); rintro e w26 ⟨rfl, hb⟩; refine ⟨_, rfl, ?_⟩; replace eU := bV eU hb; replace gZ := bV gZ hb; replace HB := dL HB hb; (try clear hb)) | (go_at_call 113; (with_reducible refine (eF.calls (l1.length : Int) 1 3 true _ A11.out).mono ?_); rintro e w' ⟨rfl, ⟨nd, rfl⟩⟩) | (go_at_call 114; (with_reducible refine (oN.calls (gu := bB) (gq := aZ) _ _ l1 au false _ ?bF ?bG ?eG ?eH ?jo A13.out).mono ?_); (case bF => exact cS HR1); (case bG => exact uU.out); (case eG => exact cS dJ); (case eH => exact eu.out); (case jo => exact tK); rintro e w27 ⟨rfl, hb⟩; replace eU := bV eU hb; replace gZ := bV gZ hb; replace HB := dL HB hb; (try clear hb); have Jk := bc1 eU; have Jl := bf eU 0) | (go_at_call 106; (with_reducible refine (fB.calls _ _ au _ _ l2 true _ ?bF ?bG ?eG ?eH A19.out).mono ?_); (case bF => repeat (first | exact (Kd.ak dJ.out HB.out) | (with_reducible refine Kd.bC ?_ _) | (with_reducible refine Kd.bD ?_ _) | (with_reducible refine Kd.bQ ?_))); (case bG => exact eu.out); (case eG => repeat (first | exact (Kd.ak HR2.out HB.out) | (with_reducible refine Kd.bC ?_ _) | (with_reducible refine Kd.bD ?_ _) | (with_reducible refine Kd.bQ ?_))); (case eH => exact HC2.out); rintro e w29 ⟨rfl, hb⟩; replace eU := bV eU hb; replace gZ := bV gZ hb; replace HB := dL HB hb; (try clear hb); have Ag := bc1 eU; have Ah := bf eU 0) | (go_at_call 106; (with_reducible refine (fB.calls _ _ au _ _ l3 true _ ?bF ?bG ?eG ?eH A21.out).mono ?_); (case bF => repeat (first | exact (Kd.ak dJ.out HB.out) | (with_reducible refine Kd.bC ?_ _) | (with_reducible refine Kd.bD ?_ _) | (with_reducible refine Kd.bQ ?_))); (case bG => exact eu.out); (case eG => repeat (first | exact (Kd.ak HR3.out HB.out) | (with_reducible refine Kd.bC ?_ _) | (with_reducible refine Kd.bD ?_ _) | (with_reducible refine Kd.bQ ?_))); (case eH => exact Ke.out); rintro e w31 ⟨rfl, hb⟩; replace eU := bV eU hb; replace gZ := bV gZ hb; replace HB := dL HB hb; (try clear hb); obtain ⟨I5, I6⟩ := bc2 gZ; have I7 := bf gZ 0; have I8 := bf gZ 1) | (go_at_call 117; (with_reducible refine (gT.calls mE mF t183 _ A23.out).mono ?_); rintro e w33 ⟨rfl, hb⟩; replace eU := bV eU hb; replace gZ := bV gZ hb; replace HB := dL HB hb; (try clear hb)))
       go_meet
       case rel => exact ⟨_, (!t183), tS, H', ⟨by first | omega | exact Nat.le_refl _⟩, ⟨tK⟩, ⟨tK⟩, ⟨tB⟩⟩
      ·replace c22 := Bool.eq_false_iff.mpr c22
       subst c22
       have H1 : (dQ.j0 k l1 l2 l3 true au mE mF) = some (r1, r2) := by rw [if_neg (show ¬ (false = true) by decide)] at H; exact H
       clear H; have H := H1; clear H1; have H' := aj.mk H; clear H; have qpA := qz.out; have qpB := qA.out; have RQ := bc1 eU; have RS := bf eU 0
       go_wp2_with (first | ((with_reducible refine aD (f := 105) rfl ?_); refine bW (some 16) rfl rfl Tryz.func105 tX rfl #[.agg #[.slice bB au.length aZ]] rfl tM ?_; (with_reducible refine (fq.calls _ _ au true _ ?bF ?bG A9.out).mono ?_); (case bF => repeat (first | exact (Kd.ak dJ.out HB.out) | (with_reducible refine Kd.bC ?_ _) | (with_reducible refine Kd.bD ?_ _) | (with_reducible refine Kd.bQ ?_))); (case bG => exact eu.out); rintro e w36 ⟨rfl, hb⟩; refine ⟨_, rfl, ?_⟩; replace eU := bV eU hb; replace gZ := bV gZ hb; replace HB := dL HB hb; (try clear hb)) | (go_at_call 113; (with_reducible refine (eF.calls (l1.length : Int) 1 3 true _ A11.out).mono ?_); rintro e w' ⟨rfl, ⟨nd, rfl⟩⟩) | (go_at_call 114; (with_reducible refine (oN.calls (gu := bB) (gq := aZ) _ _ l1 au false _ ?bF ?bG ?eG ?eH ?jo A13.out).mono ?_); (case bF => exact cS HR1); (case bG => exact uU.out); (case eG => exact cS dJ); (case eH => exact eu.out); (case jo => exact tK); rintro e w37 ⟨rfl, hb⟩; replace eU := bV eU hb; replace gZ := bV gZ hb; replace HB := dL HB hb; (try clear hb); have RU := bc1 eU; have RV := bf eU 0) | (go_at_call 106; (with_reducible refine (fB.calls _ _ au _ _ l2 true _ ?bF ?bG ?eG ?eH A19.out).mono ?_); (case bF => repeat (first | exact (Kd.ak dJ.out HB.out) | (with_reducible refine Kd.bC ?_ _) | (with_reducible refine Kd.bD ?_ _) | (with_reducible refine Kd.bQ ?_))); (case bG => exact eu.out); (case eG => repeat (first | exact (Kd.ak HR2.out HB.out) | (with_reducible refine Kd.bC ?_ _) | (with_reducible refine Kd.bD ?_ _) | (with_reducible refine Kd.bQ ?_))); (case eH => exact HC2.out); rintro e w39 ⟨rfl, hb⟩; replace eU := bV eU hb; replace gZ := bV gZ hb; replace HB := dL HB hb; (try clear hb); have I9 := bc1 eU; have Ja := bf eU 0) | (go_at_call 106; (with_reducible refine (fB.calls _ _ au _ _ l3 false _ ?bF ?bG ?eG ?eH A21.out).mono ?_); (case bF => repeat (first | exact (Kd.ak dJ.out HB.out) | (with_reducible refine Kd.bC ?_ _) | (with_reducible refine Kd.bD ?_ _) | (with_reducible refine Kd.bQ ?_))); (case bG => exact eu.out); (case eG => repeat (first | exact (Kd.ak HR3.out HB.out) | (with_reducible refine Kd.bC ?_ _) | (with_reducible refine Kd.bD ?_ _) | (with_reducible refine Kd.bQ ?_))); (case eH => exact Ke.out); rintro e w41 ⟨rfl, hb⟩; replace eU := bV eU hb; replace gZ := bV gZ hb; replace HB := dL HB hb; (try clear hb)))
       go_meet
       case rel => exact ⟨_, (true), tS, H', ⟨by first | omega | exact Nat.le_refl _⟩, ⟨tK⟩, ⟨tK⟩, ⟨tB⟩⟩
     ·replace c20 := Bool.eq_false_iff.mpr c20
      subst c20
      have H1 : (dQ.j0 k l1 l2 l3 true au mE mF) = some (r1, r2) := by rw [if_neg (show ¬ (false = true) by decide)] at H; exact H
      clear H; have H := H1; clear H1; have H' := aj.mk H; clear H; have qpC := qz.out; have qpD := qA.out; have RX := bc1 eU; have RY := bf eU 0
      go_wp2_with (first | ((with_reducible refine aD (f := 105) rfl ?_); refine bW (some 16) rfl rfl Tryz.func105 tX rfl #[.agg #[.slice bB au.length aZ]] rfl tM ?_; (with_reducible refine (fq.calls _ _ au true _ ?bF ?bG A9.out).mono ?_); (case bF => repeat (first | exact (Kd.ak dJ.out HB.out) | (with_reducible refine Kd.bC ?_ _) | (with_reducible refine Kd.bD ?_ _) | (with_reducible refine Kd.bQ ?_))); (case bG => exact eu.out); rintro e w44 ⟨rfl, hb⟩; refine ⟨_, rfl, ?_⟩; replace eU := bV eU hb; replace gZ := bV gZ hb; replace HB := dL HB hb; (try clear hb)) | (go_at_call 113; (with_reducible refine (eF.calls (l1.length : Int) 1 3 true _ A11.out).mono ?_); rintro e w' ⟨rfl, ⟨nd, rfl⟩⟩) | (go_at_call 114; (with_reducible refine (oN.calls (gu := bB) (gq := aZ) _ _ l1 au false _ ?bF ?bG ?eG ?eH ?jo A13.out).mono ?_); (case bF => exact cS HR1); (case bG => exact uU.out); (case eG => exact cS dJ); (case eH => exact eu.out); (case jo => exact tK); rintro e w45 ⟨rfl, hb⟩; replace eU := bV eU hb; replace gZ := bV gZ hb; replace HB := dL HB hb; (try clear hb); have RZ := bc1 eU; have R3 := bf eU 0) | (go_at_call 106; (with_reducible refine (fB.calls _ _ au _ _ l2 false _ ?bF ?bG ?eG ?eH A19.out).mono ?_); (case bF => repeat (first | exact (Kd.ak dJ.out HB.out) | (with_reducible refine Kd.bC ?_ _) | (with_reducible refine Kd.bD ?_ _) | (with_reducible refine Kd.bQ ?_))); (case bG => exact eu.out); (case eG => repeat (first | exact (Kd.ak HR2.out HB.out) | (with_reducible refine Kd.bC ?_ _) | (with_reducible refine Kd.bD ?_ _) | (with_reducible refine Kd.bQ ?_))); (case eH => exact HC2.out); rintro e w47 ⟨rfl, hb⟩; replace eU := bV eU hb; replace gZ := bV gZ hb; replace HB := dL HB hb; (try clear hb)))
      go_meet
      case rel => exact ⟨_, (true), tS, H', ⟨by first | omega | exact Nat.le_refl _⟩, ⟨tK⟩, ⟨tK⟩, ⟨tB⟩⟩
   ·replace c12 := Bool.eq_false_iff.mpr c12
    subst c12
    have H1 : (dQ.j0 k l1 l2 l3 true au mE mF) = some (r1, r2) := by rw [if_neg (show ¬ (false = true) by decide)] at H; exact H
    clear H; have H := H1; clear H1; have H' := aj.mk H; clear H; have qpE := qz.out; have qpF := qA.out; have R4 := bc1 eU; have R5 := bf eU 0
    go_wp2_with (first | ((with_reducible refine aD (f := 105) rfl ?_); refine bW (some 16) rfl rfl Tryz.func105 tX rfl #[.agg #[.slice bB au.length aZ]] rfl tM ?_; (with_reducible refine (fq.calls _ _ au true _ ?bF ?bG A9.out).mono ?_); (case bF => repeat (first | exact (Kd.ak dJ.out HB.out) | (with_reducible refine Kd.bC ?_ _) | (with_reducible refine Kd.bD ?_ _) | (with_reducible refine Kd.bQ ?_))); (case bG => exact eu.out); rintro e w50 ⟨rfl, hb⟩; refine ⟨_, rfl, ?_⟩; replace eU := bV eU hb; replace gZ := bV gZ hb; replace HB := dL HB hb; (try clear hb)) | (go_at_call 113; (with_reducible refine (eF.calls (l1.length : Int) 1 3 false _ A11.out).mono ?_); rintro e w' ⟨rfl, ⟨nd, rfl⟩⟩))
    go_meet
    case rel => exact ⟨_, (true), tS, H', ⟨by first | omega | exact Nat.le_refl _⟩, ⟨tK⟩, ⟨tK⟩, ⟨tB⟩⟩
  ·replace c10 := Bool.eq_false_iff.mpr c10
   subst c10
   have H1 : (dQ.j0 k l1 l2 l3 true au mE mF) = some (r1, r2) := by rw [if_neg (show ¬ (false = true) by decide)] at H; exact H
   clear H; have H := H1; clear H1; have H' := aj.mk H; clear H; have qpG := qz.out; have qpH := qA.out; have R6 := bc1 eU; have R7 := bf eU 0
   go_wp2_with (first | ((with_reducible refine aD (f := 105) rfl ?_); refine bW (some 16) rfl rfl Tryz.func105 tX rfl #[.agg #[.slice bB au.length aZ]] rfl tM ?_; (with_reducible refine (fq.calls _ _ au false _ ?bF ?bG A9.out).mono ?_); (case bF => repeat (first | exact (Kd.ak dJ.out HB.out) | (with_reducible refine Kd.bC ?_ _) | (with_reducible refine Kd.bD ?_ _) | (with_reducible refine Kd.bQ ?_))); (case bG => exact eu.out); rintro e w53 ⟨rfl, hb⟩; refine ⟨_, rfl, ?_⟩; replace eU := bV eU hb; replace gZ := bV gZ hb; replace HB := dL HB hb; (try clear hb)))
   go_meet
   case rel => exact ⟨_, (true), tS, H', ⟨by first | omega | exact Nat.le_refl _⟩, ⟨tK⟩, ⟨tK⟩, ⟨tB⟩⟩
 case rest =>
  clear HC6
  try clear c1
  try clear c2
  try clear p2
  try clear c3
  try clear c4
  try clear c5
  try clear c10
  try clear c12
  try clear c14
  try clear c15
  try clear c20
  try clear c22
  try clear c24
  try clear c34
  try clear c35
  try clear c42
  try clear c48
  try clear c51
  try clear uH
  try clear yS
  try clear Jk
  try clear Ag
  try clear I5
  try clear I6
  try clear RQ
  try clear RU
  try clear I9
  try clear RX
  try clear RZ
  try clear R4
  try clear R6
  try clear uI
  try clear yT
  try clear Jl
  try clear Ah
  try clear I7
  try clear I8
  try clear RS
  try clear RV
  try clear Ja
  try clear RY
  try clear R3
  try clear R5
  try clear R7
  obtain ⟨kq, RP, rfl, HA, HJ5, eU, gZ, HB⟩ := hcut
  cases kq with
  | zero => exact absurd HA.out (by simp [dQ.j0])
  | succ kj5 =>
   have H := HA.out; clear HA; simp only [dQ.j0] at H
   by_cases c54 : RP = true
   ·subst c54
    rw [if_pos rfl] at H; simp only [Option.some.injEq, Prod.mk.injEq] at H; obtain ⟨rfl, rfl⟩ := H
    go_wp2
    go_ret2
    exact ⟨_, tF, by first | exact Kd.lJ _ _ _ _ _ | exact Kd.sU _ _ _ _ _ | exact Kd.sW _ _ _ _ _ | exact Kd.sQ _ _ _ _ _ | exact Kd.sS _ _ _ _ _, tB⟩
   ·replace c54 := Bool.eq_false_iff.mpr c54
    subst c54
    have H1 : (dQ.l0 kj5 l2 l3 ([] : List Int) l1 (l1.length : Int) 0 au mE mF) = some (r1, r2) := by rw [if_neg (show ¬ (false = true) by decide)] at H; exact H
    clear H; have H := H1; clear H1; have H' := aj.mk H; clear H
    go_wp2
    go_loopg [12, 48] kj5 (fun kq v12 v48 w' => ∃ (xU : List Int) (oW : Int), v48 = .int .i64 oW ∧ aj (dQ.l0 kq l2 l3 xU l1 (l1.length : Int) oW au mE mF = some (r1, r2)) ∧ aj (kq ≤ kj5) ∧ aj (Kd.R (Kd.int .i64) 88 w' w.heap.size (fun _ => True) v12 xU) ∧ aj (w'.heap[RN]? = some (.cells #[(.slice bB au.length aZ)] 24 (0, 0))) ∧ aj (w'.heap[RO]? = some (.cells #[.int .i64 mE, .int .i64 mF] 37 (0, 0))) ∧ aj (Below w.heap.size w w'))
    case atStart => exact ⟨(([] : List Int)), (0), tS, H', ⟨Nat.le_refl _⟩, ⟨by first | exact Kd.lJ _ _ _ _ _ | exact Kd.sU _ _ _ _ _ | exact Kd.sW _ _ _ _ _ | exact Kd.sQ _ _ _ _ _ | exact Kd.sS _ _ _ _ _⟩, ⟨tK⟩, ⟨tK⟩, ⟨tB⟩⟩
    case round =>
     clear H'
     try clear c1
     try clear c2
     try clear p2
     try clear c3
     try clear c4
     try clear c5
     try clear c10
     try clear c12
     try clear c14
     try clear c15
     try clear c20
     try clear c22
     try clear c24
     try clear c34
     try clear c35
     try clear c42
     try clear c48
     try clear c51
     try clear c54
     try clear uH
     try clear yS
     try clear Jk
     try clear Ag
     try clear I5
     try clear I6
     try clear RQ
     try clear RU
     try clear I9
     try clear RX
     try clear RZ
     try clear R4
     try clear R6
     try clear uI
     try clear yT
     try clear Jl
     try clear Ah
     try clear I7
     try clear I8
     try clear RS
     try clear RV
     try clear Ja
     try clear RY
     try clear R3
     try clear R5
     try clear R7
     try clear p2
     obtain ⟨xU, oW, rfl, HA, XY, Db, eU, gZ, HB⟩ := hrel
     cases gk with
     | zero => exact absurd HA.out (by simp [dQ.l0])
     | succ k2 =>
      have H := HA.out; clear HA; simp only [dQ.l0] at H
      by_cases c55 : oW < (l1.length : Int)
      ·rw [if_pos c55] at H
       have qgI : decide (oW < (l1.length : Int)) = true := decide_eq_true c55; clear c55
       by_cases c56 : 0 ≤ oW
       ·rw [if_pos c56] at H
        have qpJ : decide (0 ≤ oW) = true := decide_eq_true c56; clear c56
        by_cases c57 : oW < (l1.length : Int)
        ·rw [if_pos c57] at H
         have qpK : decide (oW < (l1.length : Int)) = true := decide_eq_true c57; clear c57; obtain ⟨t186, A58, H⟩ := lV H
         by_cases c59 : xU.length < 17592186044416
         ·rw [if_pos c59] at H
          have qgJ := aj.mk c59; clear c59; obtain ⟨qgK, L9⟩ : ∃ y_ : List Int, y_ = (xU ++ [t186]) := ⟨_, rfl⟩
          replace H : (dQ.l0 k2 l2 l3 qgK l1 (l1.length : Int) (wrap64 (oW + 1)) au mE mF) = some (r1, r2) := by first | (rw [L9]; with_reducible exact H) | (have iY := (Option.bind_some _ _).symm.trans H; rw [L9]; with_reducible exact iY) | (have iY := (Option.bind_some _ _).symm.trans H; with_reducible exact iY) | with_reducible exact H | (rw [L9]; exact H) | exact H
          have qgL := aj.mk L9; clear L9; have H' := aj.mk H; clear H; have qdW : 0 ≤ (oW : Int) := of_decide_eq_true tA; have qdX : oW < (l1.length : Int) := of_decide_eq_true tA; obtain ⟨qpL, Jm, Jo, qmw, R8, R9, Sb⟩ := Nn HR1.out oW qdW qdX
          cases qmw
          replace R8 := dz HB R8; have ZH := aj.mk Sb; have ZI := aj.mk R9; clear Sb R9; replace qdW := eq_true qdW; replace qdX := eq_true qdX
          go_wp2_with (first | ((with_reducible refine av (N := 14) rfl ?_); (try (refine fK (by rfl) ?_; dsimp only)); refine fA 14 #[.slice none 0 0] 49 HB ?_; clear HB; intro WK w60 hg FT qpM HB hb; replace Db := kH Db hb; have Hq := Gb eU hg; have TP := Gc eU hg; replace eU := bV eU hb; have Hr := Gb gZ hg; have TQ := Gc gZ hg; replace gZ := bV gZ hb; clear hb hg; have qpN := TP.out; have qpO := Hq.out; have qpP := TQ.out; have qpQ := Hr.out; have qj5 := bc1 FT; have qj6 := bf FT 0; have qpR := qz.out; have qpS := qA.out; have qj7 := bc1 eU; have qj8 := bf eU 0; obtain ⟨qj9, qka⟩ := bc2 gZ; have qkb := bf gZ 0; have qkc := bf gZ 1) | ((with_reducible refine aD (f := 118) rfl ?_); refine bW (some 59) rfl rfl Tryz.func118 tX rfl #[.agg #[.slice bB au.length aZ, .slice Jm ((nR l1 oW).f0).length Jo], .slice A2 l2.length c2, .slice A3 l3.length c3, .agg #[.int .i64 mE, .int .i64 mF]] rfl tM ?_; (with_reducible refine (jF.calls _ _ au _ _ ((nR l1 oW).f0) _ _ l2 _ _ l3 mE mF t186 _ ?bF ?bG ?eG ?eH ?jo ?vN ?AQ ?AR A58.out).mono ?_); (case bF => exact Kd.ak dJ.out tB); (case bG => exact eu.out); (case eG => exact Kd.ak ZH.out tB); (case eH => exact ZI.out); (case jo => exact Kd.ak HR2.out tB); (case vN => exact HC2.out); (case AQ => exact Kd.ak HR3.out tB); (case AR => exact Ke.out); rintro e w67 ⟨rfl, hb⟩; refine ⟨_, rfl, ?_⟩; replace Db := aj.mk (Kd.jy (by (with_reducible repeat (first | apply Kd.ku | apply Kd.kC | apply Kd.j5)); exact (Kd.fV (Kd.jQ (p := ⟨WK, 0, none⟩) (Kd.jA Db.out FT.out (by decide)) (fun _ hk => hk.2) (.slice Jm ((nR l1 oW).f0).length Jo)) (fun _ h_ => h_.1))) hb); replace eU := aj.mk (aG (g := RN) (o := .cells #[.slice bB au.length aZ] 24 (0, 0)) (by (with_reducible repeat (first | refine aM ?_ _ | refine aN ?_ | refine aJ ?_ _)); refine kN ?_ Hq.out _; (with_reducible repeat (first | refine aM ?_ _ | refine aN ?_ | refine aJ ?_ _)); exact eU.out) hb); replace gZ := aj.mk (aG (g := RO) (o := .cells #[.int .i64 mE, .int .i64 mF] 37 (0, 0)) (by (with_reducible repeat (first | refine aM ?_ _ | refine aN ?_ | refine aJ ?_ _)); refine kN ?_ Hr.out _; (with_reducible repeat (first | refine aM ?_ _ | refine aN ?_ | refine aJ ?_ _)); exact gZ.out) hb); replace FT := aj.mk (aG (g := WK) (o := .cells #[.slice Jm ((nR l1 oW).f0).length Jo] 49 (0, 0)) (by (with_reducible repeat (first | refine aM ?_ _ | refine aN ?_ | refine aJ ?_ _)); refine dU (cs := #[.slice none 0 0]) ?_ 0 _ rfl; (with_reducible repeat (first | refine aM ?_ _ | refine aN ?_ | refine aJ ?_ _)); exact FT.out) hb); replace HB := dL HB hb; (try clear hb)) | ((with_reducible refine eD (b := .append) (xs := #[.tmp 52, .tmp 60]) rfl ?_); (try (refine fK (by rfl) ?_; dsimp only)); at_builtin; refine Kd.nV (Kd.int .i64) (w0 := w) w.heap.size rfl (.tmp 52) (.tmp 60) 39 88 (.int .i64 0) 8 rfl Tryz.underlying39 qci rfl (by decide) (by omega) u12 xU t186 [.int .i64 t186] (fun _ => True) (fun _ => False) rfl rfl ?aP (fun _ hk => hk.elim) ?aF ?aO ?aB ?aS ?aL ?_; (case aP => exact rfl); (case aB => exact tB); (case aF => exact (fun _ _ => trivial)); (case aO => exact tR); (case aS => exact (aX tB)); (case aL => have := qgJ.out; omega); intro qso w68 ho hb hg hat; rw [← qgL.out] at ho; replace eU := aj.mk (jw (g := RN) (o := .cells #[.slice bB au.length aZ] 24 (0, 0)) tK hg (Kd.Dr Db.out eU.out (by decide))); replace gZ := aj.mk (jw (g := RO) (o := .cells #[.int .i64 mE, .int .i64 mF] 37 (0, 0)) tK hg (Kd.Dr Db.out gZ.out (by decide))); replace FT := aj.mk (jw (g := WK) (o := .cells #[.slice Jm ((nR l1 oW).f0).length Jo] 49 (0, 0)) tK hg (Kd.Dr Db.out FT.out (by decide))); replace HB := aj.mk (hb); have qpT := aj.mk (ho); clear Db; clear ho hb hg hat))
          go_roundg k2
          case measure => have := HJ5.out; have := XY.out; omega
          case rel => exact ⟨(qgK), (wrap64 (oW + 1)), tS, H', ⟨by have := HJ5.out; have := XY.out; omega⟩, ⟨tR⟩, ⟨tK⟩, ⟨tK⟩, ⟨tB⟩⟩
         ·rw [if_neg c59] at H
          exact absurd H (by simp)
        ·rw [if_neg c57] at H
         exact absurd H (by simp)
       ·rw [if_neg c56] at H
        exact absurd H (by simp)
      ·rw [if_neg c55] at H
       have qgI : decide (oW < (l1.length : Int)) = false := decide_eq_false c55; clear c55; simp only [Option.some.injEq, Prod.mk.injEq] at H; obtain ⟨rfl, rfl⟩ := H
       go_wp2
       go_ret2
       exact ⟨_, tF, tR, tB⟩
def lX.f (a0 : Int) (xM : Int) (iq : Int) : Option Bool := (eF.f a0 xM iq).bind fun t242 => (some t242)
theorem lX.calls (a0 : Int) (xM : Int) (iq : Int) (r : Bool) (w : World) (h : lX.f a0 xM iq = some r) :
  Calls Tryz.prog 140 #[.int .i64 a0, .agg #[.int .i64 xM, .int .i64 iq]] w fun e w' => e = .returned (.bool r) ∧ Below w.heap.size w w' := by
 have kg := Tryz.underlying37; have HB := aj.mk (Below.refl w.heap.size w); have H : ((eF.f a0 xM iq).bind fun t242 => (some t242)) = some r := h; clear h; obtain ⟨t242, A3, H⟩ := lV H; obtain rfl := Option.some.inj H
 go_enter Tryz.func140, Tryz.ntmps140
 go_wp2_with (first | ((with_reducible refine av (N := 3) rfl ?_); refine fA 3 #[.int .i64 xM, .int .i64 iq] 37 HB ?_; clear HB; intro qpU w4 hg WL qpV HB hb; clear hb hg; obtain ⟨Ch, qdO⟩ := bc2 WL; have Ci := bf WL 0; have qdP := bf WL 1) | ((with_reducible refine aD (f := 113) rfl ?_); refine bW (some 10) rfl rfl Tryz.func113 tX rfl #[.int .i64 a0, .int .i64 xM, .int .i64 iq] rfl tM ?_; (with_reducible refine (eF.calls a0 xM iq t242 _ A3.out).mono ?_); rintro e w' ⟨rfl, ⟨nd, rfl⟩⟩; refine ⟨_, rfl, ?_⟩))
 go_ret
 exact ⟨tF, tB⟩
def Ma (Ce eye n x y : Int) : Bool := decide (max (wrap64 (x - y)) (wrap64 (y - x)) ≤ wrap64 (eye + wrap64 (n * Ce)))
def vQ (Ce eye : Int) : List Int → Int → List Int → List Int → List Int
 | [], _, _, out => out
 | x :: l, n, fs, out => if oH (Ma Ce eye n x) fs < 0 then vQ Ce eye l (n + 1) (fs ++ [x]) (out ++ [(fs.length : Int)]) else vQ Ce eye l (n + 1) fs (out ++ [oH (Ma Ce eye n x) fs])
def lY.f (a0 : Int) (l1 : List Int) (a2 : Int) : Option (List Int) := if l1.length ≤ 1000000 then some (vQ a0 a2 l1 0 [] []) else none
theorem lY.U1 {t e : Int} {l r : List Int} (h : lY.f t l e = some r) : r = vQ t e l 0 [] [] ∧ l.length ≤ 1000000 := by
 unfold lY.f at h
 split at h
 ·exact ⟨(Option.some.inj h).symm, ‹_›⟩
 ·cases h
theorem qmx (gx ge gn gt : Nat) (x eye n t y : Int) (w : World) (hx : w.heap[gx]? = some (.cells #[.int .i64 x] 3 (0, 0))) (he : w.heap[ge]? = some (.cells #[.int .i64 eye] 3 (0, 0))) (hn : w.heap[gn]? = some (.cells #[.int .i64 n] 3 (0, 0))) (ht : w.heap[gt]? = some (.cells #[.int .i64 t] 3 (0, 0))) :
  Calls Tryz.prog 188 #[.int .i64 y, .pointer (some ⟨gx, 0, none⟩), .pointer (some ⟨ge, 0, none⟩), .pointer (some ⟨gn, 0, none⟩), .pointer (some ⟨gt, 0, none⟩)] w fun e w' => e = .returned (.bool (Ma t eye n x y)) ∧ Below w.heap.size w w' := by
 replace hx := fT hx; replace he := fT he; replace hn := fT hn; replace ht := fT ht; have HB := aj.mk (Below.refl w.heap.size w)
 go_enter Tryz.func188, Tryz.ntmps188
 go_wp2_with fail
 all_goals
  go_ret
  exact ⟨nW (decide_eq_decide.2 (by omega)), HB.out⟩
theorem lY.calls (a0 : Int) (A1 : Option Addr) (c1 : Nat) (l1 : List Int) (a2 : Int) (r : List Int) (w : World) (hr1 : Kd.C (Kd.int .i64) w A1 l1.length l1) (hc1 : l1.length ≤ c1) (h : lY.f a0 l1 a2 = some r) :
  Calls Tryz.prog 141 #[.int .i64 a0, .slice A1 l1.length c1, .int .i64 a2] w fun e w' => ∃ kM : Value, e = .returned (kM) ∧ Kd.R (Kd.int .i64) 3 w' w.heap.size (fun _ => True) kM r ∧ Below w.heap.size w w' := by
 obtain ⟨rfl, hl⟩ := lY.U1 h; have HR := aj.mk hr1; have HL := aj.mk hl; have HB := aj.mk (Below.refl w.heap.size w); have hm : l1.length ≤ 9223372036854775807 := hr1.2.1; clear hl h hr1
 go_enter Tryz.func141, Tryz.ntmps141
 go_wp2_with (first | ((with_reducible refine av (N := 3) rfl ?_); refine ko rfl rfl (cs := #[.int .i64 a0]) (t := 3) tG HB ?_; clear HB; intro gt w3 HT GT HB hx; clear hx) | ((with_reducible refine av (N := 5) rfl ?_); refine ko rfl rfl (cs := #[.int .i64 a2]) (t := 3) tG HB ?_; clear HB; intro ge w4 HE GE HB hx; replace HT := dW HT hx; clear hx))
 go_loopw [7, 8, 9, 10, 11, 14] (fun v7 v8 _ _ _ i W => ∃ (k : Int) (fs out : List Int), 0 ≤ k ∧ k ≤ l1.length ∧ i = .int .i64 k ∧ aj (fs.length ≤ k ∧ out.length = k ∧ vQ a0 a2 (l1.drop k.toNat) k fs out = vQ a0 a2 l1 0 [] []) ∧ aj (Kd.R (Kd.int .i64) 3 W w.heap.size (fun _ => True) v7 out) ∧ aj (Kd.R (Kd.int .i64) 3 W w.heap.size (fun _ => True) v8 fs) ∧ aj (uj v7 v8) ∧ aj (some gt ≠ v7.ownBlock) ∧ aj (some gt ≠ v8.ownBlock) ∧ aj (some ge ≠ v7.ownBlock) ∧ aj (some ge ≠ v8.ownBlock) ∧ aj (W.heap[gt]? = some (.cells #[.int .i64 a0] 3 (0, 0))) ∧ aj (W.heap[ge]? = some (.cells #[.int .i64 a2] 3 (0, 0))) ∧ aj (Below w.heap.size w W)) (fun _ _ _ _ _ i _ => l1.length - (intOf i).toNat)
 case atStart => exact ⟨0, [], [], by omega, by omega, rfl, ⟨by simp, by simp, rfl⟩, ⟨Kd.lJ _ _ _ _ _⟩, ⟨Kd.lJ _ _ _ _ _⟩, qco _, PX _, PX _, PX _, PX _, HT, HE, HB⟩
 case round =>
  clear HT HE HB; obtain ⟨k, fs, out, hk0, hk, rfl, HI, Ey, DC, HN, N1, N2, N3, N4, HT, HE, HB⟩ := hrel
  by_cases hlt : k < l1.length
  ·obtain ⟨ad, rfl, hy0⟩ := Kd.iH HR.out k hk0 hlt
   replace hy0 := dz HB hy0; obtain ⟨A8, c8, rfl, hl8, _⟩ := Kd.fO DC.out
   go_wp2_with (first | ((with_reducible refine av (N := 9) rfl ?_); refine jD rfl rfl (cs := #[.int .i64 0]) (t := 3) tG HB ?_; clear HB; intro gn wxn Hn Gn HB hx hz; have Dn := aj.mk (show gt ≠ gn ∧ ge ≠ gn from ⟨fun e => by have := cZ HT.out; omega, fun e => by have := cZ HE.out; omega⟩); replace HT := dW HT hx; replace HE := dW HE hx; have Mn7 := wX Ey hz; have Mn8 := wX DC hz; replace Ey := qQ Ey hx; replace DC := qQ DC hx; replace hy0 := (hx.cell (World.block_lt_of_cell? _ _ hy0)).trans hy0; clear hx hz) | ((with_reducible refine av (N := 10) rfl ?_); refine jD rfl rfl (cs := #[.int .i64 0]) (t := 3) tG HB ?_; clear HB; intro gx wxx Hx Gx HB hx hz; have Dx := aj.mk (show gt ≠ gx ∧ ge ≠ gx from ⟨fun e => by have := cZ HT.out; omega, fun e => by have := cZ HE.out; omega⟩); have Dnx := aj.mk (show gn ≠ gx from fun e => by have := cZ Hn.out; omega); replace Hn := dW Hn hx; replace HT := dW HT hx; replace HE := dW HE hx; have Mx7 := wX Ey hz; have Mx8 := wX DC hz; replace Ey := qQ Ey hx; replace DC := qQ DC hx; replace hy0 := (hx.cell (World.block_lt_of_cell? _ _ hy0)).trans hy0; clear hx hz) | ((with_reducible refine bE (t := 3) (p := 9) rfl ?_); refine je rfl rfl rfl Hn Gn HB (.int .i64 k) [.int .i64 k] #[.int .i64 k] rfl rfl rfl tX (Nat.le_refl _) (by simp [Value.oneCell']) rfl ?_; clear HB Hn; intro wzn Hn HB hx; replace HT := gW HT hx Dn.out.1; replace HE := gW HE hx Dn.out.2; replace Ey := EY Ey rfl hx Mn7.out; replace DC := EY DC rfl hx Mn8.out; replace Hx := gW Hx hx Dnx.out.symm; clear hx) | ((with_reducible refine bE (t := 3) (p := 10) rfl ?_); refine je rfl rfl rfl Hx Gx HB (.int .i64 (rd l1 k)) [.int .i64 (rd l1 k)] #[.int .i64 (rd l1 k)] rfl rfl rfl tX (Nat.le_refl _) (by simp [Value.oneCell']) rfl ?_; clear HB Hx; intro wzx Hx HB hx; replace HT := gW HT hx Dx.out.1; replace HE := gW HE hx Dx.out.2; replace Ey := EY Ey rfl hx Mx7.out; replace DC := EY DC rfl hx Mx8.out; replace Hn := gW Hn hx Dnx.out; clear hx))
   obtain ⟨j, hj⟩ : ∃ j, j = oH (Ma a0 a2 k (rd l1 k)) fs := ⟨_, rfl⟩; have HJ := aj.mk hj
   have HC := aj.mk (qe2 (Ma a0 a2 k (rd l1 k)) 188 #[.pointer (some ⟨gx, 0, none⟩), .pointer (some ⟨ge, 0, none⟩), .pointer (some ⟨gn, 0, none⟩), .pointer (some ⟨gt, 0, none⟩)] A8 c8 fs wzx (Kd.cO DC.out).2.2 (enters_of Tryz.func188 tX rfl) (fun x hx => ⟨fun W cs hb hK => by
    obtain rfl := hK
    exact qmx gx ge gn gt _ _ _ _ _ W (aG Hx.out hb) (aG HE.out hb) (aG Hn.out hb) (aG HT.out hb)⟩))
   rw [← hj] at HC; clear hj
   have hj1 : -1 ≤ j := by rw [HJ.out]; exact (zk _ _).1
   have hj2 : j ≤ fs.length := by rw [HJ.out]; exact (zk _ _).2
   refine HC.out.mono ?_; rintro e wc ⟨rfl, hx⟩; replace HB := fu HB hx; replace HT := dW HT hx; replace HE := dW HE hx; replace Hx := dW Hx hx; replace Ey := qQ Ey hx; replace DC := qQ DC hx; have hcx := fT Hx.out; clear hx HC Hn Gn Gx Dn Dx Dnx Mn7 Mn8 hy0
   have HS := aj.mk (show l1.drop k.toNat = rd l1 k :: l1.drop (k + 1).toNat by
    rw [show (k + 1).toNat = k.toNat + 1 by omega, rd, List.getD_eq_getElem?_getD, List.getElem?_eq_getElem (by omega)]
    exact List.drop_eq_getElem_cons (by omega))
   by_cases hneg : j < 0
   ·have hq : decide (j < 0) = true := decide_eq_true hneg
    have HQ := aj.mk hneg; clear hneg; have HX := Hx
    go_wp2_with (first | ((with_reducible refine eD (b := .append) (xs := #[.tmp 26, .tmp 28]) rfl ?_); at_builtin; refine oL (Kd.int .i64) rfl (.tmp 26) (.tmp 28) 47 3 (.int .i64 0) 8 rfl Tryz.underlying47 info3 rfl (by decide) (by omega) (.slice A8 fs.length c8) fs (rd l1 k) [.int .i64 (rd l1 k)] rfl rfl rfl DC HB (by have := HI.out; have := HL.out; omega) (by decide) ?_; clear HB; intro u8 wu8 HU HB hx hat; have WM := UZ HN; replace HN := UZ (Nq WM hat Ey); have N2b := Gz N2 HT hat; have N4b := Gz N4 HE hat; replace HT := ES HT hx N2; replace HE := ES HE hx N4; replace Ey := UY Ey rfl hx WM; clear DC N2 N4 WM; have DC := HU; have N2 := N2b; have N4 := N4b; clear HU N2b N4b hx hat) | ((with_reducible refine eD (b := .append) (xs := #[.tmp 30, .tmp 32]) rfl ?_); at_builtin; refine oL (Kd.int .i64) rfl (.tmp 30) (.tmp 32) 47 3 (.int .i64 0) 8 rfl Tryz.underlying47 info3 rfl (by decide) (by omega) _ out ((fs.length : Int)) [.int .i64 ((fs.length : Int))] rfl rfl rfl Ey HB (by have := HI.out; have := HL.out; omega) (by decide) ?_; clear HB; intro u7 wu7 HU HB hx hat; have WM := HN; replace HN := Nq WM hat DC; have N1b := Gz N1 HT hat; have N3b := Gz N3 HE hat; replace HT := ES HT hx N1; replace HE := ES HE hx N3; replace DC := UY DC rfl hx WM; clear Ey N1 N3 WM; have Ey := HU; have N1 := N1b; have N3 := N3b; clear HU N1b N3b hx hat))
    go_roundw
    case rel => exact ⟨k + 1, fs ++ [rd l1 k], out ++ [(fs.length : Int)], by omega, by omega, by go_num, ⟨by simp; have := HI.out; omega, by simp; have := HI.out; omega, by
     rw [← HI.out.2.2, HS.out, vQ, if_pos (by have := HQ.out; rw [← HJ.out]; omega)]⟩, Ey, DC, HN, N1, N2, N3, N4, HT, HE, HB⟩
    case measure => simp [intOf]; omega
   ·have hq : decide (j < 0) = false := decide_eq_false hneg
    have HQ := aj.mk hneg; clear hneg
    go_wp2_with (first | ((with_reducible refine eD (b := .append) (xs := #[.tmp 30, .tmp 32]) rfl ?_); at_builtin; refine oL (Kd.int .i64) rfl (.tmp 30) (.tmp 32) 47 3 (.int .i64 0) 8 rfl Tryz.underlying47 info3 rfl (by decide) (by omega) _ out (j) [.int .i64 (j)] rfl rfl rfl Ey HB (by have := HI.out; have := HL.out; omega) (by decide) ?_; clear HB; intro u7 wu7 HU HB hx hat; have WM := HN; replace HN := Nq WM hat DC; have N1b := Gz N1 HT hat; have N3b := Gz N3 HE hat; replace HT := ES HT hx N1; replace HE := ES HE hx N3; replace DC := UY DC rfl hx WM; clear Ey N1 N3 WM; have Ey := HU; have N1 := N1b; have N3 := N3b; clear HU N1b N3b hx hat))
    go_roundw
    case rel => exact ⟨k + 1, fs, out ++ [j], by omega, by omega, by go_num, ⟨by have := HI.out; omega, by simp; have := HI.out; omega, by
     rw [← HI.out.2.2, HS.out, vQ, if_neg (by have := HQ.out; rw [← HJ.out]; omega), ← HJ.out]⟩, Ey, DC, HN, N1, N2, N3, N4, HT, HE, HB⟩
    case measure => simp [intOf]; omega
  ·have hg : ¬ k < l1.length := hlt
   go_wp2_with fail
   go_ret
   exact ⟨_, rfl, by
    have := HI.out.2.2; rw [List.drop_eq_nil_of_le (by omega), vQ] at this
    rw [← this]; exact Ey.out, HB.out⟩
theorem WQ (x lo hi : Int) : lX.f x lo hi = some (o9 x lo hi) := by unfold lX.f; rw [Fp]; rfl
def xV (a : List Int) (b : List bT) : Bool := decide (a.length = b.length) && (a.zip b).all (fun p => o9 p.1 p.2.f0 p.2.f1)
theorem Mc (a : List Int) (b : List bT) (hl : a.length = b.length) (h : ∀ i : Int, 0 ≤ i → i < a.length → o9 (rd a i) (bM b i).f0 (bM b i).f1 = true) : xV a b = true := by
 unfold xV
 rw [decide_eq_true hl, Bool.true_and, List.all_eq_true]; intro p hp; obtain ⟨i, hi, rfl⟩ := List.mem_iff_getElem.1 hp; rw [List.length_zip] at hi; have := h i (by omega) (by omega); simp only [rd, bM, Int.toNat_natCast, List.getD_eq_getElem?_getD] at this; rw [List.getElem?_eq_getElem (by omega), List.getElem?_eq_getElem (by omega)] at this
 simpa using this
theorem Jp (a : List Int) (b : List bT) (hl : a.length = b.length) (i : Int) (h0 : 0 ≤ i) (h1 : i < a.length) (h : o9 (rd a i) (bM b i).f0 (bM b i).f1 = false) : xV a b = false := by
 unfold xV
 rw [decide_eq_true hl, Bool.true_and, List.all_eq_false]
 have hz : i.toNat < (a.zip b).length := by rw [List.length_zip]; omega
 refine ⟨(a.zip b)[i.toNat], List.getElem_mem hz, ?_⟩; simp only [rd, bM, List.getD_eq_getElem?_getD] at h; rw [List.getElem?_eq_getElem (by omega), List.getElem?_eq_getElem (by omega)] at h
 simpa using h
theorem TS (a : List Int) (b : List bT) (hl : ¬ a.length = b.length) : xV a b = false := by
 unfold xV
 rw [decide_eq_false hl, Bool.false_and]
theorem qgO (A : Option Addr) (c : Nat) (l : List Int) (A1 : Option Addr) (c1 : Nat) (l1 : List bT) (w : World) (hr : Kd.C (Kd.int .i64) w A l.length l) (hr1 : Kd.C j3 w A1 l1.length l1) :
  Calls Tryz.prog 139 #[.slice A l.length c, .slice A1 l1.length c1, .func (.func 140) #[] #[]] w fun e w' => e = .returned (.bool (xV l l1)) ∧ Below w.heap.size w w' := by
 have hm : l.length ≤ 9223372036854775807 := hr.2.1; have HR := aj.mk hr; have HR1 := aj.mk hr1; have HB := aj.mk (Below.refl w.heap.size w); clear hr hr1; have he : ∀ args w, (callFunc 140 args).run Tryz.prog w = .ok (.enter 140 args) w := enters_of Tryz.func140 tX rfl
 by_cases hl : l.length = l1.length
 ·have HL := aj.mk hl
  have hq : ((l.length : Int) != (l1.length : Int)) = false := by rw [hl]; simp
  clear hl
  go_enter Tryz.func139, Tryz.ntmps139
  go_wp2_with fail
  clear HB
  go_loopw [7, 8, 9, 17] (fun _ _ _ i W => ∃ k : Int, 0 ≤ k ∧ k ≤ l.length ∧ i = .int .i64 k ∧ aj (∀ i : Int, 0 ≤ i → i < k → o9 (rd l i) (bM l1 i).f0 (bM l1 i).f1 = true) ∧ aj (Below w.heap.size w W)) (fun _ _ _ i _ => l.length - (intOf i).toNat)
  case atStart => exact ⟨0, by omega, by omega, rfl, ⟨fun i _ h => absurd h (by omega)⟩, ⟨Below.refl _ _⟩⟩
  case round =>
   obtain ⟨k, hk0, hk, rfl, hn, HB⟩ := hrel
   by_cases hlt : k < l.length
   ·have hlt1 : k < l1.length := by have := HL.out; omega
    obtain ⟨ad, rfl, hy0⟩ := Kd.iH HR.out k hk0 hlt; replace hy0 := dz HB hy0; obtain ⟨ad1, rfl, hx0, hx1⟩ := mD HR1.out k hk0 hlt1; replace hx0 := dz HB hx0; replace hx1 := dz HB hx1; have hu := Tryz.underlying37
    go_wp2_with (first | ((with_reducible refine av (N := 9) rfl ?_); refine ko rfl rfl (cs := #[.int .i64 0, .int .i64 0]) (t := 37) tG HB ?_; clear HB; intro gx w3 HX GX HB hx; replace hx0 := (hx.cell (World.block_lt_of_cell? _ _ hx0)).trans hx0; replace hx1 := (hx.cell (World.block_lt_of_cell? _ _ hx1)).trans hx1; clear hx) | ((with_reducible refine bE (t := 37) (p := 9) rfl ?_); refine je rfl rfl rfl HX GX HB (.agg #[.int .i64 (bM l1 k).f0, .int .i64 (bM l1 k).f1]) [.int .i64 (bM l1 k).f0, .int .i64 (bM l1 k).f1] #[.int .i64 (bM l1 k).f0, .int .i64 (bM l1 k).f1] rfl rfl rfl tX (Nat.le_refl _) (by simp [Value.oneCell']) rfl ?_; clear HB HX; intro w4 HX HB hx; obtain ⟨d0, d1⟩ := qP HX.out; clear hx))
    refine (lX.calls _ _ _ _ _ (WQ _ _ _)).mono ?_; rintro e w5 ⟨rfl, hx⟩; replace HB := fu HB hx; clear hx HX GX
    cases hp : o9 (rd l k) (bM l1 k).f0 (bM l1 k).f1 with
    | true =>
     have HP := aj.mk hp; clear hp
     go_wp2_with fail
     go_roundw
     case rel => exact ⟨k + 1, by omega, by omega, by go_num, ⟨fun i h0 h => by
      by_cases e : i < k
      ·exact hn.out i h0 e
      ·obtain rfl : i = k := by omega
       exact HP.out⟩, HB⟩
     case measure => simp [intOf]; omega
    | false =>
     have HP := aj.mk hp; clear hp
     go_wp2_with fail
     go_ret
     exact ⟨nW (Jp l l1 HL.out k hk0 hlt HP.out).symm, HB.out⟩
   ·have hg : ¬ k < l.length := hlt
    go_wp2_with fail
    go_ret
    exact ⟨nW (Mc l l1 HL.out (fun i h0 h1 => hn.out i h0 (by omega))).symm, HB.out⟩
 ·have HL := aj.mk hl
  go_enter Tryz.func139, Tryz.ntmps139
  have hq : ((l.length : Int) != (l1.length : Int)) = true := by simp; omega
  clear hl
  go_wp2_with fail
  go_ret
  exact ⟨nW (TS l l1 HL.out).symm, HB.out⟩
def qB.f (l0 : List Int) (l1 : List bT) : Option Bool := some (xV l0 l1)
theorem qB.calls (A0 : Option Addr) (c0 : Nat) (l0 : List Int) (A1 : Option Addr) (c1 : Nat) (l1 : List bT) (r : Bool) (w : World) (hr0 : Kd.C (Kd.int .i64) w A0 l0.length l0) (hc0 : l0.length ≤ c0) (hr1 : Kd.C j3 w A1 l1.length l1) (hc1 : l1.length ≤ c1) (h : qB.f l0 l1 = some r) :
  Calls Tryz.prog 139 #[.slice A0 l0.length c0, .slice A1 l1.length c1, .func (.func 140) #[] #[]] w fun e w' => e = .returned (.bool r) ∧ Below w.heap.size w w' := by
 obtain rfl := Option.some.inj h; exact qgO A0 c0 l0 A1 c1 l1 w hr0 hr1
def Ez.f (bJ : Int) (aY : Int) (dS : Int) (dn : List bT) (l1 : List Int) (a2 : Int) : Option (List Int × Int) := (iQ.f bJ aY dS dn).bind fun t244 => (if t244 = true then ((qB.f l1 dn).bind fun t245 => (if t245 = true then ((lX.f a2 bJ aY).bind fun t246 => (if t246 = true then ((lY.f dS l1 a2).bind fun t247 => (some (t247, 0))) else (some (([] : List Int), 2)))) else (some (([] : List Int), 2)))) else (some (([] : List Int), 2)))
theorem Ez.calls (bJ : Int) (aY : Int) (dS : Int) (jE : Option Addr) (jL : Nat) (dn : List bT) (A1 : Option Addr) (c1 : Nat) (l1 : List Int) (a2 : Int) (r1 : List Int) (r2 : Int) (w : World) (pV : Kd.C j3 w jE dn.length dn) (xH : dn.length ≤ jL) (hr1 : Kd.C (Kd.int .i64) w A1 l1.length l1) (hc1 : l1.length ≤ c1) (h : Ez.f bJ aY dS dn l1 a2 = some (r1, r2)) :
  Calls Tryz.prog 53 #[.agg #[.int .i64 bJ, .int .i64 aY, .int .i64 dS, .slice jE dn.length jL], .slice A1 l1.length c1, .int .i64 a2] w fun e w' => ∃ kM : Value, e = .returned (.tuple #[kM, .int .i64 r2]) ∧ Kd.R (Kd.int .i64) 3 w' w.heap.size (fun _ => True) kM r1 ∧ Below w.heap.size w w' := by
 have NH := Tryz.underlying67; have kg := Tryz.underlying37; have Ai := aj.mk pV; have Aj := aj.mk xH; clear pV xH; have HR1 := aj.mk hr1; have uU := aj.mk hc1; clear hr1 hc1; have HB := aj.mk (Below.refl w.heap.size w); have H : ((iQ.f bJ aY dS dn).bind fun t244 => (if t244 = true then ((qB.f l1 dn).bind fun t245 => (if t245 = true then ((lX.f a2 bJ aY).bind fun t246 => (if t246 = true then ((lY.f dS l1 a2).bind fun t247 => (some (t247, 0))) else (some (([] : List Int), 2)))) else (some (([] : List Int), 2)))) else (some (([] : List Int), 2)))) = some (r1, r2) := h; clear h; obtain ⟨t244, A4, H⟩ := lV H
 by_cases c5 : t244 = true
 ·subst c5
  rw [if_pos rfl] at H; obtain ⟨t245, A6, H⟩ := lV H
  by_cases c7 : t245 = true
  ·subst c7
   rw [if_pos rfl] at H; obtain ⟨t246, A8, H⟩ := lV H
   by_cases c9 : t246 = true
   ·subst c9
    rw [if_pos rfl] at H; obtain ⟨t247, JX, H⟩ := lV H; simp only [Option.some.injEq, Prod.mk.injEq] at H; obtain ⟨rfl, rfl⟩ := H
    go_enter Tryz.func53, Tryz.ntmps53
    go_wp2_with (first | ((with_reducible refine av (N := 3) rfl ?_); refine fA 3 #[.int .i64 bJ, .int .i64 aY, .int .i64 dS, .slice jE dn.length jL] 67 HB ?_; clear HB; intro WR JW hg eB WS HB hb; clear hb hg; obtain ⟨yP, Qu, YX, YZ⟩ := Ga eB; have yQ := bf eB 0; have Qv := bf eB 1; have Y0 := bf eB 2; have Y1 := bf eB 3) | ((with_reducible refine aD (f := 138) rfl ?_); refine bW (some 9) rfl rfl Tryz.func138 tX rfl #[.agg #[.int .i64 bJ, .int .i64 aY, .int .i64 dS, .slice jE dn.length jL]] rfl tM ?_; (with_reducible refine (iQ.calls bJ aY dS _ _ dn true _ ?bF ?bG A4.out).mono ?_); (case bF => repeat (first | exact (Kd.ak Ai.out HB.out) | (with_reducible refine Kd.bC ?_ _) | (with_reducible refine Kd.bD ?_ _) | (with_reducible refine Kd.bQ ?_))); (case bG => exact Aj.out); rintro e w13 ⟨rfl, hb⟩; refine ⟨_, rfl, ?_⟩; replace eB := bV eB hb; replace HB := dL HB hb; (try clear hb); obtain ⟨IZ, ZJ, qkd, qke⟩ := Ga eB; have I4 := bf eB 0; have ZK := bf eB 1; have qkf := bf eB 2; have qkg := bf eB 3) | (go_at_call 139; (with_reducible refine (qB.calls _ _ l1 _ _ dn true _ ?bF ?bG ?eG ?eH A6.out).mono ?_); (case bF => repeat (first | exact (Kd.ak HR1.out HB.out) | (with_reducible refine Kd.bC ?_ _) | (with_reducible refine Kd.bD ?_ _) | (with_reducible refine Kd.bQ ?_))); (case bG => exact uU.out); (case eG => repeat (first | exact (Kd.ak Ai.out HB.out) | (with_reducible refine Kd.bC ?_ _) | (with_reducible refine Kd.bD ?_ _) | (with_reducible refine Kd.bQ ?_))); (case eH => exact Aj.out); rintro e ML ⟨rfl, hb⟩; replace eB := bV eB hb; replace HB := dL HB hb; (try clear hb); obtain ⟨uH, ZL, ZM, qkh⟩ := Ga eB; have uI := bf eB 0; have ZN := bf eB 1; have ZO := bf eB 2; have qki := bf eB 3) | (go_at_call 140; (with_reducible refine (lX.calls a2 bJ aY true _ A8.out).mono ?_); rintro e YE ⟨rfl, hb⟩; replace eB := bV eB hb; replace HB := dL HB hb; (try clear hb); obtain ⟨QC, qkj, qkk, qkl⟩ := Ga eB; have QD := bf eB 0; have qkm := bf eB 1; have qkn := bf eB 2; have qko := bf eB 3) | ((with_reducible refine aD (f := 141) rfl ?_); refine bW (some 29) rfl rfl Tryz.func141 tX rfl #[.int .i64 dS, .slice A1 l1.length c1, .int .i64 a2] rfl tM ?_; (with_reducible refine (lY.calls dS _ _ l1 a2 t247 _ ?bF ?bG JX.out).mono ?_); (case bF => repeat (first | exact (Kd.ak HR1.out HB.out) | (with_reducible refine Kd.bC ?_ _) | (with_reducible refine Kd.bD ?_ _) | (with_reducible refine Kd.bQ ?_))); (case bG => exact uU.out); rintro e w19 ⟨qst, rfl, ho0, hb⟩; refine ⟨_, rfl, ?_⟩; have qp0 := aj.mk (Kd.dP ho0 (aX tB)); replace eB := bV eB hb; replace HB := dL HB hb; (try clear hb); (try clear ho0)))
    go_ret2
    exact ⟨_, tF, tR, tB⟩
   ·replace c9 := Bool.eq_false_iff.mpr c9
    subst c9
    have H1 : (some (([] : List Int), 2)) = some (r1, r2) := by rw [if_neg (show ¬ (false = true) by decide)] at H; exact H
    clear H; have H := H1; clear H1; simp only [Option.some.injEq, Prod.mk.injEq] at H; obtain ⟨rfl, rfl⟩ := H
    go_enter Tryz.func53, Tryz.ntmps53
    go_wp2_with (first | ((with_reducible refine av (N := 3) rfl ?_); refine fA 3 #[.int .i64 bJ, .int .i64 aY, .int .i64 dS, .slice jE dn.length jL] 67 HB ?_; clear HB; intro WR w20 hg eB WS HB hb; clear hb hg; obtain ⟨Ee, Y2, Y3, Y4⟩ := Ga eB; have Ef := bf eB 0; have Y5 := bf eB 1; have Y6 := bf eB 2; have Y7 := bf eB 3) | ((with_reducible refine aD (f := 138) rfl ?_); refine bW (some 9) rfl rfl Tryz.func138 tX rfl #[.agg #[.int .i64 bJ, .int .i64 aY, .int .i64 dS, .slice jE dn.length jL]] rfl tM ?_; (with_reducible refine (iQ.calls bJ aY dS _ _ dn true _ ?bF ?bG A4.out).mono ?_); (case bF => repeat (first | exact (Kd.ak Ai.out HB.out) | (with_reducible refine Kd.bC ?_ _) | (with_reducible refine Kd.bD ?_ _) | (with_reducible refine Kd.bQ ?_))); (case bG => exact Aj.out); rintro e w22 ⟨rfl, hb⟩; refine ⟨_, rfl, ?_⟩; replace eB := bV eB hb; replace HB := dL HB hb; (try clear hb); obtain ⟨yH, Iu, P9, Qa⟩ := Ga eB; have yI := bf eB 0; have Iw := bf eB 1; have Qb := bf eB 2; have Qc := bf eB 3) | (go_at_call 139; (with_reducible refine (qB.calls _ _ l1 _ _ dn true _ ?bF ?bG ?eG ?eH A6.out).mono ?_); (case bF => repeat (first | exact (Kd.ak HR1.out HB.out) | (with_reducible refine Kd.bC ?_ _) | (with_reducible refine Kd.bD ?_ _) | (with_reducible refine Kd.bQ ?_))); (case bG => exact uU.out); (case eG => repeat (first | exact (Kd.ak Ai.out HB.out) | (with_reducible refine Kd.bC ?_ _) | (with_reducible refine Kd.bD ?_ _) | (with_reducible refine Kd.bQ ?_))); (case eH => exact Aj.out); rintro e w24 ⟨rfl, hb⟩; replace eB := bV eB hb; replace HB := dL HB hb; (try clear hb); obtain ⟨yS, Zj, qkp, qkq⟩ := Ga eB; have yT := bf eB 0; have Zk := bf eB 1; have qkr := bf eB 2; have qks := bf eB 3) | (go_at_call 140; (with_reducible refine (lX.calls a2 bJ aY false _ A8.out).mono ?_); rintro e w26 ⟨rfl, hb⟩; replace eB := bV eB hb; replace HB := dL HB hb; (try clear hb)))
    go_ret2
    exact ⟨_, tF, by first | exact Kd.lJ _ _ _ _ _ | exact Kd.sU _ _ _ _ _ | exact Kd.sW _ _ _ _ _ | exact Kd.sQ _ _ _ _ _ | exact Kd.sS _ _ _ _ _, tB⟩
  ·replace c7 := Bool.eq_false_iff.mpr c7
   subst c7
   have H1 : (some (([] : List Int), 2)) = some (r1, r2) := by rw [if_neg (show ¬ (false = true) by decide)] at H; exact H
   clear H; have H := H1; clear H1; simp only [Option.some.injEq, Prod.mk.injEq] at H; obtain ⟨rfl, rfl⟩ := H
   go_enter Tryz.func53, Tryz.ntmps53
   go_wp2_with (first | ((with_reducible refine av (N := 3) rfl ?_); refine fA 3 #[.int .i64 bJ, .int .i64 aY, .int .i64 dS, .slice jE dn.length jL] 67 HB ?_; clear HB; intro WR w27 hg eB WS HB hb; clear hb hg; obtain ⟨Jk, qkt, qku, qkv⟩ := Ga eB; have Jl := bf eB 0; have qkw := bf eB 1; have qkx := bf eB 2; have qky := bf eB 3) | ((with_reducible refine aD (f := 138) rfl ?_); refine bW (some 9) rfl rfl Tryz.func138 tX rfl #[.agg #[.int .i64 bJ, .int .i64 aY, .int .i64 dS, .slice jE dn.length jL]] rfl tM ?_; (with_reducible refine (iQ.calls bJ aY dS _ _ dn true _ ?bF ?bG A4.out).mono ?_); (case bF => repeat (first | exact (Kd.ak Ai.out HB.out) | (with_reducible refine Kd.bC ?_ _) | (with_reducible refine Kd.bD ?_ _) | (with_reducible refine Kd.bQ ?_))); (case bG => exact Aj.out); rintro e w29 ⟨rfl, hb⟩; refine ⟨_, rfl, ?_⟩; replace eB := bV eB hb; replace HB := dL HB hb; (try clear hb); obtain ⟨Ag, YP, YQ, YR⟩ := Ga eB; have Ah := bf eB 0; have YS := bf eB 1; have YT := bf eB 2; have YU := bf eB 3) | (go_at_call 139; (with_reducible refine (qB.calls _ _ l1 _ _ dn false _ ?bF ?bG ?eG ?eH A6.out).mono ?_); (case bF => repeat (first | exact (Kd.ak HR1.out HB.out) | (with_reducible refine Kd.bC ?_ _) | (with_reducible refine Kd.bD ?_ _) | (with_reducible refine Kd.bQ ?_))); (case bG => exact uU.out); (case eG => repeat (first | exact (Kd.ak Ai.out HB.out) | (with_reducible refine Kd.bC ?_ _) | (with_reducible refine Kd.bD ?_ _) | (with_reducible refine Kd.bQ ?_))); (case eH => exact Aj.out); rintro e w31 ⟨rfl, hb⟩; replace eB := bV eB hb; replace HB := dL HB hb; (try clear hb)))
   go_ret2
   exact ⟨_, tF, by first | exact Kd.lJ _ _ _ _ _ | exact Kd.sU _ _ _ _ _ | exact Kd.sW _ _ _ _ _ | exact Kd.sQ _ _ _ _ _ | exact Kd.sS _ _ _ _ _, tB⟩
 ·replace c5 := Bool.eq_false_iff.mpr c5
  subst c5
  have H1 : (some (([] : List Int), 2)) = some (r1, r2) := by rw [if_neg (show ¬ (false = true) by decide)] at H; exact H
  clear H; have H := H1; clear H1; simp only [Option.some.injEq, Prod.mk.injEq] at H; obtain ⟨rfl, rfl⟩ := H
  go_enter Tryz.func53, Tryz.ntmps53
  go_wp2_with (first | ((with_reducible refine av (N := 3) rfl ?_); refine fA 3 #[.int .i64 bJ, .int .i64 aY, .int .i64 dS, .slice jE dn.length jL] 67 HB ?_; clear HB; intro WR w32 hg eB WS HB hb; clear hb hg; obtain ⟨qkz, qkA, qkB, qkC⟩ := Ga eB; have qkD := bf eB 0; have qkE := bf eB 1; have qkF := bf eB 2; have qkG := bf eB 3) | ((with_reducible refine aD (f := 138) rfl ?_); refine bW (some 9) rfl rfl Tryz.func138 tX rfl #[.agg #[.int .i64 bJ, .int .i64 aY, .int .i64 dS, .slice jE dn.length jL]] rfl tM ?_; (with_reducible refine (iQ.calls bJ aY dS _ _ dn false _ ?bF ?bG A4.out).mono ?_); (case bF => repeat (first | exact (Kd.ak Ai.out HB.out) | (with_reducible refine Kd.bC ?_ _) | (with_reducible refine Kd.bD ?_ _) | (with_reducible refine Kd.bQ ?_))); (case bG => exact Aj.out); rintro e w34 ⟨rfl, hb⟩; refine ⟨_, rfl, ?_⟩; replace eB := bV eB hb; replace HB := dL HB hb; (try clear hb)))
  go_ret2
  exact ⟨_, tF, by first | exact Kd.lJ _ _ _ _ _ | exact Kd.sU _ _ _ _ _ | exact Kd.sW _ _ _ _ _ | exact Kd.sQ _ _ _ _ _ | exact Kd.sS _ _ _ _ _, tB⟩
end Go.Proofs.YtnpfbjnjdngkhaaGreatDoor.P
namespace Go.Proofs
open Go.Shelf
def Tryz.Jq : Go.Shelf.Ren := ⟨fun | 171 => 198 | 243 => 222 | 246 => 235 | 283 => 244 | 284 => 245 | 285 => 246 | 286 => 247 | 129 => 254 | 317 => 253 | 318 => 255 | 319 => 256 | 320 => 257 | 337 => 260 | 338 => 261 | n => n, fun | 3 => 3 | 9 => 9 | 2 => 2 | 4 => 4 | 171 => 292 | 0 => 0 | 53 => 224 | 37 => 97 | 5 => 5 | 173 => 294 | 212 => 297 | 51 => 222 | 20 => 20 | 213 => 298 | 46 => 175 | 232 => 304 | 233 => 305 | n => n, fun | 17 => 1 | 18 => 4 | 19 => 5 | n => n⟩
theorem Tryz.WT : Go.Proofs.LaysM.n171 Tryz.prog Tryz.Jq := {
 mixed := by kernel_rfl
 f129 := Tryz.func254.trans (congrArg some (by kernel_rfl))
 f171 := Tryz.func198.trans (congrArg some (by kernel_rfl))
 f243 := Tryz.func222.trans (congrArg some (by kernel_rfl))
 f246 := Tryz.func235.trans (congrArg some (by kernel_rfl))
 f283 := Tryz.func244.trans (congrArg some (by kernel_rfl))
 f284 := Tryz.func245.trans (congrArg some (by kernel_rfl))
 f285 := Tryz.func246.trans (congrArg some (by kernel_rfl))
 f286 := Tryz.func247.trans (congrArg some (by kernel_rfl))
 f317 := Tryz.func253.trans (congrArg some (by kernel_rfl))
 f318 := Tryz.func255.trans (congrArg some (by kernel_rfl))
 f319 := Tryz.func256.trans (congrArg some (by kernel_rfl))
 f320 := Tryz.func257.trans (congrArg some (by kernel_rfl))
 f337 := Tryz.func260.trans (congrArg some (by kernel_rfl))
 f338 := Tryz.func261.trans (congrArg some (by kernel_rfl))
 t0 := Tryz.underlying0
 a0 := Tryz.isAgg0
 z0 := Tryz.sizeOf0
 v0 := Tryz.zeroValue0
 t2 := Tryz.underlying2
 a2 := Tryz.isAgg2
 z2 := Tryz.sizeOf2
 v2 := Tryz.zeroValue2
 t3 := Tryz.underlying3
 a3 := Tryz.isAgg3
 z3 := Tryz.sizeOf3
 v3 := Tryz.zeroValue3
 t4 := Tryz.underlying4
 a4 := Tryz.isAgg4
 z4 := Tryz.sizeOf4
 v4 := Tryz.zeroValue4
 t5 := Tryz.underlying5
 a5 := Tryz.isAgg5
 z5 := Tryz.sizeOf5
 v5 := Tryz.zeroValue5
 t9 := Tryz.underlying9
 a9 := Tryz.isAgg9
 z9 := Tryz.sizeOf9
 v9 := Tryz.zeroValue9
 t20 := Tryz.underlying20
 a20 := Tryz.isAgg20
 z20 := Tryz.sizeOf20
 v20 := Tryz.zeroValue20
 t37 := Tryz.underlying97
 a37 := Tryz.isAgg97
 z37 := Tryz.sizeOf97
 v37 := Tryz.zeroValue97
 t46 := Tryz.underlying175
 a46 := Tryz.isAgg175
 z46 := Tryz.sizeOf175
 v46 := Tryz.zeroValue175
 t51 := Tryz.underlying222
 a51 := Tryz.isAgg222
 z51 := Tryz.sizeOf222
 v51 := Tryz.zeroValue222
 t53 := Tryz.underlying224
 a53 := Tryz.isAgg224
 z53 := Tryz.sizeOf224
 v53 := Tryz.zeroValue224
 t171 := Tryz.underlying292
 a171 := Tryz.isAgg292
 z171 := Tryz.sizeOf292
 v171 := Tryz.zeroValue292
 t173 := Tryz.underlying294
 a173 := Tryz.isAgg294
 z173 := Tryz.sizeOf294
 v173 := Tryz.zeroValue294
 t212 := Tryz.underlying297
 a212 := Tryz.isAgg297
 z212 := Tryz.sizeOf297
 v212 := Tryz.zeroValue297
 t213 := Tryz.underlying298
 a213 := Tryz.isAgg298
 z213 := Tryz.sizeOf298
 t232 := Tryz.underlying304
 a232 := Tryz.isAgg304
 z232 := Tryz.sizeOf304
 v232 := Tryz.zeroValue304
 t233 := Tryz.underlying305
 a233 := Tryz.isAgg305
 z233 := Tryz.sizeOf305
 v233 := Tryz.zeroValue305
 g17 := by kernel_rfl
 g18 := by kernel_rfl
 g19 := by kernel_rfl
 i0 := by kernel_rfl
 i2 := by kernel_rfl
 i3 := by kernel_rfl
 i4 := by kernel_rfl
 i5 := by kernel_rfl
 i9 := by kernel_rfl
 i20 := by kernel_rfl
 i37 := by kernel_rfl
 i46 := by kernel_rfl
 i51 := by kernel_rfl
 i53 := by kernel_rfl
 i171 := by kernel_rfl
 i173 := by kernel_rfl
 i212 := by kernel_rfl
 i232 := by kernel_rfl
 i233 := by kernel_rfl
 m17 := by kernel_rfl
 m18 := by kernel_rfl
 m19 := by kernel_rfl }
def Tryz.Dc : Go.Shelf.Ren := ⟨fun | 156 => 197 | 165 => 219 | 166 => 220 | 169 => 221 | 240 => 233 | 241 => 234 | 276 => 242 | 277 => 243 | n => n, fun | 31 => 190 | 9 => 9 | 3 => 3 | 4 => 4 | 0 => 0 | 20 => 20 | 72 => 267 | 76 => 271 | 70 => 265 | 37 => 97 | 75 => 270 | 127 => 283 | 164 => 289 | 5 => 5 | 80 => 273 | n => n, fun | n => n⟩
theorem Tryz.ZP : Go.Proofs.Lays.n156 Tryz.prog Tryz.Dc := {
 mixed := by kernel_rfl
 f156 := Tryz.func197.trans (congrArg some (by kernel_rfl))
 f165 := Tryz.func219.trans (congrArg some (by kernel_rfl))
 f166 := Tryz.func220.trans (congrArg some (by kernel_rfl))
 f169 := Tryz.func221.trans (congrArg some (by kernel_rfl))
 f240 := Tryz.func233.trans (congrArg some (by kernel_rfl))
 f241 := Tryz.func234.trans (congrArg some (by kernel_rfl))
 f276 := Tryz.func242.trans (congrArg some (by kernel_rfl))
 f277 := Tryz.func243.trans (congrArg some (by kernel_rfl))
 t0 := Tryz.underlying0
 a0 := Tryz.isAgg0
 z0 := Tryz.sizeOf0
 v0 := Tryz.zeroValue0
 t3 := Tryz.underlying3
 a3 := Tryz.isAgg3
 z3 := Tryz.sizeOf3
 v3 := Tryz.zeroValue3
 t4 := Tryz.underlying4
 a4 := Tryz.isAgg4
 z4 := Tryz.sizeOf4
 v4 := Tryz.zeroValue4
 t9 := Tryz.underlying9
 a9 := Tryz.isAgg9
 z9 := Tryz.sizeOf9
 v9 := Tryz.zeroValue9
 t20 := Tryz.underlying20
 a20 := Tryz.isAgg20
 z20 := Tryz.sizeOf20
 v20 := Tryz.zeroValue20
 t31 := Tryz.underlying190
 a31 := Tryz.isAgg190
 z31 := Tryz.sizeOf190
 v31 := Tryz.zeroValue190
 t37 := Tryz.underlying97
 a37 := Tryz.isAgg97
 z37 := Tryz.sizeOf97
 v37 := Tryz.zeroValue97
 t70 := Tryz.underlying265
 a70 := Tryz.isAgg265
 z70 := Tryz.sizeOf265
 v70 := Tryz.zeroValue265
 t72 := Tryz.underlying267
 a72 := Tryz.isAgg267
 z72 := Tryz.sizeOf267
 v72 := Tryz.zeroValue267
 t75 := Tryz.underlying270
 a75 := Tryz.isAgg270
 z75 := Tryz.sizeOf270
 v75 := Tryz.zeroValue270
 t76 := Tryz.underlying271
 a76 := Tryz.isAgg271
 z76 := Tryz.sizeOf271
 v76 := Tryz.zeroValue271
 t127 := Tryz.underlying283
 a127 := Tryz.isAgg283
 z127 := Tryz.sizeOf283
 v127 := Tryz.zeroValue283
 t164 := Tryz.underlying289
 a164 := Tryz.isAgg289
 z164 := Tryz.sizeOf289
 v164 := Tryz.zeroValue289 }
theorem Tryz.Bn : Builder.Extra Tryz.prog Tryz.Dc := {
 sizeBuilder := by kernel_rfl
 liesBuilder := by kernel_rfl
 t5 := Tryz.underlying5
 a5 := Tryz.isAgg5
 z5 := Tryz.sizeOf5
 v5 := Tryz.zeroValue5
 infoByte := by kernel_rfl
 cellsByte := by kernel_rfl
 sizeByte := by kernel_rfl
 neB5 := by decide }
open Go.RowKit in
theorem Tryz.strconv_Itoa_small (i : Nat) (hi : i < 100) (w : World) :
    Calls Tryz.prog 198 #[.int .i64 i] w fun e w' => e = .returned (.string ⟨(Lib.decDigits i).toArray⟩) ∧ w' = w := Any.strconv_Itoa_small { Tryz.WT with } i hi w
open Go.RowKit in
theorem Tryz.strings_Join (bk o c : Nat) (xs : List ByteArray) (sep : ByteArray) (w : World) (hcells : ∀ (j : Nat) x, xs[j]? = some x → w.cell? ⟨bk, o + j, none⟩ = some (.string x)) (hbk : bk < w.heap.size) (hN : xs.length ≤ 140737488355328) (hcap : xs.length ≤ c) (hlen : (Lib.join (xs.map (·.data.toList)) sep.data.toList).length ≤ 140737488355328) :
    Calls Tryz.prog 197 #[.slice (some ⟨bk, o, none⟩) xs.length c, .string sep] w fun e w' => e = .returned (.string ⟨(Lib.join (xs.map (·.data.toList)) sep.data.toList).toArray⟩) ∧ Below w.heap.size w w' := Any.strings_Join Tryz.ZP Tryz.Bn bk o c xs sep w hcells hbk hN hcap hlen
end Go.Proofs
namespace Go.Proofs.YtnpfbjnjdngkhaaGreatDoor.P
open Go.RowKit Go.Proofs.YtnpfbjnjdngkhaaGreatDoorW.aW Go.Proofs.YtnpfbjnjdngkhaaGreatDoorW.bZ Go.Proofs.YtnpfbjnjdngkhaaGreatDoorW.dh
attribute [local go_sem] fE fF gU gV eX eY fG fH
def qV.f (bJ : Int) (aY : Int) : Option (List Int) := some (([bJ, aY] : List Int))
theorem qV.calls (bJ : Int) (aY : Int) (r : List Int) (w : World) (h : qV.f bJ aY = some r) :
  Calls Tryz.prog 277 #[.agg #[.int .i64 bJ, .int .i64 aY]] w fun e w' => ∃ kM : Value, e = .returned (kM) ∧ Kd.R (Kd.int .i64) 3 w' w.heap.size (fun _ => True) kM r ∧ Below w.heap.size w w' := by
 have qby := Tryz.underlying234; have HB := aj.mk (Below.refl w.heap.size w); have H : (some (([bJ, aY] : List Int))) = some r := h; clear h; obtain ⟨qmz, Md⟩ : ∃ y_ : List Int, y_ = (([bJ, aY] : List Int)) := ⟨_, rfl⟩
 replace H : (some qmz) = some r := by first | (rw [Md]; with_reducible exact H) | (have iY := (Option.bind_some _ _).symm.trans H; rw [Md]; with_reducible exact iY) | (have iY := (Option.bind_some _ _).symm.trans H; with_reducible exact iY) | with_reducible exact H | (rw [Md]; exact H) | exact H
 have qbz := aj.mk Md; clear Md; obtain rfl := Option.some.inj H
 go_enter Tryz.func277, Tryz.ntmps277
 go_wp2_with (first | ((with_reducible refine av (N := 1) rfl ?_); refine fA 1 #[.int .i64 bJ, .int .i64 aY] 234 HB ?_; clear HB; intro qp1 w2 hg Me qp2 HB hb; clear hb hg; obtain ⟨Jr, Js⟩ := bc2 Me; have Jt := bf Me 0; have Ju := bf Me 1) | ((with_reducible refine av (N := 7) rfl ?_); refine Kd.qJ (Kd.int .i64) _ 3 ?hg (N := 7) ?hd (xs := ([bJ, aY] : List Int)) (inner := [.int .i64 bJ, .int .i64 aY]) (ok := fun _ => True) (nE := fun _ => True) ?hr ?hp (fun _ hk => hk) trivial (Below.refl _ _) (Nat.le_refl _) (by simp) ?_; (case hd => rfl); (case hg => rfl); (case hr => first | (go_simp; done) | (go_simp; rfl)); (case hp => exact (dH.one (show Kd.M (Kd.int .i64) _ _ _ bJ [.int .i64 bJ] from rfl) (dH.one (show Kd.M (Kd.int .i64) _ _ _ aY [.int .i64 aY] from rfl) (dH.none _ _)))); intro qsu w4 FU hb tq iy; clear tq iy; (first | rw [← qbz.out] at FU | (simp only [Int.reduceToNat] at FU; rw [← qbz.out] at FU)); have qp3 := aj.mk (Kd.dP FU (aX tB)); replace Me := bV Me hb; replace HB := dL HB hb; clear hb FU))
 go_ret
 exact ⟨_, tF, tR, tB⟩
def dO.l0 : Nat → List Int → List bT → Int → Int → Option (List Int)
 | 0, _, _, _, _ => none
 | k + 1, x3, zF, XZ, MK => if MK < XZ then (if 0 ≤ MK then (if MK < (zF.length : Int) then ((some (([(bM zF MK).f0, (bM zF MK).f1] : List Int) : List Int)).bind fun Jv => (if x3.length + Jv.length < 17592186044416 then (dO.l0 k (x3 ++ Jv) zF XZ (wrap64 (MK + 1))) else (none))) else (none)) else (none)) else (some x3)
def dO.f (k : Nat) (au : List bT) (aY : Int) : Option (List Int) := dO.l0 k (([aY] : List Int)) au (au.length : Int) 0
theorem dO.calls (k : Nat) (bB : Option Addr) (aZ : Nat) (au : List bT) (aY : Int) (r : List Int) (w : World) (dx : Kd.C j3 w bB au.length au) (dI : au.length ≤ aZ) (h : dO.f k au aY = some r) :
  Calls Tryz.prog 278 #[.agg #[.slice bB au.length aZ, .int .i64 aY]] w fun e w' => ∃ kM : Value, e = .returned (kM) ∧ Kd.R (Kd.int .i64) 3 w' w.heap.size (fun _ => True) kM r ∧ Below w.heap.size w w' := by
 have qbA := Tryz.underlying236; have kg := Tryz.underlying37; have dJ := aj.mk dx; have eu := aj.mk dI; clear dx dI; have HB := aj.mk (Below.refl w.heap.size w); have H : (dO.l0 k (([aY] : List Int)) au (au.length : Int) 0) = some r := h; clear h; obtain ⟨qgP, Mf⟩ : ∃ y_ : List Int, y_ = (([aY] : List Int)) := ⟨_, rfl⟩
 replace H : (dO.l0 k qgP au (au.length : Int) 0) = some r := by first | (rw [Mf]; with_reducible exact H) | (have iY := (Option.bind_some _ _).symm.trans H; rw [Mf]; with_reducible exact iY) | (have iY := (Option.bind_some _ _).symm.trans H; with_reducible exact iY) | with_reducible exact H | (rw [Mf]; exact H) | exact H
 have qbB := aj.mk Mf; clear Mf; have H' := aj.mk H; clear H
 go_enter Tryz.func278, Tryz.ntmps278
 go_wp2_with (first | ((with_reducible refine av (N := 1) rfl ?_); refine fA 1 #[.slice bB au.length aZ, .int .i64 aY] 236 HB ?_; clear HB; intro WU w2 hg qM qp4 HB hb; clear hb hg; obtain ⟨Jr, Js⟩ := bc2 qM; have Jt := bf qM 0; have Ju := bf qM 1) | ((with_reducible refine av (N := 9) rfl ?_); refine Kd.qJ (Kd.int .i64) _ 3 ?hg (N := 9) ?hd (xs := ([aY] : List Int)) (inner := [.int .i64 aY]) (ok := fun _ => True) (nE := fun _ => True) ?hr ?hp (fun _ hk => hk) trivial (Below.refl _ _) (Nat.le_refl _) (by simp) ?_; (case hd => rfl); (case hg => rfl); (case hr => first | (go_simp; done) | (go_simp; rfl)); (case hp => exact (dH.one (show Kd.M (Kd.int .i64) _ _ _ aY [.int .i64 aY] from rfl) (dH.none _ _))); intro qsv w4 FU hb tq iy; clear tq iy; (first | rw [← qbB.out] at FU | (simp only [Int.reduceToNat] at FU; rw [← qbB.out] at FU)); have qp5 := aj.mk (Kd.dP FU (aX tB)); replace qM := bV qM hb; replace HB := dL HB hb; clear hb FU; obtain ⟨IW, qdY⟩ := bc2 qM; have IX := bf qM 0; have qdZ := bf qM 1))
 go_loopg [3, 14] k (fun kq v3 v14 w' => ∃ (dM : List Int) (jq : Int), v14 = .int .i64 jq ∧ aj (dO.l0 kq dM au (au.length : Int) jq = some r) ∧ aj (kq ≤ k) ∧ aj (Kd.R (Kd.int .i64) 3 w' w.heap.size (fun _ => True) v3 dM) ∧ aj (w'.heap[WU]? = some (.cells #[(.slice bB au.length aZ), .int .i64 aY] 236 (0, 0))) ∧ aj (Below w.heap.size w w'))
 case atStart => exact ⟨(qgP), (0), tS, H', ⟨Nat.le_refl _⟩, ⟨tR⟩, ⟨tK⟩, ⟨tB⟩⟩
 case round =>
  clear H'
  try clear c2
  try clear p2
  try clear Jr
  try clear Js
  try clear IW
  try clear qdY
  try clear Jt
  try clear Ju
  try clear IX
  try clear qdZ
  obtain ⟨dM, jq, rfl, HA, ng, pU, qM, HB⟩ := hrel
  cases gk with
  | zero => exact absurd HA.out (by simp [dO.l0])
  | succ k1 =>
   have H := HA.out; clear HA; simp only [dO.l0] at H
   by_cases c7 : jq < (au.length : Int)
   ·rw [if_pos c7] at H
    have xu : decide (jq < (au.length : Int)) = true := decide_eq_true c7; clear c7
    by_cases c8 : 0 ≤ jq
    ·rw [if_pos c8] at H
     have E8 : decide (0 ≤ jq) = true := decide_eq_true c8; clear c8
     by_cases c9 : jq < (au.length : Int)
     ·rw [if_pos c9] at H
      have Kg : decide (jq < (au.length : Int)) = true := decide_eq_true c9; clear c9; obtain ⟨Jv, Mg⟩ : ∃ y_ : List Int, y_ = (([(bM au jq).f0, (bM au jq).f1] : List Int)) := ⟨_, rfl⟩
      replace H : (if dM.length + Jv.length < 17592186044416 then (dO.l0 k1 (dM ++ Jv) au (au.length : Int) (wrap64 (jq + 1))) else (none)) = some r := by first | (rw [Mg]; with_reducible exact H) | (have iY := (Option.bind_some _ _).symm.trans H; rw [Mg]; with_reducible exact iY) | (have iY := (Option.bind_some _ _).symm.trans H; with_reducible exact iY) | with_reducible exact H | (rw [Mg]; exact H) | exact H
      have qbC := aj.mk Mg; clear Mg
      by_cases c10 : dM.length + Jv.length < 17592186044416
      ·rw [if_pos c10] at H
       have qgQ := aj.mk c10; clear c10; obtain ⟨qgR, Mh⟩ : ∃ y_ : List Int, y_ = (dM ++ Jv) := ⟨_, rfl⟩
       replace H : (dO.l0 k1 qgR au (au.length : Int) (wrap64 (jq + 1))) = some r := by first | (rw [Mh]; with_reducible exact H) | (have iY := (Option.bind_some _ _).symm.trans H; rw [Mh]; with_reducible exact iY) | (have iY := (Option.bind_some _ _).symm.trans H; with_reducible exact iY) | with_reducible exact H | (rw [Mh]; exact H) | exact H
       have qgS := aj.mk Mh; clear Mh; have H' := aj.mk H; clear H; have qd0 : 0 ≤ (jq : Int) := of_decide_eq_true tA; have qd1 : jq < (au.length : Int) := of_decide_eq_true tA; obtain ⟨qbD, e285, Sc, Sd⟩ := mD dJ.out jq qd0 qd1
       cases e285
       replace Sc := dz HB Sc; replace Sd := dz HB Sd; replace qd0 := eq_true qd0; replace qd1 := eq_true qd1
       go_wp2_with (first | ((with_reducible refine av (N := 5) rfl ?_); refine fA 5 #[.int .i64 0, .int .i64 0] 37 HB ?_; clear HB; intro Ht JW hg Bo qp6 HB hb; replace pU := kH pU hb; have Cm := Gb qM hg; have TT := Gc qM hg; replace qM := bV qM hb; clear hb hg; have qp7 := TT.out; have qp8 := Cm.out; obtain ⟨wD, Ec⟩ := bc2 Bo; have wE := bf Bo 0; have Ed := bf Bo 1) | ((with_reducible refine av (N := 23) rfl ?_); refine Kd.qJ (Kd.int .i64) _ 3 ?hg (N := 23) ?hd (xs := ([(bM au jq).f0, (bM au jq).f1] : List Int)) (inner := [.int .i64 ((bM au jq).f0), .int .i64 ((bM au jq).f1)]) (ok := fun _ => True) (nE := fun _ => True) ?hr ?hp (fun _ hk => hk) trivial (Below.refl _ _) (Nat.le_refl _) (by simp) ?_; (case hd => rfl); (case hg => rfl); (case hr => first | (go_simp; done) | (go_simp; rfl)); (case hp => exact (dH.one (show Kd.M (Kd.int .i64) _ _ _ ((bM au jq).f0) [.int .i64 ((bM au jq).f0)] from rfl) (dH.one (show Kd.M (Kd.int .i64) _ _ _ ((bM au jq).f1) [.int .i64 ((bM au jq).f1)] from rfl) (dH.none _ _)))); intro qsw Uo TU hb tq iy; clear tq iy; (first | rw [← qbC.out] at TU | (simp only [Int.reduceToNat] at TU; rw [← qbC.out] at TU)); have WV := aj.mk (Kd.dP (Kd.mY TU (Kd.pE (by (with_reducible repeat (first | apply Kd.ku | apply Kd.kC | apply Kd.j5)); exact (Kd.fV (Kd.jQ (p := ⟨Ht, 1, none⟩) (Kd.jQ (p := ⟨Ht, 0, none⟩) (Kd.jA pU.out Bo.out (by decide)) (fun _ hk => hk.2) (.int .i64 ((bM au jq).f0))) (fun _ hk => hk.2) (.int .i64 ((bM au jq).f1))) (fun _ h_ => h_.1))))) (aX tB)); replace pU := aj.mk (Kd.jl (by (with_reducible repeat (first | apply Kd.ku | apply Kd.kC | apply Kd.j5)); exact (Kd.fV (Kd.jQ (p := ⟨Ht, 1, none⟩) (Kd.jQ (p := ⟨Ht, 0, none⟩) (Kd.jA pU.out Bo.out (by decide)) (fun _ hk => hk.2) (.int .i64 ((bM au jq).f0))) (fun _ hk => hk.2) (.int .i64 ((bM au jq).f1))) (fun _ h_ => h_.1))) (Kd.gH TU) hb); replace qM := aj.mk (aG (g := WU) (o := .cells #[.slice (some qbD) au.length aZ, .int .i64 aY] 236 (0, 0)) (by (with_reducible repeat (first | refine aM ?_ _ | refine aN ?_ | refine aJ ?_ _)); refine kN ?_ Cm.out _; (with_reducible repeat (first | refine aM ?_ _ | refine aN ?_ | refine aJ ?_ _)); refine kN ?_ Cm.out _; (with_reducible repeat (first | refine aM ?_ _ | refine aN ?_ | refine aJ ?_ _)); exact qM.out) hb); replace Bo := aj.mk (aG (g := Ht) (o := .cells #[.int .i64 ((bM au jq).f0), .int .i64 ((bM au jq).f1)] 37 (0, 0)) (by (with_reducible repeat (first | refine aM ?_ _ | refine aN ?_ | refine aJ ?_ _)); refine dU (cs := #[.int .i64 ((bM au jq).f0), .int .i64 0]) ?_ 1 _ rfl; (with_reducible repeat (first | refine aM ?_ _ | refine aN ?_ | refine aJ ?_ _)); refine dU (cs := #[.int .i64 0, .int .i64 0]) ?_ 0 _ rfl; (with_reducible repeat (first | refine aM ?_ _ | refine aN ?_ | refine aJ ?_ _)); exact Bo.out) hb); replace HB := dL HB hb; clear hb TU; obtain ⟨VY, VZ, NW⟩ := Kd.gF WV.out; subst NW) | ((with_reducible refine eD (b := .append) (xs := #[.tmp 18, .tmp 23]) rfl ?_); at_builtin; refine Kd.uQ (Kd.int .i64) (w0 := w) w.heap.size rfl (.tmp 18) (.tmp 23) 47 3 (.int .i64 0) 8 rfl Tryz.underlying47 info3 rfl (by decide) (by omega) u3 dM Jv _ _ _ (fun k_ => some k_ ≠ (.slice VY Jv.length VZ : Value).ownBlock) (fun _ => False) rfl rfl ?aO ?aR (fun _ _ h => h) (fun _ h => h.elim) ?aF ?aB ?aS ?aL ?_; (case aR => repeat (first | exact (Kd.cO WV.out).2.2 | (with_reducible refine Kd.bC ?_ _) | (with_reducible refine Kd.bD ?_ _) | (with_reducible refine Kd.bQ ?_))); (case aB => exact tB); (case aF => exact (fun k_ hk => Kd.fresh' (Kd.pE tR) k_ hk)); (case aO => exact (by (with_reducible repeat (first | apply Kd.ku | apply Kd.kC | apply Kd.j5)); exact Kd.fV pU.out (fun _ hk => hk.2))); (case aS => exact (aX tB)); (case aL => have := qgQ.out; omega); intro qsx w16 ho hb hg hat; rw [← qgS.out] at ho; replace qM := aj.mk (jw (g := WU) (o := .cells #[.slice (some qbD) au.length aZ, .int .i64 aY] 236 (0, 0)) tK hg (Kd.Dr pU.out qM.out (by decide))); replace Bo := aj.mk (jw (g := Ht) (o := .cells #[.int .i64 ((bM au jq).f0), .int .i64 ((bM au jq).f1)] 37 (0, 0)) tK hg (Kd.Dr pU.out Bo.out (by decide))); replace WV := aj.mk (Kd.PE (ok := (fun _ => True)) tR hg hat); replace HB := aj.mk (hb); have qgT := aj.mk (ho); clear pU; clear ho hb hg hat))
       go_roundg k1
       case measure => have := ng.out; omega
       case rel => exact ⟨(qgR), (wrap64 (jq + 1)), tS, H', ⟨by have := ng.out; omega⟩, ⟨by (with_reducible repeat (first | apply Kd.ku | apply Kd.kC | apply Kd.j5)); exact Kd.fV qgT.out (fun _ hk => trivial)⟩, ⟨tK⟩, ⟨tB⟩⟩
      ·rw [if_neg c10] at H
       exact absurd H (by simp)
     ·rw [if_neg c9] at H
      exact absurd H (by simp)
    ·rw [if_neg c8] at H
     exact absurd H (by simp)
   ·rw [if_neg c7] at H
    have xu : decide (jq < (au.length : Int)) = false := decide_eq_false c7; clear c7; obtain rfl := Option.some.inj H
    go_wp2
    go_ret
    exact ⟨_, tF, tR, tB⟩
def qW.f (au : List bg) (aY : Int) (dS : Int) : Option (List Int) := some (([aY, dS, (au.length : Int)] : List Int))
theorem qW.calls (bB : Option Addr) (aZ : Nat) (au : List bg) (aY : Int) (dS : Int) (r : List Int) (w : World) (dx : Kd.C eT w bB au.length au) (dI : au.length ≤ aZ) (h : qW.f au aY dS = some r) :
  Calls Tryz.prog 279 #[.agg #[.slice bB au.length aZ, .int .i64 aY, .int .i64 dS]] w fun e w' => ∃ kM : Value, e = .returned (kM) ∧ Kd.R (Kd.int .i64) 3 w' w.heap.size (fun _ => True) kM r ∧ Below w.heap.size w w' := by
 have qbE := Tryz.underlying238; have dJ := aj.mk dx; have eu := aj.mk dI; clear dx dI; have HB := aj.mk (Below.refl w.heap.size w); have H : (some (([aY, dS, (au.length : Int)] : List Int))) = some r := h; clear h; obtain ⟨qmA, Mi⟩ : ∃ y_ : List Int, y_ = (([aY, dS, (au.length : Int)] : List Int)) := ⟨_, rfl⟩
 replace H : (some qmA) = some r := by first | (rw [Mi]; with_reducible exact H) | (have iY := (Option.bind_some _ _).symm.trans H; rw [Mi]; with_reducible exact iY) | (have iY := (Option.bind_some _ _).symm.trans H; with_reducible exact iY) | with_reducible exact H | (rw [Mi]; exact H) | exact H
 have qbF := aj.mk Mi; clear Mi; obtain rfl := Option.some.inj H
 go_enter Tryz.func279, Tryz.ntmps279
 go_wp2_with (first | ((with_reducible refine av (N := 1) rfl ?_); refine fA 1 #[.slice bB au.length aZ, .int .i64 aY, .int .i64 dS] 238 HB ?_; clear HB; intro qp9 w2 hg Hu qqa HB hb; clear hb hg; obtain ⟨Jr, Js, qd2⟩ := bc3 Hu; have Jt := bf Hu 0; have Ju := bf Hu 1; have qd3 := bf Hu 2) | ((with_reducible refine av (N := 13) rfl ?_); refine Kd.qJ (Kd.int .i64) _ 3 ?hg (N := 13) ?hd (xs := ([aY, dS, (au.length : Int)] : List Int)) (inner := [.int .i64 aY, .int .i64 dS, .int .i64 (au.length : Int)]) (ok := fun _ => True) (nE := fun _ => True) ?hr ?hp (fun _ hk => hk) trivial (Below.refl _ _) (Nat.le_refl _) (by simp) ?_; (case hd => rfl); (case hg => rfl); (case hr => first | (go_simp; done) | (go_simp; rfl)); (case hp => exact (dH.one (show Kd.M (Kd.int .i64) _ _ _ aY [.int .i64 aY] from rfl) (dH.one (show Kd.M (Kd.int .i64) _ _ _ dS [.int .i64 dS] from rfl) (dH.one (show Kd.M (Kd.int .i64) _ _ _ (au.length : Int) [.int .i64 (au.length : Int)] from rfl) (dH.none _ _))))); intro qsy w4 FU hb tq iy; clear tq iy; (first | rw [← qbF.out] at FU | (simp only [Int.reduceToNat] at FU; rw [← qbF.out] at FU)); have qqb := aj.mk (Kd.dP FU (aX tB)); replace Hu := bV Hu hb; replace HB := dL HB hb; clear hb FU))
 go_ret
 exact ⟨_, tF, tR, tB⟩
def qC.f (bJ : Int) (aY : Int) (dS : Int) (FV : Int) : Option (List Int) := some (([bJ, aY, dS, FV] : List Int))
theorem qC.calls (bJ : Int) (aY : Int) (dS : Int) (FV : Int) (r : List Int) (w : World) (h : qC.f bJ aY dS FV = some r) :
  Calls Tryz.prog 280 #[.agg #[.int .i64 bJ, .int .i64 aY, .int .i64 dS, .int .i64 FV]] w fun e w' => ∃ kM : Value, e = .returned (kM) ∧ Kd.R (Kd.int .i64) 3 w' w.heap.size (fun _ => True) kM r ∧ Below w.heap.size w w' := by
 have qbG := Tryz.underlying240; have HB := aj.mk (Below.refl w.heap.size w); have H : (some (([bJ, aY, dS, FV] : List Int))) = some r := h; clear h; obtain ⟨qmB, Mj⟩ : ∃ y_ : List Int, y_ = (([bJ, aY, dS, FV] : List Int)) := ⟨_, rfl⟩
 replace H : (some qmB) = some r := by first | (rw [Mj]; with_reducible exact H) | (have iY := (Option.bind_some _ _).symm.trans H; rw [Mj]; with_reducible exact iY) | (have iY := (Option.bind_some _ _).symm.trans H; with_reducible exact iY) | with_reducible exact H | (rw [Mj]; exact H) | exact H
 have qbH := aj.mk Mj; clear Mj; obtain rfl := Option.some.inj H
 go_enter Tryz.func280, Tryz.ntmps280
 go_wp2_with (first | ((with_reducible refine av (N := 1) rfl ?_); refine fA 1 #[.int .i64 bJ, .int .i64 aY, .int .i64 dS, .int .i64 FV] 240 HB ?_; clear HB; intro qqc w2 hg FW qqd HB hb; clear hb hg; obtain ⟨Jr, Js, qd2, qmC⟩ := Ga FW; have Jt := bf FW 0; have Ju := bf FW 1; have qd3 := bf FW 2; have qmD := bf FW 3) | ((with_reducible refine av (N := 17) rfl ?_); refine Kd.qJ (Kd.int .i64) _ 3 ?hg (N := 17) ?hd (xs := ([bJ, aY, dS, FV] : List Int)) (inner := [.int .i64 bJ, .int .i64 aY, .int .i64 dS, .int .i64 FV]) (ok := fun _ => True) (nE := fun _ => True) ?hr ?hp (fun _ hk => hk) trivial (Below.refl _ _) (Nat.le_refl _) (by simp) ?_; (case hd => rfl); (case hg => rfl); (case hr => first | (go_simp; done) | (go_simp; rfl)); (case hp => exact (dH.one (show Kd.M (Kd.int .i64) _ _ _ bJ [.int .i64 bJ] from rfl) (dH.one (show Kd.M (Kd.int .i64) _ _ _ aY [.int .i64 aY] from rfl) (dH.one (show Kd.M (Kd.int .i64) _ _ _ dS [.int .i64 dS] from rfl) (dH.one (show Kd.M (Kd.int .i64) _ _ _ FV [.int .i64 FV] from rfl) (dH.none _ _)))))); intro qsz w4 FU hb tq iy; clear tq iy; (first | rw [← qbH.out] at FU | (simp only [Int.reduceToNat] at FU; rw [← qbH.out] at FU)); have qqe := aj.mk (Kd.dP FU (aX tB)); replace FW := bV FW hb; replace HB := dL HB hb; clear hb FU))
 go_ret
 exact ⟨_, tF, tR, tB⟩
end Go.Proofs.YtnpfbjnjdngkhaaGreatDoor.P
namespace Go.Proofs.YtnpfbjnjdngkhaaGreatDoor.P
open Go.RowKit Go.Proofs.YtnpfbjnjdngkhaaGreatDoorW.aW Go.Proofs.YtnpfbjnjdngkhaaGreatDoorW.bZ Go.Proofs.YtnpfbjnjdngkhaaGreatDoorW.dh
attribute [local go_sem] fE fF gU gV eX eY fG fH
attribute [local go_sem] Oper.semAt_some
def gN : ByteArray := ⟨#[104, 111, 117, 115, 101]⟩
def oI : ByteArray := ⟨#[100, 121, 101]⟩
def iD : ByteArray := ⟨#[115, 116, 111, 99, 107]⟩
def jV : ByteArray := ⟨#[98, 97, 116, 104]⟩
theorem uJ (w : World) : Calls Tryz.prog 216 #[] w fun e w' => e = .returned (.agg #[.string gN, .string oI, .string iD, .string jV]) ∧ Below w.heap.size w w' := by
 have HX := Bx.nil w; have qgU := Tryz.underlying259
 go_enter Tryz.func216, Tryz.ntmps216
 go_wp2_with (first | ((with_reducible refine av (N := 0) rfl ?_); refine newX rfl rfl HX (cs := #[.string ⟨#[]⟩, .string ⟨#[]⟩, .string ⟨#[]⟩, .string ⟨#[]⟩]) (t := 259) tG ?_; clear HX; intro g0 w0 HX hx hz; clear hx hz) | ((with_reducible refine bE (t := 259) (p := 0) rfl ?_); refine kL rfl rfl rfl HX 0 rfl (i := 0) (.agg #[.string gN, .string oI, .string iD, .string jV]) [.string gN, .string oI, .string iD, .string jV] #[.string gN, .string oI, .string iD, .string jV] rfl rfl rfl tX (by simp) (by simp [Value.oneCell']) rfl ?_; clear HX; intro w9 HX hx; clear hx; dsimp only [List.set] at HX))
 refine bodyPost_ret (results_cell_row rfl _ _ g0 259 #[.string gN, .string oI, .string iD, .string jV] (0, 0) _ rfl (HX.gb 0 rfl) qgU (by rfl) tX) rfl ?_; exact ⟨rfl, HX.below⟩
def iK (n : Int) : ByteArray := ⟨(Lib.itoa n).toArray⟩
def iN (name : ByteArray) (ns : List Int) : ByteArray := ns.foldl (fun acc n => acc ++ ((⟨#[32]⟩ : ByteArray) ++ iK n)) name
theorem nA (name : ByteArray) (ns : List Int) (n : Int) : iN name (ns ++ [n]) = iN name ns ++ ((⟨#[32]⟩ : ByteArray) ++ iK n) := by simp [iN]
def Writes (w : World) (ns : List Int) : Prop := ∀ n ∈ ns, ∀ W, Below w.heap.size w W → Calls Tryz.prog 198 #[.int .i64 n] W fun e w' => e = .returned (.string (iK n)) ∧ Below W.heap.size W w'
theorem ZQ (v : Value) (ns : List Int) (w : World) (hn : ns.length ≤ 1000) (hI : Writes w ns) (hs : ∀ m, m ≤ ns.length → (iN gN (ns.take m)).size ≤ 100000)
  (hM : ∀ W, Below w.heap.size w W → Calls Tryz.prog 277 #[v] W fun e w' => ∃ kM : Value, e = .returned (kM) ∧ Kd.R (Kd.int .i64) 3 w' W.heap.size (fun _ => True) kM ns ∧ Below W.heap.size W w') :
  Calls Tryz.prog 196 #[.iface 234 v] w fun e w' => e = .returned (.string (iN gN ns)) ∧ Below w.heap.size w w' := by
 have HB := aj.mk (Below.refl w.heap.size w)
 have O0 : ∀ W, (Instr.typeAssert (.iface 234 v) 263 236 true).run Tryz.prog W = .ok (.tuple #[.agg #[.slice none 0 0, .int .i64 0], .bool false]) W := fun W => by kernel_rfl
 have WW : ∀ W, (Instr.typeAssert (.iface 234 v) 263 238 true).run Tryz.prog W = .ok (.tuple #[.agg #[.slice none 0 0, .int .i64 0, .int .i64 0], .bool false]) W := fun W => by kernel_rfl
 have qd4 : ∀ W, (Instr.typeAssert (.iface 234 v) 263 240 true).run Tryz.prog W = .ok (.tuple #[.agg #[.int .i64 0, .int .i64 0, .int .i64 0, .int .i64 0], .bool false]) W := fun W => by kernel_rfl
 have hme : ∀ W, (method 419 234 v "nacre/dye.numbers").run Tryz.prog W = .ok (277, v) W := fun W => by kernel_rfl
 have hi0 : ∀ W, (Instr.index 259 (.agg #[.string gN, .string oI, .string iD, .string jV]) (.int .i64 0)).run Tryz.prog W = .ok (.string gN) W := fun W => by kernel_rfl
 have hi1 : ∀ W, (Instr.index 259 (.agg #[.string gN, .string oI, .string iD, .string jV]) (.int .i64 1)).run Tryz.prog W = .ok (.string oI) W := fun W => by kernel_rfl
 have hi2 : ∀ W, (Instr.index 259 (.agg #[.string gN, .string oI, .string iD, .string jV]) (.int .i64 2)).run Tryz.prog W = .ok (.string iD) W := fun W => by kernel_rfl
 have hi3 : ∀ W, (Instr.index 259 (.agg #[.string gN, .string oI, .string iD, .string jV]) (.int .i64 3)).run Tryz.prog W = .ok (.string jV) W := fun W => by kernel_rfl
 go_enter Tryz.func196, Tryz.ntmps196
 go_wp2_with (first | (go_at_call 216; refine (uJ _).mono ?_; rintro e w1 ⟨rfl, hx⟩; replace HB := fu HB hx; clear hx) | (go_at_call 277; refine (hM _ HB.out).mono ?_; rintro e w1 ⟨v0, rfl, hr, hx⟩; obtain ⟨A1, c1, rfl, hl1, hr⟩ := Kd.fO hr; have HR := aj.mk hr; replace HB := fu HB hx; clear hx hr hM))
 have HB1 := aj.mk (Below.refl w1.heap.size w1)
 have hn1 : ns.length ≤ 9223372036854775807 := by omega
 go_loopw [3, 5, 27] (fun v3 _ v27 W => ∃ i : Nat, i ≤ ns.length ∧ v27 = .int .i64 i ∧ v3 = .string (iN gN (ns.take i)) ∧ aj (Below w1.heap.size w1 W)) (fun _ _ v27 _ => ns.length - (intOf v27).toNat)
 case atStart => exact ⟨0, by omega, rfl, rfl, HB1⟩
 case round =>
  clear HB1; obtain ⟨i, hi, rfl, rfl, HB1⟩ := hrel
  by_cases hlt : i < ns.length
  ·obtain ⟨ad, rfl, d1⟩ := Kd.iH (Kd.ak HR.out HB1.out) i (by omega) (by omega)
   rw [Int.toNat_natCast, qR hlt] at d1
   have htk : ns.take (i + 1) = ns.take i ++ [ns[i]] := by rw [List.take_succ_eq_append_getElem hlt]
   have HT := aj.mk htk
   have hz : (iN gN (ns.take i)).size + (1 + (iK ns[i]).size) ≤ 100000 := by
    have h1 := hs (i + 1) (by omega); rw [htk, nA, ByteArray.size_append, ByteArray.size_append] at h1; exact h1
   have hz1 : ¬ 9223372036854775807 < 1 + (iK ns[i]).size := by omega
   have hz2 : ¬ 9223372036854775807 < (iN gN (ns.take i)).size + (1 + (iK ns[i]).size) := by omega
   have HZ := aj.mk hz; clear hz htk
   go_wp2_with (go_at_call 198; refine (hI _ (List.getElem_mem hlt) _ (aV HB.out HB1.out)).mono ?_; rintro e w2 ⟨rfl, hx⟩; replace HB1 := fu HB1 hx; clear hx d1)
   case roundEnd => exact ⟨⟨i + 1, by omega, by simp, by rw [HT.out, nA], HB1⟩, by simp [intOf]; omega⟩
  ·go_wp2
   obtain rfl : i = ns.length := by omega
   rw [List.take_length]
   go_ret
   exact ⟨rfl, aV HB.out HB1.out⟩
theorem ZR (v : Value) (ns : List Int) (w : World) (hn : ns.length ≤ 1000) (hI : Writes w ns) (hs : ∀ m, m ≤ ns.length → (iN oI (ns.take m)).size ≤ 100000)
  (hM : ∀ W, Below w.heap.size w W → Calls Tryz.prog 278 #[v] W fun e w' => ∃ kM : Value, e = .returned (kM) ∧ Kd.R (Kd.int .i64) 3 w' W.heap.size (fun _ => True) kM ns ∧ Below W.heap.size W w') :
  Calls Tryz.prog 196 #[.iface 236 v] w fun e w' => e = .returned (.string (iN oI ns)) ∧ Below w.heap.size w w' := by
 have HB := aj.mk (Below.refl w.heap.size w)
 have O0 : ∀ W, (Instr.typeAssert (.iface 236 v) 263 236 true).run Tryz.prog W = .ok (.tuple #[v, .bool true]) W := fun W => by kernel_rfl
 have hme : ∀ W, (method 419 236 v "nacre/dye.numbers").run Tryz.prog W = .ok (278, v) W := fun W => by kernel_rfl
 have hi0 : ∀ W, (Instr.index 259 (.agg #[.string gN, .string oI, .string iD, .string jV]) (.int .i64 0)).run Tryz.prog W = .ok (.string gN) W := fun W => by kernel_rfl
 have hi1 : ∀ W, (Instr.index 259 (.agg #[.string gN, .string oI, .string iD, .string jV]) (.int .i64 1)).run Tryz.prog W = .ok (.string oI) W := fun W => by kernel_rfl
 have hi2 : ∀ W, (Instr.index 259 (.agg #[.string gN, .string oI, .string iD, .string jV]) (.int .i64 2)).run Tryz.prog W = .ok (.string iD) W := fun W => by kernel_rfl
 have hi3 : ∀ W, (Instr.index 259 (.agg #[.string gN, .string oI, .string iD, .string jV]) (.int .i64 3)).run Tryz.prog W = .ok (.string jV) W := fun W => by kernel_rfl
 go_enter Tryz.func196, Tryz.ntmps196
 go_wp2_with (first | (go_at_call 216; refine (uJ _).mono ?_; rintro e w1 ⟨rfl, hx⟩; replace HB := fu HB hx; clear hx) | (go_at_call 278; refine (hM _ HB.out).mono ?_; rintro e w1 ⟨v0, rfl, hr, hx⟩; obtain ⟨A1, c1, rfl, hl1, hr⟩ := Kd.fO hr; have HR := aj.mk hr; replace HB := fu HB hx; clear hx hr hM))
 have HB1 := aj.mk (Below.refl w1.heap.size w1)
 have hn1 : ns.length ≤ 9223372036854775807 := by omega
 go_loopw [3, 5, 27] (fun v3 _ v27 W => ∃ i : Nat, i ≤ ns.length ∧ v27 = .int .i64 i ∧ v3 = .string (iN oI (ns.take i)) ∧ aj (Below w1.heap.size w1 W)) (fun _ _ v27 _ => ns.length - (intOf v27).toNat)
 case atStart => exact ⟨0, by omega, rfl, rfl, HB1⟩
 case round =>
  clear HB1; obtain ⟨i, hi, rfl, rfl, HB1⟩ := hrel
  by_cases hlt : i < ns.length
  ·obtain ⟨ad, rfl, d1⟩ := Kd.iH (Kd.ak HR.out HB1.out) i (by omega) (by omega)
   rw [Int.toNat_natCast, qR hlt] at d1
   have htk : ns.take (i + 1) = ns.take i ++ [ns[i]] := by rw [List.take_succ_eq_append_getElem hlt]
   have HT := aj.mk htk
   have hz : (iN oI (ns.take i)).size + (1 + (iK ns[i]).size) ≤ 100000 := by
    have h1 := hs (i + 1) (by omega); rw [htk, nA, ByteArray.size_append, ByteArray.size_append] at h1; exact h1
   have hz1 : ¬ 9223372036854775807 < 1 + (iK ns[i]).size := by omega
   have hz2 : ¬ 9223372036854775807 < (iN oI (ns.take i)).size + (1 + (iK ns[i]).size) := by omega
   have HZ := aj.mk hz; clear hz htk
   go_wp2_with (go_at_call 198; refine (hI _ (List.getElem_mem hlt) _ (aV HB.out HB1.out)).mono ?_; rintro e w2 ⟨rfl, hx⟩; replace HB1 := fu HB1 hx; clear hx d1)
   case roundEnd => exact ⟨⟨i + 1, by omega, by simp, by rw [HT.out, nA], HB1⟩, by simp [intOf]; omega⟩
  ·go_wp2
   obtain rfl : i = ns.length := by omega
   rw [List.take_length]
   go_ret
   exact ⟨rfl, aV HB.out HB1.out⟩
theorem ZT (v : Value) (ns : List Int) (w : World) (hn : ns.length ≤ 1000) (hI : Writes w ns) (hs : ∀ m, m ≤ ns.length → (iN iD (ns.take m)).size ≤ 100000)
  (hM : ∀ W, Below w.heap.size w W → Calls Tryz.prog 279 #[v] W fun e w' => ∃ kM : Value, e = .returned (kM) ∧ Kd.R (Kd.int .i64) 3 w' W.heap.size (fun _ => True) kM ns ∧ Below W.heap.size W w') :
  Calls Tryz.prog 196 #[.iface 238 v] w fun e w' => e = .returned (.string (iN iD ns)) ∧ Below w.heap.size w w' := by
 have HB := aj.mk (Below.refl w.heap.size w)
 have O0 : ∀ W, (Instr.typeAssert (.iface 238 v) 263 236 true).run Tryz.prog W = .ok (.tuple #[.agg #[.slice none 0 0, .int .i64 0], .bool false]) W := fun W => by kernel_rfl
 have WW : ∀ W, (Instr.typeAssert (.iface 238 v) 263 238 true).run Tryz.prog W = .ok (.tuple #[v, .bool true]) W := fun W => by kernel_rfl
 have hme : ∀ W, (method 419 238 v "nacre/dye.numbers").run Tryz.prog W = .ok (279, v) W := fun W => by kernel_rfl
 have hi0 : ∀ W, (Instr.index 259 (.agg #[.string gN, .string oI, .string iD, .string jV]) (.int .i64 0)).run Tryz.prog W = .ok (.string gN) W := fun W => by kernel_rfl
 have hi1 : ∀ W, (Instr.index 259 (.agg #[.string gN, .string oI, .string iD, .string jV]) (.int .i64 1)).run Tryz.prog W = .ok (.string oI) W := fun W => by kernel_rfl
 have hi2 : ∀ W, (Instr.index 259 (.agg #[.string gN, .string oI, .string iD, .string jV]) (.int .i64 2)).run Tryz.prog W = .ok (.string iD) W := fun W => by kernel_rfl
 have hi3 : ∀ W, (Instr.index 259 (.agg #[.string gN, .string oI, .string iD, .string jV]) (.int .i64 3)).run Tryz.prog W = .ok (.string jV) W := fun W => by kernel_rfl
 go_enter Tryz.func196, Tryz.ntmps196
 go_wp2_with (first | (go_at_call 216; refine (uJ _).mono ?_; rintro e w1 ⟨rfl, hx⟩; replace HB := fu HB hx; clear hx) | (go_at_call 279; refine (hM _ HB.out).mono ?_; rintro e w1 ⟨v0, rfl, hr, hx⟩; obtain ⟨A1, c1, rfl, hl1, hr⟩ := Kd.fO hr; have HR := aj.mk hr; replace HB := fu HB hx; clear hx hr hM))
 have HB1 := aj.mk (Below.refl w1.heap.size w1)
 have hn1 : ns.length ≤ 9223372036854775807 := by omega
 go_loopw [3, 5, 27] (fun v3 _ v27 W => ∃ i : Nat, i ≤ ns.length ∧ v27 = .int .i64 i ∧ v3 = .string (iN iD (ns.take i)) ∧ aj (Below w1.heap.size w1 W)) (fun _ _ v27 _ => ns.length - (intOf v27).toNat)
 case atStart => exact ⟨0, by omega, rfl, rfl, HB1⟩
 case round =>
  clear HB1; obtain ⟨i, hi, rfl, rfl, HB1⟩ := hrel
  by_cases hlt : i < ns.length
  ·obtain ⟨ad, rfl, d1⟩ := Kd.iH (Kd.ak HR.out HB1.out) i (by omega) (by omega)
   rw [Int.toNat_natCast, qR hlt] at d1
   have htk : ns.take (i + 1) = ns.take i ++ [ns[i]] := by rw [List.take_succ_eq_append_getElem hlt]
   have HT := aj.mk htk
   have hz : (iN iD (ns.take i)).size + (1 + (iK ns[i]).size) ≤ 100000 := by
    have h1 := hs (i + 1) (by omega); rw [htk, nA, ByteArray.size_append, ByteArray.size_append] at h1; exact h1
   have hz1 : ¬ 9223372036854775807 < 1 + (iK ns[i]).size := by omega
   have hz2 : ¬ 9223372036854775807 < (iN iD (ns.take i)).size + (1 + (iK ns[i]).size) := by omega
   have HZ := aj.mk hz; clear hz htk
   go_wp2_with (go_at_call 198; refine (hI _ (List.getElem_mem hlt) _ (aV HB.out HB1.out)).mono ?_; rintro e w2 ⟨rfl, hx⟩; replace HB1 := fu HB1 hx; clear hx d1)
   case roundEnd => exact ⟨⟨i + 1, by omega, by simp, by rw [HT.out, nA], HB1⟩, by simp [intOf]; omega⟩
  ·go_wp2
   obtain rfl : i = ns.length := by omega
   rw [List.take_length]
   go_ret
   exact ⟨rfl, aV HB.out HB1.out⟩
theorem ZU (v : Value) (ns : List Int) (w : World) (hn : ns.length ≤ 1000) (hI : Writes w ns) (hs : ∀ m, m ≤ ns.length → (iN jV (ns.take m)).size ≤ 100000)
  (hM : ∀ W, Below w.heap.size w W → Calls Tryz.prog 280 #[v] W fun e w' => ∃ kM : Value, e = .returned (kM) ∧ Kd.R (Kd.int .i64) 3 w' W.heap.size (fun _ => True) kM ns ∧ Below W.heap.size W w') :
  Calls Tryz.prog 196 #[.iface 240 v] w fun e w' => e = .returned (.string (iN jV ns)) ∧ Below w.heap.size w w' := by
 have HB := aj.mk (Below.refl w.heap.size w)
 have O0 : ∀ W, (Instr.typeAssert (.iface 240 v) 263 236 true).run Tryz.prog W = .ok (.tuple #[.agg #[.slice none 0 0, .int .i64 0], .bool false]) W := fun W => by kernel_rfl
 have WW : ∀ W, (Instr.typeAssert (.iface 240 v) 263 238 true).run Tryz.prog W = .ok (.tuple #[.agg #[.slice none 0 0, .int .i64 0, .int .i64 0], .bool false]) W := fun W => by kernel_rfl
 have qd4 : ∀ W, (Instr.typeAssert (.iface 240 v) 263 240 true).run Tryz.prog W = .ok (.tuple #[v, .bool true]) W := fun W => by kernel_rfl
 have hme : ∀ W, (method 419 240 v "nacre/dye.numbers").run Tryz.prog W = .ok (280, v) W := fun W => by kernel_rfl
 have hi0 : ∀ W, (Instr.index 259 (.agg #[.string gN, .string oI, .string iD, .string jV]) (.int .i64 0)).run Tryz.prog W = .ok (.string gN) W := fun W => by kernel_rfl
 have hi1 : ∀ W, (Instr.index 259 (.agg #[.string gN, .string oI, .string iD, .string jV]) (.int .i64 1)).run Tryz.prog W = .ok (.string oI) W := fun W => by kernel_rfl
 have hi2 : ∀ W, (Instr.index 259 (.agg #[.string gN, .string oI, .string iD, .string jV]) (.int .i64 2)).run Tryz.prog W = .ok (.string iD) W := fun W => by kernel_rfl
 have hi3 : ∀ W, (Instr.index 259 (.agg #[.string gN, .string oI, .string iD, .string jV]) (.int .i64 3)).run Tryz.prog W = .ok (.string jV) W := fun W => by kernel_rfl
 go_enter Tryz.func196, Tryz.ntmps196
 go_wp2_with (first | (go_at_call 216; refine (uJ _).mono ?_; rintro e w1 ⟨rfl, hx⟩; replace HB := fu HB hx; clear hx) | (go_at_call 280; refine (hM _ HB.out).mono ?_; rintro e w1 ⟨v0, rfl, hr, hx⟩; obtain ⟨A1, c1, rfl, hl1, hr⟩ := Kd.fO hr; have HR := aj.mk hr; replace HB := fu HB hx; clear hx hr hM))
 have HB1 := aj.mk (Below.refl w1.heap.size w1)
 have hn1 : ns.length ≤ 9223372036854775807 := by omega
 go_loopw [3, 5, 27] (fun v3 _ v27 W => ∃ i : Nat, i ≤ ns.length ∧ v27 = .int .i64 i ∧ v3 = .string (iN jV (ns.take i)) ∧ aj (Below w1.heap.size w1 W)) (fun _ _ v27 _ => ns.length - (intOf v27).toNat)
 case atStart => exact ⟨0, by omega, rfl, rfl, HB1⟩
 case round =>
  clear HB1; obtain ⟨i, hi, rfl, rfl, HB1⟩ := hrel
  by_cases hlt : i < ns.length
  ·obtain ⟨ad, rfl, d1⟩ := Kd.iH (Kd.ak HR.out HB1.out) i (by omega) (by omega)
   rw [Int.toNat_natCast, qR hlt] at d1
   have htk : ns.take (i + 1) = ns.take i ++ [ns[i]] := by rw [List.take_succ_eq_append_getElem hlt]
   have HT := aj.mk htk
   have hz : (iN jV (ns.take i)).size + (1 + (iK ns[i]).size) ≤ 100000 := by
    have h1 := hs (i + 1) (by omega); rw [htk, nA, ByteArray.size_append, ByteArray.size_append] at h1; exact h1
   have hz1 : ¬ 9223372036854775807 < 1 + (iK ns[i]).size := by omega
   have hz2 : ¬ 9223372036854775807 < (iN jV (ns.take i)).size + (1 + (iK ns[i]).size) := by omega
   have HZ := aj.mk hz; clear hz htk
   go_wp2_with (go_at_call 198; refine (hI _ (List.getElem_mem hlt) _ (aV HB.out HB1.out)).mono ?_; rintro e w2 ⟨rfl, hx⟩; replace HB1 := fu HB1 hx; clear hx d1)
   case roundEnd => exact ⟨⟨i + 1, by omega, by simp, by rw [HT.out, nA], HB1⟩, by simp [intOf]; omega⟩
  ·go_wp2
   obtain rfl : i = ns.length := by omega
   rw [List.take_length]
   go_ret
   exact ⟨rfl, aV HB.out HB1.out⟩
end Go.Proofs.YtnpfbjnjdngkhaaGreatDoor.P
namespace Go.Proofs.YtnpfbjnjdngkhaaGreatDoor.P
open Go.RowKit Go.Proofs.YtnpfbjnjdngkhaaGreatDoorW.aW Go.Proofs.YtnpfbjnjdngkhaaGreatDoorW.bZ Go.Proofs.YtnpfbjnjdngkhaaGreatDoorW.dh
def Bp (d : bO) : List Int := d.f1 :: d.f0.flatMap fun s => [s.f0, s.f1]
def p8 (s : dN) : List Int := [s.f1, s.f2, (s.f0.length : Int)]
def xW (b : bg) : List Int := [b.f0, b.f1, b.f2.f0, b.f2.f1]
def vR (h : List bO) (st : List dN) : List Int := [(h.length : Int), (st.length : Int)]
def qG (d : bO) : ByteArray := iN oI (Bp d)
def p9 (b : bg) : ByteArray := iN jV (xW b)
def lZ (s : dN) : List ByteArray := iN iD (p8 s) :: s.f0.map p9
def qH (h : List bO) (st : List dN) : List ByteArray := iN gN (vR h st) :: (h.map qG ++ st.flatMap lZ)
def sumTo (l : ByteArray) : Nat → Int
 | 0 => 0
 | n + 1 => sumTo l n + (l.data.toList.getD n 0).toNat * ((n : Int) + 1)
def qI (l : ByteArray) : Int := sumTo l l.size
def Jw (ls : List ByteArray) : Int := (ls.map qI).sum % 113
def qbI (ls : List ByteArray) : ByteArray := ⟨(Lib.join (ls.map (·.data.toList)) [10]).toArray⟩
def textOf (ls : List ByteArray) : ByteArray := qbI ls ++ ⟨#[10, 101, 110, 100, 32]⟩ ++ iK (Jw ls / 100) ++ iK (Jw ls / 10 % 10) ++ iK (Jw ls % 10) ++ ⟨#[10]⟩
def numsOf (h : List bO) (st : List dN) : List Int := vR h st ++ h.flatMap Bp ++ st.flatMap fun s => p8 s ++ s.f0.flatMap xW
structure O1 (h : List bO) (st : List dN) : Prop where
 TV : h.length ≤ 100 ∧ ∀ d ∈ h, d.f0.length ≤ 100
 FX : st.length ≤ 100 ∧ ∀ s ∈ st, s.f0.length ≤ 100
 size : ∀ n ∈ numsOf h st, (iK n).size ≤ 20
theorem FY : ∀ (ns : List Int) (acc : ByteArray), (∀ n ∈ ns, (iK n).size ≤ 20) → (ns.foldl (fun acc n => acc ++ ((⟨#[32]⟩ : ByteArray) ++ iK n)) acc).size ≤ acc.size + 21 * ns.length
 | [], acc, _ => by simp
 | n :: ns, acc, h => by
  have h1 := FY ns (acc ++ ((⟨#[32]⟩ : ByteArray) ++ iK n)) fun x hx => h x (by simp [hx])
  have h2 := h n (by simp); rw [ByteArray.size_append, ByteArray.size_append] at h1; have : (⟨#[32]⟩ : ByteArray).size = 1 := rfl; rw [List.foldl_cons, List.length_cons]
  omega
theorem FZ (name : ByteArray) (hn : name.size ≤ 10) (ns : List Int) (h : ∀ n ∈ ns, (iK n).size ≤ 20) : (iN name ns).size ≤ 10 + 21 * ns.length := by
 have := FY ns name h
 unfold iN
 omega
theorem wM (name : ByteArray) (hn : name.size ≤ 10) (ns : List Int) (h : ∀ n ∈ ns, (iK n).size ≤ 20) (hl : ns.length ≤ 900) (m : Nat) (_ : m ≤ ns.length) : (iN name (ns.take m)).size ≤ 100000 := by
 have h1 := FZ name hn (ns.take m) fun n hn => h n (List.mem_of_mem_take hn)
 rw [List.length_take] at h1
 omega
theorem Hw (d : bO) : (Bp d).length = 1 + 2 * d.f0.length := by
 have : ∀ l : List bT, (l.flatMap fun s => [s.f0, s.f1]).length = 2 * l.length := by
  intro l
  induction l with
  | nil => rfl
  | cons s l ih => rw [List.flatMap_cons, List.length_append, ih]; simp; omega
 unfold Bp
 rw [List.length_cons, this]
 omega
theorem ZV (l : List bT) (hl : l.length ≤ 900) : ∀ (m k i : Nat) (acc : List Int), i + m = l.length → m < k → acc.length ≤ 100000 + 2 * i → dO.l0 k acc l (l.length : Int) (i : Int) = some (acc ++ (l.drop i).flatMap fun s => [s.f0, s.f1]) := by
 intro m
 induction m with
 | zero =>
  intro k i acc him hk ha; obtain ⟨k, rfl⟩ : ∃ m, k = m + 1 := ⟨k - 1, by omega⟩; simp only [dO.l0]; rw [if_neg (by omega), List.drop_eq_nil_of_le (by omega)]; simp
 | succ m ih =>
  intro k i acc him hk ha; obtain ⟨k, rfl⟩ : ∃ m, k = m + 1 := ⟨k - 1, by omega⟩
  have hi : i < l.length := by omega
  simp only [dO.l0]
  have hw : wrap64 ((i : Int) + 1) = ((i + 1 : Nat) : Int) := by rw [z8 (by omega) (by omega)]; omega
  have hrd : bM l (i : Int) = l[i] := by rw [bM, Int.toNat_natCast, List.getD_eq_getElem?_getD, List.getElem?_eq_getElem hi]; rfl
  rw [if_pos (by omega), if_pos (by omega), if_pos (by omega), Option.bind_some, if_pos (by simp; omega), hw, ih k (i + 1) _ (by omega) (by omega) (by simp; omega), hrd, List.drop_eq_getElem_cons hi]; simp only [List.flatMap_cons, List.append_assoc, List.cons_append, List.nil_append]
theorem qd5 (d : bO) (hl : d.f0.length ≤ 900) : dO.f 1000 d.f0 d.f1 = some (Bp d) := by
 unfold dO.f
 exact ZV d.f0 hl d.f0.length 1000 0 [d.f1] (by omega) (by omega) (by simp)
end Go.Proofs.YtnpfbjnjdngkhaaGreatDoor.P
namespace Go.Proofs.YtnpfbjnjdngkhaaGreatDoor.P
open Go.RowKit Go.Proofs.YtnpfbjnjdngkhaaGreatDoorW.aW Go.Proofs.YtnpfbjnjdngkhaaGreatDoorW.bZ Go.Proofs.YtnpfbjnjdngkhaaGreatDoorW.dh
attribute [local go_sem] fE fF gU gV eX eY fG fH
def gG.l0 : Nat → Int → List dN → List dN → Int → Int → Option ((List dN))
 | 0, _, _, _, _, _ => none
 | k + 1, x1, x5, x8, x9, x10 => if x10 < x9 then (if 0 ≤ x10 then (if x10 < (x8.length : Int) then (if (Go.bits .and .i64 (shr .i64 x1 x10) 1) = 1 then (if x5.length < 3518437208883 then (gG.l0 k x1 (x5 ++ [(⟨(bU x8 x10).f0, (bU x8 x10).f1, (bU x8 x10).f2⟩ : dN)]) x8 x9 (wrap64 (x10 + 1))) else (none)) else (gG.l0 k x1 x5 x8 x9 (wrap64 (x10 + 1)))) else (none)) else (none)) else (some x5)
def gG.f (k : Nat) (l0 : List dN) (a1 : Int) : Option ((List dN)) := gG.l0 k a1 ([] : List dN) l0 (l0.length : Int) 0
theorem gG.calls (k : Nat) (Sg : Nat → Prop) (A0 : Option Addr) (c0 : Nat) (l0 : List dN) (a1 : Int) (r : List dN) (w : World) (hs0 : Kd.V l7 107 w w.heap.size (fun k_ => Sg k_) (.slice A0 l0.length c0) l0) (h : gG.f k l0 a1 = some r) :
  Calls Tryz.prog 129 #[.slice A0 l0.length c0, .int .i64 a1] w fun e w' => ∃ kM : Value, e = .returned (kM) ∧ Kd.N l7 107 w' w.heap.size (fun k_ => (Sg k_ ∨ w.heap.size ≤ k_)) kM r ∧ Below w.heap.size w w' := by
 have Fq := Tryz.underlying107; have HO0 := aj.mk (show Kd.V l7 107 w w.heap.size (fun k_ => (Sg k_ ∨ w.heap.size ≤ k_)) (.slice A0 l0.length c0) l0 from Kd.qp hs0 (fun k_ hk => .inl hk)); have HB := aj.mk (Below.refl w.heap.size w); have H : (gG.l0 k a1 ([] : List dN) l0 (l0.length : Int) 0) = some r := h; clear h; have H' := aj.mk H; clear H
 go_enter Tryz.func129, Tryz.ntmps129
 go_wp2
 go_loopg [5, 10] k (fun kq v5 v10 w' => ∃ (aQ : List dN) (dV : Int), v10 = .int .i64 dV ∧ aj (gG.l0 kq a1 aQ l0 (l0.length : Int) dV = some r) ∧ aj (kq ≤ k) ∧ aj (Kd.N l7 107 w' w.heap.size (fun k_ => (Sg k_ ∨ w.heap.size ≤ k_)) v5 aQ) ∧ aj (Kd.V l7 107 w' w.heap.size (fun k_ => (Sg k_ ∨ w.heap.size ≤ k_) ∧ some k_ ≠ (v5 : Value).ownBlock) (.slice A0 l0.length c0) l0) ∧ aj (Below w.heap.size w w'))
 case atStart => exact ⟨(([] : List dN)), (0), tS, H', ⟨Nat.le_refl _⟩, ⟨by first | exact Kd.sS _ _ _ _ _ | exact Kd.sU _ _ _ _ _ | exact Kd.sW _ _ _ _ _ | exact Kd.sQ _ _ _ _ _ | exact Kd.lJ _ _ _ _ _⟩, ⟨by (with_reducible repeat (first | apply Kd.pI | apply Kd.pJ | apply Kd.sZ)); exact Kd.qp HO0.out (fun _ hk => ⟨hk, (by simp [Value.ownBlock])⟩)⟩, ⟨tB⟩⟩
 case round =>
  clear H'
  try clear c1
  try clear p2
  obtain ⟨aQ, dV, rfl, HA, ng, jf, xX, HB⟩ := hrel
  cases gk with
  | zero => exact absurd HA.out (by simp [gG.l0])
  | succ k1 =>
   have H := HA.out; clear HA; simp only [gG.l0] at H
   by_cases c3 : dV < (l0.length : Int)
   ·rw [if_pos c3] at H
    have oZ : decide (dV < (l0.length : Int)) = true := decide_eq_true c3; clear c3
    by_cases c4 : 0 ≤ dV
    ·rw [if_pos c4] at H
     have o7 : decide (0 ≤ dV) = true := decide_eq_true c4; clear c4
     by_cases c5 : dV < (l0.length : Int)
     ·rw [if_pos c5] at H
      have y5 : decide (dV < (l0.length : Int)) = true := decide_eq_true c5; clear c5; have IG := eq_true (of_decide_eq_true tA : 0 ≤ dV); obtain ⟨ji7, ZW⟩ : ∃ j_ : Int, (shr .i64 a1 dV) = j_ := ⟨_, rfl⟩
      replace H : (if (Go.bits .and .i64 (ji7) 1) = 1 then (if aQ.length < 3518437208883 then (gG.l0 k1 a1 (aQ ++ [(⟨(bU l0 dV).f0, (bU l0 dV).f1, (bU l0 dV).f2⟩ : dN)]) l0 (l0.length : Int) (wrap64 (dV + 1))) else (none)) else (gG.l0 k1 a1 aQ l0 (l0.length : Int) (wrap64 (dV + 1)))) = some r := by first | (rw [ZW] at H; exact H) | (simp only [ZW] at H ⊢; exact H)
      have qqf : (a1 / 2 ^ min dV.toNat 64) = ji7 := ZW; have qqg : dV ≤ 64 → (a1 / 2 ^ dV.toNat) = ji7 := SX ZW
      by_cases c8 : (Go.bits .and .i64 (ji7) 1) = 1
      ·rw [if_pos c8] at H
       have E8 : ((Go.bits .and .i64 (ji7) 1) == 1) = true := beq_iff_eq.mpr c8; have qd6 : ((Go.bits .and .i64 (ji7) 1) != 1) = false := bne_eq_false_iff_eq.mpr c8; clear c8
       by_cases c9 : aQ.length < 3518437208883
       ·rw [if_pos c9] at H
        have qdG := aj.mk c9; clear c9; obtain ⟨qgV, Mk⟩ : ∃ y_ : List dN, y_ = (aQ ++ [(⟨(bU l0 dV).f0, (bU l0 dV).f1, (bU l0 dV).f2⟩ : dN)]) := ⟨_, rfl⟩
        replace H : (gG.l0 k1 a1 qgV l0 (l0.length : Int) (wrap64 (dV + 1))) = some r := by first | (rw [Mk]; with_reducible exact H) | (have iY := (Option.bind_some _ _).symm.trans H; rw [Mk]; with_reducible exact iY) | (have iY := (Option.bind_some _ _).symm.trans H; with_reducible exact iY) | with_reducible exact H | (rw [Mk]; exact H) | exact H
        have qgW := aj.mk Mk; clear Mk; have H' := aj.mk H; clear H; have Jy : 0 ≤ (dV : Int) := of_decide_eq_true tA; have Jz : dV < (l0.length : Int) := of_decide_eq_true tA; obtain ⟨qbK, qb, qc, qd7, JA, ZX, ZY, Bq, Br⟩ := yD (Kd.xB xX.out).2.2 dV Jy Jz
        cases qd7
        obtain ⟨qgX, O3, O4, F3⟩ := Kd.qaJ xX.out z107 dV Jy (by first | exact Jz | exact of_decide_eq_true tA | (have e_ := (Kd.xB xX.out).1; omega)); obtain ⟨Z0, Z4, rfl, wN, wO⟩ := EW O4; have rY := F3 0 _ rfl; rw [Nat.add_zero] at rY; replace rY := Option.some.inj (rY.symm.trans JA)
        injection rY with WX qd8 WY
        rw [WX] at wO; rw [WY] at wN; have oD := aj.mk (show Kd.V eT 154 _ w.heap.size _ _ ((bU l0 dV).f0) from Kd.qch wN wO); clear WX qd8 WY wO wN; clear F3 O3; have wP := aj.mk Br; have Z5 := aj.mk Bq; clear Br Bq; replace Jy := eq_true Jy; replace Jz := eq_true Jz
        go_wp2_with (first | ((with_reducible refine av (N := 7) rfl ?_); refine fA 7 #[.slice none 0 0, .int .i64 0, .int .i64 0] 107 HB ?_; clear HB; intro iL JV hg qN qgY HB hb; replace jf := aj.mk (Kd.q8 (Kd.J6 (by (with_reducible repeat (first | apply Kd.mJ | apply Kd.mK | apply Kd.pG)); exact jf.out) iL (Nat.le_of_eq hg.symm)) hb); replace xX := aj.mk (Kd.DW (Kd.zQ (by (with_reducible repeat (first | apply Kd.pI | apply Kd.pJ | apply Kd.sZ)); exact xX.out) iL (Nat.le_of_eq hg.symm)) hb); replace oD := aj.mk (Kd.DW (Kd.zQ (by (with_reducible repeat (first | apply Kd.pI | apply Kd.pJ | apply Kd.sZ)); exact oD.out) iL (Nat.le_of_eq hg.symm)) hb); replace wP := aj.mk (Kd.ak (by repeat (first | (with_reducible exact wP.out) | (with_reducible refine Kd.bC ?_ _) | (with_reducible refine Kd.bD ?_ _) | (with_reducible refine Kd.bQ ?_) | exact wP.out)) hb); clear hb hg; obtain ⟨yJ, II, qkI⟩ := bc3 qN; have yK := bf qN 0; have IJ := bf qN 1; have qkJ := bf qN 2) | ((with_reducible refine bE (t := 107) (p := 7) rfl ?_); refine Cx (t := 107) (p := 7) (v := ?qmE) (w1 := (((JV.setCell ⟨iL, 0, none⟩ (.slice qb ((bU l0 dV).f0).length qc)).setCell ⟨iL, 1, none⟩ (.int .i64 ((bU l0 dV).f1))).setCell ⟨iL, 2, none⟩ (.int .i64 ((bU l0 dV).f2)))) ?hg ?ho ?hn ?hr ?_; (case ho => rfl); (case hg => rfl); (case hn => rfl); (case hr => first | (go_simp; done) | (go_simp; rfl)); intro y9 hw; have JQ : aj (Kd.N l7 107 y9 w.heap.size (fun k_ => (Sg k_ ∨ w.heap.size ≤ k_) ∧ k_ ≠ iL) u5 aQ) := ⟨(by rw [hw]; exact (by (with_reducible repeat (first | apply Kd.mJ | apply Kd.mK | apply Kd.pG)); exact Kd.sV (Kd.wW (p := ⟨iL, 2, none⟩) (Kd.wW (p := ⟨iL, 1, none⟩) (Kd.wW (p := ⟨iL, 0, none⟩) (Kd.sV jf.out (fun k_ hk => (⟨hk, hk.2⟩ : _ ∧ k_ ≠ iL))) (fun _ hk => hk.2) (.slice qb ((bU l0 dV).f0).length qc)) (fun _ hk => hk.2) (.int .i64 ((bU l0 dV).f1))) (fun _ hk => hk.2) (.int .i64 ((bU l0 dV).f2))) (fun _ hk => ⟨hk.1.1, hk.1.2⟩)))⟩; have JR : aj (Kd.V l7 107 y9 w.heap.size (fun k_ => (Sg k_ ∨ w.heap.size ≤ k_) ∧ some k_ ≠ (u5 : Value).ownBlock ∧ k_ ≠ iL) (.slice (some qbK) l0.length c0) l0) := ⟨(by rw [hw]; exact (by (with_reducible repeat (first | apply Kd.pI | apply Kd.pJ | apply Kd.sZ)); exact Kd.qp (Kd.zP (p := ⟨iL, 2, none⟩) (Kd.zP (p := ⟨iL, 1, none⟩) (Kd.zP (p := ⟨iL, 0, none⟩) (Kd.qp xX.out (fun k_ hk => (⟨hk, hk.2⟩ : _ ∧ k_ ≠ iL))) (fun _ hk => hk.2) (.slice qb ((bU l0 dV).f0).length qc)) (fun _ hk => hk.2) (.int .i64 ((bU l0 dV).f1))) (fun _ hk => hk.2) (.int .i64 ((bU l0 dV).f2))) (fun _ hk => ⟨hk.1.1.1, ⟨hk.1.1.2, hk.1.2⟩⟩)))⟩; have JU : aj (Kd.V eT 154 y9 w.heap.size (fun k_ => (Sg k_ ∨ w.heap.size ≤ k_) ∧ some k_ ≠ (u5 : Value).ownBlock ∧ k_ ≠ iL) (.slice qb ((bU l0 dV).f0).length qc) ((bU l0 dV).f0)) := ⟨(by rw [hw]; exact (by (with_reducible repeat (first | apply Kd.pI | apply Kd.pJ | apply Kd.sZ)); exact Kd.qp (Kd.zP (p := ⟨iL, 2, none⟩) (Kd.zP (p := ⟨iL, 1, none⟩) (Kd.zP (p := ⟨iL, 0, none⟩) (Kd.qp oD.out (fun k_ hk => (⟨hk, hk.2⟩ : _ ∧ k_ ≠ iL))) (fun _ hk => hk.2) (.slice qb ((bU l0 dV).f0).length qc)) (fun _ hk => hk.2) (.int .i64 ((bU l0 dV).f1))) (fun _ hk => hk.2) (.int .i64 ((bU l0 dV).f2))) (fun _ hk => ⟨hk.1.1.1, ⟨hk.1.1.2, hk.1.2⟩⟩)))⟩; have Ny : aj (y9.heap[iL]? = some (.cells #[.slice qb ((bU l0 dV).f0).length qc, .int .i64 ((bU l0 dV).f1), .int .i64 ((bU l0 dV).f2)] 107 (0, 0))) := ⟨(by rw [hw]; exact (by (with_reducible repeat (first | refine aM ?_ _ | refine aN ?_ | refine aJ ?_ _)); refine dU (cs := #[.slice qb ((bU l0 dV).f0).length qc, .int .i64 ((bU l0 dV).f1), .int .i64 0]) ?_ 2 _ rfl; (with_reducible repeat (first | refine aM ?_ _ | refine aN ?_ | refine aJ ?_ _)); refine dU (cs := #[.slice qb ((bU l0 dV).f0).length qc, .int .i64 0, .int .i64 0]) ?_ 1 _ rfl; (with_reducible repeat (first | refine aM ?_ _ | refine aN ?_ | refine aJ ?_ _)); refine dU (cs := #[.slice none 0 0, .int .i64 0, .int .i64 0]) ?_ 0 _ rfl; (with_reducible repeat (first | refine aM ?_ _ | refine aN ?_ | refine aJ ?_ _)); exact qN.out))⟩; have n4_ : aj (Below w.heap.size w y9) := ⟨(by rw [hw]; exact tB)⟩; clear hw; clear jf; clear xX; clear oD; clear qN; clear HB; have jf := JQ; have xX := JR; have oD := JU; have qN := Ny; have HB := n4_; clear JQ JR JU Ny n4_; obtain ⟨wD, Ec, Zz⟩ := bc3 qN; have wE := bf qN 0; have Ed := bf qN 1; have ZA := bf qN 2) | ((with_reducible refine eD (b := .append) (xs := #[.tmp 20, .tmp 22]) rfl ?_); at_builtin; refine Kd.UN l7 (w0 := w) w.heap.size rfl (.tmp 20) (.tmp 22) 59 107 (.agg #[(.slice none 0 0), (.int .i64 0), (.int .i64 0)]) 40 rfl Tryz.underlying59 Yj rfl (by decide) (by omega) u5 aQ (⟨(bU l0 dV).f0, (bU l0 dV).f1, (bU l0 dV).f2⟩ : dN) [.slice qb ((bU l0 dV).f0).length qc, .int .i64 ((bU l0 dV).f1), .int .i64 ((bU l0 dV).f2)] (fun k_ => (Sg k_ ∨ w.heap.size ≤ k_) ∧ k_ ≠ iL) (fun k_ => ((fun k_ => (Sg k_ ∨ w.heap.size ≤ k_) ∧ k_ ≠ iL)) k_ ∧ some k_ ≠ (u5 : Value).ownBlock) rfl rfl ?aP (fun _ hk => hk) ?aF ?aO ?aB ?aS ?aL ?_; (case aP => exact (zR _ _ (⟨(bU l0 dV).f0, (bU l0 dV).f1, (bU l0 dV).f2⟩ : dN) (Kd.xB (Kd.qp (ok' := (fun k_ => ((fun k_ => (Sg k_ ∨ w.heap.size ≤ k_) ∧ k_ ≠ iL)) k_ ∧ some k_ ≠ (u5 : Value).ownBlock)) (oD.out) (fun k_ hk => ⟨⟨hk.1, hk.2.2⟩, hk.2.1⟩))).2.1 (Kd.V_F (Kd.qp (ok' := (fun k_ => ((fun k_ => (Sg k_ ∨ w.heap.size ≤ k_) ∧ k_ ≠ iL)) k_ ∧ some k_ ≠ (u5 : Value).ownBlock)) (oD.out) (fun k_ hk => ⟨⟨hk.1, hk.2.2⟩, hk.2.1⟩))))); (case aB => exact tB); (case aF => exact (fun k_ hk => ⟨(.inr (Nat.le_trans (aX tB) hk)), Kd.M7 (g := iL) (o := .cells #[.slice qb ((bU l0 dV).f0).length qc, .int .i64 ((bU l0 dV).f1), .int .i64 ((bU l0 dV).f2)] 107 (0, 0)) tK k_ hk⟩)); (case aO => exact (by (with_reducible repeat (first | apply Kd.mJ | apply Kd.mK | apply Kd.pG)); exact jf.out)); (case aS => exact (aX tB)); (case aL => have := qdG.out; omega); intro v228 Uo ho hb hg hat; rw [← qgW.out] at ho; replace xX := aj.mk (Kd.J7 (ok := (fun k_ => (Sg k_ ∨ w.heap.size ≤ k_) ∧ k_ ≠ iL)) (by (with_reducible repeat (first | apply Kd.pI | apply Kd.pJ | apply Kd.sZ)); exact Kd.qp xX.out (fun _ hk => ⟨⟨hk.1, hk.2.2⟩, hk.2.1⟩)) hg hat); replace oD := aj.mk (Kd.J7 (ok := (fun k_ => (Sg k_ ∨ w.heap.size ≤ k_) ∧ k_ ≠ iL)) (by (with_reducible repeat (first | apply Kd.pI | apply Kd.pJ | apply Kd.sZ)); exact Kd.qp oD.out (fun _ hk => ⟨⟨hk.1, hk.2.2⟩, hk.2.1⟩)) hg hat); replace qN := aj.mk (jw (g := iL) (o := .cells #[.slice qb ((bU l0 dV).f0).length qc, .int .i64 ((bU l0 dV).f1), .int .i64 ((bU l0 dV).f2)] 107 (0, 0)) tK hg (Kd.qcd jf.out (fun _ hk => hk.2))); replace HB := aj.mk (hb); have qgZ := aj.mk (ho); clear jf; clear ho hb hg hat))
        go_roundg k1
        case measure => have := ng.out; omega
        case rel => exact ⟨(qgV), (wrap64 (dV + 1)), tS, H', ⟨by have := ng.out; omega⟩, ⟨by (with_reducible repeat (first | apply Kd.mJ | apply Kd.mK | apply Kd.pG)); exact Kd.sV qgZ.out (fun _ hk => hk.1)⟩, ⟨by (with_reducible repeat (first | apply Kd.pI | apply Kd.pJ | apply Kd.sZ)); exact Kd.qp xX.out (fun _ hk => ⟨hk.1.1, hk.2⟩)⟩, ⟨tB⟩⟩
       ·rw [if_neg c9] at H
        exact absurd H (by simp)
      ·rw [if_neg c8] at H
       have E8 : ((Go.bits .and .i64 (ji7) 1) == 1) = false := beq_eq_false_iff_ne.mpr c8; have qd6 : ((Go.bits .and .i64 (ji7) 1) != 1) = true := bne_iff_ne.mpr c8; have H' := aj.mk H; clear H; have Jy : 0 ≤ (dV : Int) := of_decide_eq_true tA; have Jz : dV < (l0.length : Int) := of_decide_eq_true tA; obtain ⟨qbK, qb, qc, qd7, JA, ZX, ZY, Bq, Br⟩ := yD (Kd.xB xX.out).2.2 dV Jy Jz
       cases qd7
       obtain ⟨qgX, O3, O4, F3⟩ := Kd.qaJ xX.out z107 dV Jy (by first | exact Jz | exact of_decide_eq_true tA | (have e_ := (Kd.xB xX.out).1; omega)); obtain ⟨Z0, Z4, rfl, wN, wO⟩ := EW O4; have rY := F3 0 _ rfl; rw [Nat.add_zero] at rY; replace rY := Option.some.inj (rY.symm.trans JA)
       injection rY with WX qd8 WY
       rw [WX] at wO; rw [WY] at wN; have oD := aj.mk (show Kd.V eT 154 _ w.heap.size _ _ ((bU l0 dV).f0) from Kd.qch wN wO); clear WX qd8 WY wO wN; clear F3 O3; have wP := aj.mk Br; have Z5 := aj.mk Bq; clear Br Bq; replace Jy := eq_true Jy; replace Jz := eq_true Jz
       go_wp2_with (first | ((with_reducible refine av (N := 7) rfl ?_); refine fA 7 #[.slice none 0 0, .int .i64 0, .int .i64 0] 107 HB ?_; clear HB; intro iL ML hg qN qgY HB hb; replace jf := aj.mk (Kd.q8 (Kd.J6 (by (with_reducible repeat (first | apply Kd.mJ | apply Kd.mK | apply Kd.pG)); exact jf.out) iL (Nat.le_of_eq hg.symm)) hb); replace xX := aj.mk (Kd.DW (Kd.zQ (by (with_reducible repeat (first | apply Kd.pI | apply Kd.pJ | apply Kd.sZ)); exact xX.out) iL (Nat.le_of_eq hg.symm)) hb); replace oD := aj.mk (Kd.DW (Kd.zQ (by (with_reducible repeat (first | apply Kd.pI | apply Kd.pJ | apply Kd.sZ)); exact oD.out) iL (Nat.le_of_eq hg.symm)) hb); replace wP := aj.mk (Kd.ak (by repeat (first | (with_reducible exact wP.out) | (with_reducible refine Kd.bC ?_ _) | (with_reducible refine Kd.bD ?_ _) | (with_reducible refine Kd.bQ ?_) | exact wP.out)) hb); clear hb hg; obtain ⟨uH, ZL, ZM⟩ := bc3 qN; have uI := bf qN 0; have ZN := bf qN 1; have ZO := bf qN 2))
       go_roundg k1
       case measure => have := ng.out; omega
       case rel => exact ⟨(aQ), (wrap64 (dV + 1)), tS, H', ⟨by have := ng.out; omega⟩, ⟨by (with_reducible repeat (first | apply Kd.mJ | apply Kd.mK | apply Kd.pG)); exact Kd.sV (Kd.wW (p := ⟨iL, 2, none⟩) (Kd.wW (p := ⟨iL, 1, none⟩) (Kd.wW (p := ⟨iL, 0, none⟩) (Kd.sV jf.out (fun k_ hk => (⟨hk, hk.2⟩ : _ ∧ k_ ≠ iL))) (fun _ hk => hk.2) (.slice qb ((bU l0 dV).f0).length qc)) (fun _ hk => hk.2) (.int .i64 ((bU l0 dV).f1))) (fun _ hk => hk.2) (.int .i64 ((bU l0 dV).f2))) (fun _ hk => hk.1.1)⟩, ⟨by (with_reducible repeat (first | apply Kd.pI | apply Kd.pJ | apply Kd.sZ)); exact Kd.qp (Kd.zP (p := ⟨iL, 2, none⟩) (Kd.zP (p := ⟨iL, 1, none⟩) (Kd.zP (p := ⟨iL, 0, none⟩) (Kd.qp xX.out (fun k_ hk => (⟨hk, hk.2⟩ : _ ∧ k_ ≠ iL))) (fun _ hk => hk.2) (.slice qb ((bU l0 dV).f0).length qc)) (fun _ hk => hk.2) (.int .i64 ((bU l0 dV).f1))) (fun _ hk => hk.2) (.int .i64 ((bU l0 dV).f2))) (fun _ hk => ⟨hk.1.1.1, hk.1.1.2⟩)⟩, ⟨tB⟩⟩
     ·rw [if_neg c5] at H
      exact absurd H (by simp)
    ·rw [if_neg c4] at H
     exact absurd H (by simp)
   ·rw [if_neg c3] at H
    have oZ : decide (dV < (l0.length : Int)) = false := decide_eq_false c3; clear c3; obtain rfl := Option.some.inj H
    go_wp2
    go_ret
    exact ⟨_, tF, by (with_reducible repeat (first | apply Kd.mJ | apply Kd.mK | apply Kd.pG)); exact jf.out, tB⟩
theorem qd9 (g15 g12 g5 : Nat) (A0 : Option Addr) (c0 : Nat) (h : List bO) (A1 : Option Addr) (c1 : Nat) (ws : List Int) (A2 : Option Addr) (c2 : Nat) (s : dN) (A3 : Option Addr) (c3 : Nat) (x : dN) (Vl Vo : Value) (e : bT) (need : Int) (w : World)
  (h15 : w.heap[g15]? = some (.cells #[.slice A0 h.length c0, .slice A1 ws.length c1] 149 (0, 0))) (h12 : w.heap[g12]? = some (.cells #[.slice A2 s.f0.length c2, .int .i64 s.f1, .int .i64 s.f2] 107 (0, 0))) (h5 : w.heap[g5]? = some (.cells #[Vl, .int .i64 e.f0, .int .i64 e.f1, Vo, .int .i64 need] 58 (0, 0)))
  (hr0 : Kd.C iM w A0 h.length h) (hc0 : h.length ≤ c0) (hr1 : Kd.C (Kd.int .i64) w A1 ws.length ws) (hc1 : ws.length ≤ c1) (hr2 : Kd.C eT w A2 s.f0.length s.f0) (hc2 : s.f0.length ≤ c2) (hr3 : Kd.C eT w A3 x.f0.length x.f0) (hc3 : x.f0.length ≤ c3) (hg : L8 h ws x.f0 s.f0 = true) :
  Calls Tryz.prog 182 #[.agg #[.slice A3 x.f0.length c3, .int .i64 x.f1, .int .i64 x.f2], .pointer (some ⟨g15, 0, none⟩), .pointer (some ⟨g12, 0, none⟩), .pointer (some ⟨g5, 0, none⟩)] w fun e' w' => e' = .returned (.bool (uW h ws x.f0 s.f0 e.f0 e.f1 != 3)) ∧ Below w.heap.size w w' := by
 have HX := Bx.nil w
 have K1 := fun w1 (hb : Below w.heap.size w w1) => jF.calls A0 c0 h A1 c1 ws A3 c3 x.f0 A2 c2 s.f0 e.f0 e.f1 (uW h ws x.f0 s.f0 e.f0 e.f1) w1 (Kd.ak hr0 hb) hc0 (Kd.ak hr1 hb) hc1 (Kd.ak hr3 hb) hc3 (Kd.ak hr2 hb) hc2 (by unfold jF.f; rw [if_pos hg])
 generalize uW h ws x.f0 s.f0 e.f0 e.f1 = r at K1 ⊢
 have H15 := aj.mk h15; have H12 := aj.mk h12; have H5 := aj.mk h5; clear h15 h12 h5 hr0 hr1 hr2 hr3 hg; have Fq := Tryz.underlying107; have wY := Tryz.underlying149; have kg := Tryz.underlying37; have Yz := Tryz.underlying58
 by_cases h3 : r = 3
 ·subst h3
  go_enter Tryz.func182, Tryz.ntmps182
  go_wp2_with (first | ((with_reducible refine av (N := 4) rfl ?_); refine newX rfl rfl HX (cs := #[.slice A3 x.f0.length c3, .int .i64 x.f1, .int .i64 x.f2]) (t := 107) tG ?_; clear HX; intro g4 w4 HX hx hz; clear hx hz; obtain ⟨ca1, ca2, ca3⟩ := HX.g3 0 rfl; obtain ⟨cb1, cb2⟩ := qP (aG H15.out HX.below); obtain ⟨cc1, cc2, cc3⟩ := S9 (aG H12.out HX.below); obtain ⟨wZ, xg, vY, wQ, xk⟩ := EX (aG H5.out HX.below)) | (go_at_call 118; (with_reducible refine (K1 _ HX.below).mono ?_); rintro e w1 ⟨rfl, hx⟩; replace HX := HX.step hx; clear hx ca1 ca2 ca3 cb1 cb2 cc1 cc2 cc3 wZ xg vY wQ xk))
  go_ret
  exact ⟨by simp, HX.below⟩
 ·have h4 : (r != 3) = true := by simp [h3]
  have h5 : (r == 3) = false := by simp [h3]
  go_enter Tryz.func182, Tryz.ntmps182
  go_wp2_with (first | ((with_reducible refine av (N := 4) rfl ?_); refine newX rfl rfl HX (cs := #[.slice A3 x.f0.length c3, .int .i64 x.f1, .int .i64 x.f2]) (t := 107) tG ?_; clear HX; intro g4 w4 HX hx hz; clear hx hz; obtain ⟨ca1, ca2, ca3⟩ := HX.g3 0 rfl; obtain ⟨cb1, cb2⟩ := qP (aG H15.out HX.below); obtain ⟨cc1, cc2, cc3⟩ := S9 (aG H12.out HX.below); obtain ⟨wZ, xg, vY, wQ, xk⟩ := EX (aG H5.out HX.below)) | (go_at_call 118; (with_reducible refine (K1 _ HX.below).mono ?_); rintro e w1 ⟨rfl, hx⟩; replace HX := HX.step hx; clear hx ca1 ca2 ca3 cb1 cb2 cc1 cc2 cc3 wZ xg vY wQ xk))
  go_ret
  exact ⟨by simp [h4], HX.below⟩
theorem qea : Kd.Heap j3 := Kd.EP _ (Kd.vB (Kd.vw _) (Kd.vw _))
theorem Z6 : Kd.Heap eT := Kd.EP _ (Kd.vB (Kd.vw _) (Kd.vB (Kd.vw _) qea))
theorem Z7 : Kd.Heap l7 := Kd.EP _ (Kd.vB (Kd.Nc 154 Z6) (Kd.vB (Kd.vw _) (Kd.vw _)))
def qg0 (set i : Int) : Bool := decide (Go.bits .and .i64 (shr .i64 set i) 1 = 1)
def jC (set : Int) : List dN → Int → List dN
 | [], _ => []
 | s :: l, i => if qg0 set i then s :: jC set l (i + 1) else jC set l (i + 1)
theorem TW (set : Int) (l : List dN) (hl : l.length ≤ 1000000) : ∀ (m k i : Nat) (acc : List dN), i + m = l.length → m < k → acc.length ≤ i → gG.l0 k set acc l (l.length : Int) (i : Int) = some (acc ++ jC set (l.drop i) i) := by
 intro m
 induction m with
 | zero =>
  intro k i acc him hk ha; obtain ⟨k, rfl⟩ : ∃ m, k = m + 1 := ⟨k - 1, by omega⟩; simp only [gG.l0]; rw [if_neg (by omega), List.drop_eq_nil_of_le (by omega), jC, List.append_nil]
 | succ m ih =>
  intro k i acc him hk ha; obtain ⟨k, rfl⟩ : ∃ m, k = m + 1 := ⟨k - 1, by omega⟩
  have hi : i < l.length := by omega
  simp only [gG.l0]; rw [if_pos (by omega), if_pos (by omega), if_pos (by omega), List.drop_eq_getElem_cons hi, jC]
  have hw : wrap64 ((i : Int) + 1) = ((i + 1 : Nat) : Int) := by rw [z8 (by omega) (by omega)]; omega
  have hr : (⟨(bU l i).f0, (bU l i).f1, (bU l i).f2⟩ : dN) = l[i] := by
   have : bU l (i : Int) = l[i] := by rw [bU, Int.toNat_natCast, List.getD_eq_getElem?_getD, List.getElem?_eq_getElem hi]; rfl
   rw [this]
  unfold qg0
  by_cases hb : Go.bits .and .i64 (shr .i64 set i) 1 = 1
  ·rw [if_pos hb, if_pos (by omega), hw, hr, ih k (i + 1) _ (by omega) (by omega) (by simp; omega)]
   simp [hb]
  ·rw [if_neg hb, hw, ih k (i + 1) _ (by omega) (by omega) (by omega)]
   simp [hb]
theorem WZ {l : List dN} (set : Int) (hl : l.length ≤ 900) : gG.f 1000 l set = some (jC set l 0) := by
 have := TW set l (by omega) l.length 1000 0 [] (by omega) (by omega) (by simp)
 simpa [gG.f] using this
theorem uK (set : Int) : ∀ (l : List dN) (i : Int), ∀ x ∈ jC set l i, x ∈ l
 | [], _, x, h => by simp [jC] at h
 | s :: l, i, x, h => by
  rw [jC] at h
  split at h
  ·rcases List.mem_cons.1 h with rfl | h
   ·exact List.mem_cons_self ..
   ·exact List.mem_cons_of_mem _ (uK set l _ x h)
  ·exact List.mem_cons_of_mem _ (uK set l _ x h)
theorem xY (set : Int) : ∀ (l : List dN) (i : Int), (jC set l i).length ≤ l.length
 | [], _ => by simp [jC]
 | s :: l, i => by
  rw [jC]; have := xY set l (i + 1)
  split <;> simp <;> omega
theorem qg1 (A : Option Addr) (c : Nat) (l : List dN) (set : Int) (w : World) (hr : Kd.C l7 w A l.length l) (hc : l.length ≤ c) (hl : l.length ≤ 900) :
  Calls Tryz.prog 129 #[.slice A l.length c, .int .i64 set] w fun e w' => ∃ A' c', e = .returned (.slice A' (jC set l 0).length c') ∧ (jC set l 0).length ≤ c' ∧ Kd.C l7 w' A' (jC set l 0).length (jC set l 0) ∧ Below w.heap.size w w' := by
 refine (gG.calls 1000 (fun k => k < w.heap.size) A c l set _ w (Kd.qch hc (Kd.C_F Z7 hr)) (WZ set hl)).mono ?_; rintro e w' ⟨v, rfl, hn, hb⟩; obtain ⟨A', c', rfl, h1, h2⟩ := Kd.DV hn; exact ⟨A', c', rfl, h1, h2, hb⟩
def uL (l : List dN) (i : Nat) : dN := l.getD i z107
def Cn (l : List ou) (k : Nat) : ou := l.getD k z49
def Df (l : List bT) (k : Nat) : bT := l.getD k z37
def Xa (p : Int × Int) (o : bT) : Int := max (p.2 - o.f0) (o.f1 - p.1)
def wR (h : List bO) (gK : List ou) (e : bT) (old : List bT) (own : List dN) (i k : Nat) : Bool :=
 decide (Xa (tQ h (Cn gK k).f0 (uL own i).f0) (Df old k) ≤ e.f0) && !((own.take i).any fun o => uW h (Cn gK k).f0 o.f0 (uL own i).f0 e.f0 e.f1 != 3)
def vS (h : List bO) (gK : List ou) (e : bT) (old : List bT) (need : Int) (own : List dN) : Bool :=
 (List.range own.length).all (fun i => (List.range gK.length).all fun k => wR h gK e old own i k) && decide (need ≤ (own.map dN.f1).sum)
def qX (h : List bO) (gK : List ou) (e : bT) (old : List bT) (need : Int) (l : List dN) (set : Int) : Bool := vS h gK e old need (jC set l 0)
def vT.f (h : List bO) (gK : List ou) (e0 e1 : Int) (old : List bT) (need : Int) (l : List dN) (set : Int) : Option Bool :=
 if iA h && (Ak h.length gK ⟨e0, e1⟩ old need && rD h.length l 1) then some (qX h gK ⟨e0, e1⟩ old need l set) else none
structure qeb (h : List bO) (gK : List ou) (old : List bT) (l : List dN) : Prop where
 house : iA h = true
 qmI : ∀ k, k < gK.length → oP h.length (Cn gK k).f0 = true
 len : old.length = gK.length
 old : ∀ k, k < gK.length → -3000 ≤ (Df old k).f0 ∧ (Df old k).f1 ≤ 3000 ∧ (Df old k).f0 ≤ (Df old k).f1
 Xb : ∀ s ∈ l, gB h.length s.f0 = true ∧ 0 ≤ s.f1 ∧ s.f1 ≤ 99 ∧ 0 ≤ s.f2 ∧ s.f2 ≤ 999
 TY : l.length ≤ 5
theorem Si {h : List bO} {gK : List ou} {e : bT} {old : List bT} {need least : Int} {l : List dN} (h1 : iA h = true) (h2 : Ak h.length gK e old need = true) (h3 : rD h.length l least = true) : qeb h gK old l := by
 unfold Ak NI at h2
 unfold rD at h3
 simp only [Bool.and_eq_true, Bool.not_eq_true', List.any_eq_false, pW, decide_eq_true_eq, Bool.not_eq_false] at h2 h3; obtain ⟨⟨_, h21⟩, _, h22, h23, _⟩ := h2; refine ⟨h1, fun k hk => ?_, h22, fun k hk => ?_, fun s hs => ?_, by omega⟩
 ·have : Cn gK k ∈ gK := by unfold Cn; rw [List.getD_eq_getElem?_getD, List.getElem?_eq_getElem hk]; exact List.getElem_mem hk
  exact h21 _ this
 ·have hk2 : k < old.length := by omega
  have : Df old k ∈ old := by unfold Df; rw [List.getD_eq_getElem?_getD, List.getElem?_eq_getElem hk2]; exact List.getElem_mem hk2
  have := (oQ (by decide) (by decide)).1 (h23 _ this)
  omega
 ·have := h3.2 s hs
  unfold vJ at this
  simp only [Bool.or_eq_true, Bool.not_eq_true', not_or, Bool.not_eq_false, pW] at this; exact ⟨this.1, this.2.1.1, this.2.1.2, this.2.2.1, this.2.2.2⟩
theorem Xc {own : List dN} {i : Nat} (h : i < own.length) : ((own.take (i + 1)).map dN.f1).sum = ((own.take i).map dN.f1).sum + (uL own i).f1 := by
 rw [List.take_succ_eq_append_getElem h, List.map_append, List.sum_append]
 unfold uL
 rw [List.getD_eq_getElem?_getD, List.getElem?_eq_getElem h]; simp
theorem Xd {l : List dN} : ∀ {own : List dN}, (∀ s ∈ own, 0 ≤ s.f1 ∧ s.f1 ≤ 99) → 0 ≤ (own.map dN.f1).sum ∧ (own.map dN.f1).sum ≤ 99 * own.length
 | [], _ => by simp
 | s :: r, h => by
  have h1 := h s (List.mem_cons_self ..); have h2 := Xd (l := l) (own := r) (fun y hy => h y (List.mem_cons_of_mem _ hy)); simp only [List.map_cons, List.sum_cons, List.length_cons]
  omega
theorem Bx.Ml {p : Nat × Obj} {L : List (Nat × Obj)} {w W : World} (h : Bx (p :: L) w W) : Bx L w W := ⟨h.below, fun q hq => h.get q (List.mem_cons_of_mem _ hq), fun q hq => h.lo q (List.mem_cons_of_mem _ hq), (List.nodup_cons.1 h.nd).2⟩
theorem Dg {h : List bO} {gK : List ou} {e : bT} {old : List bT} {need : Int} {own : List dN} {i k : Nat} (hi : i < own.length) (hk : k < gK.length) (hs : wR h gK e old own i k = false) : vS h gK e old need own = false := by
 unfold vS
 rw [Bool.and_eq_false_iff]
 left
 rw [List.all_eq_false]; refine ⟨i, List.mem_range.2 hi, ?_⟩; rw [Bool.not_eq_true, List.all_eq_false]; exact ⟨k, List.mem_range.2 hk, by simp [hs]⟩
theorem T9 {h : List bO} {gK : List ou} {e : bT} {old : List bT} {need M : Int} {own : List dN} (hM : M = (own.map dN.f1).sum) (ha : ∀ i, i < own.length → ∀ k, k < gK.length → wR h gK e old own i k = true) : vS h gK e old need own = decide (need ≤ M) := by
 unfold vS
 rw [hM, Bool.and_eq_right_iff_imp.2]; intro _; rw [List.all_eq_true]; intro i hi; rw [List.all_eq_true]; intro k hk; exact ha i (List.mem_range.1 hi) k (List.mem_range.1 hk)
theorem vT.calls (bB : Option Addr) (aZ : Nat) (au : List bO) (gu : Option Addr) (gq : Nat) (bN : List ou) (iq : Int) (jv : Int) (wF : Option Addr) (vL : Nat) (iC : List bT) (kK : Int) (A2 : Option Addr) (c2 : Nat) (l2 : List dN) (a3 : Int) (r : Bool) (w : World) (dx : Kd.C iM w bB au.length au) (dI : au.length ≤ aZ) (kF : Kd.C ET w gu bN.length bN) (nk : bN.length ≤ gq) (Af : Kd.C j3 w wF iC.length iC) (GV : iC.length ≤ vL) (hr2 : Kd.C l7 w A2 l2.length l2) (hc2 : l2.length ≤ c2) (h : vT.f au bN iq jv iC kK l2 a3 = some r) :
  Calls Tryz.prog 131 #[.agg #[.slice bB au.length aZ], .agg #[.slice gu bN.length gq, .int .i64 iq, .int .i64 jv, .slice wF iC.length vL, .int .i64 kK], .slice A2 l2.length c2, .int .i64 a3] w fun e w' => e = .returned (.bool r) ∧ Below w.heap.size w w' := by
 have HX := Bx.nil w
 unfold vT.f at h
 by_cases hg : (iA au && (Ak au.length bN ⟨iq, jv⟩ iC kK && rD au.length l2 1)) = true
 rotate_left
 ·rw [if_neg hg] at h; cases h
 rw [if_pos hg] at h; obtain rfl := Option.some.inj h; simp only [Bool.and_eq_true] at hg; have OK := aj.mk (Si hg.1 hg.2.1 hg.2.2); have HR := aj.mk (And.intro dx (And.intro kF (And.intro Af hr2))); have HL2 := aj.mk (show l2.length ≤ 900 by have := OK.out.TY; omega); have hm1 : bN.length ≤ 9223372036854775807 := kF.2.1; clear h hg dx kF Af hr2; obtain ⟨own, hown⟩ : ∃ own, own = jC a3 l2 0 := ⟨_, rfl⟩; have HOWN := aj.mk hown; have HOL := aj.mk (show own.length ≤ 5 by rw [hown]; have := xY a3 l2 0; have := OK.out.TY; omega); have HOS := aj.mk (show ∀ s ∈ own, gB au.length s.f0 = true ∧ 0 ≤ s.f1 ∧ s.f1 ≤ 99 ∧ 0 ≤ s.f2 ∧ s.f2 ≤ 999 by rw [hown]; exact fun s hs => OK.out.Xb s (uK a3 l2 0 s hs)); have HE : aj (qX au bN ⟨iq, jv⟩ iC kK l2 a3 = vS au bN ⟨iq, jv⟩ iC kK own) := ⟨by rw [hown]; rfl⟩; rw [HE.out]
 have hmo : own.length ≤ 9223372036854775807 := by have := HOL.out; omega
 clear hown; have o8 := Tryz.underlying24; have IY := Tryz.underlying49; have wY := Tryz.underlying149; have Fq := Tryz.underlying107; have Yz := Tryz.underlying58; have kg := Tryz.underlying37
 have hmf : ∀ (fn : Fn) (first cap : Array Value) (w : World), (Instr.makeFunc fn first cap).run Tryz.prog w = .ok (.func fn first cap) w := fun _ _ _ _ => rfl
 go_enter Tryz.func131, Tryz.ntmps131
 go_wp2_with (first | ((with_reducible refine av (N := 4) rfl ?_); refine newX rfl rfl HX (cs := #[.slice bB au.length aZ]) (t := 24) tG ?_; clear HX; intro g4 w4 HX hx hz; clear hx hz) | ((with_reducible refine av (N := 5) rfl ?_); refine newX rfl rfl HX (cs := #[.slice gu bN.length gq, .int .i64 iq, .int .i64 jv, .slice wF iC.length vL, .int .i64 kK]) (t := 58) tG ?_; clear HX; intro g5 w5 HX hx hz; clear hx hz) | (go_at_call 129; refine (qg1 A2 c2 l2 a3 _ (Kd.ak HR.out.2.2.2 HX.below) hc2 HL2.out).mono ?_; rw [← HOWN.out]; rintro e w0 ⟨Ao, co, rfl, hlo, hC, hx⟩; have HO := aj.mk hC; replace HX := HX.step hx; clear hx hC))
 have H4 := aj.mk (HX.gb 1 rfl); have H5 := aj.mk (HX.gb 0 rfl); have rz := aj.mk HX.below; clear HX; have HX := Bx.nil w0
 go_loopw [10, 22] (fun v10 v22 W => ∃ (i : Nat) (M : Int), i ≤ own.length ∧ v10 = .int .i64 M ∧ v22 = .int .i64 i ∧ aj (M = ((own.take i).map dN.f1).sum ∧ ∀ i', i' < i → ∀ k, k < bN.length → wR au bN ⟨iq, jv⟩ iC own i' k = true) ∧ Bx [] w0 W) (fun _ v22 _ => own.length - (intOf v22).toNat)
 case atStart => exact ⟨0, 0, by omega, rfl, rfl, ⟨rfl, fun i' h => absurd h (by omega)⟩, HX⟩
 case round =>
  clear HX; obtain ⟨i, M, hi, rfl, rfl, HI, HX⟩ := hrel
  by_cases hlt : i < own.length
  ·obtain ⟨s, hs⟩ : ∃ s, s = uL own i := ⟨_, rfl⟩
   have hmem : s ∈ own := by rw [hs]; unfold uL; rw [List.getD_eq_getElem?_getD, List.getElem?_eq_getElem hlt]; exact List.getElem_mem hlt
   have hst := HOS.out s hmem; have hM := Xd (l := []) (own := own.take i) (fun s hs => by have := HOS.out s (List.mem_of_mem_take hs); omega); rw [← HI.out.1, List.length_take] at hM; have hM0 := hM.1
   have hM1 : M ≤ 495 := by have := HOL.out; omega
   have hs0 := hst.2.1; have hs1 := hst.2.2.1; have J9 := aj.mk hst.1; have HS := aj.mk hs; obtain ⟨ad, As, cs, rfl, q0, q1, q2, hls, hCs⟩ := yD HO.out i (by omega) (by omega)
   have hrd : bU own (i : Int) = s := by rw [hs, bU, Int.toNat_natCast]; rfl
   rw [hrd] at q0 q1 q2 hls hCs; rw [Int.toNat_natCast] at q0 q1 q2; replace q0 := (HX.below.cell (World.block_lt_of_cell? w0 _ q0)).trans q0; replace q1 := (HX.below.cell (World.block_lt_of_cell? w0 _ q1)).trans q1; replace q2 := (HX.below.cell (World.block_lt_of_cell? w0 _ q2)).trans q2; have HCS := aj.mk hCs
   have hilt : (i : Int) < own.length := by omega
   clear hs hst hM hmem hCs hrd
   go_wp2_with (first | ((with_reducible refine av (N := 12) rfl ?_); refine newX rfl rfl HX (cs := #[.slice none 0 0, .int .i64 0, .int .i64 0]) (t := 107) tG ?_; clear HX; intro g12 y9 HX hx hz; clear hx hz) | ((with_reducible refine bE (t := 107) (p := 12) rfl ?_); refine kL rfl rfl rfl HX 0 rfl (i := 0) (.agg #[.slice As s.f0.length cs, .int .i64 s.f1, .int .i64 s.f2]) [.slice As s.f0.length cs, .int .i64 s.f1, .int .i64 s.f2] #[.slice As s.f0.length cs, .int .i64 s.f1, .int .i64 s.f2] rfl rfl rfl tX (by simp) (by simp [Value.oneCell']) rfl ?_; clear HX; intro w9 HX hx; clear hx; dsimp only [List.set] at HX; clear q0 q1 q2; obtain ⟨xZ, yc, JC⟩ := HX.g3 0 rfl; have ck := fT (aG H4.out HX.below); obtain ⟨wZ, xg, vY, wQ, xk⟩ := EX (aG H5.out HX.below)))
   go_loopw [34] (fun v34 W => ∃ k : Nat, k ≤ bN.length ∧ v34 = .int .i64 k ∧ aj (∀ k', k' < k → wR au bN ⟨iq, jv⟩ iC own i k' = true) ∧ Bx [(g12, .cells #[.slice As s.f0.length cs, .int .i64 s.f1, .int .i64 s.f2] 107 (0, 0))] w0 W) (fun v34 _ => bN.length - (intOf v34).toNat)
   case atStart => exact ⟨0, by omega, rfl, ⟨fun k' h => absurd h (by omega)⟩, HX⟩
   case round =>
    clear HX xZ yc JC ck wZ xg vY wQ xk; obtain ⟨k, hk, rfl, HK, HX⟩ := hrel
    by_cases hltk : k < bN.length
    ·obtain ⟨x, hx⟩ : ∃ x, x = Cn bN k := ⟨_, rfl⟩
     obtain ⟨o, ho⟩ : ∃ o, o = Df iC k := ⟨_, rfl⟩; have HLB := aj.mk (show oP au.length x.f0 = true by rw [hx]; exact OK.out.qmI k hltk); have HOO := aj.mk (show -3000 ≤ o.f0 ∧ o.f1 ≤ 3000 ∧ o.f0 ≤ o.f1 by rw [ho]; exact OK.out.old k hltk); have hbw := aV rz.out HX.below; obtain ⟨adl, Aw, cw, rfl, p0, hlw, hCw⟩ := Nn HR.out.2.1 k (by omega) (by omega)
     have hrd : nR bN (k : Int) = x := by rw [hx, nR, Int.toNat_natCast]; rfl
     rw [hrd] at p0 hlw hCw; rw [Int.toNat_natCast] at p0; replace p0 := (hbw.cell (World.block_lt_of_cell? w _ p0)).trans p0; obtain ⟨ado, rfl, o0, o1⟩ := mD HR.out.2.2.1 k (by omega) (by have := OK.out.len; omega)
     have qg4 : bM iC (k : Int) = o := by rw [ho, bM, Int.toNat_natCast]; rfl
     rw [qg4, Int.toNat_natCast] at o0 o1; have HO0 := aj.mk o0; have HO1 := aj.mk o1; have HCW := aj.mk hCw; have HXX := aj.mk (And.intro hx ho)
     have hl3 : (k : Int) < iC.length := by have := OK.out.len; omega
     have hlk : (k : Int) < bN.length := by omega
     have LKF := aj.mk (qds OK.out.house HLB.out J9.out); have LKB := aj.mk (KX OK.out.house HLB.out J9.out); clear hx ho hrd qg4 hCw o0 o1; obtain ⟨xZ, yc, JC⟩ := HX.g3 0 rfl; have ck := fT (aG H4.out HX.below); obtain ⟨wZ, xg, vY, wQ, xk⟩ := EX (aG H5.out HX.below); clear hbw
     go_wp2_with (first | ((with_reducible refine av (N := 14) rfl ?_); refine newX rfl rfl HX (cs := #[.slice none 0 0]) (t := 49) tG ?_; clear HX; intro g14 Uo HX hx hz; clear hx hz) | ((with_reducible refine bE (t := 49) (p := 14) rfl ?_); refine kL rfl rfl rfl HX 0 rfl (i := 0) (.agg #[.slice Aw x.f0.length cw]) [.slice Aw x.f0.length cw] #[.slice Aw x.f0.length cw] rfl rfl rfl tX (by simp) (by simp [Value.oneCell']) rfl ?_; clear HX; intro w9 HX hx; clear hx; dsimp only [List.set] at HX; clear p0 xZ yc JC ck wZ xg vY wQ xk; have cx := HX.g1 0 rfl; obtain ⟨xZ, yc, JC⟩ := HX.g3 1 rfl; have ck := fT (aG H4.out HX.below); obtain ⟨wZ, xg, vY, wQ, xk⟩ := EX (aG H5.out HX.below)) | ((with_reducible refine av (N := 15) rfl ?_); refine newX rfl rfl HX (cs := #[.slice none 0 0, .slice none 0 0]) (t := 149) tG ?_; clear HX; intro g15 ML HX hx hz; clear hx hz) | ((with_reducible refine bE (t := 149) (p := 15) rfl ?_); refine kL rfl rfl rfl HX 0 rfl (i := 0) (.agg #[.slice bB au.length aZ, .slice Aw x.f0.length cw]) [.slice bB au.length aZ, .slice Aw x.f0.length cw] #[.slice bB au.length aZ, .slice Aw x.f0.length cw] rfl rfl rfl tX (by simp) (by simp [Value.oneCell']) rfl ?_; clear HX; intro w9 HX hx; clear hx; dsimp only [List.set] at HX; clear cx xZ yc JC ck wZ xg vY wQ xk; obtain ⟨Gj, KT⟩ := HX.g2 0 rfl; obtain ⟨xZ, yc, JC⟩ := HX.g3 2 rfl; have ck := fT (aG H4.out HX.below); obtain ⟨wZ, xg, vY, wQ, xk⟩ := EX (aG H5.out HX.below)) | (go_at_call 123; (with_reducible refine (cK.calls 1000 bB aZ au Aw cw x.f0 As cs s.f0 _ _ _ (Kd.ak HR.out.1 (aV rz.out HX.below)) dI (Kd.ak HCW.out (aV rz.out HX.below)) hlw (Kd.ak HCS.out HX.below) hls LKF.out).mono ?_); rintro e w1 ⟨rfl, hx⟩; replace HX := HX.step hx; clear hx Gj KT xZ yc JC ck wZ xg vY wQ xk; obtain ⟨xZ, yc, JC⟩ := HX.g3 2 rfl; have ck := fT (aG H4.out HX.below); obtain ⟨wZ, xg, vY, wQ, xk⟩ := EX (aG H5.out HX.below)) | ((with_reducible refine av (N := 16) rfl ?_); refine newX rfl rfl HX (cs := #[.int .i64 0, .int .i64 0]) (t := 37) tG ?_; clear HX; intro g16 w16 HX hx hz; clear hx hz) | ((with_reducible refine bE (t := 37) (p := 16) rfl ?_); refine kL rfl rfl rfl HX 0 rfl (i := 0) (.agg #[.int .i64 (tQ au x.f0 s.f0).1, .int .i64 (tQ au x.f0 s.f0).2]) [.int .i64 (tQ au x.f0 s.f0).1, .int .i64 (tQ au x.f0 s.f0).2] #[.int .i64 (tQ au x.f0 s.f0).1, .int .i64 (tQ au x.f0 s.f0).2] rfl rfl rfl tX (by simp) (by simp [Value.oneCell']) rfl ?_; clear HX; intro w9 HX hx; clear hx; dsimp only [List.set] at HX; clear xZ yc JC ck wZ xg vY wQ xk; obtain ⟨cm1, cm2⟩ := HX.g2 0 rfl; obtain ⟨xZ, yc, JC⟩ := HX.g3 3 rfl; have ck := fT (aG H4.out HX.below); obtain ⟨wZ, xg, vY, wQ, xk⟩ := EX (aG H5.out HX.below); have o0 := ((aV rz.out HX.below).cell (World.block_lt_of_cell? w _ HO0.out)).trans HO0.out; have o1 := ((aV rz.out HX.below).cell (World.block_lt_of_cell? w _ HO1.out)).trans HO1.out))
     obtain ⟨pl, hpl⟩ : ∃ p, p = tQ au x.f0 s.f0 := ⟨_, rfl⟩; have HPL := aj.mk hpl; have LB2 := LKB.out; rw [← hpl] at cm1 cm2 LB2
     have e1 : IntKind.i64.wrap (pl.2 - o.f0) = pl.2 - o.f0 := by have := HOO.out; rw [IntKind.wrap_i64]; omega
     have e2 : IntKind.i64.wrap (o.f1 - pl.1) = o.f1 - pl.1 := by have := HOO.out; rw [IntKind.wrap_i64]; omega
     clear hpl LB2
     go_quiet (fail)
     rename_i nq
     have uG := HX.drewN nq; clear HX e1 e2 cm1 cm2 o0 o1 xZ yc JC ck wZ xg vY wQ xk; have HX := uG; rw [← HPL.out] at HX; clear uG
     have hfa : Xa pl o = (if pl.2 - o.f0 < o.f1 - pl.1 then o.f1 - pl.1 else pl.2 - o.f0) := by unfold Xa; split <;> omega
     revert hfa
     generalize (if pl.2 - o.f0 < o.f1 - pl.1 then o.f1 - pl.1 else pl.2 - o.f0) = F
     intro hfa; have HFA := aj.mk hfa; clear hfa; have HAT : aj (wR au bN ⟨iq, jv⟩ iC own i k = (decide (Xa pl o ≤ iq) && !((own.take i).any fun y => uW au x.f0 y.f0 s.f0 iq jv != 3))) := ⟨by rw [HPL.out, HS.out, HXX.out.1, HXX.out.2]; rfl⟩
     by_cases hf : iq < F
     ·have HF := aj.mk (Dg (need := kK) hlt hltk (show wR au bN ⟨iq, jv⟩ iC own i k = false by rw [HAT.out, HFA.out, decide_eq_false (by omega)]; rfl))
      go_wp2_with (fail)
      go_ret
      exact ⟨by rw [HF.out]; rfl, aV rz.out HX.below⟩
     ·have HNF := aj.mk (show decide (Xa pl o ≤ iq) = true by rw [HFA.out]; exact decide_eq_true (by omega))
      have hit : (own.take i).length = i := by rw [List.length_take]; omega
      have qec := fun (W : World) (hb : Bx [(g16, .cells #[.int .i64 pl.1, .int .i64 pl.2] 37 (0, 0)), (g15, .cells #[.slice bB au.length aZ, .slice Aw x.f0.length cw] 149 (0, 0)), (g14, .cells #[.slice Aw x.f0.length cw] 49 (0, 0)), (g12, .cells #[.slice As s.f0.length cs, .int .i64 s.f1, .int .i64 s.f2] 107 (0, 0))] w0 W) => qaK (fun y => uW au x.f0 y.f0 s.f0 iq jv != 3) 182 #[.pointer (some ⟨g15, 0, none⟩), .pointer (some ⟨g12, 0, none⟩), .pointer (some ⟨g5, 0, none⟩)] (some ad) co (own.take i) W (Kd.ak (Kd.qb7 HO.out (by omega)) hb.below) (enters_of Tryz.func182 tX rfl) (fun y hy => ⟨fun W2 cy hb2 hK => by
       obtain ⟨Ay, cy', rfl, hly, hCy⟩ := vD hK; have hsy := (HOS.out y (List.mem_of_mem_take hy)).1; have hbb := aV (aV rz.out hb.below) hb2
       exact qd9 g15 g12 g5 bB aZ au Aw cw x.f0 As cs s Ay cy' y (.slice (some adl) bN.length gq) (.slice (some ado) iC.length vL) ⟨iq, jv⟩ kK W2 (aG (hb.gb 1 rfl) hb2) (aG (hb.gb 3 rfl) hb2) (aG (aG H5.out hb.below) hb2) (Kd.ak HR.out.1 hbb) dI (Kd.ak HCW.out hbb) hlw (Kd.ak HCS.out (aV hb.below hb2)) hls hCy hly (by unfold L8; rw [OK.out.house, HLB.out, hsy, J9.out]; rfl)⟩)
      rw [hit] at qec; have K2 := aj.mk qec
      have hic : (i : Int) ≤ co := by omega
      clear qec hit
      by_cases ha : ((own.take i).any fun y => uW au x.f0 y.f0 s.f0 iq jv != 3) = true
      ·rw [ha] at K2
       have HF := aj.mk (Dg (need := kK) hlt hltk (show wR au bN ⟨iq, jv⟩ iC own i k = false by rw [HAT.out, ha]; simp)); clear ha
       go_wp2_with (first | (go_at_call 180; refine (K2.out _ HX).mono ?_; rintro e w1 ⟨rfl, hx⟩; replace HX := HX.step hx; clear hx))
       go_ret
       exact ⟨by rw [HF.out]; rfl, aV rz.out HX.below⟩
      ·rw [Bool.not_eq_true] at ha
       rw [ha] at K2; have HT := aj.mk (show wR au bN ⟨iq, jv⟩ iC own i k = true by rw [HAT.out, HNF.out, ha]; rfl); clear ha
       go_wp2_with (first | (go_at_call 180; refine (K2.out _ HX).mono ?_; rintro e w1 ⟨rfl, hx⟩; replace HX := HX.step hx; clear hx))
       exact ⟨⟨k + 1, by omega, by go_num, ⟨fun k' hk' => by rcases Nat.lt_succ_iff_lt_or_eq.1 hk' with h | rfl; exact HK.out k' h; exact HT.out⟩, HX.Ml.Ml.Ml⟩, by simp [intOf]; omega⟩
    ·obtain rfl : k = bN.length := by omega
     go_wp2_with (fail)
     exact ⟨⟨i + 1, M + s.f1, by omega, rfl, by go_num, ⟨by rw [Xc hlt, ← HI.out.1, HS.out], fun i' hi' => by rcases Nat.lt_succ_iff_lt_or_eq.1 hi' with h | rfl; exact HI.out.2 i' h; exact HK.out⟩, HX.Ml⟩, by simp [intOf]; omega⟩
  ·obtain rfl : i = own.length := by omega
   obtain ⟨wZ, xg, vY, wQ, xk⟩ := EX (aG H5.out HX.below)
   go_wp2_with (fail)
   go_ret
   refine ⟨?_, aV rz.out HX.below⟩; rw [T9 (M := M) (by rw [HI.out.1, List.take_length]) HI.out.2]
   rfl
def nS (l : List dN) (set : Int) : Int := ((jC set l 0).map dN.f2).sum
theorem Bx.Xe {L : List (Nat × Obj)} {w W w1 : World} {row : Option Nat} (h : Bx L w W) (hg : W.grownBy w1 row) (hlo : ∀ k, row = some k → w.heap.size ≤ k) (hne : ∀ p ∈ L, some p.1 ≠ row) : Bx L w w1 :=
 ⟨kW h.below row h.below.size hg hlo, fun p hp => (hg.block _ (cZ (h.get p hp)) (hne p hp)).trans (h.get p hp), h.lo, h.nd⟩
theorem Dh (g5 : Nat) (A2 : Option Addr) (c2 : Nat) (l2 : List dN) (set : Int) (w : World) (h5 : w.heap[g5]? = some (.cells #[.slice A2 l2.length c2] 59 (0, 0))) (hr2 : Kd.C l7 w A2 l2.length l2) (hc2 : l2.length ≤ c2) (hl : l2.length ≤ 5) (hs : ∀ s ∈ l2, 0 ≤ s.f2 ∧ s.f2 ≤ 999) :
  Calls Tryz.prog 128 #[.int .i64 set, .pointer (some ⟨g5, 0, none⟩)] w fun e w' => e = .returned (.int .i64 (nS l2 set)) ∧ Below w.heap.size w w' := by
 obtain ⟨own, hown⟩ : ∃ own, own = jC set l2 0 := ⟨_, rfl⟩; have HOWN := aj.mk hown; obtain ⟨ps, hps⟩ : ∃ ps, ps = own.map dN.f2 := ⟨_, rfl⟩; have HPS := aj.mk hps; have HP : aj (nS l2 set = ps.sum) := ⟨by rw [hps, hown]; rfl⟩; clear hps; rw [HP.out]; have HOL := aj.mk (show own.length ≤ 5 by rw [hown]; have := xY set l2 0; omega); have HOS := aj.mk (show ∀ s ∈ own, 0 ≤ s.f2 ∧ s.f2 ≤ 999 by rw [hown]; exact fun s hs2 => hs s (uK set l2 0 s hs2)); have HR := aj.mk hr2; have HL2 := aj.mk (show l2.length ≤ 900 by omega); have ch := fT h5
 have hmo : own.length ≤ 9223372036854775807 := by have := HOL.out; omega
 have Fq := Tryz.underlying107; clear h5 hr2 hl hs hown
 go_enter Tryz.func128, Tryz.ntmps128
 go_wp2_with (go_at_call 129; refine (qg1 A2 c2 l2 set _ HR.out hc2 HL2.out).mono ?_; rw [← HOWN.out]; rintro e w0 ⟨Ao, co, rfl, hlo, hC, hx⟩; have HO := aj.mk hC; have rz := aj.mk hx; clear hx hC ch)
 have HX := Bx.nil w0
 go_loopw [4, 11] (fun v4 v11 W => ∃ i : Nat, i ≤ own.length ∧ v11 = .int .i64 i ∧ aj (Kd.R (Kd.int .i64) 3 W w0.heap.size (fun _ => True) v4 ((own.take i).map dN.f2)) ∧ Bx [] w0 W) (fun _ v11 _ => own.length - (intOf v11).toNat)
 case atStart => exact ⟨0, by omega, rfl, ⟨Kd.lJ _ _ _ _ _⟩, HX⟩
 case round =>
  clear HX; obtain ⟨i, hi, rfl, HV, HX⟩ := hrel
  by_cases hlt : i < own.length
  ·obtain ⟨s, hs⟩ : ∃ s, s = uL own i := ⟨_, rfl⟩
   obtain ⟨ad, As, cs, rfl, q0, q1, q2, hls, hCs⟩ := yD HO.out i (by omega) (by omega)
   have hrd : bU own (i : Int) = s := by rw [hs, bU, Int.toNat_natCast]; rfl
   rw [hrd] at q0 q1 q2; rw [Int.toNat_natCast] at q0 q1 q2; replace q0 := (HX.below.cell (World.block_lt_of_cell? w0 _ q0)).trans q0; replace q1 := (HX.below.cell (World.block_lt_of_cell? w0 _ q1)).trans q1; replace q2 := (HX.below.cell (World.block_lt_of_cell? w0 _ q2)).trans q2
   have hilt : (i : Int) < own.length := by omega
   have HT := aj.mk (show (own.take (i + 1)).map dN.f2 = (own.take i).map dN.f2 ++ [s.f2] by
    rw [List.take_succ_eq_append_getElem hlt, List.map_append, hs]
    unfold uL
    rw [List.getD_eq_getElem?_getD, List.getElem?_eq_getElem hlt]
    rfl)
   have HVL := aj.mk (show ((own.take i).map dN.f2).length ≤ 100000000 by rw [List.length_map, List.length_take]; have := HOL.out; omega); rw [hrd] at hls; clear hCs hs hrd
   go_wp2_with (first | ((with_reducible refine av (N := 6) rfl ?_); refine newX rfl rfl HX (cs := #[.slice none 0 0, .int .i64 0, .int .i64 0]) (t := 107) tG ?_; clear HX; intro g6 w6 HX hx hz; have N6 := wX HV hz; replace HV := qQ HV hx; clear hx hz) | ((with_reducible refine bE (t := 107) (p := 6) rfl ?_); refine kL rfl rfl rfl HX 0 rfl (i := 0) (.agg #[.slice As s.f0.length cs, .int .i64 s.f1, .int .i64 s.f2]) [.slice As s.f0.length cs, .int .i64 s.f1, .int .i64 s.f2] #[.slice As s.f0.length cs, .int .i64 s.f1, .int .i64 s.f2] rfl rfl rfl tX (by simp) (by simp [Value.oneCell']) rfl ?_; clear HX; intro w9 HX hx; dsimp only [List.set] at HX; replace HV := EY HV rfl hx N6.out; clear hx q0 q1 q2; obtain ⟨xZ, yc, JC⟩ := HX.g3 0 rfl) | ((with_reducible refine eD (b := .append) (xs := #[.tmp 15, .tmp 18]) rfl ?_); at_builtin; refine oL (w := w0) (Kd.int .i64) rfl (.tmp 15) (.tmp 18) 47 3 (.int .i64 0) 8 rfl Tryz.underlying47 info3 rfl (by decide) (by omega) _ ((own.take i).map dN.f2) s.f2 [.int .i64 s.f2] rfl rfl rfl HV ⟨HX.below⟩ HVL.out (by decide) ?_; intro u4 y9 HU HB2 hx hat; have uG := HX.Xe hx (fun k e => Kd.gH HV.out k e) (by intro p hp; rw [List.mem_singleton.1 hp]; exact N6.out); clear HX HV HB2 hx hat N6 xZ yc JC; have HX := uG; have HV := HU; clear uG HU))
   exact ⟨⟨i + 1, by omega, by go_num, ⟨by rw [HT.out]; exact HV.out⟩, HX.Ml⟩, by simp [intOf]; omega⟩
  ·obtain rfl : i = own.length := by omega
   have hps := HPS.out; have HV2 : aj (Kd.R (Kd.int .i64) 3 wr w0.heap.size (fun _ => True) u4 ps) := ⟨by have := HV.out; rwa [List.take_length, ← hps] at this⟩; obtain ⟨A4, c4, rfl, hl4, hC4⟩ := Kd.fO HV2.out; have HC4 := aj.mk hC4
   have hpl : ps.length = own.length := by rw [hps, List.length_map]
   have HSF := aj.mk (show jY.f 1000 ps = some ps.sum from qaQ (by have := HOL.out; omega) (fun x hx => by rw [hps] at hx; obtain ⟨s, hs, rfl⟩ := List.mem_map.1 hx; have := HOS.out s hs; omega) (by have := HOL.out; omega)); clear hC4 hpl hps HV HV2
   go_wp2_with (go_at_call 130; refine (pK (jY.calls 1000 A4 c4 ps _ _ HC4.out hl4 HSF.out)).mono ?_; rintro e w1 ⟨rfl, hx⟩; replace HX := HX.step hx; clear hx)
   go_ret
   exact ⟨rfl, aV rz.out HX.below⟩
end Go.Proofs.YtnpfbjnjdngkhaaGreatDoor.P
namespace Go.Proofs.YtnpfbjnjdngkhaaGreatDoor.P
open Go.RowKit Go.Proofs.YtnpfbjnjdngkhaaGreatDoorW.aW Go.Proofs.YtnpfbjnjdngkhaaGreatDoorW.bZ Go.Proofs.YtnpfbjnjdngkhaaGreatDoorW.dh
theorem Mq {P : Program} (w : World) (dT sT ty elem : TypeId) (b o dLen dCap : Nat) (a : Addr) (sLen sCap n sz : Nat) (cs : List Value)
  (hu : P.underlying dT = some (.slice elem)) (hs : (P.info? elem).map (·.size) = some sz) (hmin : Nat.min sLen dLen = n) (hn : cs.length = n * sz)
  (hsrc : ∀ j v, cs[j]? = some v → w.cell? (a.add j) = some v) (hc : ∀ j, j < cs.length → (w.cell? ⟨b, o + j, none⟩).isSome = true) (hf : ∀ j, j < cs.length → w.frozen? ⟨b, o + j, none⟩ = false) (h1 : ∀ v ∈ cs, v.oneCell' = true) :
  (Builtin.copy_ #[dT, sT] ty #[.slice (some ⟨b, o, none⟩) dLen dCap, .slice (some a) sLen sCap]).run P w = .ok (goInt n) (w.setCells b o cs) := by
 have hl := run_loadCells_list (P := P) w a cs hsrc; have hst := run_storeCells_cells (P := P) b o cs 0 w (by simpa using hc) (by simpa using hf) h1
 cases hq : P.info? elem with
 | none => simp [hq] at hs
 | some i =>
  have hi : i.size = sz := by simpa [hq] using hs
  simp [Builtin.copy_, run_underlying hu, Builtin.lenOf, Builtin.firstCells, sizeOf, typeInfo, hq, hi, hmin, ← hn, hl, hst]
section
variable {L : List (Nat × Obj)} {w W : World} {P : Program} {ops : Array Oper} {rest : List Oper} {o : Oper} {a : Act} {Q : Exit → Act → World → Prop} {Kc : Act → World → Prop}
theorem Mr (d s : Operand) {dT sT elem : TypeId} {sz : Nat} (ho : o.op = .call { callee := .builtin .copy, args := #[d, s], argTypes := #[dT, sT] }) (hu : P.underlying dT = some (.slice elem)) (hs : (P.info? elem).map (·.size) = some sz) (HX : Bx L w W) (k : Nat)
  {g off dLen dCap sLen sCap n : Nat} {ad : Addr} {cur : Array Value} {t : TypeId} (hk : L[k]? = some (g, .cells cur t (0, 0))) (hd : a.eval d = .slice (some ⟨g, off, none⟩) dLen dCap) (hsv : a.eval s = .slice (some ad) sLen sCap) (hmin : Nat.min sLen dLen = n)
  (cs : List Value) (hn : cs.length = n * sz) (hsrc : ∀ j v, cs[j]? = some v → W.cell? (ad.add j) = some v) (hfit : off + cs.length ≤ cur.size) (h1 : ∀ v ∈ cs, v.oneCell' = true) (cur' : Array Value) (hcs : cur.toList.take off ++ cs ++ cur.toList.drop (off + cs.length) = cur'.toList) :
  (execOp a.eval o).run P W = .ok (.value (.int .i64 n)) (W.setCells g off cs) ∧ Bx (L.set k (g, .cells cur' t (0, 0))) w (W.setCells g off cs) ∧ W.grownBy (W.setCells g off cs) (some g) := by
 have HK := HX.get _ (List.mem_of_getElem? hk); obtain ⟨c2, h3, h4, h5⟩ := lT cs off W cur HK hfit; obtain ⟨s1, s2, s3, s4⟩ := kG g cs off W; have hg : W.grownBy (W.setCells g off cs) (some g) := ⟨s1, s2, s3, by rw [s4]; exact Nat.le_refl _, fun k _ hk => kD _ _ k (fun he => hk (by rw [he]))⟩
 obtain rfl : c2 = cur' := by rw [← Array.toList_inj, h5, hcs]
 refine ⟨?_, HX.put k hk hg h3, hg⟩; have hr := Mq (P := P) W dT sT o.type elem g off dLen dCap ad sLen sCap n sz cs hu hs hmin hn hsrc (fun j hj => by rw [cell_of_row W g _ cur t (0, 0) HK]; simp; omega) (fun j _ => qm HK _) h1
 unfold execOp
 simp [ho, hd, hsv, resolve, invoke, builtin, hr, goInt]
theorem Sj (hgd : o.guard = none) (d s : Operand) {dT sT elem : TypeId} {sz : Nat} (ho : o.op = .call { callee := .builtin .copy, args := #[d, s], argTypes := #[dT, sT] }) (hu : P.underlying dT = some (.slice elem)) (hs : (P.info? elem).map (·.size) = some sz) (HX : Bx L w W) (k : Nat)
  {g off dLen dCap sLen sCap n : Nat} {ad : Addr} {cur : Array Value} {t : TypeId} (hk : L[k]? = some (g, .cells cur t (0, 0))) (hd : a.eval d = .slice (some ⟨g, off, none⟩) dLen dCap) (hsv : a.eval s = .slice (some ad) sLen sCap) (hmin : Nat.min sLen dLen = n)
  (cs : List Value) (hn : cs.length = n * sz) (hsrc : ∀ j v, cs[j]? = some v → W.cell? (ad.add j) = some v) (hfit : off + cs.length ≤ cur.size) (h1 : ∀ v ∈ cs, v.oneCell' = true) (cur' : Array Value) (hcs : cur.toList.take off ++ cs ++ cur.toList.drop (off + cs.length) = cur'.toList)
  (h : ∀ w1, Bx (L.set k (g, .cells cur' t (0, 0))) w w1 → W.grownBy w1 (some g) → wpList P ops Q rest (a.put o.dst (.int .i64 n)) w1) : wpList P ops Q (o :: rest) a W := by
 obtain ⟨e1, e2, e3⟩ := Mr d s ho hu hs HX k hk hd hsv hmin cs hn hsrc hfit h1 cur' hcs; exact Kd.r9 hgd e1 (h _ e2 e3)
theorem Ms (hw : Region.wanted o (yielded ops a.tmps) = true) (d s : Operand) {dT sT elem : TypeId} {sz : Nat} (ho : o.op = .call { callee := .builtin .copy, args := #[d, s], argTypes := #[dT, sT] }) (hu : P.underlying dT = some (.slice elem)) (hs : (P.info? elem).map (·.size) = some sz) (HX : Bx L w W) (k : Nat)
  {g off dLen dCap sLen sCap n : Nat} {ad : Addr} {cur : Array Value} {t : TypeId} (hk : L[k]? = some (g, .cells cur t (0, 0))) (hd : a.eval d = .slice (some ⟨g, off, none⟩) dLen dCap) (hsv : a.eval s = .slice (some ad) sLen sCap) (hmin : Nat.min sLen dLen = n)
  (cs : List Value) (hn : cs.length = n * sz) (hsrc : ∀ j v, cs[j]? = some v → W.cell? (ad.add j) = some v) (hfit : off + cs.length ≤ cur.size) (h1 : ∀ v ∈ cs, v.oneCell' = true) (cur' : Array Value) (hcs : cur.toList.take off ++ cs ++ cur.toList.drop (off + cs.length) = cur'.toList)
  (h : ∀ w1, Bx (L.set k (g, .cells cur' t (0, 0))) w w1 → W.grownBy w1 (some g) → Kc (a.put o.dst (.int .i64 n)) w1) : if Region.wanted o (yielded ops a.tmps) = true then Oper.wp P o a W Kc Q else Kc (a.put o.dst undef) W := by
 obtain ⟨e1, e2, e3⟩ := Mr d s ho hu hs HX k hk hd hsv hmin cs hn hsrc hfit h1 cur' hcs; exact qo hw e1 (h _ e2 e3)
end
end Go.Proofs.YtnpfbjnjdngkhaaGreatDoor.P
namespace Go.Proofs.YtnpfbjnjdngkhaaGreatDoor.P
open Go.RowKit Go.Proofs.YtnpfbjnjdngkhaaGreatDoorW.aW Go.Proofs.YtnpfbjnjdngkhaaGreatDoorW.bZ Go.Proofs.YtnpfbjnjdngkhaaGreatDoorW.dh
attribute [local go_sem] fE fF gU gV eX eY fG fH
def bits_Mul64.f (a0 : Int) (a1 : Int) : Option (Int × Int) := some (IntKind.u64.wrap ((IntKind.u64.wrap ((IntKind.u64.wrap ((a0 / 4294967296) * (a1 / 4294967296))) + ((IntKind.u64.wrap ((IntKind.u64.wrap ((a0 / 4294967296) * (Go.bits .and .u64 a1 4294967295))) + ((IntKind.u64.wrap ((Go.bits .and .u64 a0 4294967295) * (Go.bits .and .u64 a1 4294967295))) / 4294967296))) / 4294967296))) + ((IntKind.u64.wrap ((Go.bits .and .u64 (IntKind.u64.wrap ((IntKind.u64.wrap ((a0 / 4294967296) * (Go.bits .and .u64 a1 4294967295))) + ((IntKind.u64.wrap ((Go.bits .and .u64 a0 4294967295) * (Go.bits .and .u64 a1 4294967295))) / 4294967296))) 4294967295) + (IntKind.u64.wrap ((Go.bits .and .u64 a0 4294967295) * (a1 / 4294967296))))) / 4294967296)), IntKind.u64.wrap (a0 * a1))
theorem bits_Mul64.calls (a0 : Int) (a1 : Int) (r1 : Int) (r2 : Int) (w : World) (h : bits_Mul64.f a0 a1 = some (r1, r2)) :
  Calls Tryz.prog 229 #[.int .u64 a0, .int .u64 a1] w fun e w' => e = .returned (.tuple #[.int .u64 r1, .int .u64 r2]) ∧ iw w w' := by
 have H : (some (IntKind.u64.wrap ((IntKind.u64.wrap ((IntKind.u64.wrap ((a0 / 4294967296) * (a1 / 4294967296))) + ((IntKind.u64.wrap ((IntKind.u64.wrap ((a0 / 4294967296) * (Go.bits .and .u64 a1 4294967295))) + ((IntKind.u64.wrap ((Go.bits .and .u64 a0 4294967295) * (Go.bits .and .u64 a1 4294967295))) / 4294967296))) / 4294967296))) + ((IntKind.u64.wrap ((Go.bits .and .u64 (IntKind.u64.wrap ((IntKind.u64.wrap ((a0 / 4294967296) * (Go.bits .and .u64 a1 4294967295))) + ((IntKind.u64.wrap ((Go.bits .and .u64 a0 4294967295) * (Go.bits .and .u64 a1 4294967295))) / 4294967296))) 4294967295) + (IntKind.u64.wrap ((Go.bits .and .u64 a0 4294967295) * (a1 / 4294967296))))) / 4294967296)), IntKind.u64.wrap (a0 * a1))) = some (r1, r2) := h; clear h; simp only [Option.some.injEq, Prod.mk.injEq] at H; obtain ⟨rfl, rfl⟩ := H
 go_enter Tryz.func229, Tryz.ntmps229
 go_wp2
 go_ret2
 exact ⟨tS, tD⟩
def bits_Mul.f (a0 : Int) (a1 : Int) : Option (Int × Int) := (bits_Mul64.f a0 a1).bind fun Mt => (some (Mt.1, Mt.2))
theorem bits_Mul.calls (a0 : Int) (a1 : Int) (r1 : Int) (r2 : Int) (w : World) (h : bits_Mul.f a0 a1 = some (r1, r2)) :
  Calls Tryz.prog 215 #[.int .u64 a0, .int .u64 a1] w fun e w' => e = .returned (.tuple #[.int .u64 r1, .int .u64 r2]) ∧ iw w w' := by
 have H : ((bits_Mul64.f a0 a1).bind fun Mt => (some (Mt.1, Mt.2))) = some (r1, r2) := h; clear h; obtain ⟨⟨t250, t251⟩, TF, H⟩ := bs H; have A3 := aj.mk TF; clear TF; simp only [Option.some.injEq, Prod.mk.injEq] at H; obtain ⟨rfl, rfl⟩ := H
 go_enter Tryz.func215, Tryz.ntmps215
 go_wp2_with (first | ((with_reducible refine aD (f := 229) rfl ?_); refine bW (some 25) rfl rfl Tryz.func229 tX rfl #[.int .u64 a0, .int .u64 a1] rfl tM ?_; (with_reducible refine (bits_Mul64.calls a0 a1 t250 t251 _ A3.out).mono ?_); rintro e w' ⟨rfl, ⟨nd, rfl⟩⟩; refine ⟨_, rfl, ?_⟩))
 go_ret2
 exact ⟨tS, tD⟩
end Go.Proofs.YtnpfbjnjdngkhaaGreatDoor.P
