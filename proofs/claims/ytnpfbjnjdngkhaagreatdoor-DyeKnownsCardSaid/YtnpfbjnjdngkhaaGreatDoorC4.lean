import Derived.Test.YtnpfbjnjdngkhaaGreatDoorC3
set_option maxHeartbeats 8000000
set_option maxRecDepth 100000
set_option linter.unusedVariables false
set_option linter.unusedSimpArgs false
namespace Go.Proofs.YtnpfbjnjdngkhaaGreatDoor.P
open Go.RowKit Go.Proofs.YtnpfbjnjdngkhaaGreatDoorW.aW Go.Proofs.YtnpfbjnjdngkhaaGreatDoorW.bZ Go.Proofs.YtnpfbjnjdngkhaaGreatDoorW.dh
def N8 (h : List bO) (l : List bg) (d : Int) : Int := qx (aT h d).f1 d ((aT h d).f0.map bT.f0) l ((l.map bg.f2).map bT.f0)
def Oa (h : List bO) (l : List bg) (d : Int) : Int := qx (aT h d).f1 d ((aT h d).f0.map bT.f1) l ((l.map bg.f2).map bT.f1)
theorem Ob {h : List bO} {l : List bg} {d : Int} (ws : List Int) (hh : iA h = true) (hb : gB h.length l = true) (hd : 0 ≤ d ∧ d < h.length) :
  iT.f h ws l d = some (N8 h l d, Oa h l d) ∧ (0 ≤ N8 h l d ∧ N8 h l d ≤ 100) ∧ (0 ≤ Oa h l d ∧ Oa h l d ≤ 100) := by
 have HO := lH hh; have BO := nX hb; have hm := l9 hd; have h3 := HO.takes _ hm; have hs := HO.span _ hm; have hf := HO.full _ hm; have hl := BO.len
 have ht0 : ∀ x ∈ (aT h d).f0.map bT.f0, 0 ≤ x ∧ x ≤ 1000 := fun x hx => by
  obtain ⟨s, hs2, rfl⟩ := List.mem_map.1 hx; have := hs s hs2; have := wG hh hm hs2
  omega
 have ht1 : ∀ x ∈ (aT h d).f0.map bT.f1, 0 ≤ x ∧ x ≤ 1000 := fun x hx => by
  obtain ⟨s, hs2, rfl⟩ := List.mem_map.1 hx; have := hs s hs2; have := wG hh hm hs2
  omega
 have hw0 : ∀ x ∈ (l.map bg.f2).map bT.f0, 0 ≤ x ∧ x ≤ 1000 := fun x hx => by
  obtain ⟨s, hs2, rfl⟩ := List.mem_map.1 hx; obtain ⟨b, hb2, rfl⟩ := List.mem_map.1 hs2; have := BO.hours b hb2; have := wH hb hb2
  omega
 have hw1 : ∀ x ∈ (l.map bg.f2).map bT.f1, 0 ≤ x ∧ x ≤ 1000 := fun x hx => by
  obtain ⟨s, hs2, rfl⟩ := List.mem_map.1 hx; obtain ⟨b, hb2, rfl⟩ := List.mem_map.1 hs2; have := BO.hours b hb2; have := wH hb hb2
  omega
 have Qs : ∀ (g : bT → Int), ∀ b ∈ l, b.f0 = d → 0 ≤ b.f1 ∧ b.f1 < ((aT h d).f0.map g).length := fun g b hb2 _ => by
  have := BO.NC b hb2; rw [List.length_map]
  omega
 refine ⟨?_, ru hf ht0 hw0, ru hf ht1 hw1⟩
 unfold iT.f dX.f fI.f
 rw [if_pos hd.1, if_pos hd.2, if_pos hd.1, if_pos hd.2, Vi (by omega) (by omega), Option.bind_some, Qq (by omega) (by omega), Option.bind_some, Vi (by rw [List.length_map]; omega) (by rw [List.length_map]; omega), Option.bind_some,
  IB hd (by omega) (by simp) hw0 ht0 (Qs _) (by omega), Qr (by omega) (by omega), Option.bind_some, Option.bind_some, Option.bind_some, Option.bind_some, Qr (by rw [List.length_map]; omega) (by rw [List.length_map]; omega), Option.bind_some, IB hd (by omega) (by simp) hw1 ht1 (Qs _) (by omega)]
 rfl
def tO (h : List bO) (l : List bg) : List Int → Int → Int → Int → Int × Int
 | [], _, a, b => (a, b)
 | w :: ws, d, a, b => tO h l ws (d + 1) (a + min (N8 h l d * w) (Oa h l d * w)) (b + max (N8 h l d * w) (Oa h l d * w))
def tQ (h : List bO) (ws : List Int) (l : List bg) : Int × Int := tO h l ws 0 0 0
theorem qdr (a b : Int) : mx a b = max a b := by unfold mx; omega
theorem Zl {h : List bO} {l : List bg} {ws : List Int} (hh : iA h = true) (hw : oP h.length ws = true) (hb : gB h.length l = true) :
  ∀ (m k i : Nat) (a b : Int), i + m = ws.length → m < k → -900 * i ≤ a ∧ a ≤ 900 * i → -900 * i ≤ b ∧ b ≤ 900 * i → cK.l0 k l ws (ws.length : Int) (i : Int) h ws a b = some (tO h l (ws.drop i) i a b) := by
 have WO := rF hw; have hl3 := (lH hh).len; intro m
 induction m with
 | zero =>
  intro k i a b him hk ha hb2; obtain ⟨k, rfl⟩ : ∃ m, k = m + 1 := ⟨k - 1, by omega⟩; simp only [cK.l0]; rw [if_neg (by omega), List.drop_eq_nil_of_le (by omega), tO]
 | succ m ih =>
  intro k i a b him hk ha hb2; obtain ⟨k, rfl⟩ : ∃ m, k = m + 1 := ⟨k - 1, by omega⟩
  have hi : i < ws.length := by omega
  have hdl : (0 : Int) ≤ (i : Int) ∧ (i : Int) < h.length := by have := WO.len; omega
  obtain ⟨he, h1, h2⟩ := Ob ws hh hb hdl; have hwt := WO.wt _ (List.getElem_mem hi); simp only [cK.l0]; rw [if_pos (by omega), if_pos (by omega), if_pos (by omega), he, Option.bind_some, sJ.f, Option.bind_some, xL.f, Option.bind_some, qR hi, Nz, qdr]; have e1 := V5 hwt (z := N8 h l i) (by omega); have e2 := V5 hwt (z := Oa h l i) (by omega); rw [Int.mul_comm] at e1 e2; rw [z8 (x := N8 h l i * ws[i]) (by omega) (by omega), z8 (x := Oa h l i * ws[i]) (by omega) (by omega), z8 (by omega) (by omega), z8 (by omega) (by omega), z8 (by omega) (by omega)]; have := ih k (i + 1) (a + min (N8 h l i * ws[i]) (Oa h l i * ws[i])) (b + max (N8 h l i * ws[i]) (Oa h l i * ws[i])) (by omega) (by omega) (by omega) (by omega); rw [Int.natCast_add, Int.natCast_one] at this; rw [this, List.drop_eq_getElem_cons hi, tO]
theorem qds {h : List bO} {ws : List Int} {l : List bg} (hh : iA h = true) (hw : oP h.length ws = true) (hb : gB h.length l = true) : cK.f 1000 h ws l = some (tQ h ws l) := by
 have := Zl hh hw hb ws.length 1000 0 0 0 (by omega) (by have := (rF hw).len; have := (lH hh).len; omega) (by omega) (by omega)
 simpa [cK.f, tQ] using this
theorem Ba {h : List bO} {l : List bg} (hh : iA h = true) (hb : gB h.length l = true) : ∀ (ws : List Int) (d a b B : Int), 0 ≤ d → d + ws.length ≤ h.length → (∀ x ∈ ws, -9 ≤ x ∧ x ≤ 9) → -B ≤ a ∧ a ≤ B → -B ≤ b ∧ b ≤ B →
  (-(B + 900 * ws.length) ≤ (tO h l ws d a b).1 ∧ (tO h l ws d a b).1 ≤ B + 900 * ws.length) ∧ (-(B + 900 * ws.length) ≤ (tO h l ws d a b).2 ∧ (tO h l ws d a b).2 ≤ B + 900 * ws.length)
 | [], d, a, b, B, _, _, _, ha, hb2 => by simp [tO]; omega
 | w :: ws, d, a, b, B, h0, h1, hw, ha, hb2 => by
  rw [List.length_cons] at h1 ⊢; obtain ⟨_, e1, e2⟩ := Ob (d := d) ws hh hb ⟨h0, by omega⟩; have hwt := hw w (List.mem_cons_self ..); have f1 := V5 hwt (z := N8 h l d) (by omega); have f2 := V5 hwt (z := Oa h l d) (by omega); rw [Int.mul_comm] at f1 f2; have := Ba hh hb ws (d + 1) (a + min (N8 h l d * w) (Oa h l d * w)) (b + max (N8 h l d * w) (Oa h l d * w)) (B + 900) (by omega) (by omega) (fun x hx => hw x (List.mem_cons_of_mem _ hx)) (by omega) (by omega); rw [tO]
  omega
theorem KX {h : List bO} {ws : List Int} {l : List bg} (hh : iA h = true) (hw : oP h.length ws = true) (hb : gB h.length l = true) : (-2700 ≤ (tQ h ws l).1 ∧ (tQ h ws l).1 ≤ 2700) ∧ (-2700 ≤ (tQ h ws l).2 ∧ (tQ h ws l).2 ≤ 2700) := by
 have := Ba hh hb ws 0 0 0 0 (by omega) (by have := (rF hw).len; omega) (rF hw).wt (by omega) (by omega); have h2 := (rF hw).len; have h3 := (lH hh).len
 unfold tQ
 omega
end Go.Proofs.YtnpfbjnjdngkhaaGreatDoor.P
namespace Go.Proofs.YtnpfbjnjdngkhaaGreatDoor.P
open Go.RowKit Go.Proofs.YtnpfbjnjdngkhaaGreatDoorW.aW Go.Proofs.YtnpfbjnjdngkhaaGreatDoorW.bZ Go.Proofs.YtnpfbjnjdngkhaaGreatDoorW.dh
attribute [local go_sem] fE fF gU gV eX eY fG fH
mutual
def dZ.j0 : Nat → List bg → Bool → List bO → Option ((List bT) × Int)
 | 0, _, _, _ => none
 | k + 1, x1, Te, Bb => if Te = true then (some (([] : List bT), 2)) else (dZ.l0 k x1 ([] : List bT) (Bb.length : Int) 0 Bb)
def dZ.l0 : Nat → List bg → List bT → Int → Int → List bO → Option ((List bT) × Int)
 | 0, _, _, _, _, _ => none
 | k + 1, x1, x6, x19, x20, Bb => if x20 < x19 then ((iT.f Bb ([] : List Int) x1 x20).bind fun qa9 => (if x6.length < 8796093022208 then (dZ.l0 k x1 (x6 ++ [(⟨qa9.1, qa9.2⟩ : bT)]) x19 (wrap64 (x20 + 1)) Bb) else (none))) else (some (x6, 0))
end
def dZ.f (k : Nat) (au : List bO) (l1 : List bg) : Option ((List bT) × Int) := (fq.f au).bind fun t165 => (if t165 = true then ((fB.f au l1).bind fun t166 => (dZ.j0 k l1 (!t166) au)) else (dZ.j0 k l1 true au))
theorem dZ.calls (k : Nat) (bB : Option Addr) (aZ : Nat) (au : List bO) (A1 : Option Addr) (c1 : Nat) (l1 : List bg) (r1 : List bT) (r2 : Int) (w : World) (dx : Kd.C iM w bB au.length au) (dI : au.length ≤ aZ) (hr1 : Kd.C eT w A1 l1.length l1) (hc1 : l1.length ≤ c1) (h : dZ.f k au l1 = some (r1, r2)) :
  Calls Tryz.prog 29 #[.agg #[.slice bB au.length aZ], .slice A1 l1.length c1] w fun e w' => ∃ kM : Value, e = .returned (.tuple #[kM, .int .i64 r2]) ∧ Kd.R j3 37 w' w.heap.size (fun _ => True) kM r1 ∧ Below w.heap.size w w' := by
 have o8 := Tryz.underlying24; have wY := Tryz.underlying149; have dJ := aj.mk dx; have eu := aj.mk dI; clear dx dI; have HR1 := aj.mk hr1; have uU := aj.mk hc1; clear hr1 hc1; have HB := aj.mk (Below.refl w.heap.size w); have H : ((fq.f au).bind fun t165 => (if t165 = true then ((fB.f au l1).bind fun t166 => (dZ.j0 k l1 (!t166) au)) else (dZ.j0 k l1 true au))) = some (r1, r2) := h; clear h; have Ke := aj.mk H; clear H
 go_enter Tryz.func29, Tryz.ntmps29
 go_upto_region 1 with (first | ((with_reducible refine av (N := 2) rfl ?_); refine fA 2 #[.slice bB au.length aZ] 24 HB ?_; clear HB; intro Wo w4 hg nP qo5 HB hb; clear hb hg))
 (try simp only [Act.put, sL])
 go_cut [16] (fun v16 wc => ∃ (kq : Nat) (Q8 : Bool), v16 = .bool Q8 ∧ aj (dZ.j0 kq l1 Q8 au = some (r1, r2)) ∧ aj (kq ≤ k) ∧ aj (wc.heap[Wo]? = some (.cells #[(.slice bB au.length aZ)] 24 (0, 0))) ∧ aj (Below w.heap.size w wc))
 case first =>
  have H := Ke.out; clear Ke; obtain ⟨t165, A5, H⟩ := lV H
  by_cases c6 : t165 = true
  ·subst c6
   rw [if_pos rfl] at H; obtain ⟨t166, A7, H⟩ := lV H; have H' := aj.mk H; clear H; have zx := bc1 nP; have zy := bf nP 0
   go_wp2_with (first | ((with_reducible refine aD (f := 105) rfl ?_); refine bW (some 9) rfl rfl Tryz.func105 tX rfl #[.agg #[.slice bB au.length aZ]] rfl tM ?_; (with_reducible refine (fq.calls _ _ au true _ ?bF ?bG A5.out).mono ?_); (case bF => repeat (first | exact (Kd.ak dJ.out HB.out) | (with_reducible refine Kd.bC ?_ _) | (with_reducible refine Kd.bD ?_ _) | (with_reducible refine Kd.bQ ?_))); (case bG => exact eu.out); rintro e w9 ⟨rfl, hb⟩; refine ⟨_, rfl, ?_⟩; replace nP := bV nP hb; replace HB := dL HB hb; (try clear hb); have yN := bc1 nP; have yO := bf nP 0) | (go_at_call 106; (with_reducible refine (fB.calls _ _ au _ _ l1 t166 _ ?bF ?bG ?eG ?eH A7.out).mono ?_); (case bF => repeat (first | exact (Kd.ak dJ.out HB.out) | (with_reducible refine Kd.bC ?_ _) | (with_reducible refine Kd.bD ?_ _) | (with_reducible refine Kd.bQ ?_))); (case bG => exact eu.out); (case eG => repeat (first | exact (Kd.ak HR1.out HB.out) | (with_reducible refine Kd.bC ?_ _) | (with_reducible refine Kd.bD ?_ _) | (with_reducible refine Kd.bQ ?_))); (case eH => exact uU.out); rintro e JW ⟨rfl, hb⟩; replace nP := bV nP hb; replace HB := dL HB hb; (try clear hb)))
   go_meet
   case rel => exact ⟨_, (!t166), tS, H', ⟨by first | omega | exact Nat.le_refl _⟩, ⟨tK⟩, ⟨tB⟩⟩
  ·replace c6 := Bool.eq_false_iff.mpr c6
   subst c6
   have H1 : (dZ.j0 k l1 true au) = some (r1, r2) := by rw [if_neg (show ¬ (false = true) by decide)] at H; exact H
   clear H; have H := H1; clear H1; have H' := aj.mk H; clear H; have yP := bc1 nP; have yQ := bf nP 0
   go_wp2_with (first | ((with_reducible refine aD (f := 105) rfl ?_); refine bW (some 9) rfl rfl Tryz.func105 tX rfl #[.agg #[.slice bB au.length aZ]] rfl tM ?_; (with_reducible refine (fq.calls _ _ au false _ ?bF ?bG A5.out).mono ?_); (case bF => repeat (first | exact (Kd.ak dJ.out HB.out) | (with_reducible refine Kd.bC ?_ _) | (with_reducible refine Kd.bD ?_ _) | (with_reducible refine Kd.bQ ?_))); (case bG => exact eu.out); rintro e w13 ⟨rfl, hb⟩; refine ⟨_, rfl, ?_⟩; replace nP := bV nP hb; replace HB := dL HB hb; (try clear hb)))
   go_meet
   case rel => exact ⟨_, (true), tS, H', ⟨by first | omega | exact Nat.le_refl _⟩, ⟨tK⟩, ⟨tB⟩⟩
 case rest =>
  clear Ke
  try clear c1
  try clear c2
  try clear p2
  try clear c6
  try clear c10
  try clear yN
  try clear yP
  try clear zx
  try clear yO
  try clear yQ
  try clear zy
  obtain ⟨kq, Q8, rfl, HA, HJ2, nP, HB⟩ := hcut
  cases kq with
  | zero => exact absurd HA.out (by simp [dZ.j0])
  | succ JY =>
   have H := HA.out; clear HA; simp only [dZ.j0] at H
   by_cases c14 : Q8 = true
   ·subst c14
    rw [if_pos rfl] at H; simp only [Option.some.injEq, Prod.mk.injEq] at H; obtain ⟨rfl, rfl⟩ := H
    go_wp2
    go_ret2
    exact ⟨_, tF, by first | exact Kd.lJ _ _ _ _ _ | exact Kd.sU _ _ _ _ _ | exact Kd.sW _ _ _ _ _ | exact Kd.sQ _ _ _ _ _ | exact Kd.sS _ _ _ _ _, tB⟩
   ·replace c14 := Bool.eq_false_iff.mpr c14
    subst c14
    have H1 : (dZ.l0 JY l1 ([] : List bT) (au.length : Int) 0 au) = some (r1, r2) := by rw [if_neg (show ¬ (false = true) by decide)] at H; exact H
    clear H; have H := H1; clear H1; have H' := aj.mk H; clear H; have yL := bc1 nP; have yM := bf nP 0
    go_wp2
    go_loopg [6, 20] JY (fun kq v6 v20 w' => ∃ (Tx : List bT) (za : Int), v20 = .int .i64 za ∧ aj (dZ.l0 kq l1 Tx (au.length : Int) za au = some (r1, r2)) ∧ aj (kq ≤ JY) ∧ aj (Kd.R j3 37 w' w.heap.size (fun _ => True) v6 Tx) ∧ aj (w'.heap[Wo]? = some (.cells #[(.slice bB au.length aZ)] 24 (0, 0))) ∧ aj (Below w.heap.size w w'))
    case atStart => exact ⟨(([] : List bT)), (0), tS, H', ⟨Nat.le_refl _⟩, ⟨by first | exact Kd.lJ _ _ _ _ _ | exact Kd.sU _ _ _ _ _ | exact Kd.sW _ _ _ _ _ | exact Kd.sQ _ _ _ _ _ | exact Kd.sS _ _ _ _ _⟩, ⟨tK⟩, ⟨tB⟩⟩
    case round =>
     clear H'
     try clear c1
     try clear c2
     try clear p2
     try clear c6
     try clear c10
     try clear c14
     try clear yN
     try clear yP
     try clear yL
     try clear zx
     try clear yO
     try clear yQ
     try clear yM
     try clear zy
     try clear p2
     obtain ⟨Tx, za, rfl, HA, XY, Zm, nP, HB⟩ := hrel
     cases gk with
     | zero => exact absurd HA.out (by simp [dZ.l0])
     | succ k2 =>
      have H := HA.out; clear HA; simp only [dZ.l0] at H
      by_cases c16 : za < (au.length : Int)
      ·rw [if_pos c16] at H
       have qfZ : decide (za < (au.length : Int)) = true := decide_eq_true c16; clear c16; obtain ⟨⟨t167, t168⟩, qf0, H⟩ := bs H; have A17 := aj.mk qf0; clear qf0
       by_cases c18 : Tx.length < 8796093022208
       ·rw [if_pos c18] at H
        have qf1 := aj.mk c18; clear c18; obtain ⟨qf2, KY⟩ : ∃ y_ : List bT, y_ = (Tx ++ [(⟨t167, t168⟩ : bT)]) := ⟨_, rfl⟩
        replace H : (dZ.l0 k2 l1 qf2 (au.length : Int) (wrap64 (za + 1)) au) = some (r1, r2) := by first | (rw [KY]; with_reducible exact H) | (have iY := (Option.bind_some _ _).symm.trans H; rw [KY]; with_reducible exact iY) | (have iY := (Option.bind_some _ _).symm.trans H; with_reducible exact iY) | with_reducible exact H | (rw [KY]; exact H) | exact H
        have qf3 := aj.mk KY; clear KY; have H' := aj.mk H; clear H; have Qy := bc1 nP; have Qz := bf nP 0
        go_wp2_with (first | ((with_reducible refine aD (f := 107) rfl ?_); refine bW (some 28) rfl rfl Tryz.func107 tX rfl #[.agg #[.slice bB au.length aZ, .slice none 0 0], .slice A1 l1.length c1, .int .i64 za] rfl tM ?_; (refine (iT.calls _ _ au _ _ ([] : List Int) _ _ l1 za t167 t168 _ ?bF ?bG ?eG ?eH ?jo ?vN A17.out).mono ?_); (case bF => repeat (first | exact (Kd.ak dJ.out HB.out) | (with_reducible refine Kd.bC ?_ _) | (with_reducible refine Kd.bD ?_ _) | (with_reducible refine Kd.bQ ?_))); (case bG => exact eu.out); (case eG => exact Kd.PG _ _); (case eH => exact Nat.le_refl _); (case jo => repeat (first | exact (Kd.ak HR1.out HB.out) | (with_reducible refine Kd.bC ?_ _) | (with_reducible refine Kd.bD ?_ _) | (with_reducible refine Kd.bQ ?_))); (case vN => exact uU.out); rintro e w20 ⟨rfl, hb⟩; refine ⟨_, rfl, ?_⟩; replace Zm := kH Zm hb; replace nP := bV nP hb; replace HB := dL HB hb; (try clear hb)) | ((with_reducible refine eD (b := .append) (xs := #[.tmp 23, .tmp 29]) rfl ?_); at_builtin; refine Kd.nV j3 (w0 := w) w.heap.size rfl (.tmp 23) (.tmp 29) 28 37 (.agg #[(.int .i64 0), (.int .i64 0)]) 16 rfl Tryz.underlying28 Ip rfl (by decide) (by omega) u6 Tx (⟨t167, t168⟩ : bT) [.int .i64 t167, .int .i64 t168] (fun _ => True) (fun _ => False) rfl rfl ?aP (fun _ hk => hk.elim) ?aF ?aO ?aB ?aS ?aL ?_; (case aP => exact kE _ _ _ (⟨t167, t168⟩ : bT)); (case aB => exact tB); (case aF => exact (fun _ _ => trivial)); (case aO => exact tR); (case aS => exact (aX tB)); (case aL => have := qf1.out; omega); intro qrQ w21 ho hb hg hat; rw [← qf3.out] at ho; replace nP := aj.mk (jw (g := Wo) (o := .cells #[.slice bB au.length aZ] 24 (0, 0)) tK hg (Kd.Dr Zm.out nP.out (by decide))); replace HB := aj.mk (hb); have qo6 := aj.mk (ho); clear Zm; clear ho hb hg hat))
        go_roundg k2
        case measure => have := HJ2.out; have := XY.out; omega
        case rel => exact ⟨(qf2), (wrap64 (za + 1)), tS, H', ⟨by have := HJ2.out; have := XY.out; omega⟩, ⟨tR⟩, ⟨tK⟩, ⟨tB⟩⟩
       ·rw [if_neg c18] at H
        exact absurd H (by simp)
      ·rw [if_neg c16] at H
       have qfZ : decide (za < (au.length : Int)) = false := decide_eq_false c16; clear c16; simp only [Option.some.injEq, Prod.mk.injEq] at H; obtain ⟨rfl, rfl⟩ := H
       go_wp2
       go_ret2
       exact ⟨_, tF, tR, tB⟩
def dF.l0 : Nat → List bg → List bT → Int → Option ((List bT))
 | 0, _, _, _ => none
 | k + 1, x0, x3, x4 => if x4 < (x0.length : Int) then (if 0 ≤ x4 then (if x3.length < 8796093022208 then (dF.l0 k x0 (x3 ++ [(⟨(aC x0 x4).f2.f0, (aC x0 x4).f2.f1⟩ : bT)]) (wrap64 (x4 + 1))) else (none)) else (none)) else (some x3)
def dF.f (k : Nat) (l0 : List bg) : Option ((List bT)) := dF.l0 k l0 ([] : List bT) 0
theorem dF.calls (k : Nat) (A0 : Option Addr) (c0 : Nat) (l0 : List bg) (r : List bT) (w : World) (hr0 : Kd.C eT w A0 l0.length l0) (hc0 : l0.length ≤ c0) (h : dF.f k l0 = some r) :
  Calls Tryz.prog 110 #[.slice A0 l0.length c0] w fun e w' => ∃ kM : Value, e = .returned (kM) ∧ Kd.R j3 37 w' w.heap.size (fun _ => True) kM r ∧ Below w.heap.size w w' := by
 have kg := Tryz.underlying37; have BR := aj.mk hr0; have XU := aj.mk hc0; clear hr0 hc0; have HB := aj.mk (Below.refl w.heap.size w); have H : (dF.l0 k l0 ([] : List bT) 0) = some r := h; clear h; have H' := aj.mk H; clear H
 go_enter Tryz.func110, Tryz.ntmps110
 go_wp2
 go_loopg [3, 4] k (fun kq v3 v4 w' => ∃ (dM : List bT) (uV : Int), v4 = .int .i64 uV ∧ aj (dF.l0 kq l0 dM uV = some r) ∧ aj (kq ≤ k) ∧ aj (Kd.R j3 37 w' w.heap.size (fun _ => True) v3 dM) ∧ aj (Below w.heap.size w w'))
 case atStart => exact ⟨(([] : List bT)), (0), tS, H', ⟨Nat.le_refl _⟩, ⟨by first | exact Kd.lJ _ _ _ _ _ | exact Kd.sU _ _ _ _ _ | exact Kd.sW _ _ _ _ _ | exact Kd.sQ _ _ _ _ _ | exact Kd.sS _ _ _ _ _⟩, ⟨tB⟩⟩
 case round =>
  clear H'
  try clear c1
  obtain ⟨dM, uV, rfl, HA, ng, pU, HB⟩ := hrel
  cases gk with
  | zero => exact absurd HA.out (by simp [dF.l0])
  | succ k1 =>
   have H := HA.out; clear HA; simp only [dF.l0] at H
   by_cases c2 : uV < (l0.length : Int)
   ·rw [if_pos c2] at H
    have BS : decide (uV < (l0.length : Int)) = true := decide_eq_true c2; clear c2
    by_cases c3 : 0 ≤ uV
    ·rw [if_pos c3] at H
     have oZ : decide (0 ≤ uV) = true := decide_eq_true c3; clear c3
     by_cases c4 : dM.length < 8796093022208
     ·rw [if_pos c4] at H
      have qlX := aj.mk c4; clear c4; obtain ⟨qf4, KZ⟩ : ∃ y_ : List bT, y_ = (dM ++ [(⟨(aC l0 uV).f2.f0, (aC l0 uV).f2.f1⟩ : bT)]) := ⟨_, rfl⟩
      replace H : (dF.l0 k1 l0 qf4 (wrap64 (uV + 1))) = some r := by first | (rw [KZ]; with_reducible exact H) | (have iY := (Option.bind_some _ _).symm.trans H; rw [KZ]; with_reducible exact iY) | (have iY := (Option.bind_some _ _).symm.trans H; with_reducible exact iY) | with_reducible exact H | (rw [KZ]; exact H) | exact H
      have qf5 := aj.mk KZ; clear KZ; have H' := aj.mk H; clear H; have qdt : 0 ≤ (uV : Int) := of_decide_eq_true tA; have qdu : uV < (l0.length : Int) := of_decide_eq_true tA; obtain ⟨qo7, qlY, Q9, Ra, Rb, Rf⟩ := jK BR.out uV qdt qdu
      cases qlY
      replace Q9 := dz HB Q9; replace Ra := dz HB Ra; replace Rb := dz HB Rb; replace Rf := dz HB Rf; replace qdt := eq_true qdt; replace qdu := eq_true qdu
      go_wp2_with (first | ((with_reducible refine eD (b := .append) (xs := #[.tmp 11, .tmp 17]) rfl ?_); at_builtin; refine Kd.nV j3 (w0 := w) w.heap.size rfl (.tmp 11) (.tmp 17) 28 37 (.agg #[(.int .i64 0), (.int .i64 0)]) 16 rfl Tryz.underlying28 Ip rfl (by decide) (by omega) u3 dM (⟨(aC l0 uV).f2.f0, (aC l0 uV).f2.f1⟩ : bT) [.int .i64 ((aC l0 uV).f2.f0), .int .i64 ((aC l0 uV).f2.f1)] (fun _ => True) (fun _ => False) rfl rfl ?aP (fun _ hk => hk.elim) ?aF ?aO ?aB ?aS ?aL ?_; (case aP => exact kE _ _ _ (⟨(aC l0 uV).f2.f0, (aC l0 uV).f2.f1⟩ : bT)); (case aB => exact tB); (case aF => exact (fun _ _ => trivial)); (case aO => exact tR); (case aS => exact (aX tB)); (case aL => have := qlX.out; omega); intro qrR w5 ho hb hg hat; rw [← qf5.out] at ho; replace HB := aj.mk (hb); have qo8 := aj.mk (ho); clear pU; clear ho hb hg hat))
      go_roundg k1
      case measure => have := ng.out; omega
      case rel => exact ⟨(qf4), (wrap64 (uV + 1)), tS, H', ⟨by have := ng.out; omega⟩, ⟨tR⟩, ⟨tB⟩⟩
     ·rw [if_neg c4] at H
      exact absurd H (by simp)
    ·rw [if_neg c3] at H
     exact absurd H (by simp)
   ·rw [if_neg c2] at H
    have BS : decide (uV < (l0.length : Int)) = false := decide_eq_false c2; clear c2; obtain rfl := Option.some.inj H
    go_wp2
    go_ret
    exact ⟨_, tF, tR, tB⟩
def dD.l0 : Nat → Int → List Int → List bg → List Int → Int → Int → List bO → Option Int
 | 0, _, _, _, _, _, _, _ => none
 | k + 1, x1, x2, x3, x4, U9, zF, Eo => if zF < (x3.length : Int) then (if 0 ≤ zF then (if ((aC x3 zF).f0) = x1 then (if zF < (x4.length : Int) then (if 0 ≤ ((aC x3 zF).f1) then (if ((aC x3 zF).f1) < (x2.length : Int) then (dD.l0 k x1 x2 x3 x4 (wrap64 (U9 + (wrap64 ((rd x4 zF) * (rd x2 ((aC x3 zF).f1)))))) (wrap64 (zF + 1)) Eo) else (none)) else (none)) else (none)) else (dD.l0 k x1 x2 x3 x4 U9 (wrap64 (zF + 1)) Eo)) else (none)) else (if 0 ≤ x1 then (if x1 < (Eo.length : Int) then (some (mn U9 ((aT Eo x1).f1))) else (none)) else (none))
def dD.f (k : Nat) (au : List bO) (a1 : Int) (l2 : List Int) (l3 : List bg) (l4 : List Int) : Option Int := dD.l0 k a1 l2 l3 l4 0 0 au
theorem dD.calls (k : Nat) (bB : Option Addr) (aZ : Nat) (au : List bO) (a1 : Int) (A2 : Option Addr) (c2 : Nat) (l2 : List Int) (A3 : Option Addr) (c3 : Nat) (l3 : List bg) (A4 : Option Addr) (c4 : Nat) (l4 : List Int) (r : Int) (w : World) (dx : Kd.C iM w bB au.length au) (dI : au.length ≤ aZ) (hr2 : Kd.C (Kd.int .i64) w A2 l2.length l2) (hc2 : l2.length ≤ c2) (hr3 : Kd.C eT w A3 l3.length l3) (hc3 : l3.length ≤ c3) (hr4 : Kd.C (Kd.int .i64) w A4 l4.length l4) (hc4 : l4.length ≤ c4) (h : dD.f k au a1 l2 l3 l4 = some r) :
  Calls Tryz.prog 111 #[.agg #[.slice bB au.length aZ], .int .i64 a1, .slice A2 l2.length c2, .slice A3 l3.length c3, .slice A4 l4.length c4] w fun e w' => e = .returned (.int .i64 r) ∧ Below w.heap.size w w' := by
 have o8 := Tryz.underlying24; have dJ := aj.mk dx; have eu := aj.mk dI; clear dx dI; have HR2 := aj.mk hr2; have HC2 := aj.mk hc2; clear hr2 hc2; have HR3 := aj.mk hr3; have Ke := aj.mk hc3; clear hr3 hc3; have HR4 := aj.mk hr4; have HC4 := aj.mk hc4; clear hr4 hc4; have HB := aj.mk (Below.refl w.heap.size w); have H : (dD.l0 k a1 l2 l3 l4 0 0 au) = some r := h; clear h; have H' := aj.mk H; clear H
 go_enter Tryz.func111, Tryz.ntmps111
 go_wp2_with (first | ((with_reducible refine av (N := 5) rfl ?_); refine fA 5 #[.slice bB au.length aZ] 24 HB ?_; clear HB; intro Wp w6 hg K8 qba HB hb; clear hb hg))
 repeat (go_quiet (first | ((with_reducible refine av (N := 5) rfl ?_); refine fA 5 #[.slice bB au.length aZ] 24 HB ?_; clear HB; intro Wp w6 hg K8 qba HB hb; clear hb hg)); try go_wp2_with (first | ((with_reducible refine av (N := 5) rfl ?_); refine fA 5 #[.slice bB au.length aZ] 24 HB ?_; clear HB; intro Wp w6 hg K8 qba HB hb; clear hb hg)))
 go_loopg [11, 12] k (fun kq v11 v12 w' => ∃ (pR : Int) (fQ : Int), v11 = .int .i64 pR ∧ v12 = .int .i64 fQ ∧ aj (dD.l0 kq a1 l2 l3 l4 pR fQ au = some r) ∧ aj (kq ≤ k) ∧ aj (w'.heap[Wp]? = some (.cells #[(.slice bB au.length aZ)] 24 (0, 0))) ∧ aj (Below w.heap.size w w'))
 case atStart => exact ⟨(0), (0), tS, tS, H', ⟨Nat.le_refl _⟩, ⟨tK⟩, ⟨tB⟩⟩
 case round =>
  clear H'
  try clear c1
  try clear c2
  try clear p2
  try clear c3
  try clear c4
  obtain ⟨pR, fQ, rfl, rfl, HA, ng, K8, HB⟩ := hrel
  cases gk with
  | zero => exact absurd HA.out (by simp [dD.l0])
  | succ k1 =>
   have H := HA.out; clear HA; simp only [dD.l0] at H
   by_cases c7 : fQ < (l3.length : Int)
   ·rw [if_pos c7] at H
    have xu : decide (fQ < (l3.length : Int)) = true := decide_eq_true c7; clear c7
    by_cases c8 : 0 ≤ fQ
    ·rw [if_pos c8] at H
     have E8 : decide (0 ≤ fQ) = true := decide_eq_true c8; clear c8
     by_cases c9 : ((aC l3 fQ).f0) = a1
     ·rw [if_pos c9] at H
      have Kg : (((aC l3 fQ).f0) == a1) = true := beq_iff_eq.mpr c9; have qlZ : (((aC l3 fQ).f0) != a1) = false := bne_eq_false_iff_eq.mpr c9; clear c9
      by_cases c10 : fQ < (l4.length : Int)
      ·rw [if_pos c10] at H
       have Kh : decide (fQ < (l4.length : Int)) = true := decide_eq_true c10; clear c10
       by_cases c11 : 0 ≤ ((aC l3 fQ).f1)
       ·rw [if_pos c11] at H
        have qaP : decide (0 ≤ ((aC l3 fQ).f1)) = true := decide_eq_true c11; clear c11
        by_cases c12 : ((aC l3 fQ).f1) < (l2.length : Int)
        ·rw [if_pos c12] at H
         have qe6 : decide (((aC l3 fQ).f1) < (l2.length : Int)) = true := decide_eq_true c12; clear c12; have H' := aj.mk H; clear H; have Oc : 0 ≤ (fQ : Int) := of_decide_eq_true tA; have Od : fQ < (l3.length : Int) := of_decide_eq_true tA; obtain ⟨qbb, qdv, Bc, Bd, Bf, Bg⟩ := jK HR3.out fQ Oc Od
         cases qdv
         replace Bc := dz HB Bc; replace Bd := dz HB Bd; replace Bf := dz HB Bf; replace Bg := dz HB Bg; replace Oc := eq_true Oc; replace Od := eq_true Od; have qdw : 0 ≤ (fQ : Int) := of_decide_eq_true tA; have qdx : fQ < (l4.length : Int) := of_decide_eq_true tA; obtain ⟨qo9, ql0, Rh⟩ := Kd.iH HR4.out fQ qdw qdx
         cases ql0
         replace Rh := dz HB Rh; replace qdw := eq_true qdw; replace qdx := eq_true qdx; have qdy : 0 ≤ (fQ : Int) := of_decide_eq_true tA; have qdz : fQ < (l3.length : Int) := of_decide_eq_true tA; obtain ⟨qf6, ql1, Ri, Rj, Rk, Rl⟩ := jK HR3.out fQ qdy qdz; obtain rfl : qbb = qf6 := (by injection ql1); replace Ri := dz HB Ri; replace Rj := dz HB Rj; replace Rk := dz HB Rk; replace Rl := dz HB Rl; replace qdy := eq_true qdy; replace qdz := eq_true qdz; have qdA : 0 ≤ (((aC l3 fQ).f1) : Int) := of_decide_eq_true tA; have qdB : ((aC l3 fQ).f1) < (l2.length : Int) := of_decide_eq_true tA; obtain ⟨qpa, ql2, Rm⟩ := Kd.iH HR2.out ((aC l3 fQ).f1) qdA qdB
         cases ql2
         replace Rm := dz HB Rm; replace qdA := eq_true qdA; replace qdB := eq_true qdB
         go_wp2
         repeat (go_quiet (fail); try go_wp2)
         go_roundg k1
         case measure => have := ng.out; omega
         case rel => exact ⟨(wrap64 (pR + (wrap64 ((rd l4 fQ) * (rd l2 ((aC l3 fQ).f1)))))), (wrap64 (fQ + 1)), tS, tS, H', ⟨by have := ng.out; omega⟩, ⟨tK⟩, ⟨tB⟩⟩
        ·rw [if_neg c12] at H
         exact absurd H (by simp)
       ·rw [if_neg c11] at H
        exact absurd H (by simp)
      ·rw [if_neg c10] at H
       exact absurd H (by simp)
     ·rw [if_neg c9] at H
      have Kg : (((aC l3 fQ).f0) == a1) = false := beq_eq_false_iff_ne.mpr c9; have qlZ : (((aC l3 fQ).f0) != a1) = true := bne_iff_ne.mpr c9; have H' := aj.mk H; clear H; have Oc : 0 ≤ (fQ : Int) := of_decide_eq_true tA; have Od : fQ < (l3.length : Int) := of_decide_eq_true tA; obtain ⟨qbb, qdv, Bc, Bd, Bf, Bg⟩ := jK HR3.out fQ Oc Od
      cases qdv
      replace Bc := dz HB Bc; replace Bd := dz HB Bd; replace Bf := dz HB Bf; replace Bg := dz HB Bg; replace Oc := eq_true Oc; replace Od := eq_true Od
      go_wp2
      repeat (go_quiet (fail); try go_wp2)
      go_roundg k1
      case measure => have := ng.out; omega
      case rel => exact ⟨(pR), (wrap64 (fQ + 1)), tS, tS, H', ⟨by have := ng.out; omega⟩, ⟨tK⟩, ⟨tB⟩⟩
    ·rw [if_neg c8] at H
     exact absurd H (by simp)
   ·rw [if_neg c7] at H
    have xu : decide (fQ < (l3.length : Int)) = false := decide_eq_false c7; clear c7
    by_cases c13 : 0 ≤ a1
    ·rw [if_pos c13] at H
     have qe7 : decide (0 ≤ a1) = true := decide_eq_true c13; clear c13
     by_cases c14 : a1 < (au.length : Int)
     ·rw [if_pos c14] at H
      have qaV : decide (a1 < (au.length : Int)) = true := decide_eq_true c14; clear c14; obtain ⟨qf7, Rn⟩ : ∃ j_ : Int, (mn pR ((aT au a1).f1)) = j_ := ⟨_, rfl⟩
      replace H : (some qf7) = some r := by first | (rw [Rn] at H; exact H) | (simp only [Rn] at H ⊢; exact H)
      have ql3 : (if ((aT au a1).f1) < pR then ((aT au a1).f1) else pR) = qf7 := Rn; obtain rfl := Option.some.inj H; have uH := bc1 K8; have uI := bf K8 0; have qdC : 0 ≤ (a1 : Int) := of_decide_eq_true tA; have qdD : a1 < (au.length : Int) := of_decide_eq_true tA; obtain ⟨qpb, ql4, ql5, ql6, Ro, Rp, Rq, Rs⟩ := iZ dJ.out a1 qdC qdD
      cases ql6
      replace Ro := dz HB Ro; replace Rp := dz HB Rp; have qjZ := aj.mk Rs; have qj0 := aj.mk Rq; clear Rs Rq; replace qdC := eq_true qdC; replace qdD := eq_true qdD
      go_wp2
      repeat (go_quiet (fail); try go_wp2)
      go_ret
      exact ⟨by first | rfl | (simp [lq, lu] <;> rfl) | (simp only [← Rn]; first | rfl | (simp [lq, lu] <;> rfl)) | (simp [*, lq, lu] <;> rfl), tB⟩
     ·rw [if_neg c14] at H
      exact absurd H (by simp)
    ·rw [if_neg c13] at H
     exact absurd H (by simp)
def bX.l0 : Nat → List bT → Bool → List Int → Int → Option (List Int)
 | 0, _, _, _, _ => none
 | k + 1, x0, x1, x5, x6 => if x6 < (x0.length : Int) then (if x1 = true then (if 0 ≤ x6 then (if x5.length < 17592186044416 then (bX.l0 k x0 x1 (x5 ++ [(bM x0 x6).f1]) (wrap64 (x6 + 1))) else (none)) else (none)) else (if 0 ≤ x6 then (if x5.length < 17592186044416 then (bX.l0 k x0 x1 (x5 ++ [(bM x0 x6).f0]) (wrap64 (x6 + 1))) else (none)) else (none))) else (some x5)
def bX.f (k : Nat) (l0 : List bT) (a1 : Bool) : Option (List Int) := bX.l0 k l0 a1 ([] : List Int) 0
theorem bX.calls (k : Nat) (A0 : Option Addr) (c0 : Nat) (l0 : List bT) (a1 : Bool) (r : List Int) (w : World) (hr0 : Kd.C j3 w A0 l0.length l0) (hc0 : l0.length ≤ c0) (h : bX.f k l0 a1 = some r) :
  Calls Tryz.prog 112 #[.slice A0 l0.length c0, .bool a1] w fun e w' => ∃ kM : Value, e = .returned (kM) ∧ Kd.R (Kd.int .i64) 3 w' w.heap.size (fun _ => True) kM r ∧ Below w.heap.size w w' := by
 have BR := aj.mk hr0; have XU := aj.mk hc0; clear hr0 hc0; have HB := aj.mk (Below.refl w.heap.size w); have H : (bX.l0 k l0 a1 ([] : List Int) 0) = some r := h; clear h; have H' := aj.mk H; clear H
 go_enter Tryz.func112, Tryz.ntmps112
 go_wp2
 go_loopg [5, 6] k (fun kq v5 v6 w' => ∃ (aQ : List Int) (jc : Int), v6 = .int .i64 jc ∧ aj (bX.l0 kq l0 a1 aQ jc = some r) ∧ aj (kq ≤ k) ∧ aj (Kd.R (Kd.int .i64) 3 w' w.heap.size (fun _ => True) v5 aQ) ∧ aj (Below w.heap.size w w'))
 case atStart => exact ⟨(([] : List Int)), (0), tS, H', ⟨Nat.le_refl _⟩, ⟨by first | exact Kd.lJ _ _ _ _ _ | exact Kd.sU _ _ _ _ _ | exact Kd.sW _ _ _ _ _ | exact Kd.sQ _ _ _ _ _ | exact Kd.sS _ _ _ _ _⟩, ⟨tB⟩⟩
 case round =>
  clear H'
  try clear c1
  try clear p2
  obtain ⟨aQ, jc, rfl, HA, ng, jf, HB⟩ := hrel
  cases gk with
  | zero => exact absurd HA.out (by simp [bX.l0])
  | succ k1 =>
   have H := HA.out; clear HA; simp only [bX.l0] at H
   by_cases c3 : jc < (l0.length : Int)
   ·rw [if_pos c3] at H
    have oZ : decide (jc < (l0.length : Int)) = true := decide_eq_true c3; clear c3
    by_cases c4 : a1 = true
    ·subst c4
     rw [if_pos rfl] at H
     by_cases c5 : 0 ≤ jc
     ·rw [if_pos c5] at H
      have y5 : decide (0 ≤ jc) = true := decide_eq_true c5; clear c5
      by_cases c6 : aQ.length < 17592186044416
      ·rw [if_pos c6] at H
       have ql7 := aj.mk c6; clear c6; obtain ⟨qf8, K9⟩ : ∃ y_ : List Int, y_ = (aQ ++ [(bM l0 jc).f1]) := ⟨_, rfl⟩
       replace H : (bX.l0 k1 l0 true qf8 (wrap64 (jc + 1))) = some r := by first | (rw [K9]; with_reducible exact H) | (have iY := (Option.bind_some _ _).symm.trans H; rw [K9]; with_reducible exact iY) | (have iY := (Option.bind_some _ _).symm.trans H; with_reducible exact iY) | with_reducible exact H | (rw [K9]; exact H) | exact H
       have qf9 := aj.mk K9; clear K9; have H' := aj.mk H; clear H; have qdE : 0 ≤ (jc : Int) := of_decide_eq_true tA; have qdF : jc < (l0.length : Int) := of_decide_eq_true tA; obtain ⟨qpc, ql8, Rt, Ru⟩ := mD BR.out jc qdE qdF
       cases ql8
       replace Rt := dz HB Rt; replace Ru := dz HB Ru; replace qdE := eq_true qdE; replace qdF := eq_true qdF
       go_wp2_with (first | ((with_reducible refine eD (b := .append) (xs := #[.tmp 14, .tmp 20]) rfl ?_); at_builtin; refine Kd.nV (Kd.int .i64) (w0 := w) w.heap.size rfl (.tmp 14) (.tmp 20) 47 3 (.int .i64 0) 8 rfl Tryz.underlying47 info3 rfl (by decide) (by omega) u5 aQ ((bM l0 jc).f1) [.int .i64 ((bM l0 jc).f1)] (fun _ => True) (fun _ => False) rfl rfl ?aP (fun _ hk => hk.elim) ?aF ?aO ?aB ?aS ?aL ?_; (case aP => exact rfl); (case aB => exact tB); (case aF => exact (fun _ _ => trivial)); (case aO => exact tR); (case aS => exact (aX tB)); (case aL => have := ql7.out; omega); intro qrS w7 ho hb hg hat; rw [← qf9.out] at ho; replace HB := aj.mk (hb); have qpd := aj.mk (ho); clear jf; clear ho hb hg hat))
       go_roundg k1
       case measure => have := ng.out; omega
       case rel => exact ⟨(qf8), (wrap64 (jc + 1)), tS, H', ⟨by have := ng.out; omega⟩, ⟨tR⟩, ⟨tB⟩⟩
      ·rw [if_neg c6] at H
       exact absurd H (by simp)
     ·rw [if_neg c5] at H
      exact absurd H (by simp)
    ·replace c4 := Bool.eq_false_iff.mpr c4
     subst c4
     have H1 : (if 0 ≤ jc then (if aQ.length < 17592186044416 then (bX.l0 k1 l0 false (aQ ++ [(bM l0 jc).f0]) (wrap64 (jc + 1))) else (none)) else (none)) = some r := by rw [if_neg (show ¬ (false = true) by decide)] at H; exact H
     clear H; have H := H1; clear H1
     by_cases c8 : 0 ≤ jc
     ·rw [if_pos c8] at H
      have E8 : decide (0 ≤ jc) = true := decide_eq_true c8; clear c8
      by_cases c9 : aQ.length < 17592186044416
      ·rw [if_pos c9] at H
       have qdG := aj.mk c9; clear c9; obtain ⟨qga, La⟩ : ∃ y_ : List Int, y_ = (aQ ++ [(bM l0 jc).f0]) := ⟨_, rfl⟩
       replace H : (bX.l0 k1 l0 false qga (wrap64 (jc + 1))) = some r := by first | (rw [La]; with_reducible exact H) | (have iY := (Option.bind_some _ _).symm.trans H; rw [La]; with_reducible exact iY) | (have iY := (Option.bind_some _ _).symm.trans H; with_reducible exact iY) | with_reducible exact H | (rw [La]; exact H) | exact H
       have qgb := aj.mk La; clear La; have H' := aj.mk H; clear H; have qdH : 0 ≤ (jc : Int) := of_decide_eq_true tA; have qdI : jc < (l0.length : Int) := of_decide_eq_true tA; obtain ⟨qpe, ql9, Rv, Rw⟩ := mD BR.out jc qdH qdI
       cases ql9
       replace Rv := dz HB Rv; replace Rw := dz HB Rw; replace qdH := eq_true qdH; replace qdI := eq_true qdI
       go_wp2_with (first | ((with_reducible refine eD (b := .append) (xs := #[.tmp 22, .tmp 28]) rfl ?_); at_builtin; refine Kd.nV (Kd.int .i64) (w0 := w) w.heap.size rfl (.tmp 22) (.tmp 28) 47 3 (.int .i64 0) 8 rfl Tryz.underlying47 info3 rfl (by decide) (by omega) u5 aQ ((bM l0 jc).f0) [.int .i64 ((bM l0 jc).f0)] (fun _ => True) (fun _ => False) rfl rfl ?aP (fun _ hk => hk.elim) ?aF ?aO ?aB ?aS ?aL ?_; (case aP => exact rfl); (case aB => exact tB); (case aF => exact (fun _ _ => trivial)); (case aO => exact tR); (case aS => exact (aX tB)); (case aL => have := qdG.out; omega); intro qrT JV ho hb hg hat; rw [← qgb.out] at ho; replace HB := aj.mk (hb); have qpf := aj.mk (ho); clear jf; clear ho hb hg hat))
       go_roundg k1
       case measure => have := ng.out; omega
       case rel => exact ⟨(qga), (wrap64 (jc + 1)), tS, H', ⟨by have := ng.out; omega⟩, ⟨tR⟩, ⟨tB⟩⟩
      ·rw [if_neg c9] at H
       exact absurd H (by simp)
     ·rw [if_neg c8] at H
      exact absurd H (by simp)
   ·rw [if_neg c3] at H
    have oZ : decide (jc < (l0.length : Int)) = false := decide_eq_false c3; clear c3; obtain rfl := Option.some.inj H
    go_wp2
    go_ret
    exact ⟨_, tF, tR, tB⟩
def bq.l0 : Nat → List bg → List bT → Int → List bO → Option ((List bT))
 | 0, _, _, _, _ => none
 | k + 1, x1, x5, x6, yU => if x6 < (yU.length : Int) then (if 0 ≤ x6 then ((dF.f k x1).bind fun Jg => ((bX.f k ((aT yU x6).f0) false).bind fun Wq => ((bX.f k Jg false).bind fun Ws => ((dD.f k yU x6 Wq x1 Ws).bind fun Oe => ((bX.f k ((aT yU x6).f0) true).bind fun Wt => ((bX.f k Jg true).bind fun Wu => ((dD.f k yU x6 Wt x1 Wu).bind fun Og => (if x5.length < 8796093022208 then (bq.l0 k x1 (x5 ++ [(⟨Oe, Og⟩ : bT)]) (wrap64 (x6 + 1)) yU) else (none))))))))) else (none)) else (some x5)
def bq.f (k : Nat) (au : List bO) (l1 : List bg) : Option ((List bT)) := bq.l0 k l1 ([] : List bT) 0 au
def bq.T5 : Bool × List (List Nat × List Nat) := (true, [([], []), ([0], [0]), ([], []), ([1, 2], [1, 2]), ([3], [3]), ([4], [4]), ([], []), ([6], [6]), ([5, 7, 0, 1, 2, 3, 4, 5], [5]), ([7, 8, 0, 1, 2, 3, 4, 5, 6, 7, 8], [7])])
def bq.B5 : List Nat := [0, 1, 0, 7, 15, 31, 0, 64, 255, 511]
theorem bq.qdo : qj .any (opsOf Tryz.f33 5) = bq.T5 := by kernel_rfl
theorem bq.Wl : oq bq.T5.2 bq.B5 = true := by kernel_rfl
def bq.T6 : Bool × List (List Nat × List Nat) := (true, [([], []), ([], []), ([], []), ([], []), ([3], [3]), ([], []), ([], []), ([6, 4], [6]), ([1, 2, 4, 5, 7, 7], [1, 2, 4, 5, 7]), ([], []), ([], []), ([], []), ([11, 8], [11]), ([], []), ([], []), ([14, 12], [14]), ([9, 10, 12, 13, 15, 15], [9, 10, 12, 13, 15]), ([8, 16], [8, 16]), ([17], [17]), ([0, 18, 16], [0, 18]), ([19, 19, 0, 1, 2, 3, 4, 5, 6, 7, 8, 9, 10, 11, 12, 13, 14, 15, 16, 17, 18, 19], [0, 19])])
def bq.B6 : List Nat := [0, 0, 0, 0, 8, 0, 0, 88, 254, 0, 0, 0, 2558, 0, 0, 23038, 65534, 131070, 262142, 524287, 1048575]
theorem bq.qct : qj .any (opsOf Tryz.f33 6) = bq.T6 := by kernel_rfl
theorem bq.Va : oq bq.T6.2 bq.B6 = true := by kernel_rfl
theorem bq.calls (k : Nat) (bB : Option Addr) (aZ : Nat) (au : List bO) (A1 : Option Addr) (c1 : Nat) (l1 : List bg) (r : List bT) (w : World) (dx : Kd.C iM w bB au.length au) (dI : au.length ≤ aZ) (hr1 : Kd.C eT w A1 l1.length l1) (hc1 : l1.length ≤ c1) (h : bq.f k au l1 = some r) :
  Calls Tryz.prog 33 #[.agg #[.slice bB au.length aZ], .slice A1 l1.length c1] w fun e w' => ∃ kM : Value, e = .returned (kM) ∧ Kd.R j3 37 w' w.heap.size (fun _ => True) kM r ∧ Below w.heap.size w w' := by
 have o8 := Tryz.underlying24; have kg := Tryz.underlying37; have dJ := aj.mk dx; have eu := aj.mk dI; clear dx dI; have HR1 := aj.mk hr1; have uU := aj.mk hc1; clear hr1 hc1; have HB := aj.mk (Below.refl w.heap.size w); have H : (bq.l0 k l1 ([] : List bT) 0 au) = some r := h; clear h; have H' := aj.mk H; clear H
 go_enter Tryz.func33, Tryz.ntmps33
 go_wp2_with (first | ((with_reducible refine av (N := 2) rfl ?_); refine fA 2 #[.slice bB au.length aZ] 24 HB ?_; clear HB; intro Rx w3 hg iX qpg HB hb; clear hb hg))
 go_loopg [5, 6] k (fun kq v5 v6 w' => ∃ (aQ : List bT) (jc : Int), v6 = .int .i64 jc ∧ aj (bq.l0 kq l1 aQ jc au = some r) ∧ aj (kq ≤ k) ∧ aj (Kd.R j3 37 w' w.heap.size (fun _ => True) v5 aQ) ∧ aj (w'.heap[Rx]? = some (.cells #[(.slice bB au.length aZ)] 24 (0, 0))) ∧ aj (Below w.heap.size w w'))
 case atStart => exact ⟨(([] : List bT)), (0), tS, H', ⟨Nat.le_refl _⟩, ⟨by first | exact Kd.lJ _ _ _ _ _ | exact Kd.sU _ _ _ _ _ | exact Kd.sW _ _ _ _ _ | exact Kd.sQ _ _ _ _ _ | exact Kd.sS _ _ _ _ _⟩, ⟨tK⟩, ⟨tB⟩⟩
 case round =>
  clear H'
  try clear c1
  try clear p2
  try clear c3
  obtain ⟨aQ, jc, rfl, HA, ng, jf, iX, HB⟩ := hrel
  cases gk with
  | zero => exact absurd HA.out (by simp [bq.l0])
  | succ k1 =>
   have H := HA.out; clear HA; simp only [bq.l0] at H
   by_cases c4 : jc < (au.length : Int)
   ·rw [if_pos c4] at H
    have o7 : decide (jc < (au.length : Int)) = true := decide_eq_true c4; clear c4
    by_cases c5 : 0 ≤ jc
    ·rw [if_pos c5] at H
     have y5 : decide (0 ≤ jc) = true := decide_eq_true c5; clear c5; obtain ⟨Jg, A6, H⟩ := lV H; obtain ⟨Wq, A7, H⟩ := lV H; obtain ⟨Ws, A8, H⟩ := lV H; obtain ⟨Oe, A9, H⟩ := lV H; obtain ⟨Wt, JX, H⟩ := lV H; obtain ⟨Wu, A11, H⟩ := lV H; obtain ⟨Og, XW, H⟩ := lV H
     by_cases c13 : aQ.length < 8796093022208
     ·rw [if_pos c13] at H
      have qgc := aj.mk c13; clear c13; obtain ⟨qgd, Lb⟩ : ∃ y_ : List bT, y_ = (aQ ++ [(⟨Oe, Og⟩ : bT)]) := ⟨_, rfl⟩
      replace H : (bq.l0 k1 l1 qgd (wrap64 (jc + 1)) au) = some r := by first | (rw [Lb]; with_reducible exact H) | (have iY := (Option.bind_some _ _).symm.trans H; rw [Lb]; with_reducible exact iY) | (have iY := (Option.bind_some _ _).symm.trans H; with_reducible exact iY) | with_reducible exact H | (rw [Lb]; exact H) | exact H
      have qge := aj.mk Lb; clear Lb; have H' := aj.mk H; clear H; have IZ := bc1 iX; have I4 := bf iX 0
      try go_wp2
      replace jf := aj.mk (Kd.j5 jf.out); replace iX := aj.mk (aN iX.out); replace HB := aj.mk (iV HB.out); have qdK : 0 ≤ (jc : Int) := of_decide_eq_true tA; have qdL : jc < (au.length : Int) := of_decide_eq_true tA; obtain ⟨CU, Oh, Oi, qma, Ep, Er, Ry, Rz⟩ := iZ dJ.out jc qdK qdL; have RA := Er; have RB := Ep
      cases qma
      replace Ep := dz HB Ep; replace Er := dz HB Er; have Jh := aj.mk Rz; have RD := aj.mk Ry; clear Rz Ry; replace qdK := eq_true qdK; replace qdL := eq_true qdL; refine j6 (n := 10) (S := fun w' => w'.cell? ⟨Rx, 0, none⟩ = some (.slice (some CU) au.length aZ) ∧ w'.cell? (CU.add ((jc).toNat * 2)) = some (.slice Oh ((aT au jc).f0).length Oi) ∧ w'.cell? ⟨(CU.add ((jc).toNat * 2)).block, (CU.add ((jc).toNat * 2)).off + 1, none⟩ = some (.int .i64 ((aT au jc).f1))) (ds := []) #[false, false, false, false, false, false, false, false, false, false] tX rfl rfl ⟨(aI iX.out 0).trans rfl, (dz HB RB :), (dz HB RA :)⟩ (fun hHeld => ?_); refine lg bq.qdo bq.Wl (fun dY vX => ?_)
      generalize wr.drew = ML at jf iX HB Jh Ep Er hHeld ⊢
      refine aH (i := 0) (N := some 16) (v := ?_) (a' := ?_) (bA 10 1) rfl rfl (aU dY.out tX) (fun _ _ _ h => h) (Or.inl ⟨by rfl, ?_⟩) ?_ ?_; rotate_left
      ·intro w'
       go_simp
       with_reducible rfl
      rotate_left
      ·simp only [Act.put, sL, ay, aA]
       rfl
      refine aH (i := 2) (N := some 18) (v := ?_) (a' := ?_) (bA 10 5) rfl rfl (aU dY.out tX) (fun _ _ _ h => h) (Or.inl ⟨by rfl, ?_⟩) ?_ ?_; rotate_left
      ·intro w'
       go_simp
       with_reducible rfl
      rotate_left
      ·simp only [Act.put, sL, ay, aA]
       rfl
      refine aH (i := 6) (N := some 22) (v := ?_) (a' := ?_) (bA 10 69) rfl rfl (aU dY.out tX) (fun _ _ _ h => h) (Or.inl ⟨by rfl, ?_⟩) ?_ ?_; rotate_left
      ·intro w'
       go_simp
       with_reducible rfl
      rotate_left
      ·simp only [Act.put, sL, ay, aA]
       rfl
      refine fC (i := 1) (N := some 17) (v := ?_) (a' := ?_) (bA 10 71) rfl rfl (fD dY.out vX.out tX) (fun _ _ _ h => h) (Or.inl ⟨by rfl, ?_⟩) hHeld ?_ ?_; rotate_left
      ·rintro w' ⟨s0, s1, s2⟩
       go_simp
       with_reducible rfl
      rotate_left
      ·simp only [Act.put, sL, ay, aA]
       rfl
      refine aH (i := 3) (N := some 19) (v := ?_) (a' := ?_) (bA 10 79) rfl rfl (aU dY.out tX) (fun _ _ _ h => h) (Or.inl ⟨by rfl, ?_⟩) ?_ ?_; rotate_left
      ·intro w'
       go_simp
       with_reducible rfl
      rotate_left
      ·simp only [Act.put, sL, ay, aA]
       rfl
      refine aH (i := 4) (N := some 20) (v := ?_) (a' := ?_) (bA 10 95) rfl rfl (aU dY.out tX) (fun _ _ _ h => h) (Or.inl ⟨by rfl, ?_⟩) ?_ ?_; rotate_left
      ·intro w'
       go_simp
       with_reducible rfl
      rotate_left
      ·simp only [Act.put, sL, ay, aA]
       rfl
      refine fC (i := 5) (N := some 21) (v := ?_) (a' := ?_) (bA 10 127) rfl rfl (fD dY.out vX.out tX) (fun _ _ _ h => h) (Or.inl ⟨by rfl, ?_⟩) hHeld ?_ ?_; rotate_left
      ·rintro w' ⟨s0, s1, s2⟩
       go_simp
       with_reducible rfl
      rotate_left
      ·simp only [Act.put, sL, ay, aA]
       rfl
      refine gI (i := 7) (N := some 23) (bA 10 255) rfl rfl (iF dY.out tX) (by decide) (fun K hK => ?_); refine fP Tryz.func110 tX rfl #[.slice A1 l1.length c1] (by rfl) rfl rfl tM ?_
      with_reducible refine (dF.calls k1 _ _ l1 Jg _ ?bF ?bG A6.out).mono ?_
      (case bF => repeat (first | exact (Kd.ak HR1.out HB.out) | (with_reducible refine Kd.bC ?_ _) | (with_reducible refine Kd.bD ?_ _) | (with_reducible refine Kd.bQ ?_)))
      (case bG => exact uU.out)
      rintro e w16 ⟨qrU, rfl, ho0, hb⟩; refine ⟨_, rfl, ?_⟩; have om := aj.mk (Kd.dP (Kd.mY ho0 (Kd.pE tR)) (aX tB)); replace jf := aj.mk (Kd.jl tR (Kd.gH ho0) hb); replace iX := bV iX hb; replace HB := dL HB hb
      (try clear hb)
      (try clear hb2)
      (try clear hk)
      (try clear hi)
      (try clear ho0)
      refine hK.out _ _ ⟨(aI iX.out 0).trans rfl, (dz HB RB :), (dz HB RA :)⟩ (fun hHeld => ?_); clear hK K; refine dw (a' := ?_) ?_ ?_; rotate_left
      ·show Act.put _ (some 23) _ = _
       simp only [Act.put, sL, ay, aA]
       rfl
      refine aH (i := 8) (N := some 7) (v := ?_) (a' := ?_) (bA 10 511) rfl rfl (aU dY.out tX) (fun _ _ _ h => h) (Or.inl ⟨by rfl, ?_⟩) ?_ ?_; rotate_left
      ·intro w'
       go_simp
       with_reducible rfl
      rotate_left
      ·simp only [Act.put, sL, ay, aA]
       rfl
      refine aH (i := 9) (N := some 8) (v := ?_) (a' := ?_) (bA 10 1023) rfl rfl (aU dY.out tX) (fun _ _ _ h => h) (Or.inl ⟨by rfl, ?_⟩) ?_ ?_; rotate_left
      ·intro w'
       go_simp
       with_reducible rfl
      rotate_left
      ·simp only [Act.put, sL, ay, aA]
       rfl
      refine kZ (pF dY.out tX) ?_
      try go_wp2
      replace jf := aj.mk (Kd.j5 jf.out); replace om := aj.mk (Kd.j5 om.out); replace iX := aj.mk (aN iX.out); replace HB := aj.mk (iV HB.out); refine j6 (n := 21) (S := fun w' => w'.cell? ⟨Rx, 0, none⟩ = some (.slice (some CU) au.length aZ)) (ds := []) #[false, false, false, false, false, false, false, false, false, false, false, false, false, false, false, false, false, false, false, false, false] tX rfl rfl ((aI iX.out 0).trans rfl) (fun hHeld => ?_); refine lg bq.qct bq.Va (fun dY vX => ?_)
      generalize w16.drew = YE at jf om iX HB hHeld ⊢
      refine aH (i := 0) (N := some 24) (v := ?_) (a' := ?_) (bA 21 1) rfl rfl (aU dY.out tX) (fun _ _ _ h => h) (Or.inl ⟨by rfl, ?_⟩) ?_ ?_; rotate_left
      ·intro w'
       go_simp
       with_reducible rfl
      rotate_left
      ·simp only [Act.put, sL, ay, aA]
       rfl
      refine aH (i := 2) (N := some 26) (v := ?_) (a' := ?_) (bA 21 5) rfl rfl (aU dY.out tX) (fun _ _ _ h => h) (Or.inl ⟨by rfl, ?_⟩) ?_ ?_; rotate_left
      ·intro w'
       go_simp
       with_reducible rfl
      rotate_left
      ·simp only [Act.put, sL, ay, aA]
       rfl
      refine aH (i := 3) (N := some 27) (v := ?_) (a' := ?_) (bA 21 13) rfl rfl (aU dY.out tX) (fun _ _ _ h => h) (Or.inl ⟨by rfl, ?_⟩) ?_ ?_; rotate_left
      ·intro w'
       go_simp
       with_reducible rfl
      rotate_left
      ·simp only [Act.put, sL, ay, aA]
       rfl
      refine aH (i := 5) (N := some 29) (v := ?_) (a' := ?_) (bA 21 45) rfl rfl (aU dY.out tX) (fun _ _ _ h => h) (Or.inl ⟨by rfl, ?_⟩) ?_ ?_; rotate_left
      ·intro w'
       go_simp
       with_reducible rfl
      rotate_left
      ·simp only [Act.put, sL, ay, aA]
       rfl
      refine aH (i := 6) (N := some 30) (v := ?_) (a' := ?_) (bA 21 109) rfl rfl (aU dY.out tX) (fun _ _ _ h => h) (Or.inl ⟨by rfl, ?_⟩) ?_ ?_; rotate_left
      ·intro w'
       go_simp
       with_reducible rfl
      rotate_left
      ·simp only [Act.put, sL, ay, aA]
       rfl
      refine aH (i := 10) (N := some 34) (v := ?_) (a' := ?_) (bA 21 1133) rfl rfl (aU dY.out tX) (fun _ _ _ h => h) (Or.inl ⟨by rfl, ?_⟩) ?_ ?_; rotate_left
      ·intro w'
       go_simp
       with_reducible rfl
      rotate_left
      ·simp only [Act.put, sL, ay, aA]
       rfl
      refine aH (i := 11) (N := some 35) (v := ?_) (a' := ?_) (bA 21 3181) rfl rfl (aU dY.out tX) (fun _ _ _ h => h) (Or.inl ⟨by rfl, ?_⟩) ?_ ?_; rotate_left
      ·intro w'
       go_simp
       with_reducible rfl
      rotate_left
      ·simp only [Act.put, sL, ay, aA]
       rfl
      refine aH (i := 13) (N := some 37) (v := ?_) (a' := ?_) (bA 21 11373) rfl rfl (aU dY.out tX) (fun _ _ _ h => h) (Or.inl ⟨by rfl, ?_⟩) ?_ ?_; rotate_left
      ·intro w'
       go_simp
       with_reducible rfl
      rotate_left
      ·simp only [Act.put, sL, ay, aA]
       rfl
      refine aH (i := 14) (N := some 38) (v := ?_) (a' := ?_) (bA 21 27757) rfl rfl (aU dY.out tX) (fun _ _ _ h => h) (Or.inl ⟨by rfl, ?_⟩) ?_ ?_; rotate_left
      ·intro w'
       go_simp
       with_reducible rfl
      rotate_left
      ·simp only [Act.put, sL, ay, aA]
       rfl
      refine fC (i := 1) (N := some 25) (v := ?_) (a' := ?_) (bA 21 27759) rfl rfl (fD dY.out vX.out tX) (fun _ _ _ h => h) (Or.inl ⟨by rfl, ?_⟩) hHeld ?_ ?_; rotate_left
      ·intro w' s0
       go_simp
       with_reducible rfl
      rotate_left
      ·simp only [Act.put, sL, ay, aA]
       rfl
      refine fC (i := 9) (N := some 33) (v := ?_) (a' := ?_) (bA 21 28271) rfl rfl (fD dY.out vX.out tX) (fun _ _ _ h => h) (Or.inl ⟨by rfl, ?_⟩) hHeld ?_ ?_; rotate_left
      ·intro w' s0
       go_simp
       with_reducible rfl
      rotate_left
      ·simp only [Act.put, sL, ay, aA]
       rfl
      refine gI (i := 4) (N := some 28) (bA 21 28287) rfl rfl (iF dY.out tX) (by decide) (fun K hK => ?_); refine fP Tryz.func112 tX rfl #[.slice Oh ((aT au jc).f0).length Oi, .bool false] (by rfl) rfl rfl tM ?_
      with_reducible refine (bX.calls k1 _ _ ((aT au jc).f0) false Wq _ ?bF ?bG A7.out).mono ?_
      (case bF => repeat (first | exact (Kd.ak Jh.out HB.out) | (with_reducible refine Kd.bC ?_ _) | (with_reducible refine Kd.bD ?_ _) | (with_reducible refine Kd.bQ ?_)))
      (case bG => exact RD.out)
      rintro e Vd ⟨qrV, rfl, ho0, hb⟩; refine ⟨_, rfl, ?_⟩; replace jf := kH jf hb; replace om := kH om hb; have xP := aj.mk (Kd.dP ho0 (aX tB)); replace iX := bV iX hb; replace HB := dL HB hb
      (try clear hb)
      (try clear hb2)
      (try clear hk)
      (try clear hi)
      (try clear ho0)
      obtain ⟨Bh, Bj, Tz⟩ := Kd.gF om.out
      (first | subst Tz | (injection Tz with xD E9 xE; have Fa := xD.symm; have Fb := xE.symm; clear xD E9 xE; subst Fa; subst Fb))
      refine hK.out _ _ ((aI iX.out 0).trans rfl) (fun hHeld => ?_); clear hK K; refine dw (a' := ?_) ?_ ?_; rotate_left
      ·show Act.put _ (some 28) _ = _
       simp only [Act.put, sL, ay, aA]
       rfl
      refine gI (i := 7) (N := some 31) (bA 21 28415) rfl rfl (iF dY.out tX) (by decide) (fun K hK => ?_); refine fP Tryz.func112 tX rfl #[.slice Bh Jg.length Bj, .bool false] (by rfl) rfl rfl tM ?_
      with_reducible refine (bX.calls k1 _ _ Jg false Ws _ ?bF ?bG A8.out).mono ?_
      (case bF => repeat (first | exact (Kd.cO om.out).2.2 | (with_reducible refine Kd.bC ?_ _) | (with_reducible refine Kd.bD ?_ _) | (with_reducible refine Kd.bQ ?_)))
      (case bG => exact (Kd.cO om.out).2.1)
      rintro e w20 ⟨qrW, rfl, ho0, hb⟩; refine ⟨_, rfl, ?_⟩; replace jf := kH jf hb; replace om := kH om hb; have ze := aj.mk (Kd.dP (Kd.mY ho0 (Kd.pE tR)) (aX tB)); replace xP := aj.mk (Kd.jl tR (Kd.gH ho0) hb); replace iX := bV iX hb; replace HB := dL HB hb
      (try clear hb)
      (try clear hb2)
      (try clear hk)
      (try clear hi)
      (try clear ho0)
      obtain ⟨qmb, qmc, qgf⟩ := Kd.gF xP.out
      (first | subst qgf | (injection qgf with xD E9 xE; have Fa := xD.symm; have Fb := xE.symm; clear xD E9 xE; subst Fa; subst Fb))
      obtain ⟨Zn, Zo, Zp⟩ := Kd.gF ze.out
      (first | subst Zp | (injection Zp with xD E9 xE; have Fa := xD.symm; have Fb := xE.symm; clear xD E9 xE; subst Fa; subst Fb))
      refine hK.out _ _ ((aI iX.out 0).trans rfl) (fun hHeld => ?_); clear hK K; refine dw (a' := ?_) ?_ ?_; rotate_left
      ·show Act.put _ (some 31) _ = _
       simp only [Act.put, sL, ay, aA]
       rfl
      refine gI (i := 8) (N := some 32) (bA 21 28671) rfl rfl (iF dY.out tX) (by decide) (fun K hK => ?_); refine fP Tryz.func111 tX rfl #[.agg #[.slice (some CU) au.length aZ], .int .i64 jc, .slice qmb Wq.length qmc, .slice A1 l1.length c1, .slice Zn Ws.length Zo] (by rfl) rfl rfl tM ?_
      with_reducible refine (dD.calls k1 _ _ au jc _ _ Wq _ _ l1 _ _ Ws Oe _ ?bF ?bG ?eG ?eH ?jo ?vN ?AQ ?AR A9.out).mono ?_
      (case bF => repeat (first | exact (Kd.ak dJ.out HB.out) | (with_reducible refine Kd.bC ?_ _) | (with_reducible refine Kd.bD ?_ _) | (with_reducible refine Kd.bQ ?_)))
      (case bG => exact eu.out)
      (case eG => repeat (first | exact (Kd.cO xP.out).2.2 | (with_reducible refine Kd.bC ?_ _) | (with_reducible refine Kd.bD ?_ _) | (with_reducible refine Kd.bQ ?_)))
      (case eH => exact (Kd.cO xP.out).2.1)
      (case jo => repeat (first | exact (Kd.ak HR1.out HB.out) | (with_reducible refine Kd.bC ?_ _) | (with_reducible refine Kd.bD ?_ _) | (with_reducible refine Kd.bQ ?_)))
      (case vN => exact uU.out)
      (case AQ => repeat (first | exact (Kd.cO ze.out).2.2 | (with_reducible refine Kd.bC ?_ _) | (with_reducible refine Kd.bD ?_ _) | (with_reducible refine Kd.bQ ?_)))
      (case AR => exact (Kd.cO ze.out).2.1)
      rintro e w23 ⟨rfl, hb⟩; refine ⟨_, rfl, ?_⟩; replace jf := kH jf hb; replace om := kH om hb; replace xP := kH xP hb; replace ze := kH ze hb; replace iX := bV iX hb; replace HB := dL HB hb
      (try clear hb)
      (try clear hb2)
      (try clear hk)
      (try clear hi)
      refine hK.out _ _ ((aI iX.out 0).trans rfl) (fun hHeld => ?_); clear hK K; refine dw (a' := ?_) ?_ ?_; rotate_left
      ·show Act.put _ (some 32) _ = _
       simp only [Act.put, sL, ay, aA]
       rfl
      refine gI (i := 12) (N := some 36) (bA 21 32767) rfl rfl (iF dY.out tX) (by decide) (fun K hK => ?_); refine fP Tryz.func112 tX rfl #[.slice Oh ((aT au jc).f0).length Oi, .bool true] (by rfl) rfl rfl tM ?_
      with_reducible refine (bX.calls k1 _ _ ((aT au jc).f0) true Wt _ ?bF ?bG JX.out).mono ?_
      (case bF => repeat (first | exact (Kd.ak Jh.out HB.out) | (with_reducible refine Kd.bC ?_ _) | (with_reducible refine Kd.bD ?_ _) | (with_reducible refine Kd.bQ ?_)))
      (case bG => exact RD.out)
      rintro e w24 ⟨qrX, rfl, ho0, hb⟩; refine ⟨_, rfl, ?_⟩; replace jf := kH jf hb; replace om := kH om hb; have FL := aj.mk (Kd.dP (Kd.mY (Kd.mY ho0 (Kd.pE tR)) (Kd.pE tR)) (aX tB)); replace xP := aj.mk (Kd.jl tR (Kd.gH ho0) hb); replace ze := aj.mk (Kd.jl tR (Kd.gH ho0) hb); replace iX := bV iX hb; replace HB := dL HB hb
      (try clear hb)
      (try clear hb2)
      (try clear hk)
      (try clear hi)
      (try clear ho0)
      refine hK.out _ _ ((aI iX.out 0).trans rfl) (fun hHeld => ?_); clear hK K; refine dw (a' := ?_) ?_ ?_; rotate_left
      ·show Act.put _ (some 36) _ = _
       simp only [Act.put, sL, ay, aA]
       rfl
      refine gI (i := 15) (N := some 39) (bA 21 65535) rfl rfl (iF dY.out tX) (by decide) (fun K hK => ?_); refine fP Tryz.func112 tX rfl #[.slice Bh Jg.length Bj, .bool true] (by rfl) rfl rfl tM ?_
      with_reducible refine (bX.calls k1 _ _ Jg true Wu _ ?bF ?bG A11.out).mono ?_
      (case bF => repeat (first | exact (Kd.cO om.out).2.2 | (with_reducible refine Kd.bC ?_ _) | (with_reducible refine Kd.bD ?_ _) | (with_reducible refine Kd.bQ ?_)))
      (case bG => exact (Kd.cO om.out).2.1)
      rintro e w25 ⟨qrY, rfl, ho0, hb⟩; refine ⟨_, rfl, ?_⟩; replace jf := kH jf hb; replace om := kH om hb; have He := aj.mk (Kd.dP (Kd.mY (Kd.mY (Kd.mY ho0 (Kd.pE tR)) (Kd.pE tR)) (Kd.pE tR)) (aX tB)); replace xP := aj.mk (Kd.jl tR (Kd.gH ho0) hb); replace ze := aj.mk (Kd.jl tR (Kd.gH ho0) hb); replace FL := aj.mk (Kd.jl tR (Kd.gH ho0) hb); replace iX := bV iX hb; replace HB := dL HB hb
      (try clear hb)
      (try clear hb2)
      (try clear hk)
      (try clear hi)
      (try clear ho0)
      obtain ⟨qmd, qme, qgg⟩ := Kd.gF FL.out
      (first | subst qgg | (injection qgg with xD E9 xE; have Fa := xD.symm; have Fb := xE.symm; clear xD E9 xE; subst Fa; subst Fb))
      obtain ⟨qmf, qmg, qgh⟩ := Kd.gF He.out
      (first | subst qgh | (injection qgh with xD E9 xE; have Fa := xD.symm; have Fb := xE.symm; clear xD E9 xE; subst Fa; subst Fb))
      refine hK.out _ _ ((aI iX.out 0).trans rfl) (fun hHeld => ?_); clear hK K; refine dw (a' := ?_) ?_ ?_; rotate_left
      ·show Act.put _ (some 39) _ = _
       simp only [Act.put, sL, ay, aA]
       rfl
      refine gI (i := 16) (N := some 40) (bA 21 131071) rfl rfl (iF dY.out tX) (by decide) (fun K hK => ?_); refine fP Tryz.func111 tX rfl #[.agg #[.slice (some CU) au.length aZ], .int .i64 jc, .slice qmd Wt.length qme, .slice A1 l1.length c1, .slice qmf Wu.length qmg] (by rfl) rfl rfl tM ?_
      with_reducible refine (dD.calls k1 _ _ au jc _ _ Wt _ _ l1 _ _ Wu Og _ ?bF ?bG ?eG ?eH ?jo ?vN ?AQ ?AR XW.out).mono ?_
      (case bF => repeat (first | exact (Kd.ak dJ.out HB.out) | (with_reducible refine Kd.bC ?_ _) | (with_reducible refine Kd.bD ?_ _) | (with_reducible refine Kd.bQ ?_)))
      (case bG => exact eu.out)
      (case eG => repeat (first | exact (Kd.cO FL.out).2.2 | (with_reducible refine Kd.bC ?_ _) | (with_reducible refine Kd.bD ?_ _) | (with_reducible refine Kd.bQ ?_)))
      (case eH => exact (Kd.cO FL.out).2.1)
      (case jo => repeat (first | exact (Kd.ak HR1.out HB.out) | (with_reducible refine Kd.bC ?_ _) | (with_reducible refine Kd.bD ?_ _) | (with_reducible refine Kd.bQ ?_)))
      (case vN => exact uU.out)
      (case AQ => repeat (first | exact (Kd.cO He.out).2.2 | (with_reducible refine Kd.bC ?_ _) | (with_reducible refine Kd.bD ?_ _) | (with_reducible refine Kd.bQ ?_)))
      (case AR => exact (Kd.cO He.out).2.1)
      rintro e w28 ⟨rfl, hb⟩; refine ⟨_, rfl, ?_⟩; replace jf := kH jf hb; replace om := kH om hb; replace xP := kH xP hb; replace ze := kH ze hb; replace FL := kH FL hb; replace He := kH He hb; replace iX := bV iX hb; replace HB := dL HB hb
      (try clear hb)
      (try clear hb2)
      (try clear hk)
      (try clear hi)
      refine hK.out _ _ ((aI iX.out 0).trans rfl) (fun hHeld => ?_); clear hK K; refine dw (a' := ?_) ?_ ?_; rotate_left
      ·show Act.put _ (some 40) _ = _
       simp only [Act.put, sL, ay, aA]
       rfl
      refine aH (i := 17) (N := some 41) (v := ?_) (a' := ?_) (bA 21 262143) rfl rfl (aU dY.out tX) (fun _ _ _ h => h) (Or.inl ⟨by rfl, ?_⟩) ?_ ?_; rotate_left
      ·intro w'
       go_simp
       with_reducible rfl
      rotate_left
      ·simp only [Act.put, sL, ay, aA]
       rfl
      refine gI (i := 18) (N := some 42) (bA 21 524287) rfl rfl (iF dY.out tX) (by decide) (fun K hK => ?_); refine UD (w1 := ?_) (v := ?_) (by rfl) rfl ?_ ?_; rotate_left 2
      ·go_simp
       constructor
       ·rfl
       ·rfl
      refine hK.out _ _ ((aI (aJ iX.out _) 0).trans rfl) (fun hHeld => ?_); clear hK K; refine dw (a' := ?_) ?_ ?_; rotate_left
      ·show Act.put _ (some 42) _ = _
       simp only [Act.put, sL, ay, aA]
       rfl
      refine gI (i := 19) (N := some 43) (bA 21 1048575) rfl rfl (iF dY.out tX) (by decide) (fun K hK => ?_); refine Kd.y7 j3 (w0 := w) w.heap.size (by rfl) (.tmp 24) (.tmp 42) 28 37 (.agg #[(.int .i64 0), (.int .i64 0)]) 16 rfl Tryz.underlying28 Ip rfl (by decide) (by omega) u5 aQ (⟨Oe, Og⟩ : bT) [.int .i64 Oe, .int .i64 Og] (fun k_ => some k_ ≠ (.slice Bh Jg.length Bj : Value).ownBlock) (fun _ => False) rfl rfl ?aP (fun _ hk => hk.elim) ?aF ?aO ?aB ?aS ?aL ?_
      (case aP => exact kE _ _ _ (⟨Oe, Og⟩ : bT))
      (case aB => exact tB)
      (case aF => exact (fun k_ hk => Kd.fresh' (Kd.pE tR) k_ hk))
      (case aO => exact (by (with_reducible repeat (first | apply Kd.ku | apply Kd.kC | apply Kd.j5)); exact Kd.fV jf.out (fun _ hk => hk.2)))
      (case aS => exact (aX tB))
      (case aL => have := qgc.out; omega)
      intro qrZ w29 ho hb hg hat; rw [← qge.out] at ho; replace iX := aj.mk (jw (g := Rx) (o := .cells #[.slice (some CU) au.length aZ] 24 (0, 0)) tK hg (Kd.Dr jf.out iX.out (by decide))); replace om := aj.mk (Kd.PE (ok := (fun _ => True)) tR hg hat); replace xP := aj.mk (Kd.DN tR (Kd.DL tR) (by decide) hg); replace ze := aj.mk (Kd.DN tR (Kd.DL tR) (by decide) hg); replace FL := aj.mk (Kd.DN tR (Kd.DL tR) (by decide) hg); replace He := aj.mk (Kd.DN tR (Kd.DL tR) (by decide) hg); replace HB := aj.mk (hb); have qgi := aj.mk (ho); clear jf; clear ho hb hg hat; refine hK.out _ _ ((aI iX.out 0).trans rfl) (fun hHeld => ?_); clear hK K; refine dw (a' := ?_) ?_ ?_; rotate_left
      ·show Act.put _ (some 43) _ = _
       simp only [Act.put, sL, ay, aA]
       rfl
      refine aH (i := 20) (N := some 5) (v := ?_) (a' := ?_) (bA 21 2097151) rfl rfl (aU dY.out tX) (fun _ _ _ h => h) (Or.inl ⟨by rfl, ?_⟩) ?_ ?_; rotate_left
      ·intro w'
       go_simp
       with_reducible rfl
      rotate_left
      ·simp only [Act.put, sL, ay, aA]
       rfl
      refine kZ (pF dY.out tX) ?_
      try go_wp2
      go_roundg k1
      case measure => have := ng.out; omega
      case rel => exact ⟨(qgd), (wrap64 (jc + 1)), tS, H', ⟨by have := ng.out; omega⟩, ⟨by (with_reducible repeat (first | apply Kd.ku | apply Kd.kC | apply Kd.j5)); exact Kd.fV qgi.out (fun _ hk => trivial)⟩, ⟨tK⟩, ⟨tB⟩⟩
     ·rw [if_neg c13] at H
      exact absurd H (by simp)
    ·rw [if_neg c5] at H
     exact absurd H (by simp)
   ·rw [if_neg c4] at H
    have o7 : decide (jc < (au.length : Int)) = false := decide_eq_false c4; clear c4; obtain rfl := Option.some.inj H; have Ag := bc1 iX; have Ah := bf iX 0
    go_wp2
    go_ret
    exact ⟨_, tF, tR, tB⟩
theorem qgj (d : Nat) (w : World) (x0 y0 : Int) (x1 y1 : Int) :
  (Op.equalIn (d + 2) 37 (.agg #[.int .i64 x0, .int .i64 x1]) (.agg #[.int .i64 y0, .int .i64 y1])).run Tryz.prog w = .ok (x0 == y0 && (x1 == y1)) w := by
 refine qce Tryz.underlying37 tX ?_; refine UM (by rfl) (by go_simp; rfl) (by go_simp; rfl) (by go_simp) ?_; exact UL (by rfl) (by go_simp; rfl) (by go_simp; rfl) (by go_simp)
end Go.Proofs.YtnpfbjnjdngkhaaGreatDoor.P
namespace Go.Proofs.YtnpfbjnjdngkhaaGreatDoor.P
open Go.RowKit Go.Proofs.YtnpfbjnjdngkhaaGreatDoorW.aW Go.Proofs.YtnpfbjnjdngkhaaGreatDoorW.bZ Go.Proofs.YtnpfbjnjdngkhaaGreatDoorW.dh
attribute [local go_sem] fE fF gU gV eX eY fG fH
attribute [local go_sem high] qgj
def bP.l0 : Nat → List bT → List bT → Int → Option Bool
 | 0, _, _, _ => none
 | k + 1, x0, x1, x5 => if x5 < (x0.length : Int) then (if 0 ≤ x5 then (if x5 < (x1.length : Int) then (if (!(((bM x0 x5).f0) == ((bM x1 x5).f0)) || (!(((bM x0 x5).f1) == ((bM x1 x5).f1)))) = true then (some false) else (bP.l0 k x0 x1 (wrap64 (x5 + 1)))) else (none)) else (none)) else (some true)
def bP.f (k : Nat) (l0 : List bT) (l1 : List bT) : Option Bool := if (l0.length : Int) = (l1.length : Int) then (bP.l0 k l0 l1 0) else (some false)
theorem bP.calls (k : Nat) (A0 : Option Addr) (c0 : Nat) (l0 : List bT) (A1 : Option Addr) (c1 : Nat) (l1 : List bT) (r : Bool) (w : World) (hr0 : Kd.C j3 w A0 l0.length l0) (hc0 : l0.length ≤ c0) (hr1 : Kd.C j3 w A1 l1.length l1) (hc1 : l1.length ≤ c1) (h : bP.f k l0 l1 = some r) :
  Calls Tryz.prog 32 #[.slice A0 l0.length c0, .slice A1 l1.length c1] w fun e w' => e = .returned (.bool r) ∧ iw w w' := by
 have kg := Tryz.underlying37; have BR := aj.mk hr0; have XU := aj.mk hc0; clear hr0 hc0; have HR1 := aj.mk hr1; have uU := aj.mk hc1; clear hr1 hc1; have H : (if (l0.length : Int) = (l1.length : Int) then (bP.l0 k l0 l1 0) else (some false)) = some r := h; clear h
 by_cases c3 : (l0.length : Int) = (l1.length : Int)
 ·rw [if_pos c3] at H
  have oZ : ((l0.length : Int) == (l1.length : Int)) = true := beq_iff_eq.mpr c3; have zq : ((l0.length : Int) != (l1.length : Int)) = false := bne_eq_false_iff_eq.mpr c3
  have Ca : (l0.length == l1.length) = true := by first | simpa using c3 | (simp at c3 ⊢; omega)
  clear c3; have H' := aj.mk H; clear H
  go_enter Tryz.func32, Tryz.ntmps32
  go_wp2
  repeat (go_quiet (fail); try go_wp2)
  go_loopg [5] k (fun kq v5 w' => ∃ (aQ : Int), v5 = .int .i64 aQ ∧ aj (bP.l0 kq l0 l1 aQ = some r) ∧ aj (kq ≤ k) ∧ iw w w')
  case atStart => exact ⟨(0), tS, H', ⟨Nat.le_refl _⟩, tD⟩
  case round =>
   clear H'
   try clear c1
   try clear p2
   try clear c3
   try clear oZ
   try clear zq
   try clear Ca
   obtain ⟨aQ, rfl, HA, ng, ⟨m1, rfl⟩⟩ := hrel
   cases gk with
   | zero => exact absurd HA.out (by simp [bP.l0])
   | succ k1 =>
    have H := HA.out; clear HA; simp only [bP.l0] at H
    by_cases c4 : aQ < (l0.length : Int)
    ·rw [if_pos c4] at H
     have o7 : decide (aQ < (l0.length : Int)) = true := decide_eq_true c4; clear c4
     by_cases c5 : 0 ≤ aQ
     ·rw [if_pos c5] at H
      have y5 : decide (0 ≤ aQ) = true := decide_eq_true c5; clear c5
      by_cases c6 : aQ < (l1.length : Int)
      ·rw [if_pos c6] at H
       have IG : decide (aQ < (l1.length : Int)) = true := decide_eq_true c6; clear c6
       by_cases c7 : (!(((bM l0 aQ).f0) == ((bM l1 aQ).f0)) || (!(((bM l0 aQ).f1) == ((bM l1 aQ).f1)))) = true
       ·rw [if_pos c7] at H
        have xu : (!(((bM l0 aQ).f0) == ((bM l1 aQ).f0)) || (!(((bM l0 aQ).f1) == ((bM l1 aQ).f1)))) = true := c7; clear c7; obtain rfl := Option.some.inj H; have Oj : 0 ≤ (aQ : Int) := of_decide_eq_true tA; have Ol : aQ < (l0.length : Int) := of_decide_eq_true tA; obtain ⟨qgk, qdM, Zq, Zr⟩ := mD BR.out aQ Oj Ol
        cases qdM
        replace Oj := eq_true Oj; replace Ol := eq_true Ol; have Om : 0 ≤ (aQ : Int) := of_decide_eq_true tA; have Oo : aQ < (l1.length : Int) := of_decide_eq_true tA; obtain ⟨qgl, qdN, Zt, Zu⟩ := mD HR1.out aQ Om Oo
        cases qdN
        replace Om := eq_true Om; replace Oo := eq_true Oo
        go_wp2
        repeat (go_quiet (fail); try go_wp2)
        go_ret
        exact ⟨tS, tD⟩
       ·rw [if_neg c7] at H
        have xu : (!(((bM l0 aQ).f0) == ((bM l1 aQ).f0)) || (!(((bM l0 aQ).f1) == ((bM l1 aQ).f1)))) = false := by simpa using c7
        clear c7; have H' := aj.mk H; clear H; have Oj : 0 ≤ (aQ : Int) := of_decide_eq_true tA; have Ol : aQ < (l0.length : Int) := of_decide_eq_true tA; obtain ⟨qgk, qdM, Zq, Zr⟩ := mD BR.out aQ Oj Ol
        cases qdM
        replace Oj := eq_true Oj; replace Ol := eq_true Ol; have Om : 0 ≤ (aQ : Int) := of_decide_eq_true tA; have Oo : aQ < (l1.length : Int) := of_decide_eq_true tA; obtain ⟨qgl, qdN, Zt, Zu⟩ := mD HR1.out aQ Om Oo
        cases qdN
        replace Om := eq_true Om; replace Oo := eq_true Oo
        go_wp2
        repeat (go_quiet (fail); try go_wp2)
        go_roundg k1
        case measure => have := ng.out; omega
        case rel => exact ⟨(wrap64 (aQ + 1)), tS, H', ⟨by have := ng.out; omega⟩, tD⟩
      ·rw [if_neg c6] at H
       exact absurd H (by simp)
     ·rw [if_neg c5] at H
      exact absurd H (by simp)
    ·rw [if_neg c4] at H
     have o7 : decide (aQ < (l0.length : Int)) = false := decide_eq_false c4; clear c4; obtain rfl := Option.some.inj H
     go_wp2
     repeat (go_quiet (fail); try go_wp2)
     go_ret
     exact ⟨tS, tD⟩
 ·rw [if_neg c3] at H
  have oZ : ((l0.length : Int) == (l1.length : Int)) = false := beq_eq_false_iff_ne.mpr c3; have zq : ((l0.length : Int) != (l1.length : Int)) = true := bne_iff_ne.mpr c3
  have Ca : (l0.length == l1.length) = false := by first | simpa using c3 | (simp at c3 ⊢; omega)
  obtain rfl := Option.some.inj H
  go_enter Tryz.func32, Tryz.ntmps32
  go_wp2
  repeat (go_quiet (fail); try go_wp2)
  go_ret
  exact ⟨tS, tD⟩
end Go.Proofs.YtnpfbjnjdngkhaaGreatDoor.P
namespace Go.Proofs.YtnpfbjnjdngkhaaGreatDoor.P
open Go.RowKit Go.Proofs.YtnpfbjnjdngkhaaGreatDoorW.aW Go.Proofs.YtnpfbjnjdngkhaaGreatDoorW.bZ Go.Proofs.YtnpfbjnjdngkhaaGreatDoorW.dh
theorem Wv (l : List bg) (hl : l.length ≤ 1000) : ∀ (m k i : Nat) (acc : List bT), i + m = l.length → m < k → acc.length = i → dF.l0 k l acc (i : Int) = some (acc ++ (l.drop i).map bg.f2) := by
 intro m
 induction m with
 | zero =>
  intro k i acc hi hk ha; obtain ⟨k, rfl⟩ : ∃ k', k = k' + 1 := ⟨k - 1, by omega⟩; rw [dF.l0, if_neg (by omega), List.drop_eq_nil_of_le (by omega)]; simp
 | succ m ih =>
  intro k i acc hi hk ha; obtain ⟨k, rfl⟩ : ∃ k', k = k' + 1 := ⟨k - 1, by omega⟩
  have hil : i < l.length := by omega
  rw [dF.l0, if_pos (by omega), if_pos (by omega), if_pos (by omega), xJ (by omega), ih k (i + 1) _ (by omega) (by omega) (by simp; omega), VL hil, List.drop_eq_getElem_cons hil]; simp only [List.append_assoc, List.map_cons, List.singleton_append]
theorem Zv {k : Nat} {l : List bg} (hl : l.length ≤ 1000) (hk : l.length < k) : dF.f k l = some (l.map bg.f2) := by
 have := Wv l hl l.length k 0 [] (by omega) hk rfl
 simpa [dF.f] using this
def zf (b : Bool) (s : bT) : Int := if b then s.f1 else s.f0
theorem Ww (l : List bT) (b : Bool) (hl : l.length ≤ 1000) : ∀ (m k i : Nat) (acc : List Int), i + m = l.length → m < k → acc.length = i → bX.l0 k l b acc (i : Int) = some (acc ++ (l.drop i).map (zf b)) := by
 intro m
 induction m with
 | zero =>
  intro k i acc hi hk ha; obtain ⟨k, rfl⟩ : ∃ k', k = k' + 1 := ⟨k - 1, by omega⟩; rw [bX.l0, if_neg (by omega), List.drop_eq_nil_of_le (by omega)]; simp
 | succ m ih =>
  intro k i acc hi hk ha; obtain ⟨k, rfl⟩ : ∃ k', k = k' + 1 := ⟨k - 1, by omega⟩
  have hil : i < l.length := by omega
  rw [bX.l0, if_pos (by omega), List.drop_eq_getElem_cons hil]
  cases b with
  | true =>
   rw [if_pos rfl, if_pos (by omega), if_pos (by omega), xJ (by omega), ih k (i + 1) _ (by omega) (by omega) (by simp; omega), qc9 hil]; simp only [List.append_assoc, List.map_cons, List.singleton_append, zf, if_true]
  | false =>
   rw [if_neg (by decide), if_pos (by omega), if_pos (by omega), xJ (by omega), ih k (i + 1) _ (by omega) (by omega) (by simp; omega), qc9 hil]; simp only [List.append_assoc, List.map_cons, List.singleton_append]
   rfl
theorem Es {k : Nat} {l : List bT} (b : Bool) (hl : l.length ≤ 1000) (hk : l.length < k) : bX.f k l b = some (l.map (zf b)) := by
 have := Ww l b hl l.length k 0 [] (by omega) hk rfl
 simpa [bX.f] using this
theorem TA (h : List bO) (d : Int) (takes hours : List Int) (l : List bg) (hd : 0 ≤ d ∧ d < h.length) (hl : l.length ≤ 1000) (hh : hours.length = l.length) (hb : ∀ x ∈ hours, 0 ≤ x ∧ x ≤ 1000) (ht : ∀ x ∈ takes, 0 ≤ x ∧ x ≤ 1000)
  (Qs : ∀ b ∈ l, b.f0 = d → 0 ≤ b.f1 ∧ b.f1 < takes.length) : ∀ (m k i : Nat) (acc : Int), i + m = l.length → m < k → 0 ≤ acc ∧ acc ≤ i * 1000000 →
  dD.l0 k d takes l hours acc (i : Int) h = some (min (aT h d).f1 (acc + (vH d takes (l.drop i) (hours.drop i)).sum)) := by
 intro m
 induction m with
 | zero =>
  intro k i acc hi hk ha; obtain ⟨k, rfl⟩ : ∃ k', k = k' + 1 := ⟨k - 1, by omega⟩; rw [dD.l0, if_neg (by omega), if_pos hd.1, if_pos hd.2, List.drop_eq_nil_of_le (by omega)]; simp [vH, Nz, Int.min_comm]
 | succ m ih =>
  intro k i acc hi hk ha; obtain ⟨k, rfl⟩ : ∃ k', k = k' + 1 := ⟨k - 1, by omega⟩
  have hil : i < l.length := by omega
  have h1 := hb (hours[i]'(by omega)) (List.getElem_mem _); rw [dD.l0, if_pos (by omega), if_pos (by omega), VL hil, xJ (by omega)]; rw [List.drop_eq_getElem_cons hil, List.drop_eq_getElem_cons (show i < hours.length by omega), vH]
  by_cases he : l[i].f0 = d
  ·have h2 := Qs _ (List.getElem_mem _) he
   have h3 := Fh ht (by decide) l[i].f1; have h4 := Int.mul_nonneg h1.1 h3.1; have h5 := Int.mul_le_mul h1.2 h3.2 h3.1 (by decide); rw [if_pos he, if_pos (by omega), if_pos h2.1, if_pos h2.2, qR (by omega), z8 (x := hours[i] * rd takes l[i].f1) (by omega) (by omega), if_pos he, z8 (by omega) (by omega)]; rw [ih k (i + 1) _ (by omega) (by omega) (by omega), List.sum_cons, Int.add_assoc]
  ·rw [if_neg he, if_neg he, ih k (i + 1) _ (by omega) (by omega) (by omega)]
theorem Wy {k : Nat} {h : List bO} {d : Int} {takes hours : List Int} {l : List bg} (hd : 0 ≤ d ∧ d < h.length) (hl : l.length ≤ 1000) (hh : hours.length = l.length) (hb : ∀ x ∈ hours, 0 ≤ x ∧ x ≤ 1000) (ht : ∀ x ∈ takes, 0 ≤ x ∧ x ≤ 1000)
  (Qs : ∀ b ∈ l, b.f0 = d → 0 ≤ b.f1 ∧ b.f1 < takes.length) (hk : l.length < k) : dD.f k h d takes l hours = some (qx (aT h d).f1 d takes l hours) := by
 have := TA h d takes hours l hd hl hh hb ht Qs l.length k 0 0 (by omega) hk ⟨Int.le_refl _, by omega⟩
 simpa [dD.f, qx] using this
def qU (h : List bO) (l : List bg) (i : Nat) : List bT := (List.range i).map fun d : Nat => ⟨N8 h l (d : Int), Oa h l (d : Int)⟩
theorem CV (h : List bO) (l : List bg) (i : Nat) : qU h l (i + 1) = qU h l i ++ [⟨N8 h l i, Oa h l i⟩] := by simp [qU, List.range_succ]
theorem zG (h : List bO) (l : List bg) (i : Nat) : (qU h l i).length = i := by simp [qU]
theorem Lc {h : List bO} {l : List bg} {d : Int} (hh : iA h = true) (hb : gB h.length l = true) (hd : 0 ≤ d ∧ d < h.length) (b : Bool) {k : Nat} (hk : 10 < k) :
  dD.f k h d ((aT h d).f0.map (zf b)) l ((l.map bg.f2).map (zf b)) = some (if b then Oa h l d else N8 h l d) := by
 have HO := lH hh; have BO := nX hb; have hm := l9 hd; have h3 := HO.takes _ hm; have hs := HO.span _ hm; have hl := BO.len
 have ht : ∀ x ∈ (aT h d).f0.map (zf b), 0 ≤ x ∧ x ≤ 1000 := fun x hx => by
  obtain ⟨s, hs2, rfl⟩ := List.mem_map.1 hx; have := hs s hs2; have := wG hh hm hs2
  unfold zf
  split <;> omega
 have hw : ∀ x ∈ (l.map bg.f2).map (zf b), 0 ≤ x ∧ x ≤ 1000 := fun x hx => by
  obtain ⟨s, hs2, rfl⟩ := List.mem_map.1 hx; obtain ⟨b, hb2, rfl⟩ := List.mem_map.1 hs2; have := BO.hours b hb2; have := wH hb hb2
  unfold zf
  split <;> omega
 have Qs : ∀ x ∈ l, x.f0 = d → 0 ≤ x.f1 ∧ x.f1 < ((aT h d).f0.map (zf b)).length := fun x hb2 _ => by
  have := BO.NC x hb2; rw [List.length_map]
  omega
 rw [Wy hd (by omega) (by simp) hw ht Qs (by omega)]
 cases b <;> rfl
theorem TB {h : List bO} {l : List bg} (hh : iA h = true) (hb : gB h.length l = true) : ∀ (m k i : Nat), i + m = h.length → m + 20 < k → bq.l0 k l (qU h l i) (i : Int) h = some (qU h l h.length) := by
 have HO := lH hh; have BO := nX hb; have hl := BO.len; intro m
 induction m with
 | zero =>
  intro k i hi hk; obtain ⟨k, rfl⟩ : ∃ k', k = k' + 1 := ⟨k - 1, by omega⟩
  obtain rfl : i = h.length := by omega
  rw [bq.l0, if_neg (by omega)]
 | succ m ih =>
  intro k i hi hk; obtain ⟨k, rfl⟩ : ∃ k', k = k' + 1 := ⟨k - 1, by omega⟩
  have hd : 0 ≤ (i : Int) ∧ (i : Int) < h.length := by omega
  have hm := l9 hd; have h3 := HO.takes _ hm; have h4 := HO.len
  rw [bq.l0, if_pos hd.2, if_pos hd.1, Zv (by omega) (by omega), Option.bind_some, Es false (by omega) (by omega), Option.bind_some, Es false (by rw [List.length_map]; omega) (by rw [List.length_map]; omega), Option.bind_some,
   Lc hh hb hd false (by omega), Option.bind_some, Es true (by omega) (by omega), Option.bind_some, Es true (by rw [List.length_map]; omega) (by rw [List.length_map]; omega), Option.bind_some,
   Lc hh hb hd true (by omega), Option.bind_some, if_pos (by rw [zG]; omega), xJ (by omega)]
  have := ih k (i + 1) (by omega) (by omega); rw [CV] at this; exact this
theorem Wz {k : Nat} (hk : 900 ≤ k) {h : List bO} {l : List bg} (hh : iA h = true) (hb : gB h.length l = true) : bq.f k h l = some (qU h l h.length) := by
 have h4 := (lH hh).len; exact TB hh hb h.length k 0 (by omega) (by omega)
theorem TD {h : List bO} {l : List bg} (hh : iA h = true) (hb : gB h.length l = true) : ∀ (m k i : Nat), i + m = h.length → m < k → dZ.l0 k l (qU h l i) (h.length : Int) (i : Int) h = some (qU h l h.length, 0) := by
 have h4 := (lH hh).len; intro m
 induction m with
 | zero =>
  intro k i hi hk; obtain ⟨k, rfl⟩ : ∃ k', k = k' + 1 := ⟨k - 1, by omega⟩
  obtain rfl : i = h.length := by omega
  rw [dZ.l0, if_neg (by omega)]
 | succ m ih =>
  intro k i hi hk; obtain ⟨k, rfl⟩ : ∃ k', k = k' + 1 := ⟨k - 1, by omega⟩
  have hd : 0 ≤ (i : Int) ∧ (i : Int) < h.length := by omega
  rw [dZ.l0, if_pos hd.2, (Ob [] hh hb hd).1, Option.bind_some, if_pos (by rw [zG]; omega), xJ (by omega)]; have := ih k (i + 1) (by omega) (by omega); rw [CV] at this; exact this
theorem WA {k : Nat} (hk : 900 ≤ k) (h : List bO) (l : List bg) : dZ.f k h l = some (if iA h = true ∧ gB h.length l = true then (qU h l h.length, 0) else ([], 2)) := by
 unfold dZ.f
 obtain ⟨k, rfl⟩ : ∃ k', k = k' + 1 := ⟨k - 1, by omega⟩; rw [GZ, Option.bind_some, BZ]
 cases hh : iA h with
 | false => rw [if_neg (by decide), dZ.j0]; simp
 | true =>
  rw [if_pos rfl, Option.bind_some, dZ.j0]
  cases hb : gB h.length l with
  | false => simp
  | true =>
   have h4 := (lH hh).len; have := TD hh hb h.length k 0 (by omega) (by omega)
   simpa [qU] using this
theorem Zw (a : List bT) (ha : a.length ≤ 900) : ∀ (m k i : Nat), i + m = a.length → m < k → bP.l0 k a a (i : Int) = some true := by
 intro m
 induction m with
 | zero =>
  intro k i hi hk; obtain ⟨k, rfl⟩ : ∃ k', k = k' + 1 := ⟨k - 1, by omega⟩; rw [bP.l0, if_neg (by omega)]
 | succ m ih =>
  intro k i hi hk; obtain ⟨k, rfl⟩ : ∃ k', k = k' + 1 := ⟨k - 1, by omega⟩; rw [bP.l0, if_pos (by omega), if_pos (by omega), if_pos (by omega), if_neg (by simp), xJ (by omega), ih k (i + 1) (by omega) (by omega)]
theorem Ld {k : Nat} (hk : 900 ≤ k) (a : List bT) (ha : a.length ≤ 800) : bP.f k a a = some true := by
 unfold bP.f
 rw [if_pos rfl]; exact Zw a (by omega) a.length k 0 (by omega) (by omega)
end Go.Proofs.YtnpfbjnjdngkhaaGreatDoor.P
namespace Go.Proofs.YtnpfbjnjdngkhaaGreatDoor.P
open Go.RowKit Go.Proofs.YtnpfbjnjdngkhaaGreatDoorW.aW Go.Proofs.YtnpfbjnjdngkhaaGreatDoorW.bZ Go.Proofs.YtnpfbjnjdngkhaaGreatDoorW.dh
attribute [local go_sem] fE fF gU gV eX eY fG fH
def bL.f (a0 : Int) (a1 : Int) : Option (Int × Int) := some (a0, a1)
theorem bL.calls (a0 : Int) (a1 : Int) (r1 : Int) (r2 : Int) (w : World) (h : bL.f a0 a1 = some (r1, r2)) :
  Calls Tryz.prog 67 #[.int .i64 a0, .int .i64 a1] w fun e w' => e = .returned (.agg #[.int .i64 r1, .int .i64 r2]) ∧ Below w.heap.size w w' := by
 have kg := Tryz.underlying37; have HB := aj.mk (Below.refl w.heap.size w); have H : (some (a0, a1)) = some (r1, r2) := h; clear h; simp only [Option.some.injEq, Prod.mk.injEq] at H; obtain ⟨rfl, rfl⟩ := H
 go_enter Tryz.func67, Tryz.ntmps67
 go_wp2_with (first | ((with_reducible refine av (N := 4) rfl ?_); refine fA 4 #[.int .i64 0, .int .i64 0] 37 HB ?_; clear HB; intro qgm w3 hg RF qpi HB hb; clear hb hg; obtain ⟨zu, Fu⟩ := bc2 RF; have zw := bf RF 0; have Fv := bf RF 1))
 refine bodyPost_ret (results_cell_row rfl _ _ qgm 37 #[.int .i64 a0, .int .i64 a1] (0, 0) _ rfl (by (with_reducible repeat (first | refine aM ?_ _ | refine aN ?_ | refine aJ ?_ _)); refine dU (cs := #[.int .i64 a0, .int .i64 0]) ?_ 1 _ rfl; (with_reducible repeat (first | refine aM ?_ _ | refine aN ?_ | refine aJ ?_ _)); refine dU (cs := #[.int .i64 0, .int .i64 0]) ?_ 0 _ rfl; (with_reducible repeat (first | refine aM ?_ _ | refine aN ?_ | refine aJ ?_ _)); exact RF.out) Tryz.underlying37 rfl tX) rfl ?_; exact ⟨tF, tB⟩
def bH.f (a0 : Int) : Option (Int × Int) := (bL.f a0 a0).bind fun Le => (some (Le.1, Le.2))
theorem bH.calls (a0 : Int) (r1 : Int) (r2 : Int) (w : World) (h : bH.f a0 = some (r1, r2)) :
  Calls Tryz.prog 66 #[.int .i64 a0] w fun e w' => e = .returned (.agg #[.int .i64 r1, .int .i64 r2]) ∧ Below w.heap.size w w' := by
 have kg := Tryz.underlying37; have HB := aj.mk (Below.refl w.heap.size w); have H : ((bL.f a0 a0).bind fun Le => (some (Le.1, Le.2))) = some (r1, r2) := h; clear h; obtain ⟨⟨t309, t310⟩, MP, H⟩ := bs H; have A2 := aj.mk MP; clear MP; simp only [Option.some.injEq, Prod.mk.injEq] at H; obtain ⟨rfl, rfl⟩ := H
 go_enter Tryz.func66, Tryz.ntmps66
 go_wp2_with (first | ((with_reducible refine av (N := 2) rfl ?_); refine fA 2 #[.int .i64 0, .int .i64 0] 37 HB ?_; clear HB; intro qgn w3 hg Hf qpj HB hb; clear hb hg) | ((with_reducible refine aD (f := 67) rfl ?_); refine bW (some 5) rfl rfl Tryz.func67 tX rfl #[.int .i64 a0, .int .i64 a0] rfl tM ?_; (with_reducible refine (bL.calls a0 a0 t309 t310 _ A2.out).mono ?_); rintro e w4 ⟨rfl, hb⟩; refine ⟨_, rfl, ?_⟩; replace Hf := bV Hf hb; replace HB := dL HB hb; (try clear hb); obtain ⟨Ch, qdO⟩ := bc2 Hf; have Ci := bf Hf 0; have qdP := bf Hf 1))
 refine bodyPost_ret (results_cell_row rfl _ _ qgn 37 #[.int .i64 t309, .int .i64 t310] (0, 0) _ rfl (by (with_reducible repeat (first | refine aM ?_ _ | refine aN ?_ | refine aJ ?_ _)); refine dU (cs := #[.int .i64 t309, .int .i64 0]) ?_ 1 _ rfl; (with_reducible repeat (first | refine aM ?_ _ | refine aN ?_ | refine aJ ?_ _)); refine dU (cs := #[.int .i64 0, .int .i64 0]) ?_ 0 _ rfl; (with_reducible repeat (first | refine aM ?_ _ | refine aN ?_ | refine aJ ?_ _)); exact Hf.out) Tryz.underlying37 rfl tX) rfl ?_; exact ⟨tF, tB⟩
def rT.f  : Option ((List bO)) := (bL.f 2 3).bind fun Lf => ((bH.f 5).bind fun Lg => ((bL.f 8 10).bind fun Lh => ((bH.f 1).bind fun CW => ((bH.f 2).bind fun CX => ((bH.f 4).bind fun CY => (some (([(⟨(([(⟨Lf.1, Lf.2⟩ : bT), (⟨Lg.1, Lg.2⟩ : bT), (⟨Lh.1, Lh.2⟩ : bT)] : List bT)), 40⟩ : bO), (⟨(([(⟨CW.1, CW.2⟩ : bT), (⟨CX.1, CX.2⟩ : bT), (⟨CY.1, CY.2⟩ : bT)] : List bT)), 20⟩ : bO)] : List bO))))))))
theorem rT.calls  (r : List bO) (w : World) (h : rT.f  = some r) :
  Calls Tryz.prog 97 #[] w fun e w' => ∃ kM : Value, e = .returned (.agg #[kM]) ∧ Kd.N iM 102 w' w.heap.size (fun k_ => (w.heap.size ≤ k_)) kM r ∧ Below w.heap.size w w' := by
 have o8 := Tryz.underlying24; have Vt := Tryz.underlying102; have HB := aj.mk (Below.refl w.heap.size w); have H : ((bL.f 2 3).bind fun Lf => ((bH.f 5).bind fun Lg => ((bL.f 8 10).bind fun Lh => ((bH.f 1).bind fun CW => ((bH.f 2).bind fun CX => ((bH.f 4).bind fun CY => (some (([(⟨(([(⟨Lf.1, Lf.2⟩ : bT), (⟨Lg.1, Lg.2⟩ : bT), (⟨Lh.1, Lh.2⟩ : bT)] : List bT)), 40⟩ : bO), (⟨(([(⟨CW.1, CW.2⟩ : bT), (⟨CX.1, CX.2⟩ : bT), (⟨CY.1, CY.2⟩ : bT)] : List bT)), 20⟩ : bO)] : List bO))))))))) = some r := h; clear h; obtain ⟨⟨t312, t313⟩, JX, H⟩ := bs H; have A1 := aj.mk JX; clear JX; obtain ⟨⟨t314, t315⟩, MP, H⟩ := bs H; have A2 := aj.mk MP; clear MP; obtain ⟨⟨t316, t317⟩, TF, H⟩ := bs H; have A3 := aj.mk TF; clear TF; obtain ⟨Li, Lj⟩ : ∃ y_ : List bT, y_ = (([(⟨t312, t313⟩ : bT), (⟨t314, t315⟩ : bT), (⟨t316, t317⟩ : bT)] : List bT)) := ⟨_, rfl⟩
 replace H : ((bH.f 1).bind fun CW => ((bH.f 2).bind fun CX => ((bH.f 4).bind fun CY => (some (([(⟨Li, 40⟩ : bO), (⟨(([(⟨CW.1, CW.2⟩ : bT), (⟨CX.1, CX.2⟩ : bT), (⟨CY.1, CY.2⟩ : bT)] : List bT)), 20⟩ : bO)] : List bO)))))) = some r := by first | (rw [Lj]; with_reducible exact H) | (have iY := (Option.bind_some _ _).symm.trans H; rw [Lj]; with_reducible exact iY) | (have iY := (Option.bind_some _ _).symm.trans H; with_reducible exact iY) | with_reducible exact H | (rw [Lj]; exact H) | exact H
 have qbc := aj.mk Lj; clear Lj; obtain ⟨⟨Oq, Ot⟩, A40, H⟩ := bs H; have A4 := aj.mk A40; clear A40; obtain ⟨⟨Ou, Ov⟩, A50, H⟩ := bs H; have A5 := aj.mk A50; clear A50; obtain ⟨⟨Ow, Ox⟩, A60, H⟩ := bs H; have A6 := aj.mk A60; clear A60; obtain ⟨Oy, Ll⟩ : ∃ y_ : List bT, y_ = (([(⟨Oq, Ot⟩ : bT), (⟨Ou, Ov⟩ : bT), (⟨Ow, Ox⟩ : bT)] : List bT)) := ⟨_, rfl⟩
 replace H : (some (([(⟨Li, 40⟩ : bO), (⟨Oy, 20⟩ : bO)] : List bO))) = some r := by first | (rw [Ll]; with_reducible exact H) | (have iY := (Option.bind_some _ _).symm.trans H; rw [Ll]; with_reducible exact iY) | (have iY := (Option.bind_some _ _).symm.trans H; with_reducible exact iY) | with_reducible exact H | (rw [Ll]; exact H) | exact H
 have qbe := aj.mk Ll; clear Ll; obtain ⟨qdQ, Lm⟩ : ∃ y_ : List bO, y_ = (([(⟨Li, 40⟩ : bO), (⟨Oy, 20⟩ : bO)] : List bO)) := ⟨_, rfl⟩
 replace H : (some qdQ) = some r := by first | (rw [Lm]; with_reducible exact H) | (have iY := (Option.bind_some _ _).symm.trans H; rw [Lm]; with_reducible exact iY) | (have iY := (Option.bind_some _ _).symm.trans H; with_reducible exact iY) | with_reducible exact H | (rw [Lm]; exact H) | exact H
 have qbf := aj.mk Lm; clear Lm; obtain rfl := Option.some.inj H
 go_enter Tryz.func97, Tryz.ntmps97
 go_wp2_with (first | ((with_reducible refine av (N := 0) rfl ?_); refine fA 0 #[.slice none 0 0] 24 HB ?_; clear HB; intro xQ w7 hg l8 qpl HB hb; clear hb hg) | ((with_reducible refine aD (f := 67) rfl ?_); refine bW (some 1) rfl rfl Tryz.func67 tX rfl #[.int .i64 2, .int .i64 3] rfl tM ?_; (with_reducible refine (bL.calls 2 3 t312 t313 _ A1.out).mono ?_); rintro e w8 ⟨rfl, hb⟩; refine ⟨_, rfl, ?_⟩; replace l8 := bV l8 hb; replace HB := dL HB hb; (try clear hb)) | ((with_reducible refine aD (f := 66) rfl ?_); refine bW (some 2) rfl rfl Tryz.func66 tX rfl #[.int .i64 5] rfl tM ?_; (with_reducible refine (bH.calls 5 t314 t315 _ A2.out).mono ?_); rintro e w9 ⟨rfl, hb⟩; refine ⟨_, rfl, ?_⟩; replace l8 := bV l8 hb; replace HB := dL HB hb; (try clear hb)) | ((with_reducible refine aD (f := 67) rfl ?_); refine bW (some 3) rfl rfl Tryz.func67 tX rfl #[.int .i64 8, .int .i64 10] rfl tM ?_; (with_reducible refine (bL.calls 8 10 t316 t317 _ A3.out).mono ?_); rintro e JV ⟨rfl, hb⟩; refine ⟨_, rfl, ?_⟩; replace l8 := bV l8 hb; replace HB := dL HB hb; (try clear hb)) | ((with_reducible refine av (N := 4) rfl ?_); refine Kd.qJ j3 _ 37 ?hg (N := 4) ?hd (xs := ([(⟨t312, t313⟩ : bT), (⟨t314, t315⟩ : bT), (⟨t316, t317⟩ : bT)] : List bT)) (inner := [.int .i64 t312, .int .i64 t313, .int .i64 t314, .int .i64 t315, .int .i64 t316, .int .i64 t317]) (ok := fun _ => True) (nE := fun _ => True) ?hr ?hp (fun _ hk => hk) trivial (Below.refl _ _) (Nat.le_refl _) (by simp) ?_; (case hd => rfl); (case hg => rfl); (case hr => first | (go_simp; done) | (go_simp; rfl)); (case hp => exact (dH.c2 (show Kd.M j3 _ _ _ (⟨t312, t313⟩ : bT) [.int .i64 t312, .int .i64 t313] from (kE _ _ _ (⟨t312, t313⟩ : bT) )) (dH.c2 (show Kd.M j3 _ _ _ (⟨t314, t315⟩ : bT) [.int .i64 t314, .int .i64 t315] from (kE _ _ _ (⟨t314, t315⟩ : bT) )) (dH.c2 (show Kd.M j3 _ _ _ (⟨t316, t317⟩ : bT) [.int .i64 t316, .int .i64 t317] from (kE _ _ _ (⟨t316, t317⟩ : bT) )) (dH.none _ _))))); intro qr0 JW FM hb tq iy; clear tq iy; (first | rw [← qbc.out] at FM | (simp only [Int.reduceToNat] at FM; rw [← qbc.out] at FM)); have xR := aj.mk (Kd.dP (Kd.xC (M := fun k_ => (w.heap.size ≤ k_)) FM (aX tB) (fun k_ h_ => h_)) (aX tB)); replace l8 := bV l8 hb; replace HB := dL HB hb; clear hb FM; obtain ⟨qgp, qgq, qmh⟩ := Kd.gF xR.out; subst qmh) | ((with_reducible refine aD (f := 66) rfl ?_); refine bW (some 6) rfl rfl Tryz.func66 tX rfl #[.int .i64 1] rfl tM ?_; (with_reducible refine (bH.calls 1 Oq Ot _ A4.out).mono ?_); rintro e Uo ⟨rfl, hb⟩; refine ⟨_, rfl, ?_⟩; replace xR := kH xR hb; replace l8 := bV l8 hb; replace HB := dL HB hb; (try clear hb)) | ((with_reducible refine aD (f := 66) rfl ?_); refine bW (some 7) rfl rfl Tryz.func66 tX rfl #[.int .i64 2] rfl tM ?_; (with_reducible refine (bH.calls 2 Ou Ov _ A5.out).mono ?_); rintro e ML ⟨rfl, hb⟩; refine ⟨_, rfl, ?_⟩; replace xR := kH xR hb; replace l8 := bV l8 hb; replace HB := dL HB hb; (try clear hb)) | ((with_reducible refine aD (f := 66) rfl ?_); refine bW (some 8) rfl rfl Tryz.func66 tX rfl #[.int .i64 4] rfl tM ?_; (with_reducible refine (bH.calls 4 Ow Ox _ A6.out).mono ?_); rintro e w16 ⟨rfl, hb⟩; refine ⟨_, rfl, ?_⟩; replace xR := kH xR hb; replace l8 := bV l8 hb; replace HB := dL HB hb; (try clear hb)) | ((with_reducible refine av (N := 9) rfl ?_); refine Kd.qJ j3 _ 37 ?hg (N := 9) ?hd (xs := ([(⟨Oq, Ot⟩ : bT), (⟨Ou, Ov⟩ : bT), (⟨Ow, Ox⟩ : bT)] : List bT)) (inner := [.int .i64 Oq, .int .i64 Ot, .int .i64 Ou, .int .i64 Ov, .int .i64 Ow, .int .i64 Ox]) (ok := fun _ => True) (nE := fun _ => True) ?hr ?hp (fun _ hk => hk) trivial (Below.refl _ _) (Nat.le_refl _) (by simp) ?_; (case hd => rfl); (case hg => rfl); (case hr => first | (go_simp; done) | (go_simp; rfl)); (case hp => exact (dH.c2 (show Kd.M j3 _ _ _ (⟨Oq, Ot⟩ : bT) [.int .i64 Oq, .int .i64 Ot] from (kE _ _ _ (⟨Oq, Ot⟩ : bT) )) (dH.c2 (show Kd.M j3 _ _ _ (⟨Ou, Ov⟩ : bT) [.int .i64 Ou, .int .i64 Ov] from (kE _ _ _ (⟨Ou, Ov⟩ : bT) )) (dH.c2 (show Kd.M j3 _ _ _ (⟨Ow, Ox⟩ : bT) [.int .i64 Ow, .int .i64 Ox] from (kE _ _ _ (⟨Ow, Ox⟩ : bT) )) (dH.none _ _))))); intro qr1 YE TG hb tq iy; clear tq iy; (first | rw [← qbe.out] at TG | (simp only [Int.reduceToNat] at TG; rw [← qbe.out] at TG)); have RG := aj.mk (Kd.dP (Kd.mY (Kd.xC (M := fun k_ => (w.heap.size ≤ k_)) TG (aX tB) (fun k_ h_ => h_)) (Kd.pE tR)) (aX tB)); replace xR := aj.mk (Kd.jl tR (Kd.gH TG) hb); replace l8 := bV l8 hb; replace HB := dL HB hb; clear hb TG; obtain ⟨Bh, Bj, Tz⟩ := Kd.gF RG.out; subst Tz) | ((with_reducible refine av (N := 11) rfl ?_); refine Kd.UO iM _ 102 ?hg (N' := 11) ?hd (xs := ([(⟨Li, 40⟩ : bO), (⟨Oy, 20⟩ : bO)] : List bO)) (inner := [.slice qgp Li.length qgq, .int .i64 40, .slice Bh Oy.length Bj, .int .i64 20]) (ok := (fun k_ => (w.heap.size ≤ k_) ∧ k_ ≠ xQ)) (nE := (fun k_ => (w.heap.size ≤ k_) ∧ k_ ≠ xQ)) ?hr ?hp (fun _ hk => hk) ((show ∀ k_, YE.heap.size ≤ k_ → (fun k_ => (w.heap.size ≤ k_) ∧ k_ ≠ xQ) k_ from fun k_ hk => ⟨(Nat.le_trans (aX tB) hk), Kd.M7 (g := xQ) (o := .cells #[.slice none 0 0] 24 (0, 0)) tK k_ hk⟩) _ (Nat.le_refl _)) (Below.refl _ _) (Nat.le_refl _) (by simp) ?_; (case hd => rfl); (case hg => rfl); (case hr => first | (go_simp; done) | (go_simp; rfl)); (case hp => exact (dH.c2 (show Kd.FK iM _ _ (⟨Li, 40⟩ : bO) [.slice qgp Li.length qgq, .int .i64 40] from (J8 _ _ (⟨Li, 40⟩ : bO) (Kd.cO (Kd.fV (ok' := (fun k_ => (w.heap.size ≤ k_) ∧ k_ ≠ xQ)) (Kd.jA (xR.out) l8.out (by decide)) (fun k_ hk => ⟨hk.1.1.1, hk.2⟩))).2.1 (Kd.R_F (Kd.fV (ok' := (fun k_ => (w.heap.size ≤ k_) ∧ k_ ≠ xQ)) (Kd.jA (xR.out) l8.out (by decide)) (fun k_ hk => ⟨hk.1.1.1, hk.2⟩))))) (dH.c2 (show Kd.FK iM _ _ (⟨Oy, 20⟩ : bO) [.slice Bh Oy.length Bj, .int .i64 20] from (J8 _ _ (⟨Oy, 20⟩ : bO) (Kd.cO (Kd.fV (ok' := (fun k_ => (w.heap.size ≤ k_) ∧ k_ ≠ xQ)) (Kd.jA (RG.out) l8.out (by decide)) (fun k_ hk => ⟨hk.1.1.1, hk.2⟩))).2.1 (Kd.R_F (Kd.fV (ok' := (fun k_ => (w.heap.size ≤ k_) ∧ k_ ≠ xQ)) (Kd.jA (RG.out) l8.out (by decide)) (fun k_ hk => ⟨hk.1.1.1, hk.2⟩))))) (dH.none _ _)))); intro qr2 w20 WB hb tq iy; clear tq iy; (first | rw [← qbf.out] at WB | (simp only [Int.reduceToNat] at WB; rw [← qbf.out] at WB)); have qbg := aj.mk (Kd.Im WB (aX tB)); replace l8 := bV l8 hb; replace HB := dL HB hb; clear xR RG; clear hb WB; obtain ⟨Zn, Zo, Zp⟩ := Kd.Io qbg.out; subst Zp; have yH := bc1 l8; have yI := bf l8 0))
 refine bodyPost_ret (results_cell_row rfl _ _ xQ 24 #[.slice Zn qdQ.length Zo] (0, 0) _ rfl (by (with_reducible repeat (first | refine aM ?_ _ | refine aN ?_ | refine aJ ?_ _)); refine dU (cs := #[.slice none 0 0]) ?_ 0 _ rfl; (with_reducible repeat (first | refine aM ?_ _ | refine aN ?_ | refine aJ ?_ _)); exact l8.out) Tryz.underlying24 rfl tX) rfl ?_; exact ⟨_, tF, by (with_reducible repeat (first | apply Kd.mJ | apply Kd.mK | apply Kd.pG)); exact Kd.sV (Kd.wW (p := ⟨xQ, 0, none⟩) (Kd.sV qbg.out (fun k_ hk => (⟨hk, hk.2⟩ : _ ∧ k_ ≠ xQ))) (fun _ hk => hk.2) (.slice Zn qdQ.length Zo)) (fun _ hk => hk.1.1), tB⟩
def rU.f  : Option ((List bg)) := (bL.f 4 5).bind fun Lp => ((bH.f 3).bind fun Lr => (some (([(⟨0, 0, (⟨Lp.1, Lp.2⟩ : bT)⟩ : bg), (⟨1, 1, (⟨Lr.1, Lr.2⟩ : bT)⟩ : bg)] : List bg))))
theorem rU.calls  (r : List bg) (w : World) (h : rU.f  = some r) :
  Calls Tryz.prog 98 #[] w fun e w' => ∃ kM : Value, e = .returned (kM) ∧ Kd.R eT 154 w' w.heap.size (fun _ => True) kM r ∧ Below w.heap.size w w' := by
 have CF := Tryz.underlying154; have HB := aj.mk (Below.refl w.heap.size w); have H : ((bL.f 4 5).bind fun Lp => ((bH.f 3).bind fun Lr => (some (([(⟨0, 0, (⟨Lp.1, Lp.2⟩ : bT)⟩ : bg), (⟨1, 1, (⟨Lr.1, Lr.2⟩ : bT)⟩ : bg)] : List bg))))) = some r := h; clear h; obtain ⟨⟨Oz, OA⟩, JX, H⟩ := bs H; have A1 := aj.mk JX; clear JX; obtain ⟨⟨OB, OC⟩, MP, H⟩ := bs H; have A2 := aj.mk MP; clear MP; obtain ⟨qmi, Ls⟩ : ∃ y_ : List bg, y_ = (([(⟨0, 0, (⟨Oz, OA⟩ : bT)⟩ : bg), (⟨1, 1, (⟨OB, OC⟩ : bT)⟩ : bg)] : List bg)) := ⟨_, rfl⟩
 replace H : (some qmi) = some r := by first | (rw [Ls]; with_reducible exact H) | (have iY := (Option.bind_some _ _).symm.trans H; rw [Ls]; with_reducible exact iY) | (have iY := (Option.bind_some _ _).symm.trans H; with_reducible exact iY) | with_reducible exact H | (rw [Ls]; exact H) | exact H
 have qbh := aj.mk Ls; clear Ls; obtain rfl := Option.some.inj H
 go_enter Tryz.func98, Tryz.ntmps98
 go_wp2_with (first | ((with_reducible refine aD (f := 67) rfl ?_); refine bW (some 1) rfl rfl Tryz.func67 tX rfl #[.int .i64 4, .int .i64 5] rfl tM ?_; (with_reducible refine (bL.calls 4 5 Oz OA _ A1.out).mono ?_); rintro e w3 ⟨rfl, hb⟩; refine ⟨_, rfl, ?_⟩; replace HB := dL HB hb; (try clear hb)) | ((with_reducible refine aD (f := 66) rfl ?_); refine bW (some 3) rfl rfl Tryz.func66 tX rfl #[.int .i64 3] rfl tM ?_; (with_reducible refine (bH.calls 3 OB OC _ A2.out).mono ?_); rintro e w4 ⟨rfl, hb⟩; refine ⟨_, rfl, ?_⟩; replace HB := dL HB hb; (try clear hb)) | ((with_reducible refine av (N := 5) rfl ?_); refine Kd.qJ eT _ 154 ?hg (N := 5) ?hd (xs := ([(⟨0, 0, (⟨Oz, OA⟩ : bT)⟩ : bg), (⟨1, 1, (⟨OB, OC⟩ : bT)⟩ : bg)] : List bg)) (inner := [.int .i64 0, .int .i64 0, .int .i64 Oz, .int .i64 OA, .int .i64 1, .int .i64 1, .int .i64 OB, .int .i64 OC]) (ok := fun _ => True) (nE := fun _ => True) ?hr ?hp (fun _ hk => hk) trivial (Below.refl _ _) (Nat.le_refl _) (by simp) ?_; (case hd => rfl); (case hg => rfl); (case hr => first | (go_simp; done) | (go_simp; rfl)); (case hp => exact (dH.c4 (show Kd.M eT _ _ _ (⟨0, 0, (⟨Oz, OA⟩ : bT)⟩ : bg) [.int .i64 0, .int .i64 0, .int .i64 Oz, .int .i64 OA] from (mZ _ _ _ (⟨0, 0, (⟨Oz, OA⟩ : bT)⟩ : bg) )) (dH.c4 (show Kd.M eT _ _ _ (⟨1, 1, (⟨OB, OC⟩ : bT)⟩ : bg) [.int .i64 1, .int .i64 1, .int .i64 OB, .int .i64 OC] from (mZ _ _ _ (⟨1, 1, (⟨OB, OC⟩ : bT)⟩ : bg) )) (dH.none _ _)))); intro qr3 w5 ho6 hb tq iy; clear tq iy; (first | rw [← qbh.out] at ho6 | (simp only [Int.reduceToNat] at ho6; rw [← qbh.out] at ho6)); have qpm := aj.mk (Kd.dP ho6 (aX tB)); replace HB := dL HB hb; clear hb ho6))
 go_ret
 exact ⟨_, tF, tR, tB⟩
def jT.f  : Option (List Int) := some (([1, (-2)] : List Int))
theorem jT.calls  (r : List Int) (w : World) (h : jT.f  = some r) :
  Calls Tryz.prog 99 #[] w fun e w' => ∃ kM : Value, e = .returned (.agg #[kM]) ∧ Kd.R (Kd.int .i64) 3 w' w.heap.size (fun _ => True) kM r ∧ Below w.heap.size w w' := by
 have IY := Tryz.underlying49; have HB := aj.mk (Below.refl w.heap.size w); have H : (some (([1, (-2)] : List Int))) = some r := h; clear h; obtain ⟨qdR, Lu⟩ : ∃ y_ : List Int, y_ = (([1, (-2)] : List Int)) := ⟨_, rfl⟩
 replace H : (some qdR) = some r := by first | (rw [Lu]; with_reducible exact H) | (have iY := (Option.bind_some _ _).symm.trans H; rw [Lu]; with_reducible exact iY) | (have iY := (Option.bind_some _ _).symm.trans H; with_reducible exact iY) | with_reducible exact H | (rw [Lu]; exact H) | exact H
 have qbi := aj.mk Lu; clear Lu; obtain rfl := Option.some.inj H
 go_enter Tryz.func99, Tryz.ntmps99
 go_wp2_with (first | ((with_reducible refine av (N := 0) rfl ?_); refine fA 0 #[.slice none 0 0] 49 HB ?_; clear HB; intro qbj w1 hg Hg qpn HB hb; clear hb hg) | ((with_reducible refine av (N := 1) rfl ?_); refine Kd.qJ (Kd.int .i64) _ 3 ?hg (N := 1) ?hd (xs := ([1, (-2)] : List Int)) (inner := [.int .i64 1, .int .i64 (-2)]) (ok := fun _ => True) (nE := fun _ => True) ?hr ?hp (fun _ hk => hk) trivial (Below.refl _ _) (Nat.le_refl _) (by simp) ?_; (case hd => rfl); (case hg => rfl); (case hr => first | (go_simp; done) | (go_simp; rfl)); (case hp => exact (dH.one (show Kd.M (Kd.int .i64) _ _ _ 1 [.int .i64 1] from rfl) (dH.one (show Kd.M (Kd.int .i64) _ _ _ (-2) [.int .i64 (-2)] from rfl) (dH.none _ _)))); intro qr4 w2 ho3 hb tq iy; clear tq iy; (first | rw [← qbi.out] at ho3 | (simp only [Int.reduceToNat] at ho3; rw [← qbi.out] at ho3)); have qbk := aj.mk (Kd.dP ho3 (aX tB)); replace Hg := bV Hg hb; replace HB := dL HB hb; clear hb ho3; obtain ⟨Ao4, co4, eo4⟩ := Kd.gF qbk.out; subst eo4; have Ch := bc1 Hg; have Ci := bf Hg 0))
 refine bodyPost_ret (results_cell_row rfl _ _ qbj 49 #[.slice Ao4 qdR.length co4] (0, 0) _ rfl (by (with_reducible repeat (first | refine aM ?_ _ | refine aN ?_ | refine aJ ?_ _)); refine dU (cs := #[.slice none 0 0]) ?_ 0 _ rfl; (with_reducible repeat (first | refine aM ?_ _ | refine aN ?_ | refine aJ ?_ _)); exact Hg.out) Tryz.underlying49 rfl tX) rfl ?_; exact ⟨_, tF, by (with_reducible repeat (first | apply Kd.ku | apply Kd.kC | apply Kd.j5)); exact Kd.fV (Kd.jQ (p := ⟨qbj, 0, none⟩) (Kd.jA qbk.out Hg.out (by decide)) (fun _ hk => hk.2) (.slice Ao4 qdR.length co4)) (fun _ hk => trivial), tB⟩
def iU.f  : Option ((List bg)) := (bH.f 5).bind fun Lv => (some (([(⟨0, 0, (⟨Lv.1, Lv.2⟩ : bT)⟩ : bg)] : List bg)))
theorem iU.calls  (r : List bg) (w : World) (h : iU.f  = some r) :
  Calls Tryz.prog 100 #[] w fun e w' => ∃ kM : Value, e = .returned (kM) ∧ Kd.R eT 154 w' w.heap.size (fun _ => True) kM r ∧ Below w.heap.size w w' := by
 have CF := Tryz.underlying154; have HB := aj.mk (Below.refl w.heap.size w); have H : ((bH.f 5).bind fun Lv => (some (([(⟨0, 0, (⟨Lv.1, Lv.2⟩ : bT)⟩ : bg)] : List bg)))) = some r := h; clear h; obtain ⟨⟨OD, OE⟩, JX, H⟩ := bs H; have A1 := aj.mk JX; clear JX; obtain ⟨qmk, Lx⟩ : ∃ y_ : List bg, y_ = (([(⟨0, 0, (⟨OD, OE⟩ : bT)⟩ : bg)] : List bg)) := ⟨_, rfl⟩
 replace H : (some qmk) = some r := by first | (rw [Lx]; with_reducible exact H) | (have iY := (Option.bind_some _ _).symm.trans H; rw [Lx]; with_reducible exact iY) | (have iY := (Option.bind_some _ _).symm.trans H; with_reducible exact iY) | with_reducible exact H | (rw [Lx]; exact H) | exact H
 have qbl := aj.mk Lx; clear Lx; obtain rfl := Option.some.inj H
 go_enter Tryz.func100, Tryz.ntmps100
 go_wp2_with (first | ((with_reducible refine aD (f := 66) rfl ?_); refine bW (some 1) rfl rfl Tryz.func66 tX rfl #[.int .i64 5] rfl tM ?_; (with_reducible refine (bH.calls 5 OD OE _ A1.out).mono ?_); rintro e w2 ⟨rfl, hb⟩; refine ⟨_, rfl, ?_⟩; replace HB := dL HB hb; (try clear hb)) | ((with_reducible refine av (N := 3) rfl ?_); refine Kd.qJ eT _ 154 ?hg (N := 3) ?hd (xs := ([(⟨0, 0, (⟨OD, OE⟩ : bT)⟩ : bg)] : List bg)) (inner := [.int .i64 0, .int .i64 0, .int .i64 OD, .int .i64 OE]) (ok := fun _ => True) (nE := fun _ => True) ?hr ?hp (fun _ hk => hk) trivial (Below.refl _ _) (Nat.le_refl _) (by simp) ?_; (case hd => rfl); (case hg => rfl); (case hr => first | (go_simp; done) | (go_simp; rfl)); (case hp => exact (dH.c4 (show Kd.M eT _ _ _ (⟨0, 0, (⟨OD, OE⟩ : bT)⟩ : bg) [.int .i64 0, .int .i64 0, .int .i64 OD, .int .i64 OE] from (mZ _ _ _ (⟨0, 0, (⟨OD, OE⟩ : bT)⟩ : bg) )) (dH.none _ _))); intro qr5 w3 ho4 hb tq iy; clear tq iy; (first | rw [← qbl.out] at ho4 | (simp only [Int.reduceToNat] at ho4; rw [← qbl.out] at ho4)); have qpo := aj.mk (Kd.dP ho4 (aX tB)); replace HB := dL HB hb; clear hb ho4))
 go_ret
 exact ⟨_, tF, tR, tB⟩
def jU.f  : Option (List Int) := some (([1, 1] : List Int))
theorem jU.calls  (r : List Int) (w : World) (h : jU.f  = some r) :
  Calls Tryz.prog 101 #[] w fun e w' => ∃ kM : Value, e = .returned (.agg #[kM]) ∧ Kd.R (Kd.int .i64) 3 w' w.heap.size (fun _ => True) kM r ∧ Below w.heap.size w w' := by
 have IY := Tryz.underlying49; have HB := aj.mk (Below.refl w.heap.size w); have H : (some (([1, 1] : List Int))) = some r := h; clear h; obtain ⟨qdS, LA⟩ : ∃ y_ : List Int, y_ = (([1, 1] : List Int)) := ⟨_, rfl⟩
 replace H : (some qdS) = some r := by first | (rw [LA]; with_reducible exact H) | (have iY := (Option.bind_some _ _).symm.trans H; rw [LA]; with_reducible exact iY) | (have iY := (Option.bind_some _ _).symm.trans H; with_reducible exact iY) | with_reducible exact H | (rw [LA]; exact H) | exact H
 have qbm := aj.mk LA; clear LA; obtain rfl := Option.some.inj H
 go_enter Tryz.func101, Tryz.ntmps101
 go_wp2_with (first | ((with_reducible refine av (N := 0) rfl ?_); refine fA 0 #[.slice none 0 0] 49 HB ?_; clear HB; intro qbn w1 hg Hl qpp HB hb; clear hb hg) | ((with_reducible refine av (N := 1) rfl ?_); refine Kd.qJ (Kd.int .i64) _ 3 ?hg (N := 1) ?hd (xs := ([1, 1] : List Int)) (inner := [.int .i64 1, .int .i64 1]) (ok := fun _ => True) (nE := fun _ => True) ?hr ?hp (fun _ hk => hk) trivial (Below.refl _ _) (Nat.le_refl _) (by simp) ?_; (case hd => rfl); (case hg => rfl); (case hr => first | (go_simp; done) | (go_simp; rfl)); (case hp => exact (dH.one (show Kd.M (Kd.int .i64) _ _ _ 1 [.int .i64 1] from rfl) (dH.one (show Kd.M (Kd.int .i64) _ _ _ 1 [.int .i64 1] from rfl) (dH.none _ _)))); intro qr6 w2 ho3 hb tq iy; clear tq iy; (first | rw [← qbm.out] at ho3 | (simp only [Int.reduceToNat] at ho3; rw [← qbm.out] at ho3)); have qbo := aj.mk (Kd.dP ho3 (aX tB)); replace Hl := bV Hl hb; replace HB := dL HB hb; clear hb ho3; obtain ⟨Ao4, co4, eo4⟩ := Kd.gF qbo.out; subst eo4; have Ch := bc1 Hl; have Ci := bf Hl 0))
 refine bodyPost_ret (results_cell_row rfl _ _ qbn 49 #[.slice Ao4 qdS.length co4] (0, 0) _ rfl (by (with_reducible repeat (first | refine aM ?_ _ | refine aN ?_ | refine aJ ?_ _)); refine dU (cs := #[.slice none 0 0]) ?_ 0 _ rfl; (with_reducible repeat (first | refine aM ?_ _ | refine aN ?_ | refine aJ ?_ _)); exact Hl.out) Tryz.underlying49 rfl tX) rfl ?_; exact ⟨_, tF, by (with_reducible repeat (first | apply Kd.ku | apply Kd.kC | apply Kd.j5)); exact Kd.fV (Kd.jQ (p := ⟨qbn, 0, none⟩) (Kd.jA qbo.out Hl.out (by decide)) (fun _ hk => hk.2) (.slice Ao4 qdS.length co4)) (fun _ hk => trivial), tB⟩
def rV.f  : Option ((List ou) × Int × Int × (List bT) × Int) := (jU.f).bind fun FN => ((jT.f).bind fun FP => ((bH.f 6).bind fun CZ => ((bL.f 12 14).bind fun C8 => ((bL.f 10 12).bind fun C9 => (some ((([(⟨FN⟩ : ou), (⟨FP⟩ : ou)] : List ou)), CZ.1, CZ.2, (([(⟨C8.1, C8.2⟩ : bT), (⟨C9.1, C9.2⟩ : bT)] : List bT)), 3))))))
theorem rV.calls  (r1 : List ou) (r2 : Int) (r3 : Int) (r4 : List bT) (r5 : Int) (w : World) (h : rV.f  = some (r1, r2, r3, r4, r5)) :
  Calls Tryz.prog 102 #[] w fun e w' => ∃ kM v3_ : Value, e = .returned (.agg #[kM, .int .i64 r2, .int .i64 r3, v3_, .int .i64 r5]) ∧ Kd.N ET 49 w' w.heap.size (fun k_ => (w.heap.size ≤ k_) ∧ some k_ ≠ (v3_ : Value).ownBlock) kM r1 ∧ Kd.R j3 37 w' w.heap.size (fun k_ => (w.heap.size ≤ k_)) v3_ r4 ∧ Below w.heap.size w w' := by
 have Yz := Tryz.underlying58; have HB := aj.mk (Below.refl w.heap.size w); have H : ((jU.f).bind fun FN => ((jT.f).bind fun FP => ((bH.f 6).bind fun CZ => ((bL.f 12 14).bind fun C8 => ((bL.f 10 12).bind fun C9 => (some ((([(⟨FN⟩ : ou), (⟨FP⟩ : ou)] : List ou)), CZ.1, CZ.2, (([(⟨C8.1, C8.2⟩ : bT), (⟨C9.1, C9.2⟩ : bT)] : List bT)), 3))))))) = some (r1, r2, r3, r4, r5) := h; clear h; obtain ⟨FN, A1, H⟩ := lV H; obtain ⟨FP, A2, H⟩ := lV H; obtain ⟨Ji, LB⟩ : ∃ y_ : List ou, y_ = (([(⟨FN⟩ : ou), (⟨FP⟩ : ou)] : List ou)) := ⟨_, rfl⟩
 replace H : ((bH.f 6).bind fun CZ => ((bL.f 12 14).bind fun C8 => ((bL.f 10 12).bind fun C9 => (some (Ji, CZ.1, CZ.2, (([(⟨C8.1, C8.2⟩ : bT), (⟨C9.1, C9.2⟩ : bT)] : List bT)), 3))))) = some (r1, r2, r3, r4, r5) := by first | (rw [LB]; with_reducible exact H) | (have iY := (Option.bind_some _ _).symm.trans H; rw [LB]; with_reducible exact iY) | (have iY := (Option.bind_some _ _).symm.trans H; with_reducible exact iY) | with_reducible exact H | (rw [LB]; exact H) | exact H
 have qbp := aj.mk LB; clear LB; obtain ⟨⟨LC, OG⟩, TF, H⟩ := bs H; have A3 := aj.mk TF; clear TF; obtain ⟨⟨OH, OI⟩, A40, H⟩ := bs H; have A4 := aj.mk A40; clear A40; obtain ⟨⟨OJ, OL⟩, A50, H⟩ := bs H; have A5 := aj.mk A50; clear A50; obtain ⟨WC, LD⟩ : ∃ y_ : List bT, y_ = (([(⟨OH, OI⟩ : bT), (⟨OJ, OL⟩ : bT)] : List bT)) := ⟨_, rfl⟩
 replace H : (some (Ji, LC, OG, WC, 3)) = some (r1, r2, r3, r4, r5) := by first | (rw [LD]; with_reducible exact H) | (have iY := (Option.bind_some _ _).symm.trans H; rw [LD]; with_reducible exact iY) | (have iY := (Option.bind_some _ _).symm.trans H; with_reducible exact iY) | with_reducible exact H | (rw [LD]; exact H) | exact H
 have qbq := aj.mk LD; clear LD; simp only [Option.some.injEq, Prod.mk.injEq] at H; obtain ⟨rfl, rfl, rfl, rfl, rfl⟩ := H
 go_enter Tryz.func102, Tryz.ntmps102
 go_wp2_with (first | ((with_reducible refine av (N := 0) rfl ?_); refine fA 0 #[.slice none 0 0, .int .i64 0, .int .i64 0, .slice none 0 0, .int .i64 0] 58 HB ?_; clear HB; intro oV w6 hg lM qpq HB hb; clear hb hg) | ((with_reducible refine aD (f := 101) rfl ?_); refine bW (some 1) rfl rfl Tryz.func101 tX rfl #[] rfl tM ?_; (with_reducible refine (jU.calls  FN _ A1.out).mono ?_); rintro e w7 ⟨qr7, rfl, ho0, hb⟩; refine ⟨_, rfl, ?_⟩; have LG := aj.mk (Kd.dP (Kd.xC (M := fun k_ => (w.heap.size ≤ k_)) ho0 (aX tB) (fun k_ h_ => h_)) (aX tB)); replace lM := bV lM hb; replace HB := dL HB hb; (try clear hb); (try clear ho0)) | ((with_reducible refine aD (f := 99) rfl ?_); refine bW (some 2) rfl rfl Tryz.func99 tX rfl #[] rfl tM ?_; (with_reducible refine (jT.calls  FP _ A2.out).mono ?_); rintro e w8 ⟨qr8, rfl, ho0, hb⟩; refine ⟨_, rfl, ?_⟩; have RH := aj.mk (Kd.dP (Kd.mY (Kd.xC (M := fun k_ => (w.heap.size ≤ k_)) ho0 (aX tB) (fun k_ h_ => h_)) (Kd.pE tR)) (aX tB)); replace LG := aj.mk (Kd.jl tR (Kd.gH ho0) hb); replace lM := bV lM hb; replace HB := dL HB hb; (try clear hb); (try clear ho0); obtain ⟨Ao9, co9, eo9⟩ := Kd.gF LG.out; subst eo9; obtain ⟨qgx, qgy, qmm⟩ := Kd.gF RH.out; subst qmm) | ((with_reducible refine av (N := 3) rfl ?_); refine Kd.UO ET _ 49 ?hg (N' := 3) ?hd (xs := ([(⟨FN⟩ : ou), (⟨FP⟩ : ou)] : List ou)) (inner := [.slice Ao9 FN.length co9, .slice qgx FP.length qgy]) (ok := (fun k_ => (w.heap.size ≤ k_) ∧ k_ ≠ oV)) (nE := (fun k_ => (w.heap.size ≤ k_) ∧ k_ ≠ oV)) ?hr ?hp (fun _ hk => hk) ((show ∀ k_, w8.heap.size ≤ k_ → (fun k_ => (w.heap.size ≤ k_) ∧ k_ ≠ oV) k_ from fun k_ hk => ⟨(Nat.le_trans (aX tB) hk), Kd.M7 (g := oV) (o := .cells #[.slice none 0 0, .int .i64 0, .int .i64 0, .slice none 0 0, .int .i64 0] 58 (0, 0)) tK k_ hk⟩) _ (Nat.le_refl _)) (Below.refl _ _) (Nat.le_refl _) (by simp) ?_; (case hd => rfl); (case hg => rfl); (case hr => first | (go_simp; done) | (go_simp; rfl)); (case hp => exact (dH.one (show Kd.FK ET _ _ (⟨FN⟩ : ou) [.slice Ao9 FN.length co9] from (PV _ _ (⟨FN⟩ : ou) (Kd.cO (Kd.fV (ok' := (fun k_ => (w.heap.size ≤ k_) ∧ k_ ≠ oV)) (Kd.jA (LG.out) lM.out (by decide)) (fun k_ hk => ⟨hk.1.1.1, hk.2⟩))).2.1 (Kd.R_F (Kd.fV (ok' := (fun k_ => (w.heap.size ≤ k_) ∧ k_ ≠ oV)) (Kd.jA (LG.out) lM.out (by decide)) (fun k_ hk => ⟨hk.1.1.1, hk.2⟩))))) (dH.one (show Kd.FK ET _ _ (⟨FP⟩ : ou) [.slice qgx FP.length qgy] from (PV _ _ (⟨FP⟩ : ou) (Kd.cO (Kd.fV (ok' := (fun k_ => (w.heap.size ≤ k_) ∧ k_ ≠ oV)) (Kd.jA (RH.out) lM.out (by decide)) (fun k_ hk => ⟨hk.1.1.1, hk.2⟩))).2.1 (Kd.R_F (Kd.fV (ok' := (fun k_ => (w.heap.size ≤ k_) ∧ k_ ≠ oV)) (Kd.jA (RH.out) lM.out (by decide)) (fun k_ hk => ⟨hk.1.1.1, hk.2⟩))))) (dH.none _ _)))); intro qr9 JW FM hb tq iy; clear tq iy; (first | rw [← qbp.out] at FM | (simp only [Int.reduceToNat] at FM; rw [← qbp.out] at FM)); have zh := aj.mk (Kd.Im FM (aX tB)); replace lM := bV lM hb; replace HB := dL HB hb; clear LG RH; clear hb FM) | ((with_reducible refine aD (f := 66) rfl ?_); refine bW (some 4) rfl rfl Tryz.func66 tX rfl #[.int .i64 6] rfl tM ?_; (with_reducible refine (bH.calls 6 LC OG _ A3.out).mono ?_); rintro e w13 ⟨rfl, hb⟩; refine ⟨_, rfl, ?_⟩; replace zh := aj.mk (Kd.q8 (by (with_reducible repeat (first | apply Kd.mJ | apply Kd.mK | apply Kd.pG)); exact zh.out) hb); replace lM := bV lM hb; replace HB := dL HB hb; (try clear hb)) | ((with_reducible refine aD (f := 67) rfl ?_); refine bW (some 5) rfl rfl Tryz.func67 tX rfl #[.int .i64 12, .int .i64 14] rfl tM ?_; (with_reducible refine (bL.calls 12 14 OH OI _ A4.out).mono ?_); rintro e Uo ⟨rfl, hb⟩; refine ⟨_, rfl, ?_⟩; replace zh := aj.mk (Kd.q8 (by (with_reducible repeat (first | apply Kd.mJ | apply Kd.mK | apply Kd.pG)); exact zh.out) hb); replace lM := bV lM hb; replace HB := dL HB hb; (try clear hb)) | ((with_reducible refine aD (f := 67) rfl ?_); refine bW (some 6) rfl rfl Tryz.func67 tX rfl #[.int .i64 10, .int .i64 12] rfl tM ?_; (with_reducible refine (bL.calls 10 12 OJ OL _ A5.out).mono ?_); rintro e ML ⟨rfl, hb⟩; refine ⟨_, rfl, ?_⟩; replace zh := aj.mk (Kd.q8 (by (with_reducible repeat (first | apply Kd.mJ | apply Kd.mK | apply Kd.pG)); exact zh.out) hb); replace lM := bV lM hb; replace HB := dL HB hb; (try clear hb)) | ((with_reducible refine av (N := 7) rfl ?_); refine Kd.qJ j3 _ 37 ?hg (N := 7) ?hd (xs := ([(⟨OH, OI⟩ : bT), (⟨OJ, OL⟩ : bT)] : List bT)) (inner := [.int .i64 OH, .int .i64 OI, .int .i64 OJ, .int .i64 OL]) (ok := fun _ => True) (nE := fun _ => True) ?hr ?hp (fun _ hk => hk) trivial (Below.refl _ _) (Nat.le_refl _) (by simp) ?_; (case hd => rfl); (case hg => rfl); (case hr => first | (go_simp; done) | (go_simp; rfl)); (case hp => exact (dH.c2 (show Kd.M j3 _ _ _ (⟨OH, OI⟩ : bT) [.int .i64 OH, .int .i64 OI] from (kE _ _ _ (⟨OH, OI⟩ : bT) )) (dH.c2 (show Kd.M j3 _ _ _ (⟨OJ, OL⟩ : bT) [.int .i64 OJ, .int .i64 OL] from (kE _ _ _ (⟨OJ, OL⟩ : bT) )) (dH.none _ _)))); intro qsa w16 TH hb tq iy; clear tq iy; (first | rw [← qbq.out] at TH | (simp only [Int.reduceToNat] at TH; rw [← qbq.out] at TH)); replace zh := aj.mk (Kd.UJ (by (with_reducible repeat (first | apply Kd.mJ | apply Kd.mK | apply Kd.pG)); exact zh.out) (Kd.gH TH) hb); have qbr := aj.mk (Kd.dP (Kd.xC (M := fun k_ => (w.heap.size ≤ k_)) TH (aX tB) (fun k_ h_ => h_)) (aX tB)); replace lM := bV lM hb; replace HB := dL HB hb; clear hb TH; obtain ⟨Zx, Zy, qmn⟩ := Kd.gF qbr.out; subst qmn; obtain ⟨Bh, Bj, Tz⟩ := Kd.Io zh.out; subst Tz; obtain ⟨Qw, YF, YG, YH, YI⟩ := Np lM; have Qx := bf lM 0; have YJ := bf lM 1; have YK := bf lM 2; have YL := bf lM 3; have YM := bf lM 4))
 refine bodyPost_ret (results_cell_row rfl _ _ oV 58 #[.slice Bh Ji.length Bj, .int .i64 LC, .int .i64 OG, .slice Zx WC.length Zy, .int .i64 3] (0, 0) _ rfl (by (with_reducible repeat (first | refine aM ?_ _ | refine aN ?_ | refine aJ ?_ _)); refine dU (cs := #[.slice Bh Ji.length Bj, .int .i64 LC, .int .i64 OG, .slice Zx WC.length Zy, .int .i64 0]) ?_ 4 _ rfl; (with_reducible repeat (first | refine aM ?_ _ | refine aN ?_ | refine aJ ?_ _)); refine dU (cs := #[.slice Bh Ji.length Bj, .int .i64 LC, .int .i64 OG, .slice none 0 0, .int .i64 0]) ?_ 3 _ rfl; (with_reducible repeat (first | refine aM ?_ _ | refine aN ?_ | refine aJ ?_ _)); refine dU (cs := #[.slice Bh Ji.length Bj, .int .i64 LC, .int .i64 0, .slice none 0 0, .int .i64 0]) ?_ 2 _ rfl; (with_reducible repeat (first | refine aM ?_ _ | refine aN ?_ | refine aJ ?_ _)); refine dU (cs := #[.slice Bh Ji.length Bj, .int .i64 0, .int .i64 0, .slice none 0 0, .int .i64 0]) ?_ 1 _ rfl; (with_reducible repeat (first | refine aM ?_ _ | refine aN ?_ | refine aJ ?_ _)); refine dU (cs := #[.slice none 0 0, .int .i64 0, .int .i64 0, .slice none 0 0, .int .i64 0]) ?_ 0 _ rfl; (with_reducible repeat (first | refine aM ?_ _ | refine aN ?_ | refine aJ ?_ _)); exact lM.out) Tryz.underlying58 rfl tX) rfl ?_; exact ⟨_, _, tF, by (with_reducible repeat (first | apply Kd.mJ | apply Kd.mK | apply Kd.pG)); exact Kd.sV (Kd.wW (p := ⟨oV, 4, none⟩) (Kd.wW (p := ⟨oV, 3, none⟩) (Kd.wW (p := ⟨oV, 2, none⟩) (Kd.wW (p := ⟨oV, 1, none⟩) (Kd.wW (p := ⟨oV, 0, none⟩) (Kd.sV zh.out (fun k_ hk => (⟨hk, hk.1.2⟩ : _ ∧ k_ ≠ oV))) (fun _ hk => hk.2) (.slice Bh Ji.length Bj)) (fun _ hk => hk.2) (.int .i64 LC)) (fun _ hk => hk.2) (.int .i64 OG)) (fun _ hk => hk.2) (.slice Zx WC.length Zy)) (fun _ hk => hk.2) (.int .i64 3)) (fun _ hk => ⟨hk.1.1.1, hk.1.2⟩), by (with_reducible repeat (first | apply Kd.ku | apply Kd.kC | apply Kd.j5)); exact Kd.fV (Kd.jQ (p := ⟨oV, 4, none⟩) (Kd.jQ (p := ⟨oV, 3, none⟩) (Kd.jQ (p := ⟨oV, 2, none⟩) (Kd.jQ (p := ⟨oV, 1, none⟩) (Kd.jQ (p := ⟨oV, 0, none⟩) (Kd.jA qbr.out lM.out (by decide)) (fun _ hk => hk.2) (.slice Bh Ji.length Bj)) (fun _ hk => hk.2) (.int .i64 LC)) (fun _ hk => hk.2) (.int .i64 OG)) (fun _ hk => hk.2) (.slice Zx WC.length Zy)) (fun _ hk => hk.2) (.int .i64 3)) (fun _ hk => hk.1.1), tB⟩
def rW.f  : Option ((List dN)) := (iU.f).bind fun Dz => ((bH.f 2).bind fun LH => ((iU.f).bind fun Ck => (some (([(⟨Dz, 2, 5⟩ : dN), (⟨(([(⟨0, 1, (⟨LH.1, LH.2⟩ : bT)⟩ : bg)] : List bg)), 3, 9⟩ : dN), (⟨Ck, 2, 4⟩ : dN)] : List dN)))))
theorem rW.calls  (r : List dN) (w : World) (h : rW.f  = some r) :
  Calls Tryz.prog 103 #[] w fun e w' => ∃ kM : Value, e = .returned (kM) ∧ Kd.N l7 107 w' w.heap.size (fun k_ => (w.heap.size ≤ k_)) kM r ∧ Below w.heap.size w w' := by
 have Fq := Tryz.underlying107; have CF := Tryz.underlying154; have HB := aj.mk (Below.refl w.heap.size w); have H : ((iU.f).bind fun Dz => ((bH.f 2).bind fun LH => ((iU.f).bind fun Ck => (some (([(⟨Dz, 2, 5⟩ : dN), (⟨(([(⟨0, 1, (⟨LH.1, LH.2⟩ : bT)⟩ : bg)] : List bg)), 3, 9⟩ : dN), (⟨Ck, 2, 4⟩ : dN)] : List dN)))))) = some r := h; clear h; obtain ⟨Dz, A1, H⟩ := lV H; obtain ⟨⟨OM, OO⟩, MP, H⟩ := bs H; have A2 := aj.mk MP; clear MP; obtain ⟨OP, LJ⟩ : ∃ y_ : List bg, y_ = (([(⟨0, 1, (⟨OM, OO⟩ : bT)⟩ : bg)] : List bg)) := ⟨_, rfl⟩
 replace H : ((iU.f).bind fun Ck => (some (([(⟨Dz, 2, 5⟩ : dN), (⟨OP, 3, 9⟩ : dN), (⟨Ck, 2, 4⟩ : dN)] : List dN)))) = some r := by first | (rw [LJ]; with_reducible exact H) | (have iY := (Option.bind_some _ _).symm.trans H; rw [LJ]; with_reducible exact iY) | (have iY := (Option.bind_some _ _).symm.trans H; with_reducible exact iY) | with_reducible exact H | (rw [LJ]; exact H) | exact H
 have qbs := aj.mk LJ; clear LJ; obtain ⟨Ck, A3, H⟩ := lV H; obtain ⟨qmo, LK⟩ : ∃ y_ : List dN, y_ = (([(⟨Dz, 2, 5⟩ : dN), (⟨OP, 3, 9⟩ : dN), (⟨Ck, 2, 4⟩ : dN)] : List dN)) := ⟨_, rfl⟩
 replace H : (some qmo) = some r := by first | (rw [LK]; with_reducible exact H) | (have iY := (Option.bind_some _ _).symm.trans H; rw [LK]; with_reducible exact iY) | (have iY := (Option.bind_some _ _).symm.trans H; with_reducible exact iY) | with_reducible exact H | (rw [LK]; exact H) | exact H
 have qbt := aj.mk LK; clear LK; obtain rfl := Option.some.inj H
 go_enter Tryz.func103, Tryz.ntmps103
 go_wp2_with (first | ((with_reducible refine aD (f := 100) rfl ?_); refine bW (some 1) rfl rfl Tryz.func100 tX rfl #[] rfl tM ?_; (with_reducible refine (iU.calls  Dz _ A1.out).mono ?_); rintro e w4 ⟨qsb, rfl, ho0, hb⟩; refine ⟨_, rfl, ?_⟩; have Da := aj.mk (Kd.dP (Kd.xC (M := fun k_ => (w.heap.size ≤ k_)) ho0 (aX tB) (fun k_ h_ => h_)) (aX tB)); replace HB := dL HB hb; (try clear hb); (try clear ho0); obtain ⟨Ao5, co5, eo5⟩ := Kd.gF Da.out; subst eo5) | ((with_reducible refine aD (f := 66) rfl ?_); refine bW (some 3) rfl rfl Tryz.func66 tX rfl #[.int .i64 2] rfl tM ?_; (with_reducible refine (bH.calls 2 OM OO _ A2.out).mono ?_); rintro e w6 ⟨rfl, hb⟩; refine ⟨_, rfl, ?_⟩; replace Da := kH Da hb; replace HB := dL HB hb; (try clear hb)) | ((with_reducible refine av (N := 5) rfl ?_); refine Kd.qJ eT _ 154 ?hg (N := 5) ?hd (xs := ([(⟨0, 1, (⟨OM, OO⟩ : bT)⟩ : bg)] : List bg)) (inner := [.int .i64 0, .int .i64 1, .int .i64 OM, .int .i64 OO]) (ok := fun _ => True) (nE := fun _ => True) ?hr ?hp (fun _ hk => hk) trivial (Below.refl _ _) (Nat.le_refl _) (by simp) ?_; (case hd => rfl); (case hg => rfl); (case hr => first | (go_simp; done) | (go_simp; rfl)); (case hp => exact (dH.c4 (show Kd.M eT _ _ _ (⟨0, 1, (⟨OM, OO⟩ : bT)⟩ : bg) [.int .i64 0, .int .i64 1, .int .i64 OM, .int .i64 OO] from (mZ _ _ _ (⟨0, 1, (⟨OM, OO⟩ : bT)⟩ : bg) )) (dH.none _ _))); intro qsd w7 ho8 hb tq iy; clear tq iy; (first | rw [← qbs.out] at ho8 | (simp only [Int.reduceToNat] at ho8; rw [← qbs.out] at ho8)); have LM := aj.mk (Kd.dP (Kd.mY (Kd.xC (M := fun k_ => (w.heap.size ≤ k_)) ho8 (aX tB) (fun k_ h_ => h_)) (Kd.pE tR)) (aX tB)); replace Da := aj.mk (Kd.jl tR (Kd.gH ho8) hb); replace HB := dL HB hb; clear hb ho8; obtain ⟨Ao9, co9, eo9⟩ := Kd.gF LM.out; subst eo9) | ((with_reducible refine aD (f := 100) rfl ?_); refine bW (some 7) rfl rfl Tryz.func100 tX rfl #[] rfl tM ?_; (with_reducible refine (iU.calls  Ck _ A3.out).mono ?_); rintro e JV ⟨qse, rfl, ho0, hb⟩; refine ⟨_, rfl, ?_⟩; have RI := aj.mk (Kd.dP (Kd.mY (Kd.mY (Kd.xC (M := fun k_ => (w.heap.size ≤ k_)) ho0 (aX tB) (fun k_ h_ => h_)) (Kd.pE tR)) (Kd.pE tR)) (aX tB)); replace Da := aj.mk (Kd.jl tR (Kd.gH ho0) hb); replace LM := aj.mk (Kd.jl tR (Kd.gH ho0) hb); replace HB := dL HB hb; (try clear hb); (try clear ho0); obtain ⟨qgz, qgA, qmp⟩ := Kd.gF RI.out; subst qmp) | ((with_reducible refine av (N := 9) rfl ?_); refine Kd.UO l7 _ 107 ?hg (N' := 9) ?hd (xs := ([(⟨Dz, 2, 5⟩ : dN), (⟨OP, 3, 9⟩ : dN), (⟨Ck, 2, 4⟩ : dN)] : List dN)) (inner := [.slice Ao5 Dz.length co5, .int .i64 2, .int .i64 5, .slice Ao9 OP.length co9, .int .i64 3, .int .i64 9, .slice qgz Ck.length qgA, .int .i64 2, .int .i64 4]) (ok := (fun k_ => (w.heap.size ≤ k_))) (nE := (fun k_ => (w.heap.size ≤ k_))) ?hr ?hp (fun _ hk => hk) ((show ∀ k_, JV.heap.size ≤ k_ → (fun k_ => (w.heap.size ≤ k_)) k_ from fun k_ hk => (Nat.le_trans (aX tB) hk)) _ (Nat.le_refl _)) (Below.refl _ _) (Nat.le_refl _) (by simp) ?_; (case hd => rfl); (case hg => rfl); (case hr => first | (go_simp; done) | (go_simp; rfl)); (case hp => exact (dH.c3 (show Kd.FK l7 _ _ (⟨Dz, 2, 5⟩ : dN) [.slice Ao5 Dz.length co5, .int .i64 2, .int .i64 5] from (zR _ _ (⟨Dz, 2, 5⟩ : dN) (Kd.cO (Kd.fV (ok' := (fun k_ => (w.heap.size ≤ k_))) (Da.out) (fun k_ hk => hk.1.1.1))).2.1 (Kd.R_F (Kd.fV (ok' := (fun k_ => (w.heap.size ≤ k_))) (Da.out) (fun k_ hk => hk.1.1.1))))) (dH.c3 (show Kd.FK l7 _ _ (⟨OP, 3, 9⟩ : dN) [.slice Ao9 OP.length co9, .int .i64 3, .int .i64 9] from (zR _ _ (⟨OP, 3, 9⟩ : dN) (Kd.cO (Kd.fV (ok' := (fun k_ => (w.heap.size ≤ k_))) (LM.out) (fun k_ hk => hk.1.1.1))).2.1 (Kd.R_F (Kd.fV (ok' := (fun k_ => (w.heap.size ≤ k_))) (LM.out) (fun k_ hk => hk.1.1.1))))) (dH.c3 (show Kd.FK l7 _ _ (⟨Ck, 2, 4⟩ : dN) [.slice qgz Ck.length qgA, .int .i64 2, .int .i64 4] from (zR _ _ (⟨Ck, 2, 4⟩ : dN) (Kd.cO (Kd.fV (ok' := (fun k_ => (w.heap.size ≤ k_))) (RI.out) (fun k_ hk => hk.1.1.1))).2.1 (Kd.R_F (Kd.fV (ok' := (fun k_ => (w.heap.size ≤ k_))) (RI.out) (fun k_ hk => hk.1.1.1))))) (dH.none _ _))))); intro qsf y9 WE hb tq iy; clear tq iy; (first | rw [← qbt.out] at WE | (simp only [Int.reduceToNat] at WE; rw [← qbt.out] at WE)); have qgB := aj.mk (Kd.Im WE (aX tB)); replace HB := dL HB hb; clear Da LM RI; clear hb WE))
 go_ret
 exact ⟨_, tF, by (with_reducible repeat (first | apply Kd.mJ | apply Kd.mK | apply Kd.pG)); exact qgB.out, tB⟩
def rX.f  : Option (Int × Int × Int × (List bT)) := (bL.f 2 3).bind fun LP => ((bL.f 10 12).bind fun LQ => ((bL.f 13 14).bind fun LU => ((bH.f 17).bind fun LV => (some (LP.1, LP.2, 1, (([(⟨LQ.1, LQ.2⟩ : bT), (⟨LU.1, LU.2⟩ : bT), (⟨LV.1, LV.2⟩ : bT)] : List bT)))))))
theorem rX.calls  (r1 : Int) (r2 : Int) (r3 : Int) (r4 : List bT) (w : World) (h : rX.f  = some (r1, r2, r3, r4)) :
  Calls Tryz.prog 104 #[] w fun e w' => ∃ v3_ : Value, e = .returned (.agg #[.int .i64 r1, .int .i64 r2, .int .i64 r3, v3_]) ∧ Kd.R j3 37 w' w.heap.size (fun _ => True) v3_ r4 ∧ Below w.heap.size w w' := by
 have NH := Tryz.underlying67; have HB := aj.mk (Below.refl w.heap.size w); have H : ((bL.f 2 3).bind fun LP => ((bL.f 10 12).bind fun LQ => ((bL.f 13 14).bind fun LU => ((bH.f 17).bind fun LV => (some (LP.1, LP.2, 1, (([(⟨LQ.1, LQ.2⟩ : bT), (⟨LU.1, LU.2⟩ : bT), (⟨LV.1, LV.2⟩ : bT)] : List bT)))))))) = some (r1, r2, r3, r4) := h; clear h; obtain ⟨⟨OQ, TI⟩, JX, H⟩ := bs H; have A1 := aj.mk JX; clear JX; obtain ⟨⟨OT, OU⟩, MP, H⟩ := bs H; have A2 := aj.mk MP; clear MP; obtain ⟨⟨OV, OW⟩, TF, H⟩ := bs H; have A3 := aj.mk TF; clear TF; obtain ⟨⟨OX, OY⟩, A40, H⟩ := bs H; have A4 := aj.mk A40; clear A40; obtain ⟨qdT, LW⟩ : ∃ y_ : List bT, y_ = (([(⟨OT, OU⟩ : bT), (⟨OV, OW⟩ : bT), (⟨OX, OY⟩ : bT)] : List bT)) := ⟨_, rfl⟩
 replace H : (some (OQ, TI, 1, qdT)) = some (r1, r2, r3, r4) := by first | (rw [LW]; with_reducible exact H) | (have iY := (Option.bind_some _ _).symm.trans H; rw [LW]; with_reducible exact iY) | (have iY := (Option.bind_some _ _).symm.trans H; with_reducible exact iY) | with_reducible exact H | (rw [LW]; exact H) | exact H
 have qbu := aj.mk LW; clear LW; simp only [Option.some.injEq, Prod.mk.injEq] at H; obtain ⟨rfl, rfl, rfl, rfl⟩ := H
 go_enter Tryz.func104, Tryz.ntmps104
 go_wp2_with (first | ((with_reducible refine av (N := 0) rfl ?_); refine fA 0 #[.int .i64 0, .int .i64 0, .int .i64 0, .slice none 0 0] 67 HB ?_; clear HB; intro LX w5 hg qL qpt HB hb; clear hb hg) | ((with_reducible refine aD (f := 67) rfl ?_); refine bW (some 1) rfl rfl Tryz.func67 tX rfl #[.int .i64 2, .int .i64 3] rfl tM ?_; (with_reducible refine (bL.calls 2 3 OQ TI _ A1.out).mono ?_); rintro e w6 ⟨rfl, hb⟩; refine ⟨_, rfl, ?_⟩; replace qL := bV qL hb; replace HB := dL HB hb; (try clear hb)) | ((with_reducible refine aD (f := 67) rfl ?_); refine bW (some 2) rfl rfl Tryz.func67 tX rfl #[.int .i64 10, .int .i64 12] rfl tM ?_; (with_reducible refine (bL.calls 10 12 OT OU _ A2.out).mono ?_); rintro e w7 ⟨rfl, hb⟩; refine ⟨_, rfl, ?_⟩; replace qL := bV qL hb; replace HB := dL HB hb; (try clear hb)) | ((with_reducible refine aD (f := 67) rfl ?_); refine bW (some 3) rfl rfl Tryz.func67 tX rfl #[.int .i64 13, .int .i64 14] rfl tM ?_; (with_reducible refine (bL.calls 13 14 OV OW _ A3.out).mono ?_); rintro e w8 ⟨rfl, hb⟩; refine ⟨_, rfl, ?_⟩; replace qL := bV qL hb; replace HB := dL HB hb; (try clear hb)) | ((with_reducible refine aD (f := 66) rfl ?_); refine bW (some 4) rfl rfl Tryz.func66 tX rfl #[.int .i64 17] rfl tM ?_; (with_reducible refine (bH.calls 17 OX OY _ A4.out).mono ?_); rintro e w9 ⟨rfl, hb⟩; refine ⟨_, rfl, ?_⟩; replace qL := bV qL hb; replace HB := dL HB hb; (try clear hb)) | ((with_reducible refine av (N := 5) rfl ?_); refine Kd.qJ j3 _ 37 ?hg (N := 5) ?hd (xs := ([(⟨OT, OU⟩ : bT), (⟨OV, OW⟩ : bT), (⟨OX, OY⟩ : bT)] : List bT)) (inner := [.int .i64 OT, .int .i64 OU, .int .i64 OV, .int .i64 OW, .int .i64 OX, .int .i64 OY]) (ok := fun _ => True) (nE := fun _ => True) ?hr ?hp (fun _ hk => hk) trivial (Below.refl _ _) (Nat.le_refl _) (by simp) ?_; (case hd => rfl); (case hg => rfl); (case hr => first | (go_simp; done) | (go_simp; rfl)); (case hp => exact (dH.c2 (show Kd.M j3 _ _ _ (⟨OT, OU⟩ : bT) [.int .i64 OT, .int .i64 OU] from (kE _ _ _ (⟨OT, OU⟩ : bT) )) (dH.c2 (show Kd.M j3 _ _ _ (⟨OV, OW⟩ : bT) [.int .i64 OV, .int .i64 OW] from (kE _ _ _ (⟨OV, OW⟩ : bT) )) (dH.c2 (show Kd.M j3 _ _ _ (⟨OX, OY⟩ : bT) [.int .i64 OX, .int .i64 OY] from (kE _ _ _ (⟨OX, OY⟩ : bT) )) (dH.none _ _))))); intro qsg JV WG hb tq iy; clear tq iy; (first | rw [← qbu.out] at WG | (simp only [Int.reduceToNat] at WG; rw [← qbu.out] at WG)); have qbw := aj.mk (Kd.dP WG (aX tB)); replace qL := bV qL hb; replace HB := dL HB hb; clear hb WG; obtain ⟨qgC, qgD, qmq⟩ := Kd.gF qbw.out; subst qmq; obtain ⟨wD, Ec, Zz, qj1⟩ := Ga qL; have wE := bf qL 0; have Ed := bf qL 1; have ZA := bf qL 2; have qj2 := bf qL 3))
 refine bodyPost_ret (results_cell_row rfl _ _ LX 67 #[.int .i64 OQ, .int .i64 TI, .int .i64 1, .slice qgC qdT.length qgD] (0, 0) _ rfl (by (with_reducible repeat (first | refine aM ?_ _ | refine aN ?_ | refine aJ ?_ _)); refine dU (cs := #[.int .i64 OQ, .int .i64 TI, .int .i64 1, .slice none 0 0]) ?_ 3 _ rfl; (with_reducible repeat (first | refine aM ?_ _ | refine aN ?_ | refine aJ ?_ _)); refine dU (cs := #[.int .i64 OQ, .int .i64 TI, .int .i64 0, .slice none 0 0]) ?_ 2 _ rfl; (with_reducible repeat (first | refine aM ?_ _ | refine aN ?_ | refine aJ ?_ _)); refine dU (cs := #[.int .i64 OQ, .int .i64 0, .int .i64 0, .slice none 0 0]) ?_ 1 _ rfl; (with_reducible repeat (first | refine aM ?_ _ | refine aN ?_ | refine aJ ?_ _)); refine dU (cs := #[.int .i64 0, .int .i64 0, .int .i64 0, .slice none 0 0]) ?_ 0 _ rfl; (with_reducible repeat (first | refine aM ?_ _ | refine aN ?_ | refine aJ ?_ _)); exact qL.out) Tryz.underlying67 rfl tX) rfl ?_; exact ⟨_, tF, by (with_reducible repeat (first | apply Kd.ku | apply Kd.kC | apply Kd.j5)); exact Kd.fV (Kd.jQ (p := ⟨LX, 3, none⟩) (Kd.jQ (p := ⟨LX, 2, none⟩) (Kd.jQ (p := ⟨LX, 1, none⟩) (Kd.jQ (p := ⟨LX, 0, none⟩) (Kd.jA qbw.out qL.out (by decide)) (fun _ hk => hk.2) (.int .i64 OQ)) (fun _ hk => hk.2) (.int .i64 TI)) (fun _ hk => hk.2) (.int .i64 1)) (fun _ hk => hk.2) (.slice qgC qdT.length qgD)) (fun _ hk => trivial), tB⟩
theorem ZB {V : List Int} {l x : Int} (h : l ∈ V ∧ ∀ y ∈ V, l ≤ y) (hx : l ≤ x) : l ∈ V ++ [x] ∧ ∀ y ∈ V ++ [x], l ≤ y :=
 ⟨List.mem_append_left _ h.1, fun y hy => by rcases List.mem_append.1 hy with hy | hy; exact h.2 y hy; rw [List.mem_singleton.1 hy]; exact hx⟩
theorem qdU {V : List Int} {l x : Int} (h : l ∈ V ∧ ∀ y ∈ V, l ≤ y) (hx : x ≤ l) : x ∈ V ++ [x] ∧ ∀ y ∈ V ++ [x], x ≤ y :=
 ⟨by simp, fun y hy => by rcases List.mem_append.1 hy with hy | hy; exact Int.le_trans hx (h.2 y hy); rw [List.mem_singleton.1 hy]; exact Int.le_refl _⟩
theorem ZC {V : List Int} {l x : Int} (h : l ∈ V ∧ ∀ y ∈ V, y ≤ l) (hx : x ≤ l) : l ∈ V ++ [x] ∧ ∀ y ∈ V ++ [x], y ≤ l :=
 ⟨List.mem_append_left _ h.1, fun y hy => by rcases List.mem_append.1 hy with hy | hy; exact h.2 y hy; rw [List.mem_singleton.1 hy]; exact hx⟩
theorem qdV {V : List Int} {l x : Int} (h : l ∈ V ∧ ∀ y ∈ V, y ≤ l) (hx : l ≤ x) : x ∈ V ++ [x] ∧ ∀ y ∈ V ++ [x], y ≤ x :=
 ⟨by simp, fun y hy => by rcases List.mem_append.1 hy with hy | hy; exact Int.le_trans (h.2 y hy) hx; rw [List.mem_singleton.1 hy]; exact Int.le_refl _⟩
theorem OZ (b n : Nat) (S : List Int) (lo hi : Int) (w : World) (hS : kJ w b n S) (hlo : lo ∈ S ∧ ∀ x ∈ S, lo ≤ x) (hhi : hi ∈ S ∧ ∀ x ∈ S, x ≤ hi) (hw : ∀ x ∈ S, PY x) :
  Calls Tryz.prog 155 #[.map (some b)] w fun e w' => e = .returned (.agg #[.int .i64 lo, .int .i64 hi]) ∧ Below w.heap.size w w' := by
 have HB := aj.mk (Below.refl w.heap.size w); have HS := aj.mk hS; have MQ := aj.mk hlo; have HHI := aj.mk hhi; have HW := aj.mk hw; clear hS hlo hhi hw; have kg := Tryz.underlying37
 go_enter Tryz.func155, Tryz.ntmps155
 go_wp2_with (first | ((with_reducible refine av (N := 2) rfl ?_); refine jD rfl rfl (cs := #[.int .i64 0, .int .i64 0]) (t := 37) tG HB ?_; clear HB; intro gr wa HR GR HB hx hz; have HS2 := aj.mk (HS.out.below hx); clear HS; have HS := HS2; clear HS2 hx hz) | ((with_reducible refine av (N := 3) rfl ?_); refine jD rfl rfl (cs := #[.int .i64 0, .int .i64 0]) (t := 37) tG HB ?_; clear HB; intro go wb HO GO HB hx hz; have D := aj.mk (show gr ≠ go from fun e => by have := cZ HR.out; omega); replace HR := dW HR hx; have HS2 := aj.mk (HS.out.below hx); clear HS; have HS := HS2; clear HS2 hx hz) | (at_range; refine wu rfl _ rfl rfl HS.out ?_; intro wc r cnt hrr KV hx; have xw := aj.mk KV; have MR := aj.mk (show gr ≠ r ∧ go ≠ r ∧ w.heap.size ≤ r from ⟨fun e => by have := cZ HR.out; omega, fun e => by have := cZ HO.out; omega, by have := HB.out.size; omega⟩); have MB := aj.mk (show gr ≠ b ∧ go ≠ b from ⟨HS.out.pO HR, HS.out.pO HO⟩); replace HR := dW HR hx; replace HO := dW HO hx; replace HB := fu HB hx; clear KV hrr hx HS))
 go_frame
 go_loopw [4, 5] (fun v4 _ W => ∃ (V : List Int) (f : Bool) (l0 h0 : Int) (cnt : Nat), v4 = .bool f ∧ aj ((f = true ∧ V = []) ∨ (f = false ∧ (l0 ∈ V ∧ ∀ x ∈ V, l0 ≤ x) ∧ (h0 ∈ V ∧ ∀ x ∈ V, x ≤ h0))) ∧ aj (∀ x ∈ V, x ∈ S) ∧ aj (iI W b r n S V cnt) ∧ aj (W.heap[go]? = some (.cells #[.int .i64 l0, .int .i64 h0] 37 (0, 0))) ∧ aj (W.heap[gr]? = some (.cells #[.int .i64 0, .int .i64 0] 37 (0, 0))) ∧ aj (Below w.heap.size w W)) (fun _ _ W => W.rangeLeft b r)
 case atStart => exact ⟨[], true, 0, 0, cnt, rfl, ⟨.inl ⟨rfl, rfl⟩⟩, ⟨by simp⟩, xw, HO, HR, HB⟩
 case round =>
  clear xw HO HR HB; obtain ⟨V, f, l0, h0, cnt2, rfl, HI, HV, xw, HO, HR, HB⟩ := hrel
  rcases HI.out with ⟨rfl, hV⟩ | ⟨rfl, hlo2, hhi2⟩
  ·subst hV
   clear HI
   go_wp2_with (first | (at_next; refine vF rfl _ rfl rfl xw.out ?nd ?nm; (case' nd => (intro hd; have HD := aj.mk hd; clear hd; obtain ⟨c0, c1⟩ := qP HO.out)); (case' nm => (intro x c wn cnt3 hxw ZE hxV QX hlt hgn hsz hen; have HX := aj.mk (And.intro ZE hlt); have HLE := aj.mk xw.out.left; have NB := aj.mk (xw.out.pO HO); have NR := aj.mk (xw.out.pO HR); replace HO := gW HO hgn NB.out.2; replace HR := gW HR hgn NR.out.2; replace HB := stepG HB hgn ⟨MR.out.2.2⟩; clear xw; have xw := aj.mk QX; obtain ⟨c0, c1⟩ := qP HO.out; clear hxw ZE hxV QX hlt hgn hsz))) | ((with_reducible refine bE (t := 37) (p := 3) rfl ?_); refine je rfl rfl rfl HO GO HB (.agg #[.int .i64 x, .int .i64 x]) [.int .i64 x, .int .i64 x] #[.int .i64 x, .int .i64 x] rfl rfl rfl tX (Nat.le_refl _) (by simp [Value.oneCell']) rfl ?_; clear HB HO c0 c1; intro wz HO HB hx; replace HR := gW HR hx D.out; have WH := aj.mk (xw.out.kept hx (fun e => NB.out.1 (by injection e; omega)) (fun e => NB.out.2 (by injection e; omega))); clear xw; have xw := WH; obtain ⟨c0, c1⟩ := qP HO.out; clear WH hx) | ((with_reducible refine bE (t := 37) (p := 2) rfl ?_); refine je rfl rfl rfl HR GR HB (.agg #[.int .i64 l0, .int .i64 h0]) [.int .i64 l0, .int .i64 h0] #[.int .i64 l0, .int .i64 h0] rfl rfl rfl tX (Nat.le_refl _) (by simp [Value.oneCell']) rfl ?_; clear HB HR; intro wz HR HB hx; clear hx))
   case roundEnd => exact ⟨⟨[x], false, x, x, cnt3, rfl, ⟨.inr ⟨rfl, ⟨by simp, by simp⟩, by simp, by simp⟩⟩, ⟨fun y hy => by rw [List.mem_singleton.1 hy]; exact HX.out.1⟩, xw, HO, HR, HB⟩, by rw [xw.out.left, HLE.out]; exact HX.out.2⟩
   exact absurd (HD.out lo (HW.out lo MQ.out.1) MQ.out.1) (by simp)
  ·have ZF := aj.mk hlo2
   have ZG := aj.mk hhi2; clear HI hlo2 hhi2
   go_wp2_with (first | (at_next; refine vF rfl _ rfl rfl xw.out ?nd2 ?nm2; (case' nd2 => (intro hd; have HD := aj.mk hd; clear hd; obtain ⟨c0, c1⟩ := qP HO.out)); (case' nm2 => (intro x c wn cnt3 hxw ZE hxV QX hlt hgn hsz hen; have HX := aj.mk (And.intro ZE hlt); have HLE := aj.mk xw.out.left; have NB := aj.mk (xw.out.pO HO); have NR := aj.mk (xw.out.pO HR); replace HO := gW HO hgn NB.out.2; replace HR := gW HR hgn NR.out.2; replace HB := stepG HB hgn ⟨MR.out.2.2⟩; clear xw; have xw := aj.mk QX; obtain ⟨c0, c1⟩ := qP HO.out; clear hxw ZE hxV QX hlt hgn hsz))) | ((with_reducible refine bE (t := 37) (p := 3) rfl ?_); refine je rfl rfl rfl HO GO HB (.agg #[.int .i64 (if x < l0 then x else l0), .int .i64 (if h0 < x then x else h0)]) [.int .i64 (if x < l0 then x else l0), .int .i64 (if h0 < x then x else h0)] #[.int .i64 (if x < l0 then x else l0), .int .i64 (if h0 < x then x else h0)] rfl rfl rfl tX (Nat.le_refl _) (by simp [Value.oneCell']) rfl ?_; clear HB HO c0 c1; intro wz HO HB hx; replace HR := gW HR hx D.out; have WH := aj.mk (xw.out.kept hx (fun e => NB.out.1 (by injection e; omega)) (fun e => NB.out.2 (by injection e; omega))); clear xw; have xw := WH; obtain ⟨c0, c1⟩ := qP HO.out; clear WH hx) | ((with_reducible refine bE (t := 37) (p := 2) rfl ?_); refine je rfl rfl rfl HR GR HB (.agg #[.int .i64 l0, .int .i64 h0]) [.int .i64 l0, .int .i64 h0] #[.int .i64 l0, .int .i64 h0] rfl rfl rfl tX (Nat.le_refl _) (by simp [Value.oneCell']) rfl ?_; clear HB HR; intro wz HR HB hx; clear hx))
   case roundEnd => exact ⟨⟨V ++ [x], false, if x < l0 then x else l0, if h0 < x then x else h0, cnt3, rfl, ⟨.inr ⟨rfl, by split <;> first | exact ZB ZF.out (by omega) | exact qdU ZF.out (by omega), by split <;> first | exact ZC ZG.out (by omega) | exact qdV ZG.out (by omega)⟩⟩, ⟨fun y hy => by rcases List.mem_append.1 hy with hy | hy; exact HV.out y hy; rw [List.mem_singleton.1 hy]; exact HX.out.1⟩, xw, HO, HR, HB⟩, by rw [xw.out.left, HLE.out]; exact HX.out.2⟩
   refine bodyPost_ret (results_cell_row rfl _ _ gr 37 #[.int .i64 l0, .int .i64 h0] (0, 0) _ rfl HR.out Tryz.underlying37 rfl tX) rfl ?_; have e1 : l0 = lo := Int.le_antisymm (ZF.out.2 lo (HD.out lo (HW.out lo MQ.out.1) MQ.out.1)) (MQ.out.2 l0 (HV.out l0 ZF.out.1)); have e2 : h0 = hi := Int.le_antisymm (HHI.out.2 h0 (HV.out h0 ZG.out.1)) (ZG.out.2 hi (HD.out hi (HW.out hi HHI.out.1) HHI.out.1)); subst e1; subst e2; exact ⟨rfl, HB.out⟩
def TJ : List Int → Int
 | [] => 0
 | [x] => x
 | x :: l => min x (TJ l)
def TK : List Int → Int
 | [] => 0
 | [x] => x
 | x :: l => max x (TK l)
theorem LY : ∀ {l : List Int}, l ≠ [] → TJ l ∈ l ∧ ∀ x ∈ l, TJ l ≤ x
 | [], h => absurd rfl h
 | [x], _ => by simp [TJ]
 | x :: y :: l, _ => by
  have ih := LY (l := y :: l) (by simp)
  show min x (TJ (y :: l)) ∈ _ ∧ ∀ z ∈ _, min x (TJ (y :: l)) ≤ z
  refine ⟨?_, fun z hz => ?_⟩
  ·rcases Int.le_total x (TJ (y :: l)) with h | h
   ·rw [Int.min_eq_left h]; exact List.mem_cons_self ..
   ·rw [Int.min_eq_right h]; exact List.mem_cons_of_mem _ ih.1
  ·rcases List.mem_cons.1 hz with rfl | hz
   ·omega
   ·have := ih.2 z hz; omega
theorem LZ : ∀ {l : List Int}, l ≠ [] → TK l ∈ l ∧ ∀ x ∈ l, x ≤ TK l
 | [], h => absurd rfl h
 | [x], _ => by simp [TK]
 | x :: y :: l, _ => by
  have ih := LZ (l := y :: l) (by simp)
  show max x (TK (y :: l)) ∈ _ ∧ ∀ z ∈ _, z ≤ max x (TK (y :: l))
  refine ⟨?_, fun z hz => ?_⟩
  ·rcases Int.le_total x (TK (y :: l)) with h | h
   ·rw [Int.max_eq_right h]; exact List.mem_cons_of_mem _ ih.1
   ·rw [Int.max_eq_left h]; exact List.mem_cons_self ..
  ·rcases List.mem_cons.1 hz with rfl | hz
   ·omega
   ·have := ih.2 z hz; omega
theorem Jj : ∀ {ls : List bT}, (∀ s ∈ ls, s.f0 ≤ s.f1) → lW ls ≠ []
 | [], _ => by simp [lW]
 | s :: r, h => by
  have h1 := Jj (fun y hy => h y (List.mem_cons_of_mem _ hy)); rw [lW, zT (h s (List.mem_cons_self ..)), List.flatMap_cons]; intro e; rw [List.append_eq_nil_iff, List.map_eq_nil_iff] at e; exact h1 e.1
theorem FQ {h : List bO} {l : List bg} {n : Nat} {d : Int} {takes : List Int} (hb : gB n l = true) : kQ h l d takes ≠ [] := by
 unfold kQ
 rw [Ne, List.map_eq_nil_iff]
 refine Jj fun s hs => ?_
 obtain ⟨b, hb2, rfl⟩ := List.mem_map.1 hs; exact wH hb (List.mem_filter.1 hb2).1
theorem WI {h : List bO} {a b : List bg} {n : Nat} {d wt : Int} (hh : iA h = true) (ha : gB n a = true) (hb : gB n b = true) (hd : 0 ≤ d ∧ d < h.length) : GU h a b d wt ≠ [] := by
 have h1 := Jj (ls := (aT h d).f0) fun s hs => wG hh (l9 hd) hs
 obtain ⟨t, ht⟩ := List.exists_mem_of_ne_nil _ h1; obtain ⟨p, hp⟩ := List.exists_mem_of_ne_nil _ (FQ (h := h) (d := d) (takes := t) ha); obtain ⟨q, hq⟩ := List.exists_mem_of_ne_nil _ (FQ (h := h) (d := d) (takes := t) hb); exact List.ne_nil_of_mem (List.mem_flatMap.2 ⟨t, ht, List.mem_flatMap.2 ⟨p, hp, List.mem_map.2 ⟨q, hq, rfl⟩⟩⟩)
theorem Ho {h : List bO} {a b : List bg} {n : Nat} (hh : iA h = true) (ha : gB n a = true) (hb : gB n b = true) : ∀ (ws : List Int) (d : Int) (out : List Int), 0 ≤ d → d + ws.length ≤ h.length → out ≠ [] → qy h a b ws d out ≠ []
 | [], _, out, _, _, ho => ho
 | wt :: ws, d, out, h0, h1, ho => by
  rw [List.length_cons] at h1; refine Ho hh ha hb ws (d + 1) _ (by omega) (by omega) ?_; obtain ⟨p, hp⟩ := List.exists_mem_of_ne_nil _ ho; obtain ⟨q, hq⟩ := List.exists_mem_of_ne_nil _ (WI (wt := wt) (d := d) hh ha hb ⟨h0, by omega⟩); exact List.ne_nil_of_mem (List.mem_flatMap.2 ⟨p, hp, List.mem_map.2 ⟨q, hq, rfl⟩⟩)
theorem Bl {h : List bO} {a b : List bg} {n : Nat} (hh : uz h) (ha : oz n a) (hb : oz n b) : ∀ (ws : List Int) (d : Int) (out : List Int) (B : Int), 0 ≤ d → d + ws.length ≤ h.length → (∀ x ∈ ws, -9 ≤ x ∧ x ≤ 9) → (∀ x ∈ out, -B ≤ x ∧ x ≤ B) → ∀ x ∈ qy h a b ws d out, -(B + 900 * ws.length) ≤ x ∧ x ≤ B + 900 * ws.length
 | [], _, out, B, _, _, _, ho => by simpa [qy] using ho
 | wt :: ws, d, out, B, h0, h1, hw, ho => by
  rw [List.length_cons] at h1 ⊢; intro x hx
  have := Bl hh ha hb ws (d + 1) _ (B + 900) (by omega) (by omega) (fun y hy => hw y (List.mem_cons_of_mem _ hy)) (fun y hy => by
   obtain ⟨p, hp, hy⟩ := List.mem_flatMap.1 hy; obtain ⟨q, hq, rfl⟩ := List.mem_map.1 hy; have e1 := ho p hp; have e2 := Kr hh ⟨h0, by omega⟩ ha hb (hw wt (List.mem_cons_self ..)) q hq
   omega) x hx
  omega
def ny (h : List bO) (ws : List Int) (a b : List bg) : List Int := qy h a b ws 0 [0]
theorem FR {h : List bO} {ws : List Int} {a b : List bg} (hh : iA h = true) (hw : oP h.length ws = true) (ha : gB h.length a = true) (hb : gB h.length b = true) : ny h ws a b ≠ [] ∧ ∀ x ∈ ny h ws a b, -2700 ≤ x ∧ x ≤ 2700 := by
 have hl := (rF hw).len; refine ⟨Ho hh ha hb ws 0 [0] (by omega) (by omega) (by simp), fun x hx => ?_⟩; have := Bl (lH hh) (nX ha) (nX hb) ws 0 [0] 0 (by omega) (by omega) (rF hw).wt (by simp) x hx; have := (lH hh).len
 omega
def vP.f (h : List bO) (ws : List Int) (a b : List bg) : Option (Int × Int × Int) :=
 some (if iA h && (oP h.length ws && (gB h.length a && gB h.length b)) then (TJ (ny h ws a b), TK (ny h ws a b), 0) else (0, 0, 2))
theorem vP.calls (bB : Option Addr) (aZ : Nat) (au : List bO) (gu : Option Addr) (gq : Nat) (bN : List Int) (A2 : Option Addr) (c2 : Nat) (l2 : List bg) (A3 : Option Addr) (c3 : Nat) (l3 : List bg) (r1 : Int) (r2 : Int) (r3 : Int) (w : World) (dx : Kd.C iM w bB au.length au) (dI : au.length ≤ aZ) (kF : Kd.C (Kd.int .i64) w gu bN.length bN) (nk : bN.length ≤ gq) (hr2 : Kd.C eT w A2 l2.length l2) (hc2 : l2.length ≤ c2) (hr3 : Kd.C eT w A3 l3.length l3) (hc3 : l3.length ≤ c3) (h : vP.f au bN l2 l3 = some (r1, r2, r3)) :
  Calls Tryz.prog 72 #[.agg #[.slice bB au.length aZ], .agg #[.slice gu bN.length gq], .slice A2 l2.length c2, .slice A3 l3.length c3] w fun e w' => e = .returned (.tuple #[.agg #[.int .i64 r1, .int .i64 r2], .int .i64 r3]) ∧ Below w.heap.size w w' := by
 have HX := Bx.nil w
 have K1 := fun w1 (hb : Below w.heap.size w w1) => c105 bB aZ au w1 (Kd.ak dx hb) dI
 have K2 := fun w1 (hb : Below w.heap.size w w1) => c116 bB aZ au w1 (Kd.ak dx hb) dI gu gq bN (Kd.ak kF hb) nk
 have K3 := fun w1 (hb : Below w.heap.size w w1) => qcO bB aZ au w1 (Kd.ak dx hb) dI A2 c2 l2 (Kd.ak hr2 hb) hc2
 have K4 := fun w1 (hb : Below w.heap.size w w1) => qcO bB aZ au w1 (Kd.ak dx hb) dI A3 c3 l3 (Kd.ak hr3 hb) hc3
 have HR := aj.mk (And.intro dx (And.intro kF (And.intro hr2 hr3)))
 unfold vP.f at h
 obtain ⟨b1, hb1⟩ : ∃ b, b = iA au := ⟨_, rfl⟩; obtain ⟨b2, hb2⟩ : ∃ b, b = oP au.length bN := ⟨_, rfl⟩; obtain ⟨b3, hb3⟩ : ∃ b, b = gB au.length l2 := ⟨_, rfl⟩; obtain ⟨b4, hb4⟩ : ∃ b, b = gB au.length l3 := ⟨_, rfl⟩; have HG := aj.mk (And.intro hb1 (And.intro hb2 (And.intro hb3 hb4))); rw [← hb1, ← hb2, ← hb3, ← hb4] at h; rw [← hb1] at K1; rw [← hb2] at K2; rw [← hb3] at K3; rw [← hb4] at K4; clear hb1 hb2 hb3 hb4 dx kF hr2 hr3; have o8 := Tryz.underlying24; have IY := Tryz.underlying49; have wY := Tryz.underlying149; have kg := Tryz.underlying37
 have hc : (b1 = false ∨ b1 = true ∧ b2 = false ∨ b1 = true ∧ b2 = true ∧ b3 = false ∨ b1 = true ∧ b2 = true ∧ b3 = true ∧ b4 = false) ∨ (b1 = true ∧ b2 = true ∧ b3 = true ∧ b4 = true) := by
  cases b1 <;> cases b2 <;> cases b3 <;> cases b4 <;> simp
 rcases hc with hc | hc
 ·obtain ⟨rfl, rfl, rfl⟩ : r1 = 0 ∧ r2 = 0 ∧ r3 = 2 := by
   rcases hc with rfl | ⟨rfl, rfl⟩ | ⟨rfl, rfl, rfl⟩ | ⟨rfl, rfl, rfl, rfl⟩ <;> (simp at h; exact ⟨h.1.symm, h.2.1.symm, h.2.2.symm⟩)
  clear h HG
  rcases hc with rfl | ⟨rfl, rfl⟩ | ⟨rfl, rfl, rfl⟩ | ⟨rfl, rfl, rfl, rfl⟩
  all_goals
   go_enter Tryz.func72, Tryz.ntmps72
   go_wp2_with (first | ((with_reducible refine av (N := 4) rfl ?_); refine newX rfl rfl HX (cs := #[.slice bB au.length aZ]) (t := 24) tG ?_; clear HX; intro g4 w4 HX hx hz; clear hx hz) | ((with_reducible refine av (N := 5) rfl ?_); refine newX rfl rfl HX (cs := #[.slice gu bN.length gq]) (t := 49) tG ?_; clear HX; intro g5 w5 HX hx hz; clear hx hz) | ((with_reducible refine av (N := 8) rfl ?_); refine newX rfl rfl HX (cs := #[.int .i64 0, .int .i64 0]) (t := 37) tG ?_; clear HX; intro g8 w8 HX hx hz; clear hx hz; have ch := HX.g1 2 rfl; have cl := HX.g1 1 rfl) | (go_at_call 105; ((with_reducible refine (K1 _ HX.below).mono ?_); rintro e w1 ⟨rfl, hx⟩; replace HX := HX.step hx; clear hx ch cl; have ch := HX.g1 2 rfl; have cl := HX.g1 1 rfl)) | (go_at_call 116; (with_reducible refine (K2 _ HX.below).mono ?_); rintro e w1 ⟨rfl, hx⟩; replace HX := HX.step hx; clear hx ch cl; have ch := HX.g1 2 rfl; have cl := HX.g1 1 rfl) | (go_at_call 106; (with_reducible first | refine (K3 _ HX.below).mono ?_ | refine (K4 _ HX.below).mono ?_); rintro e w1 ⟨rfl, hx⟩; replace HX := HX.step hx; clear hx ch cl; have ch := HX.g1 2 rfl; have cl := HX.g1 1 rfl) | ((with_reducible refine bE (t := 37) (p := 8) rfl ?_); refine kL rfl rfl rfl HX 0 rfl (.agg #[.int .i64 0, .int .i64 0]) [.int .i64 0, .int .i64 0] #[.int .i64 0, .int .i64 0] rfl rfl rfl tX (Nat.le_refl _) (by simp [Value.oneCell']) rfl ?_; clear HX; intro w9 HX hx; clear hx))
  all_goals
   refine bodyPost_ret (lQ rfl _ _ g8 37 #[.int .i64 0, .int .i64 0] (0, 0) _ rfl (HX.gb 0 rfl) Tryz.underlying37 rfl tX) rfl ?_; exact ⟨rfl, HX.below⟩
 ·obtain ⟨rfl, rfl, rfl, rfl⟩ := hc
  obtain ⟨rfl, rfl, rfl⟩ : r1 = TJ (ny au bN l2 l3) ∧ r2 = TK (ny au bN l2 l3) ∧ r3 = 0 := by simp at h; exact ⟨h.1.symm, h.2.1.symm, h.2.2.symm⟩
  have HD := aj.mk (FR HG.out.1.symm HG.out.2.1.symm HG.out.2.2.1.symm HG.out.2.2.2.symm); clear h
  go_enter Tryz.func72, Tryz.ntmps72
  go_wp2_with (first | ((with_reducible refine av (N := 4) rfl ?_); refine newX rfl rfl HX (cs := #[.slice bB au.length aZ]) (t := 24) tG ?_; clear HX; intro g4 w4 HX hx hz; clear hx hz) | ((with_reducible refine av (N := 5) rfl ?_); refine newX rfl rfl HX (cs := #[.slice gu bN.length gq]) (t := 49) tG ?_; clear HX; intro g5 w5 HX hx hz; clear hx hz) | ((with_reducible refine av (N := 8) rfl ?_); refine newX rfl rfl HX (cs := #[.int .i64 0, .int .i64 0]) (t := 37) tG ?_; clear HX; intro g8 w8 HX hx hz; clear hx hz; have ch := HX.g1 2 rfl; have cl := HX.g1 1 rfl) | (go_at_call 105; ((with_reducible refine (K1 _ HX.below).mono ?_); rintro e w1 ⟨rfl, hx⟩; replace HX := HX.step hx; clear hx ch cl; have ch := HX.g1 2 rfl; have cl := HX.g1 1 rfl)) | (go_at_call 116; (with_reducible refine (K2 _ HX.below).mono ?_); rintro e w1 ⟨rfl, hx⟩; replace HX := HX.step hx; clear hx ch cl; have ch := HX.g1 2 rfl; have cl := HX.g1 1 rfl) | (go_at_call 106; (with_reducible first | refine (K3 _ HX.below).mono ?_ | refine (K4 _ HX.below).mono ?_); rintro e w1 ⟨rfl, hx⟩; replace HX := HX.step hx; clear hx ch cl; have ch := HX.g1 2 rfl; have cl := HX.g1 1 rfl) | (go_at_call 156; (with_reducible refine (CS bB aZ au gu gq bN A2 c2 l2 A3 c3 l3 _ (Kd.ak HR.out.1 HX.below) dI (Kd.ak HR.out.2.1 HX.below) nk (Kd.ak HR.out.2.2.1 HX.below) hc2 (Kd.ak HR.out.2.2.2 HX.below) hc3 (lH HG.out.1.symm) (rF HG.out.2.1.symm) (nX HG.out.2.2.1.symm) (nX HG.out.2.2.2.symm)).mono ?_); rintro e w2 ⟨bm, n, rfl, hS, hbm, hx⟩; have HS : aj (kJ w2 bm n (ny au bN l2 l3)) := ⟨hS⟩; replace HX := HX.step hx; clear hx hS hbm ch cl) | (go_at_call 155; (with_reducible refine (OZ bm n (ny au bN l2 l3) _ _ _ HS.out (LY HD.out.1) (LZ HD.out.1) (fun x hx => uS (by have := HD.out.2 x hx; omega) (by have := HD.out.2 x hx; omega))).mono ?_); rintro e w3 ⟨rfl, hx⟩; replace HX := HX.step hx; clear hx HS) | ((with_reducible refine bE (t := 37) (p := 8) rfl ?_); refine kL rfl rfl rfl HX 0 rfl (.agg #[.int .i64 (TJ (ny au bN l2 l3)), .int .i64 (TK (ny au bN l2 l3))]) [.int .i64 (TJ (ny au bN l2 l3)), .int .i64 (TK (ny au bN l2 l3))] #[.int .i64 (TJ (ny au bN l2 l3)), .int .i64 (TK (ny au bN l2 l3))] rfl rfl rfl tX (Nat.le_refl _) (by simp [Value.oneCell']) rfl ?_; clear HX; intro w9 HX hx; clear hx))
  refine bodyPost_ret (lQ rfl _ _ g8 37 #[.int .i64 (TJ (ny au bN l2 l3)), .int .i64 (TK (ny au bN l2 l3))] (0, 0) _ rfl (HX.gb 0 rfl) Tryz.underlying37 rfl tX) rfl ?_; exact ⟨rfl, HX.below⟩
def xS.f (a0 : Bool) (a1 : Bool) : Option Int := if a1 = true then (if a0 = true then (some 2) else (some 1)) else (some 3)
theorem xS.calls (a0 : Bool) (a1 : Bool) (r : Int) (w : World) (h : xS.f a0 a1 = some r) :
  Calls Tryz.prog 154 #[.bool a0, .bool a1] w fun e w' => e = .returned (.int .i64 r) ∧ iw w w' := by
 have H : (if a1 = true then (if a0 = true then (some 2) else (some 1)) else (some 3)) = some r := h; clear h
 by_cases c3 : a1 = true
 ·subst c3
  rw [if_pos rfl] at H
  by_cases c4 : a0 = true
  ·subst c4
   rw [if_pos rfl] at H; obtain rfl := Option.some.inj H
   go_enter Tryz.func154, Tryz.ntmps154
   go_wp2
   go_ret
   exact ⟨tS, tD⟩
  ·replace c4 := Bool.eq_false_iff.mpr c4
   subst c4
   have H1 : (some 1) = some r := by rw [if_neg (show ¬ (false = true) by decide)] at H; exact H
   clear H; have H := H1; clear H1; obtain rfl := Option.some.inj H
   go_enter Tryz.func154, Tryz.ntmps154
   go_wp2
   go_ret
   exact ⟨tS, tD⟩
 ·replace c3 := Bool.eq_false_iff.mpr c3
  subst c3
  have H1 : (some 3) = some r := by rw [if_neg (show ¬ (false = true) by decide)] at H; exact H
  clear H; have H := H1; clear H1; obtain rfl := Option.some.inj H
  go_enter Tryz.func154, Tryz.ntmps154
  go_wp2
  go_ret
  exact ⟨tS, tD⟩
def TL (x : Int) : Int := max x (-x)
theorem RJ (x : Int) : TL x = if x < -x then -x else x := by unfold TL; split <;> omega
def L6 (so no : Bool) : Int := if no then (if so then 2 else 1) else 3
theorem WJ (so no : Bool) : xS.f so no = some (L6 so no) := by cases so <;> cases no <;> rfl
def uW (h : List bO) (ws : List Int) (a b : List bg) (e0 e1 : Int) : Int := L6 ((ny h ws a b).any fun n => decide (TL n ≤ e1)) ((ny h ws a b).any fun n => decide (e0 < TL n))
def L8 (h : List bO) (ws : List Int) (a b : List bg) : Bool := iA h && (oP h.length ws && (gB h.length a && gB h.length b))
def jF.f (h : List bO) (ws : List Int) (a b : List bg) (e0 e1 : Int) : Option Int := if L8 h ws a b then some (uW h ws a b e0 e1) else none
theorem RL {S V : List Int} {p : Int → Bool} (h1 : ∀ x ∈ V, x ∈ S) (h2 : ∀ x ∈ S, x ∈ V) : V.any p = S.any p := by
 rw [Bool.eq_iff_iff, List.any_eq_true, List.any_eq_true]; exact ⟨fun ⟨x, hx, e⟩ => ⟨x, h1 x hx, e⟩, fun ⟨x, hx, e⟩ => ⟨x, h2 x hx, e⟩⟩
theorem jF.calls (bB : Option Addr) (aZ : Nat) (au : List bO) (nZ : Option Addr) (nM : Nat) (gM : List Int) (A1 : Option Addr) (c1 : Nat) (l1 : List bg) (A2 : Option Addr) (c2 : Nat) (l2 : List bg) (TM : Int) (TN : Int) (r : Int) (w : World) (dx : Kd.C iM w bB au.length au) (dI : au.length ≤ aZ) (tN : Kd.C (Kd.int .i64) w nZ gM.length gM) (vM : gM.length ≤ nM) (hr1 : Kd.C eT w A1 l1.length l1) (hc1 : l1.length ≤ c1) (hr2 : Kd.C eT w A2 l2.length l2) (hc2 : l2.length ≤ c2) (h : jF.f au gM l1 l2 TM TN = some r) :
    Calls Tryz.prog 118 #[.agg #[.slice bB au.length aZ, .slice nZ gM.length nM], .slice A1 l1.length c1, .slice A2 l2.length c2, .agg #[.int .i64 TM, .int .i64 TN]] w fun e w' => e = .returned (.int .i64 r) ∧ Below w.heap.size w w' := by
  have HX := Bx.nil w; have HR := aj.mk (And.intro dx (And.intro tN (And.intro hr1 hr2)))
  unfold jF.f at h
  by_cases hg : L8 au gM l1 l2 = true
  rotate_left
  · rw [if_neg hg] at h; cases h
  rw [if_pos hg] at h; obtain rfl := Option.some.inj h
  unfold L8 at hg
  simp only [Bool.and_eq_true] at hg; have HG := aj.mk hg; have HD := aj.mk (FR hg.1 hg.2.1 hg.2.2.1 hg.2.2.2); clear h hg dx tN hr1 hr2; have kg := Tryz.underlying37; have wY := Tryz.underlying149
  go_enter Tryz.func118, Tryz.ntmps118
  go_wp2_with (first | ((with_reducible refine av (N := 4) rfl ?_); refine newX rfl rfl HX (cs := #[.slice bB au.length aZ, .slice nZ gM.length nM]) (t := 149) tG ?_; clear HX; intro g4 w4 HX hx hz; clear hx hz) | ((with_reducible refine av (N := 7) rfl ?_); refine newX rfl rfl HX (cs := #[.int .i64 TM, .int .i64 TN]) (t := 37) tG ?_; clear HX; intro g7 w7 HX hx hz; clear hx hz; have ch := HX.g2 1 rfl; obtain ⟨Gj, KT⟩ := ch) | (go_at_call 156; (with_reducible refine (CS bB aZ au nZ nM gM A1 c1 l1 A2 c2 l2 _ (Kd.ak HR.out.1 HX.below) dI (Kd.ak HR.out.2.1 HX.below) vM (Kd.ak HR.out.2.2.1 HX.below) hc1 (Kd.ak HR.out.2.2.2 HX.below) hc2 (lH HG.out.1) (rF HG.out.2.1) (nX HG.out.2.2.1) (nX HG.out.2.2.2)).mono ?_); rintro e w2 ⟨bm, n, rfl, hS, hbm, hx⟩; have HS : aj (kJ w2 bm n (ny au gM l1 l2)) := ⟨hS⟩; replace HX := HX.step hx; clear hx hS hbm Gj KT) | ((with_reducible refine av (N := 17) rfl ?_); refine wu rfl _ rfl rfl HS.out ?_; intro wc r cnt hrr KV hx; have xw := aj.mk KV; have MR := aj.mk (show w.heap.size ≤ r from by have := HX.below.size; omega); replace HX := HX.step hx; clear KV hrr hx HS))
  go_frame
  go_loopw [9, 10] (fun v9 v10 W => ∃ (V : List Int) (b1 b2 : Bool) (cnt : Nat), v9 = .bool b1 ∧ v10 = .bool b2 ∧ aj (b1 = (V.any fun n => decide (TL n ≤ TN)) ∧ b2 = V.any fun n => decide (TM < TL n)) ∧ aj (∀ x ∈ V, x ∈ ny au gM l1 l2) ∧ aj (iI W bm r n (ny au gM l1 l2) V cnt) ∧ Bx [(g7, .cells #[.int .i64 TM, .int .i64 TN] 37 (0, 0)), (g4, .cells #[.slice bB au.length aZ, .slice nZ gM.length nM] 149 (0, 0))] w W) (fun _ _ W => W.rangeLeft bm r)
  case atStart => exact ⟨[], false, false, cnt, rfl, rfl, ⟨rfl, rfl⟩, ⟨by simp⟩, xw, HX⟩
  case round =>
    clear xw HX; obtain ⟨V, b1, b2, cnt2, rfl, rfl, HI, HV, xw, HX⟩ := hrel
    have HQ := aj.mk (show (∀ x, PY x → x ∈ ny au gM l1 l2 → x ∈ V) → uW au gM l1 l2 TM TN = L6 b1 b2 from fun hd => by
      have hd2 : ∀ x ∈ ny au gM l1 l2, x ∈ V := fun x hx => hd x (uS (by have := HD.out.2 x hx; omega) (by have := HD.out.2 x hx; omega)) hx
      unfold uW
      rw [HI.out.1, HI.out.2, RL HV.out hd2, RL HV.out hd2])
    cases b1 <;> cases b2
    all_goals
      go_wp2_with (first | (at_next; refine vF rfl _ rfl rfl xw.out (fun hd => ?_) (fun x c wn cnt3 hxw ZE hxV QX hlt hgn hsz hen => ?_); all_goals (first | (have HE := aj.mk (HQ.out hd); clear hd) | (have HXS := aj.mk (And.intro ZE hlt); have HLE := aj.mk xw.out.left; have hb := HD.out.2 x ZE; have hb1 := hb.1; have hb2 := hb.2; have NB := aj.mk (xw.out.pO (g := g7) ⟨HX.gb 0 rfl⟩); have NB4 := aj.mk (xw.out.pO (g := g4) ⟨HX.gb 1 rfl⟩); have uG := HX.grow ⟨MR.out⟩ hgn (by simp [NB.out.2, NB4.out.2]); clear HX xw; have HX := uG; have xw := aj.mk QX; obtain ⟨Gj, KT⟩ := HX.g2 0 rfl; clear uG hb hxw ZE hxV QX hlt hgn hsz))) | (go_at_call 154; refine (pK (xS.calls _ _ _ _ (WJ _ _))).mono ?_; rintro e w5 ⟨rfl, hx⟩; replace HX := HX.step hx; clear hx))
    all_goals first
      | (go_ret
         exact ⟨by rw [HE.out]; rfl, HX.below⟩)
      | exact ⟨⟨V ++ [x], _, _, cnt3, rfl, rfl, ⟨by rw [List.any_append, ← HI.out.1]; simp [RJ], by rw [List.any_append, ← HI.out.2]; simp [RJ]⟩, ⟨fun y hy => by rcases List.mem_append.1 hy with hy | hy; exact HV.out y hy; rw [List.mem_singleton.1 hy]; exact HXS.out.1⟩, xw, HX⟩, by rw [xw.out.left, HLE.out]; exact HXS.out.2⟩
end Go.Proofs.YtnpfbjnjdngkhaaGreatDoor.P
