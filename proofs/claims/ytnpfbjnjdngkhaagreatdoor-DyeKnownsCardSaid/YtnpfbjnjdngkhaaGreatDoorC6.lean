import Derived.Deep.RegionHeld3
import Derived.Test.YtnpfbjnjdngkhaaGreatDoorC5
set_option maxHeartbeats 8000000
set_option maxRecDepth 100000
set_option linter.unusedVariables false
set_option linter.unusedSimpArgs false
namespace Go.Proofs.YtnpfbjnjdngkhaaGreatDoor.P
open Go.RowKit Go.Proofs.YtnpfbjnjdngkhaaGreatDoorW.aW Go.Proofs.YtnpfbjnjdngkhaaGreatDoorW.bZ Go.Proofs.YtnpfbjnjdngkhaaGreatDoorW.dh
attribute [local go_sem] fE fF gU gV eX eY fG fH
theorem EA {W : World} {ad : Addr} {x y : Int} (h0 : W.cell? ad = some (.int .i64 x)) (h1 : W.cell? (ad.add 1) = some (.int .i64 y)) : ∀ j v, ([.int .i64 x, .int .i64 y] : List Value)[j]? = some v → W.cell? (ad.add j) = some v
 | 0, v, h => by cases h; simpa [Addr.add] using h0
 | 1, v, h => by cases h; exact h1
 | j + 2, v, h => by simp at h
theorem wS {L : List (Nat × Obj)} {w W : World} {P : Program} {ops : Array Oper} {rest : List Oper} {o : Oper} {a : Act} {Q : Exit → Act → World → Prop} (hgd : o.guard = none) {N : Tmp} (hd : o.dst = some N) (HX : Bx L w W) {ob : Obj} (v : Nat → Value)
  (hrun : (execOp a.eval o).run P W = .ok (.value (v W.heap.size)) (W.alloc ob))
  (h : ∀ g w1, Bx ((g, ob) :: L) w w1 → Below W.heap.size W w1 → W.heap.size ≤ g → wpList P ops Q rest (a.put o.dst (v g)) w1) : wpList P ops Q (o :: rest) a W :=
 Kd.r9 hgd hrun (h _ _ (HX.add (Nat.le_refl _) (fU (Below.refl _ _) _) (uo W _)) (fU (Below.refl _ _) _) (Nat.le_refl _))
theorem rowAt {W : World} {g : Nat} {cur : Array Value} {t : TypeId} (h : W.heap[g]? = some (.cells cur t (0, 0))) (off : Nat) (cs : List Value) (hc : ∀ j, j < cs.length → cur[off + j]? = cs[j]?) : ∀ j v, cs[j]? = some v → W.cell? ((⟨g, off, none⟩ : Addr).add j) = some v := by
 intro j v hv; have hj := (List.getElem?_eq_some_iff.1 hv).1; rw [show (⟨g, off, none⟩ : Addr).add j = ⟨g, off + j, none⟩ by simp [Addr.add]]; rw [cell_of_row W g _ cur t (0, 0) h, hc j hj, hv]
theorem Z8 (ad : Addr) (c : Nat) (x y : Int) (w : World) (h0 : w.cell? ad = some (.int .i64 x)) (h1 : w.cell? (ad.add 1) = some (.int .i64 y)) :
  Calls Tryz.prog 189 #[.slice (some ad) 1 c, .int .i64 1] w fun e w' => ∃ g, e = .returned (.slice (some ⟨g, 0, none⟩) 1 1) ∧ w.heap.size ≤ g ∧ w'.heap[g]? = some (.cells #[.int .i64 x, .int .i64 y] 37 (0, 0)) ∧ Below w.heap.size w w' := by
 have HX := Bx.nil w; have HC := aj.mk (fun W (hb : Below w.heap.size w W) => EA ((hb.cell (World.block_lt_of_cell? w _ h0)).trans h0) ((hb.cell (World.block_lt_of_cell? w _ h1)).trans h1)); clear h0 h1
 have hmul : bits_Mul.f 1 1 = some (0, 1) := by kernel_rfl
 have hmk : ∀ W, (Instr.makeSlice 28 (.int .i64 1) (.int .i64 1)).run Tryz.prog W = .ok (.slice (some ⟨W.heap.size, 0, none⟩) 1 1) (W.alloc (.cells #[.int .i64 0, .int .i64 0] 37 (0, 0))) := fun _ => by kernel_rfl
 have hw2 : wrap64 2 = 2 := by unfold wrap64; omega
 have hw3 : wrap64 3 = 3 := by unfold wrap64; omega
 have hw4 : wrap64 4 = 4 := by unfold wrap64; omega
 have DF : (Tryz.prog.info? 37).map (·.size) = some 2 := by kernel_rfl
 go_enter Tryz.func189, Tryz.ntmps189
 go_wp2_with (first | (go_at_call 215; refine (pK (bits_Mul.calls _ _ _ _ _ hmul)).mono ?_; rintro e w1 ⟨rfl, hx⟩; replace HX := HX.step hx; clear hx hmul) | ((with_reducible refine av (N := 30) rfl ?_); refine wS rfl rfl HX (ob := .cells #[.int .i64 0, .int .i64 0] 37 (0, 0)) (fun g => .slice (some ⟨g, 0, none⟩) 1 1) tG ?_; clear HX hmk; intro g w2 HX hx hz; clear hx hz) | ((with_reducible refine av (N := 33) rfl ?_); refine Sj rfl (.tmp 31) (.tmp 32) rfl Tryz.underlying28 DF HX 0 rfl (off := 0) (n := 1) rfl rfl rfl [.int .i64 x, .int .i64 y] rfl (HC.out _ HX.below) (by simp) (by simp [Value.oneCell']) #[.int .i64 x, .int .i64 y] rfl ?_; clear HX; intro w3 HX hx; clear hx; dsimp only [List.set] at HX))
 refine wp_loop_rounds 1 ?_; rw [rounds_succ]
 go_wp2_with (fail)
 go_ret
 exact ⟨g, rfl, HX.lo _ (List.mem_cons_self ..), HX.gb 0 rfl, HX.below⟩
theorem Z9 (ad : Addr) (c : Nat) (x y : Int) (w : World) (h0 : w.cell? ad = some (.int .i64 x)) (h1 : w.cell? (ad.add 1) = some (.int .i64 y)) :
  Calls Tryz.prog 189 #[.slice (some ad) 1 c, .int .i64 2] w fun e w' => ∃ g, e = .returned (.slice (some ⟨g, 0, none⟩) 2 2) ∧ w.heap.size ≤ g ∧ w'.heap[g]? = some (.cells #[.int .i64 x, .int .i64 y, .int .i64 x, .int .i64 y] 37 (0, 0)) ∧ Below w.heap.size w w' := by
 have HX := Bx.nil w; have HC := aj.mk (fun W (hb : Below w.heap.size w W) => EA ((hb.cell (World.block_lt_of_cell? w _ h0)).trans h0) ((hb.cell (World.block_lt_of_cell? w _ h1)).trans h1)); clear h0 h1
 have hmul : bits_Mul.f 1 2 = some (0, 2) := by kernel_rfl
 have hmk : ∀ W, (Instr.makeSlice 28 (.int .i64 2) (.int .i64 2)).run Tryz.prog W = .ok (.slice (some ⟨W.heap.size, 0, none⟩) 2 2) (W.alloc (.cells #[.int .i64 0, .int .i64 0, .int .i64 0, .int .i64 0] 37 (0, 0))) := fun _ => by kernel_rfl
 have hw2 : wrap64 2 = 2 := by unfold wrap64; omega
 have hw3 : wrap64 3 = 3 := by unfold wrap64; omega
 have hw4 : wrap64 4 = 4 := by unfold wrap64; omega
 have DF : (Tryz.prog.info? 37).map (·.size) = some 2 := by kernel_rfl
 go_enter Tryz.func189, Tryz.ntmps189
 go_wp2_with (first | (go_at_call 215; refine (pK (bits_Mul.calls _ _ _ _ _ hmul)).mono ?_; rintro e w1 ⟨rfl, hx⟩; replace HX := HX.step hx; clear hx hmul) | ((with_reducible refine av (N := 30) rfl ?_); refine wS rfl rfl HX (ob := .cells #[.int .i64 0, .int .i64 0, .int .i64 0, .int .i64 0] 37 (0, 0)) (fun g => .slice (some ⟨g, 0, none⟩) 2 2) tG ?_; clear HX hmk; intro g w2 HX hx hz; clear hx hz) | ((with_reducible refine av (N := 33) rfl ?_); refine Sj rfl (.tmp 31) (.tmp 32) rfl Tryz.underlying28 DF HX 0 rfl (off := 0) (n := 1) rfl rfl rfl [.int .i64 x, .int .i64 y] rfl (HC.out _ HX.below) (by simp) (by simp [Value.oneCell']) #[.int .i64 x, .int .i64 y, .int .i64 0, .int .i64 0] rfl ?_; clear HX; intro w3 HX hx; clear hx; dsimp only [List.set] at HX))
 refine wp_loop_rounds 2 ?_; rw [rounds_succ]
 go_wp2_with (fail)
 refine j6 (n := 10) (S := fun _ => True) (ds := []) #[false, false, false, false, false, false, false, false, false, false] tX rfl rfl trivial (fun hHeld => ?_); have uG := HX.step (fJ (Below.refl _ _)); clear HX; have HX := uG; clear uG
 generalize World.drew _ = w6 at HX ⊢
 refine aH (i := 0) (N := some 38) (v := ?_) (a' := ?_) (bA 10 1) rfl rfl tX (fun _ _ _ h => h) (Or.inl ⟨by rfl, ?_⟩) ?_ ?_; rotate_left
 ·intro w'
  go_simp
  with_reducible rfl
 rotate_left
 ·simp only [Act.put, sL, ay, aA]
  rfl
 refine aH (i := 1) (N := some 39) (v := ?_) (a' := ?_) (bA 10 3) rfl rfl tX (fun _ _ _ h => h) (Or.inl ⟨by rfl, ?_⟩) ?_ ?_; rotate_left
 ·intro w'
  go_simp
  with_reducible rfl
 rotate_left
 ·simp only [Act.put, sL, ay, aA]
  rfl
 refine aH (i := 2) (N := some 40) (v := ?_) (a' := ?_) (bA 10 7) rfl rfl tX (fun _ _ _ h => h) (Or.inl ⟨by rfl, ?_⟩) ?_ ?_; rotate_left
 ·intro w'
  go_simp
  with_reducible rfl
 rotate_left
 ·simp only [Act.put, sL, ay, aA]
  rfl
 refine aH (i := 4) (N := some 42) (v := ?_) (a' := ?_) (bA 10 23) rfl rfl tX (fun _ _ _ h => h) (Or.inl ⟨by rfl, ?_⟩) ?_ ?_; rotate_left
 ·intro w'
  go_simp
  with_reducible rfl
 rotate_left
 ·simp only [Act.put, sL, ay, aA]
  rfl
 refine aH (i := 5) (N := some 43) (v := ?_) (a' := ?_) (bA 10 55) rfl rfl tX (fun _ _ _ h => h) (Or.inl ⟨by rfl, ?_⟩) ?_ ?_; rotate_left
 ·intro w'
  go_simp
  with_reducible rfl
 rotate_left
 ·simp only [Act.put, sL, ay, aA]
  rfl
 refine aH (i := 3) (N := some 41) (v := ?_) (a' := ?_) (bA 10 63) rfl rfl tX (fun _ _ _ h => h) (Or.inl ⟨by rfl, ?_⟩) ?_ ?_; rotate_left
 ·intro w'
  go_simp
  with_reducible rfl
 rotate_left
 ·simp only [Act.put, sL, ay, aA]
  rfl
 refine aH (i := 6) (N := some 44) (v := ?_) (a' := ?_) (bA 10 127) rfl rfl tX (fun _ _ _ h => h) (Or.inl ⟨by rfl, ?_⟩) ?_ ?_; rotate_left
 ·intro w'
  go_simp
  with_reducible rfl
 rotate_left
 ·simp only [Act.put, sL, ay, aA]
  rfl
 refine gI (i := 7) (N := some 45) (bA 10 255) rfl rfl tX (by decide) (fun K hK => ?_); refine Ms (by rfl) (.tmp 41) (.tmp 44) rfl Tryz.underlying28 DF HX 0 rfl (off := 2) (n := 1) rfl rfl (by decide) [.int .i64 x, .int .i64 y] rfl (rowAt (HX.gb 0 rfl) 0 _ (by intro j hj; rcases j with _ | _ | _ | _ | j <;> first | rfl | (simp only [List.length_cons, List.length_nil] at hj; omega))) (by simp) (by simp [Value.oneCell']) #[.int .i64 x, .int .i64 y, .int .i64 x, .int .i64 y] rfl ?_; clear HX; intro w7 HX hx; clear hx
 dsimp only [List.set] at HX
 refine hK.out _ _ trivial (fun hHeld => ?_); clear hK K; refine dw (a' := ?_) ?_ ?_; rotate_left
 ·show Act.put _ (some 45) _ = _
  simp only [cu, Act.put, sL, ay, aA]
  rfl
 refine aH (i := 8) (N := some 46) (v := ?_) (a' := ?_) (bA 10 511) rfl rfl tX (fun _ _ _ h => h) (Or.inl ⟨by rfl, ?_⟩) ?_ ?_; rotate_left
 ·intro w'
  go_simp
  with_reducible rfl
 rotate_left
 ·simp only [Act.put, sL, ay, aA]
  rfl
 refine aH (i := 9) (N := some 8) (v := ?_) (a' := ?_) (bA 10 1023) rfl rfl tX (fun _ _ _ h => h) (Or.inl ⟨by rfl, ?_⟩) ?_ ?_; rotate_left
 ·intro w'
  go_simp
  with_reducible rfl
 rotate_left
 ·simp only [Act.put, sL, ay, aA]
  rfl
 refine kZ tX ?_
 go_wp2_with (fail)
 rw [rounds_succ]
 go_wp2_with (fail)
 go_ret
 exact ⟨g, rfl, HX.lo _ (List.mem_cons_self ..), HX.gb 0 rfl, HX.below⟩
theorem qaa (ad : Addr) (c : Nat) (x y : Int) (w : World) (h0 : w.cell? ad = some (.int .i64 x)) (h1 : w.cell? (ad.add 1) = some (.int .i64 y)) :
  Calls Tryz.prog 189 #[.slice (some ad) 1 c, .int .i64 3] w fun e w' => ∃ g, e = .returned (.slice (some ⟨g, 0, none⟩) 3 3) ∧ w.heap.size ≤ g ∧ w'.heap[g]? = some (.cells #[.int .i64 x, .int .i64 y, .int .i64 x, .int .i64 y, .int .i64 x, .int .i64 y] 37 (0, 0)) ∧ Below w.heap.size w w' := by
 have HX := Bx.nil w; have HC := aj.mk (fun W (hb : Below w.heap.size w W) => EA ((hb.cell (World.block_lt_of_cell? w _ h0)).trans h0) ((hb.cell (World.block_lt_of_cell? w _ h1)).trans h1)); clear h0 h1
 have hmul : bits_Mul.f 1 3 = some (0, 3) := by kernel_rfl
 have hmk : ∀ W, (Instr.makeSlice 28 (.int .i64 3) (.int .i64 3)).run Tryz.prog W = .ok (.slice (some ⟨W.heap.size, 0, none⟩) 3 3) (W.alloc (.cells #[.int .i64 0, .int .i64 0, .int .i64 0, .int .i64 0, .int .i64 0, .int .i64 0] 37 (0, 0))) := fun _ => by kernel_rfl
 have hw2 : wrap64 2 = 2 := by unfold wrap64; omega
 have hw3 : wrap64 3 = 3 := by unfold wrap64; omega
 have hw4 : wrap64 4 = 4 := by unfold wrap64; omega
 have DF : (Tryz.prog.info? 37).map (·.size) = some 2 := by kernel_rfl
 go_enter Tryz.func189, Tryz.ntmps189
 go_wp2_with (first | (go_at_call 215; refine (pK (bits_Mul.calls _ _ _ _ _ hmul)).mono ?_; rintro e w1 ⟨rfl, hx⟩; replace HX := HX.step hx; clear hx hmul) | ((with_reducible refine av (N := 30) rfl ?_); refine wS rfl rfl HX (ob := .cells #[.int .i64 0, .int .i64 0, .int .i64 0, .int .i64 0, .int .i64 0, .int .i64 0] 37 (0, 0)) (fun g => .slice (some ⟨g, 0, none⟩) 3 3) tG ?_; clear HX hmk; intro g w2 HX hx hz; clear hx hz) | ((with_reducible refine av (N := 33) rfl ?_); refine Sj rfl (.tmp 31) (.tmp 32) rfl Tryz.underlying28 DF HX 0 rfl (off := 0) (n := 1) rfl rfl rfl [.int .i64 x, .int .i64 y] rfl (HC.out _ HX.below) (by simp) (by simp [Value.oneCell']) #[.int .i64 x, .int .i64 y, .int .i64 0, .int .i64 0, .int .i64 0, .int .i64 0] rfl ?_; clear HX; intro w3 HX hx; clear hx; dsimp only [List.set] at HX))
 refine wp_loop_rounds 3 ?_; rw [rounds_succ]
 go_wp2_with (fail)
 refine j6 (n := 10) (S := fun _ => True) (ds := []) #[false, false, false, false, false, false, false, false, false, false] tX rfl rfl trivial (fun hHeld => ?_); have uG := HX.step (fJ (Below.refl _ _)); clear HX; have HX := uG; clear uG
 generalize World.drew _ = w6 at HX ⊢
 refine aH (i := 0) (N := some 38) (v := ?_) (a' := ?_) (bA 10 1) rfl rfl tX (fun _ _ _ h => h) (Or.inl ⟨by rfl, ?_⟩) ?_ ?_; rotate_left
 ·intro w'
  go_simp
  with_reducible rfl
 rotate_left
 ·simp only [Act.put, sL, ay, aA]
  rfl
 refine aH (i := 1) (N := some 39) (v := ?_) (a' := ?_) (bA 10 3) rfl rfl tX (fun _ _ _ h => h) (Or.inl ⟨by rfl, ?_⟩) ?_ ?_; rotate_left
 ·intro w'
  go_simp
  with_reducible rfl
 rotate_left
 ·simp only [Act.put, sL, ay, aA]
  rfl
 refine aH (i := 2) (N := some 40) (v := ?_) (a' := ?_) (bA 10 7) rfl rfl tX (fun _ _ _ h => h) (Or.inl ⟨by rfl, ?_⟩) ?_ ?_; rotate_left
 ·intro w'
  go_simp
  with_reducible rfl
 rotate_left
 ·simp only [Act.put, sL, ay, aA]
  rfl
 refine aH (i := 4) (N := some 42) (v := ?_) (a' := ?_) (bA 10 23) rfl rfl tX (fun _ _ _ h => h) (Or.inl ⟨by rfl, ?_⟩) ?_ ?_; rotate_left
 ·intro w'
  go_simp
  with_reducible rfl
 rotate_left
 ·simp only [Act.put, sL, ay, aA]
  rfl
 refine aH (i := 5) (N := some 43) (v := ?_) (a' := ?_) (bA 10 55) rfl rfl tX (fun _ _ _ h => h) (Or.inl ⟨by rfl, ?_⟩) ?_ ?_; rotate_left
 ·intro w'
  go_simp
  with_reducible rfl
 rotate_left
 ·simp only [Act.put, sL, ay, aA]
  rfl
 refine aH (i := 3) (N := some 41) (v := ?_) (a' := ?_) (bA 10 63) rfl rfl tX (fun _ _ _ h => h) (Or.inl ⟨by rfl, ?_⟩) ?_ ?_; rotate_left
 ·intro w'
  go_simp
  with_reducible rfl
 rotate_left
 ·simp only [Act.put, sL, ay, aA]
  rfl
 refine aH (i := 6) (N := some 44) (v := ?_) (a' := ?_) (bA 10 127) rfl rfl tX (fun _ _ _ h => h) (Or.inl ⟨by rfl, ?_⟩) ?_ ?_; rotate_left
 ·intro w'
  go_simp
  with_reducible rfl
 rotate_left
 ·simp only [Act.put, sL, ay, aA]
  rfl
 refine gI (i := 7) (N := some 45) (bA 10 255) rfl rfl tX (by decide) (fun K hK => ?_); refine Ms (by rfl) (.tmp 41) (.tmp 44) rfl Tryz.underlying28 DF HX 0 rfl (off := 2) (n := 1) rfl rfl (by decide) [.int .i64 x, .int .i64 y] rfl (rowAt (HX.gb 0 rfl) 0 _ (by intro j hj; rcases j with _ | _ | _ | _ | j <;> first | rfl | (simp only [List.length_cons, List.length_nil] at hj; omega))) (by simp) (by simp [Value.oneCell']) #[.int .i64 x, .int .i64 y, .int .i64 x, .int .i64 y, .int .i64 0, .int .i64 0] rfl ?_; clear HX; intro w7 HX hx; clear hx
 dsimp only [List.set] at HX
 refine hK.out _ _ trivial (fun hHeld => ?_); clear hK K; refine dw (a' := ?_) ?_ ?_; rotate_left
 ·show Act.put _ (some 45) _ = _
  simp only [cu, Act.put, sL, ay, aA]
  rfl
 refine aH (i := 8) (N := some 46) (v := ?_) (a' := ?_) (bA 10 511) rfl rfl tX (fun _ _ _ h => h) (Or.inl ⟨by rfl, ?_⟩) ?_ ?_; rotate_left
 ·intro w'
  go_simp
  with_reducible rfl
 rotate_left
 ·simp only [Act.put, sL, ay, aA]
  rfl
 refine aH (i := 9) (N := some 8) (v := ?_) (a' := ?_) (bA 10 1023) rfl rfl tX (fun _ _ _ h => h) (Or.inl ⟨by rfl, ?_⟩) ?_ ?_; rotate_left
 ·intro w'
  go_simp
  with_reducible rfl
 rotate_left
 ·simp only [Act.put, sL, ay, aA]
  rfl
 refine kZ tX ?_
 go_wp2_with (fail)
 rw [rounds_succ]
 go_wp2_with (fail)
 refine j6 (n := 10) (S := fun _ => True) (ds := []) #[false, false, false, false, false, false, false, false, false, false] tX rfl rfl trivial (fun hHeld => ?_); have uG := HX.step (fJ (Below.refl _ _)); clear HX; have HX := uG; clear uG
 generalize World.drew _ = w6 at HX ⊢
 refine aH (i := 0) (N := some 38) (v := ?_) (a' := ?_) (bA 10 1) rfl rfl tX (fun _ _ _ h => h) (Or.inl ⟨by rfl, ?_⟩) ?_ ?_; rotate_left
 ·intro w'
  go_simp
  with_reducible rfl
 rotate_left
 ·simp only [Act.put, sL, ay, aA]
  rfl
 refine aH (i := 1) (N := some 39) (v := ?_) (a' := ?_) (bA 10 3) rfl rfl tX (fun _ _ _ h => h) (Or.inl ⟨by rfl, ?_⟩) ?_ ?_; rotate_left
 ·intro w'
  go_simp
  with_reducible rfl
 rotate_left
 ·simp only [Act.put, sL, ay, aA]
  rfl
 refine aH (i := 2) (N := some 40) (v := ?_) (a' := ?_) (bA 10 7) rfl rfl tX (fun _ _ _ h => h) (Or.inl ⟨by rfl, ?_⟩) ?_ ?_; rotate_left
 ·intro w'
  go_simp
  with_reducible rfl
 rotate_left
 ·simp only [Act.put, sL, ay, aA]
  rfl
 refine aH (i := 4) (N := some 42) (v := ?_) (a' := ?_) (bA 10 23) rfl rfl tX (fun _ _ _ h => h) (Or.inl ⟨by rfl, ?_⟩) ?_ ?_; rotate_left
 ·intro w'
  go_simp
  with_reducible rfl
 rotate_left
 ·simp only [Act.put, sL, ay, aA]
  rfl
 refine aH (i := 5) (N := some 43) (v := ?_) (a' := ?_) (bA 10 55) rfl rfl tX (fun _ _ _ h => h) (Or.inl ⟨by rfl, ?_⟩) ?_ ?_; rotate_left
 ·intro w'
  go_simp
  with_reducible rfl
 rotate_left
 ·simp only [Act.put, sL, ay, aA]
  rfl
 refine aH (i := 3) (N := some 41) (v := ?_) (a' := ?_) (bA 10 63) rfl rfl tX (fun _ _ _ h => h) (Or.inl ⟨by rfl, ?_⟩) ?_ ?_; rotate_left
 ·intro w'
  go_simp
  with_reducible rfl
 rotate_left
 ·simp only [Act.put, sL, ay, aA]
  rfl
 refine aH (i := 6) (N := some 44) (v := ?_) (a' := ?_) (bA 10 127) rfl rfl tX (fun _ _ _ h => h) (Or.inl ⟨by rfl, ?_⟩) ?_ ?_; rotate_left
 ·intro w'
  go_simp
  with_reducible rfl
 rotate_left
 ·simp only [Act.put, sL, ay, aA]
  rfl
 refine gI (i := 7) (N := some 45) (bA 10 255) rfl rfl tX (by decide) (fun K hK => ?_); refine Ms (by rfl) (.tmp 41) (.tmp 44) rfl Tryz.underlying28 DF HX 0 rfl (off := 4) (n := 1) rfl rfl (by decide) [.int .i64 x, .int .i64 y] rfl (rowAt (HX.gb 0 rfl) 0 _ (by intro j hj; rcases j with _ | _ | _ | _ | j <;> first | rfl | (simp only [List.length_cons, List.length_nil] at hj; omega))) (by simp) (by simp [Value.oneCell']) #[.int .i64 x, .int .i64 y, .int .i64 x, .int .i64 y, .int .i64 x, .int .i64 y] rfl ?_; clear HX; intro w7 HX hx; clear hx
 dsimp only [List.set] at HX
 refine hK.out _ _ trivial (fun hHeld => ?_); clear hK K; refine dw (a' := ?_) ?_ ?_; rotate_left
 ·show Act.put _ (some 45) _ = _
  simp only [cu, Act.put, sL, ay, aA]
  rfl
 refine aH (i := 8) (N := some 46) (v := ?_) (a' := ?_) (bA 10 511) rfl rfl tX (fun _ _ _ h => h) (Or.inl ⟨by rfl, ?_⟩) ?_ ?_; rotate_left
 ·intro w'
  go_simp
  with_reducible rfl
 rotate_left
 ·simp only [Act.put, sL, ay, aA]
  rfl
 refine aH (i := 9) (N := some 8) (v := ?_) (a' := ?_) (bA 10 1023) rfl rfl tX (fun _ _ _ h => h) (Or.inl ⟨by rfl, ?_⟩) ?_ ?_; rotate_left
 ·intro w'
  go_simp
  with_reducible rfl
 rotate_left
 ·simp only [Act.put, sL, ay, aA]
  rfl
 refine kZ tX ?_
 go_wp2_with (fail)
 rw [rounds_succ]
 go_wp2_with (fail)
 go_ret
 exact ⟨g, rfl, HX.lo _ (List.mem_cons_self ..), HX.gb 0 rfl, HX.below⟩
theorem qab (ad : Addr) (c : Nat) (x y : Int) (w : World) (h0 : w.cell? ad = some (.int .i64 x)) (h1 : w.cell? (ad.add 1) = some (.int .i64 y)) :
  Calls Tryz.prog 189 #[.slice (some ad) 1 c, .int .i64 4] w fun e w' => ∃ g, e = .returned (.slice (some ⟨g, 0, none⟩) 4 4) ∧ w.heap.size ≤ g ∧ w'.heap[g]? = some (.cells #[.int .i64 x, .int .i64 y, .int .i64 x, .int .i64 y, .int .i64 x, .int .i64 y, .int .i64 x, .int .i64 y] 37 (0, 0)) ∧ Below w.heap.size w w' := by
 have HX := Bx.nil w; have HC := aj.mk (fun W (hb : Below w.heap.size w W) => EA ((hb.cell (World.block_lt_of_cell? w _ h0)).trans h0) ((hb.cell (World.block_lt_of_cell? w _ h1)).trans h1)); clear h0 h1
 have hmul : bits_Mul.f 1 4 = some (0, 4) := by kernel_rfl
 have hmk : ∀ W, (Instr.makeSlice 28 (.int .i64 4) (.int .i64 4)).run Tryz.prog W = .ok (.slice (some ⟨W.heap.size, 0, none⟩) 4 4) (W.alloc (.cells #[.int .i64 0, .int .i64 0, .int .i64 0, .int .i64 0, .int .i64 0, .int .i64 0, .int .i64 0, .int .i64 0] 37 (0, 0))) := fun _ => by kernel_rfl
 have hw2 : wrap64 2 = 2 := by unfold wrap64; omega
 have hw3 : wrap64 3 = 3 := by unfold wrap64; omega
 have hw4 : wrap64 4 = 4 := by unfold wrap64; omega
 have DF : (Tryz.prog.info? 37).map (·.size) = some 2 := by kernel_rfl
 go_enter Tryz.func189, Tryz.ntmps189
 go_wp2_with (first | (go_at_call 215; refine (pK (bits_Mul.calls _ _ _ _ _ hmul)).mono ?_; rintro e w1 ⟨rfl, hx⟩; replace HX := HX.step hx; clear hx hmul) | ((with_reducible refine av (N := 30) rfl ?_); refine wS rfl rfl HX (ob := .cells #[.int .i64 0, .int .i64 0, .int .i64 0, .int .i64 0, .int .i64 0, .int .i64 0, .int .i64 0, .int .i64 0] 37 (0, 0)) (fun g => .slice (some ⟨g, 0, none⟩) 4 4) tG ?_; clear HX hmk; intro g w2 HX hx hz; clear hx hz) | ((with_reducible refine av (N := 33) rfl ?_); refine Sj rfl (.tmp 31) (.tmp 32) rfl Tryz.underlying28 DF HX 0 rfl (off := 0) (n := 1) rfl rfl rfl [.int .i64 x, .int .i64 y] rfl (HC.out _ HX.below) (by simp) (by simp [Value.oneCell']) #[.int .i64 x, .int .i64 y, .int .i64 0, .int .i64 0, .int .i64 0, .int .i64 0, .int .i64 0, .int .i64 0] rfl ?_; clear HX; intro w3 HX hx; clear hx; dsimp only [List.set] at HX))
 refine wp_loop_rounds 3 ?_; rw [rounds_succ]
 go_wp2_with (fail)
 refine j6 (n := 10) (S := fun _ => True) (ds := []) #[false, false, false, false, false, false, false, false, false, false] tX rfl rfl trivial (fun hHeld => ?_); have uG := HX.step (fJ (Below.refl _ _)); clear HX; have HX := uG; clear uG
 generalize World.drew _ = w6 at HX ⊢
 refine aH (i := 0) (N := some 38) (v := ?_) (a' := ?_) (bA 10 1) rfl rfl tX (fun _ _ _ h => h) (Or.inl ⟨by rfl, ?_⟩) ?_ ?_; rotate_left
 ·intro w'
  go_simp
  with_reducible rfl
 rotate_left
 ·simp only [Act.put, sL, ay, aA]
  rfl
 refine aH (i := 1) (N := some 39) (v := ?_) (a' := ?_) (bA 10 3) rfl rfl tX (fun _ _ _ h => h) (Or.inl ⟨by rfl, ?_⟩) ?_ ?_; rotate_left
 ·intro w'
  go_simp
  with_reducible rfl
 rotate_left
 ·simp only [Act.put, sL, ay, aA]
  rfl
 refine aH (i := 2) (N := some 40) (v := ?_) (a' := ?_) (bA 10 7) rfl rfl tX (fun _ _ _ h => h) (Or.inl ⟨by rfl, ?_⟩) ?_ ?_; rotate_left
 ·intro w'
  go_simp
  with_reducible rfl
 rotate_left
 ·simp only [Act.put, sL, ay, aA]
  rfl
 refine aH (i := 4) (N := some 42) (v := ?_) (a' := ?_) (bA 10 23) rfl rfl tX (fun _ _ _ h => h) (Or.inl ⟨by rfl, ?_⟩) ?_ ?_; rotate_left
 ·intro w'
  go_simp
  with_reducible rfl
 rotate_left
 ·simp only [Act.put, sL, ay, aA]
  rfl
 refine aH (i := 5) (N := some 43) (v := ?_) (a' := ?_) (bA 10 55) rfl rfl tX (fun _ _ _ h => h) (Or.inl ⟨by rfl, ?_⟩) ?_ ?_; rotate_left
 ·intro w'
  go_simp
  with_reducible rfl
 rotate_left
 ·simp only [Act.put, sL, ay, aA]
  rfl
 refine aH (i := 3) (N := some 41) (v := ?_) (a' := ?_) (bA 10 63) rfl rfl tX (fun _ _ _ h => h) (Or.inl ⟨by rfl, ?_⟩) ?_ ?_; rotate_left
 ·intro w'
  go_simp
  with_reducible rfl
 rotate_left
 ·simp only [Act.put, sL, ay, aA]
  rfl
 refine aH (i := 6) (N := some 44) (v := ?_) (a' := ?_) (bA 10 127) rfl rfl tX (fun _ _ _ h => h) (Or.inl ⟨by rfl, ?_⟩) ?_ ?_; rotate_left
 ·intro w'
  go_simp
  with_reducible rfl
 rotate_left
 ·simp only [Act.put, sL, ay, aA]
  rfl
 refine gI (i := 7) (N := some 45) (bA 10 255) rfl rfl tX (by decide) (fun K hK => ?_); refine Ms (by rfl) (.tmp 41) (.tmp 44) rfl Tryz.underlying28 DF HX 0 rfl (off := 2) (n := 1) rfl rfl (by decide) [.int .i64 x, .int .i64 y] rfl (rowAt (HX.gb 0 rfl) 0 _ (by intro j hj; rcases j with _ | _ | _ | _ | j <;> first | rfl | (simp only [List.length_cons, List.length_nil] at hj; omega))) (by simp) (by simp [Value.oneCell']) #[.int .i64 x, .int .i64 y, .int .i64 x, .int .i64 y, .int .i64 0, .int .i64 0, .int .i64 0, .int .i64 0] rfl ?_; clear HX; intro w7 HX hx; clear hx
 dsimp only [List.set] at HX
 refine hK.out _ _ trivial (fun hHeld => ?_); clear hK K; refine dw (a' := ?_) ?_ ?_; rotate_left
 ·show Act.put _ (some 45) _ = _
  simp only [cu, Act.put, sL, ay, aA]
  rfl
 refine aH (i := 8) (N := some 46) (v := ?_) (a' := ?_) (bA 10 511) rfl rfl tX (fun _ _ _ h => h) (Or.inl ⟨by rfl, ?_⟩) ?_ ?_; rotate_left
 ·intro w'
  go_simp
  with_reducible rfl
 rotate_left
 ·simp only [Act.put, sL, ay, aA]
  rfl
 refine aH (i := 9) (N := some 8) (v := ?_) (a' := ?_) (bA 10 1023) rfl rfl tX (fun _ _ _ h => h) (Or.inl ⟨by rfl, ?_⟩) ?_ ?_; rotate_left
 ·intro w'
  go_simp
  with_reducible rfl
 rotate_left
 ·simp only [Act.put, sL, ay, aA]
  rfl
 refine kZ tX ?_
 go_wp2_with (fail)
 rw [rounds_succ]
 go_wp2_with (fail)
 refine j6 (n := 10) (S := fun _ => True) (ds := []) #[false, false, false, false, false, false, false, false, false, false] tX rfl rfl trivial (fun hHeld => ?_); have uG := HX.step (fJ (Below.refl _ _)); clear HX; have HX := uG; clear uG
 generalize World.drew _ = w6 at HX ⊢
 refine aH (i := 0) (N := some 38) (v := ?_) (a' := ?_) (bA 10 1) rfl rfl tX (fun _ _ _ h => h) (Or.inl ⟨by rfl, ?_⟩) ?_ ?_; rotate_left
 ·intro w'
  go_simp
  with_reducible rfl
 rotate_left
 ·simp only [Act.put, sL, ay, aA]
  rfl
 refine aH (i := 1) (N := some 39) (v := ?_) (a' := ?_) (bA 10 3) rfl rfl tX (fun _ _ _ h => h) (Or.inl ⟨by rfl, ?_⟩) ?_ ?_; rotate_left
 ·intro w'
  go_simp
  with_reducible rfl
 rotate_left
 ·simp only [Act.put, sL, ay, aA]
  rfl
 refine aH (i := 2) (N := some 40) (v := ?_) (a' := ?_) (bA 10 7) rfl rfl tX (fun _ _ _ h => h) (Or.inl ⟨by rfl, ?_⟩) ?_ ?_; rotate_left
 ·intro w'
  go_simp
  with_reducible rfl
 rotate_left
 ·simp only [Act.put, sL, ay, aA]
  rfl
 refine aH (i := 4) (N := some 42) (v := ?_) (a' := ?_) (bA 10 23) rfl rfl tX (fun _ _ _ h => h) (Or.inl ⟨by rfl, ?_⟩) ?_ ?_; rotate_left
 ·intro w'
  go_simp
  with_reducible rfl
 rotate_left
 ·simp only [Act.put, sL, ay, aA]
  rfl
 refine aH (i := 5) (N := some 43) (v := ?_) (a' := ?_) (bA 10 55) rfl rfl tX (fun _ _ _ h => h) (Or.inl ⟨by rfl, ?_⟩) ?_ ?_; rotate_left
 ·intro w'
  go_simp
  with_reducible rfl
 rotate_left
 ·simp only [Act.put, sL, ay, aA]
  rfl
 refine aH (i := 3) (N := some 41) (v := ?_) (a' := ?_) (bA 10 63) rfl rfl tX (fun _ _ _ h => h) (Or.inl ⟨by rfl, ?_⟩) ?_ ?_; rotate_left
 ·intro w'
  go_simp
  with_reducible rfl
 rotate_left
 ·simp only [Act.put, sL, ay, aA]
  rfl
 refine aH (i := 6) (N := some 44) (v := ?_) (a' := ?_) (bA 10 127) rfl rfl tX (fun _ _ _ h => h) (Or.inl ⟨by rfl, ?_⟩) ?_ ?_; rotate_left
 ·intro w'
  go_simp
  with_reducible rfl
 rotate_left
 ·simp only [Act.put, sL, ay, aA]
  rfl
 refine gI (i := 7) (N := some 45) (bA 10 255) rfl rfl tX (by decide) (fun K hK => ?_); refine Ms (by rfl) (.tmp 41) (.tmp 44) rfl Tryz.underlying28 DF HX 0 rfl (off := 4) (n := 2) rfl rfl (by decide) [.int .i64 x, .int .i64 y, .int .i64 x, .int .i64 y] rfl (rowAt (HX.gb 0 rfl) 0 _ (by intro j hj; rcases j with _ | _ | _ | _ | j <;> first | rfl | (simp only [List.length_cons, List.length_nil] at hj; omega))) (by simp) (by simp [Value.oneCell']) #[.int .i64 x, .int .i64 y, .int .i64 x, .int .i64 y, .int .i64 x, .int .i64 y, .int .i64 x, .int .i64 y] rfl ?_; clear HX; intro w7 HX hx; clear hx
 dsimp only [List.set] at HX
 refine hK.out _ _ trivial (fun hHeld => ?_); clear hK K; refine dw (a' := ?_) ?_ ?_; rotate_left
 ·show Act.put _ (some 45) _ = _
  simp only [cu, Act.put, sL, ay, aA]
  rfl
 refine aH (i := 8) (N := some 46) (v := ?_) (a' := ?_) (bA 10 511) rfl rfl tX (fun _ _ _ h => h) (Or.inl ⟨by rfl, ?_⟩) ?_ ?_; rotate_left
 ·intro w'
  go_simp
  with_reducible rfl
 rotate_left
 ·simp only [Act.put, sL, ay, aA]
  rfl
 refine aH (i := 9) (N := some 8) (v := ?_) (a' := ?_) (bA 10 1023) rfl rfl tX (fun _ _ _ h => h) (Or.inl ⟨by rfl, ?_⟩) ?_ ?_; rotate_left
 ·intro w'
  go_simp
  with_reducible rfl
 rotate_left
 ·simp only [Act.put, sL, ay, aA]
  rfl
 refine kZ tX ?_
 go_wp2_with (fail)
 rw [rounds_succ]
 go_wp2_with (fail)
 go_ret
 exact ⟨g, rfl, HX.lo _ (List.mem_cons_self ..), HX.gb 0 rfl, HX.below⟩
end Go.Proofs.YtnpfbjnjdngkhaaGreatDoor.P
namespace Go.Proofs.YtnpfbjnjdngkhaaGreatDoor.P
open Go.RowKit Go.Proofs.YtnpfbjnjdngkhaaGreatDoorW.aW Go.Proofs.YtnpfbjnjdngkhaaGreatDoorW.bZ Go.Proofs.YtnpfbjnjdngkhaaGreatDoorW.dh
attribute [local go_sem] fE fF gU gV eX eY fG fH
attribute [local go_sem] Oper.semAt_some
theorem Writes.sub {w W : World} {ns ms : List Int} (h : Writes w ns) (hb : Below w.heap.size w W) (hs : ∀ n ∈ ms, n ∈ ns) : Writes W ms := fun n hn W2 hb2 => h n (hs n hn) W2 (aV hb hb2)
theorem Bx.tl {p : Nat × Obj} {L : List (Nat × Obj)} {w W : World} (h : Bx (p :: L) w W) : Bx L w W := ⟨h.below, fun q hq => h.get q (List.mem_cons_of_mem _ hq), fun q hq => h.lo q (List.mem_cons_of_mem _ hq), (List.nodup_cons.1 h.nd).2⟩
theorem qg5 {W : World} {g base : Nat} {x : ByteArray} (hg : base ≤ g) (h : W.heap[g]? = some (.cells #[.string x] 9 (0, 0))) : Kd.R Kd.string 9 W base (fun _ => True) (.slice (some ⟨g, 0, none⟩) 1 1) [x] :=
 ⟨fun _ _ => trivial, [.string x], ⟨rfl, .inr ⟨g, 1, _, rfl, hg, h, Nat.le_refl _, by unfold maxLen; omega, rfl, rfl⟩⟩, ⟨rfl, fun j p hp => by
  cases j with
  | zero => simp at hp; subst hp; rfl
  | succ j => simp at hp⟩⟩
theorem tT : ∀ (l : List dN), (∀ s ∈ l, s.f0.length ≤ 100) → (l.flatMap lZ).length ≤ 101 * l.length
 | [], _ => by simp
 | s :: l, h => by
  have h1 := tT l fun x hx => h x (by simp [hx])
  have h2 := h s (by simp); rw [List.flatMap_cons, List.length_append, List.length_cons]
  have : (lZ s).length = s.f0.length + 1 := by simp [lZ]
  omega
theorem Mv {h : List bO} {st : List dN} (ok : O1 h st) : (qH h st).length ≤ 20000 := by
 unfold qH
 have h1 := tT st ok.FX.2; have h2 := ok.FX.1; have h3 := ok.TV.1; rw [List.length_cons, List.length_append, List.length_map]
 omega
theorem JD {h : List bO} {st : List dN} (ok : O1 h st) : ∀ x ∈ qH h st, x.size ≤ 7000 := by
 have key : ∀ (name : ByteArray) (ns : List Int), name.size ≤ 10 → ns.length ≤ 300 → (∀ n ∈ ns, n ∈ numsOf h st) → (iN name ns).size ≤ 7000 := fun name ns h1 h2 h3 => by
  have := FZ name h1 ns fun n hn => ok.size n (h3 n hn)
  omega
 intro x hx
 unfold qH at hx
 rcases List.mem_cons.1 hx with rfl | hx
 ·exact key _ _ (by decide) (by simp [vR]) fun n hn => by unfold numsOf; exact List.mem_append_left _ (List.mem_append_left _ hn)
 rcases List.mem_append.1 hx with hx | hx
 ·obtain ⟨d, hd, rfl⟩ := List.mem_map.1 hx
  exact key _ _ (by decide) (by rw [Hw]; have := ok.TV.2 d hd; omega) fun n hn => by unfold numsOf; exact List.mem_append_left _ (List.mem_append_right _ (List.mem_flatMap.2 ⟨d, hd, hn⟩))
 ·obtain ⟨s, hs, hx⟩ := List.mem_flatMap.1 hx
  unfold lZ at hx
  rcases List.mem_cons.1 hx with rfl | hx
  ·exact key _ _ (by decide) (by simp [p8]) fun n hn => by unfold numsOf; exact List.mem_append_right _ (List.mem_flatMap.2 ⟨s, hs, List.mem_append_left _ hn⟩)
  ·obtain ⟨b, hb, rfl⟩ := List.mem_map.1 hx
   exact key _ _ (by decide) (by simp [xW]) fun n hn => by unfold numsOf; exact List.mem_append_right _ (List.mem_flatMap.2 ⟨s, hs, List.mem_append_right _ (List.mem_flatMap.2 ⟨b, hb, hn⟩)⟩)
theorem Di (l : ByteArray) : ∀ n, 0 ≤ sumTo l n ∧ sumTo l n ≤ 255 * ((n : Int) * n)
 | 0 => ⟨Int.le_refl _, Int.le_refl _⟩
 | n + 1 => by
  have h := Di l n
  have hb : ((l.data.toList.getD n 0).toNat : Int) ≤ 255 := by have := (l.data.toList.getD n 0).toNat_lt; omega
  have h0 : (0 : Int) ≤ ((l.data.toList.getD n 0).toNat : Int) := by omega
  have h1 : ((l.data.toList.getD n 0).toNat : Int) * ((n : Int) + 1) ≤ 255 * ((n : Int) + 1) := Int.mul_le_mul_of_nonneg_right hb (by omega); have h2 : 0 ≤ ((l.data.toList.getD n 0).toNat : Int) * ((n : Int) + 1) := Int.mul_nonneg h0 (by omega)
  have e : (((n + 1 : Nat) : Int)) * ((n + 1 : Nat) : Int) = (n : Int) * n + 2 * n + 1 := by rw [Int.natCast_add, Int.add_mul, Int.mul_add]; omega
  rw [sumTo, e]
  omega
theorem sumTo_le (l : ByteArray) (hl : l.size ≤ 7000) (n : Nat) (hn : n ≤ l.size) : 0 ≤ sumTo l n ∧ sumTo l n ≤ 12495000000 := by
 have h := Di l n; have h1 : (n : Int) * n ≤ 7000 * 7000 := Int.mul_le_mul (by omega) (by omega) (by omega) (by omega)
 omega
theorem Sk (ls : List ByteArray) (h : ∀ x ∈ ls, x.size ≤ 7000) : 0 ≤ (ls.map qI).sum ∧ (ls.map qI).sum ≤ 12495000000 * ls.length := by
 induction ls with
 | nil => simp
 | cons x ls ih =>
  have h1 := ih fun y hy => h y (by simp [hy])
  have h2 := sumTo_le x (h x (by simp)) x.size (Nat.le_refl _); rw [List.map_cons, List.sum_cons, List.length_cons]
  unfold qI at *
  omega
theorem Xf (x : ByteArray) (hx : x.size ≤ 7000) (j : Nat) (hj : j < x.size) (S : Int) (hS : 0 ≤ S ∧ S ≤ 249900000000000) : wrap64 (S + sumTo x j + wrap64 (wrap64 (x[j].toNat : Int) * ((j : Int) + 1))) = S + sumTo x (j + 1) := by
 have e : x.data.toList.getD j 0 = x[j] := by
  rw [List.getD_eq_getElem?_getD, List.getElem?_eq_getElem (by simpa using hj)]
  rfl
 have hb : (x[j].toNat : Int) ≤ 255 := by have := (x[j]).toNat_lt; omega
 have h0 : (0 : Int) ≤ (x[j].toNat : Int) := by omega
 have h1 : (x[j].toNat : Int) * ((j : Int) + 1) ≤ 255 * ((j : Int) + 1) := Int.mul_le_mul_of_nonneg_right hb (by omega); have h2 : 0 ≤ (x[j].toNat : Int) * ((j : Int) + 1) := Int.mul_nonneg h0 (by omega); have h3 := sumTo_le x hx j (by omega); rw [sumTo, e, z8 (x := (x[j].toNat : Int)) (by omega) (by omega)]
 generalize (x[j].toNat : Int) * ((j : Int) + 1) = m at *
 rw [z8 (x := m) (by omega) (by omega), z8 (by omega) (by omega)]
 omega
theorem F4 (d : Int) (h : 0 ≤ d ∧ d ≤ 9) : (iK d).size ≤ 20 := by
 have : ∀ n : Fin 10, (iK (n.val : Int)).size ≤ 20 := by decide +kernel
 have h2 : (iK ((d.toNat : Nat) : Int)).size ≤ 20 := this ⟨d.toNat, by omega⟩; rw [show ((d.toNat : Nat) : Int) = d by omega] at h2; exact h2
theorem qac (ls : List ByteArray) (h : ∀ x ∈ ls, x.size ≤ 7000) : Lib.lens (ls.map (·.data.toList)) ≤ 7000 * ls.length := by
 induction ls with
 | nil => simp [Lib.lens]
 | cons x ls ih =>
  have h1 := ih fun y hy => h y (by simp [hy])
  have h2 := h x (by simp); have h3 : x.data.toList.length = x.size := Array.length_toList
  unfold Lib.lens at *
  simp only [List.map_cons, List.sum_cons, List.length_cons] at *
  omega
theorem Ua (ls : List ByteArray) (h : ∀ x ∈ ls, x.size ≤ 7000) (hl : ls.length ≤ 20000) : (Lib.join (ls.map (·.data.toList)) [10]).length ≤ 200000000 := by
 cases ls with
 | nil => simp [Lib.join_nil]
 | cons x r =>
  have h1 := qac (x :: r) h; rw [List.map_cons, Lib.join_length, ← List.map_cons (f := fun y : ByteArray => y.data.toList), List.length_map]; simp only [List.length_cons, List.length_nil] at *
  omega
theorem O5 (bB : Option Addr) (aZ : Nat) (au : List bO) (A1 : Option Addr) (c1 : Nat) (l1 : List dN) (w : World) (dx : Kd.C iM w bB au.length au) (dI : au.length ≤ aZ) (hr1 : Kd.C l7 w A1 l1.length l1) (hc1 : l1.length ≤ c1) (hok : O1 au l1) (hw : Writes w (numsOf au l1)) (hd : ∀ W, Below w.heap.size w W → Writes W [0, 1, 2, 3, 4, 5, 6, 7, 8, 9]) :
  Calls Tryz.prog 152 #[.agg #[.slice bB au.length aZ], .slice A1 l1.length c1] w fun e w' => e = .returned (.string (textOf (qH au l1))) ∧ Below w.heap.size w w' := by
 have HX := Bx.nil w; have HR := aj.mk dx; have HR1 := aj.mk hr1; have OK := aj.mk hok; have HW := aj.mk hw; have HD := aj.mk hd; have hm0 : au.length ≤ 9223372036854775807 := dx.2.1; have hm1 : l1.length ≤ 9223372036854775807 := hr1.2.1; have o8 := Tryz.underlying24; have Vt := Tryz.underlying102; have Fq := Tryz.underlying107; have CF := Tryz.underlying154; have kg := Tryz.underlying37; have qby := Tryz.underlying234; have qbA := Tryz.underlying236; have qbE := Tryz.underlying238; have qbG := Tryz.underlying240; clear dx hr1 hok hw hd
 go_enter Tryz.func152, Tryz.ntmps152
 go_wp2_with (first | ((with_reducible refine av (N := 2) rfl ?_); refine newX rfl rfl HX (cs := #[.slice bB au.length aZ]) (t := 24) tG ?_; clear HX; intro g2 w2 HX hx hz; clear hx hz; have c2 := HX.g1 0 rfl) | (go_at_call 196; refine (ZQ _ (vR au l1) _ (by simp [vR]) (HW.out.sub HX.below (fun n hn => by unfold numsOf; exact List.mem_append_left _ (List.mem_append_left _ hn))) (wM _ (by decide) _ (fun n hn => OK.out.size n (by unfold numsOf; exact List.mem_append_left _ (List.mem_append_left _ hn))) (by simp [vR])) (fun W hb => qV.calls _ _ _ W rfl)).mono ?_; rintro e w1 ⟨rfl, hx⟩; replace HX := HX.step hx; clear hx c2; have c2 := HX.g1 0 rfl) | ((with_reducible refine av (N := 24) rfl ?_); refine wS rfl rfl HX (ob := .cells #[.string (iN gN (vR au l1))] 9 (0, 0)) (fun g => .slice (some ⟨g, 0, none⟩) 1 1) tG ?_; clear HX c2; intro gb y9 HX hx hz; clear hx hz; have c2 := HX.g1 1 rfl))
 have HV := aj.mk (qg5 (HX.lo _ (List.mem_of_getElem? (i := 0) rfl)) (HX.gb 0 rfl)); have jS := HX.tl; clear HX; have HX := jS; clear jS c2
 go_loopw [5, 28] (fun v5 v28 W => ∃ i : Nat, i ≤ au.length ∧ v28 = .int .i64 i ∧ aj (Kd.R Kd.string 9 W w.heap.size (fun _ => True) v5 (iN gN (vR au l1) :: (au.take i).map qG)) ∧ Bx [(g2, .cells #[.slice bB au.length aZ] 24 (0, 0))] w W) (fun _ v28 _ => au.length - (intOf v28).toNat)
 case atStart => exact ⟨0, by omega, rfl, HV, HX⟩
 case round =>
  clear HV HX; obtain ⟨i, hi, rfl, HV, HX⟩ := hrel
  by_cases hlt : i < au.length
  ·obtain ⟨d, hd⟩ : ∃ d, d = au[i] := ⟨_, rfl⟩
   obtain ⟨ad, As, cs, rfl, q0, q1, hls, hCs⟩ := iZ HR.out i (by omega) (by omega)
   have hrd : aT au (i : Int) = d := by rw [hd, aT, Int.toNat_natCast, List.getD_eq_getElem?_getD, List.getElem?_eq_getElem hlt]; rfl
   rw [hrd] at q0 q1 hls hCs; rw [Int.toNat_natCast] at q0 q1; replace q0 := (HX.below.cell (World.block_lt_of_cell? w _ q0)).trans q0; replace q1 := (HX.below.cell (World.block_lt_of_cell? w _ q1)).trans q1
   have hdm : d ∈ au := by rw [hd]; exact List.getElem_mem hlt
   have HDS := aj.mk (show ∀ n ∈ Bp d, n ∈ numsOf au l1 from fun n hn => by unfold numsOf; exact List.mem_append_left _ (List.mem_append_right _ (List.mem_flatMap.2 ⟨d, hdm, hn⟩))); have HDL := aj.mk (show (Bp d).length ≤ 300 by rw [Hw]; have := OK.out.TV.2 d hdm; omega); have HDK := aj.mk (qd5 d (by have := OK.out.TV.2 d hdm; omega)); have HT := aj.mk (show iN gN (vR au l1) :: (au.take (i + 1)).map qG = (iN gN (vR au l1) :: (au.take i).map qG) ++ [qG d] by rw [List.take_succ_eq_append_getElem hlt, List.map_append, hd]; rfl); have HVL := aj.mk (show (iN gN (vR au l1) :: (au.take i).map qG).length ≤ 100000000 by rw [List.length_cons, List.length_map, List.length_take]; have := OK.out.TV.1; omega); have HC := aj.mk hCs; have Sl := aj.mk hls; have hm2 : d.f0.length ≤ 9223372036854775807 := hCs.2.1; clear hd hrd hdm hls hCs
   go_wp2_with (first | ((with_reducible refine av (N := 7) rfl ?_); refine newX rfl rfl HX (cs := #[.slice none 0 0, .int .i64 0]) (t := 102) tG ?_; clear HX; intro g7 w7 HX hx hz; have N7 := wX HV hz; replace HV := qQ HV hx; clear hx hz) | ((with_reducible refine bE (t := 102) (p := 7) rfl ?_); refine kL rfl rfl rfl HX 0 rfl (i := 0) (.agg #[.slice As d.f0.length cs, .int .i64 d.f1]) [.slice As d.f0.length cs, .int .i64 d.f1] #[.slice As d.f0.length cs, .int .i64 d.f1] rfl rfl rfl tX (by simp) (by simp [Value.oneCell']) rfl ?_; clear HX; intro w9 HX hx; dsimp only [List.set] at HX; replace HV := EY HV rfl hx N7.out; clear hx q0 q1; obtain ⟨xZ, yc⟩ := HX.g2 0 rfl) | (go_at_call 196; refine (ZR _ (Bp d) _ (by have := HDL.out; omega) (HW.out.sub HX.below HDS.out) (wM _ (by decide) _ (fun n hn => OK.out.size n (HDS.out n hn)) (by have := HDL.out; omega)) (fun W hb => dO.calls 1000 As cs d.f0 d.f1 (Bp d) W (Kd.ak HC.out (aV HX.below hb)) Sl.out HDK.out)).mono ?_; rintro e w8 ⟨rfl, hx⟩; replace HX := HX.step hx; replace HV := qQ HV hx; clear hx xZ yc) | ((with_reducible refine eD (b := .append) (xs := #[.tmp 32, .tmp 37]) rfl ?_); at_builtin; refine oL (w := w) Kd.string rfl (.tmp 32) (.tmp 37) 190 9 (.string ⟨#[]⟩) 16 rfl Tryz.underlying190 UU rfl (by decide) (by omega) _ (iN gN (vR au l1) :: (au.take i).map qG) (qG d) [.string (qG d)] rfl rfl rfl HV ⟨HX.below⟩ HVL.out (by decide) ?_; intro u5 y9 HU HB2 hx hat; have uG := HX.Xe hx (fun k e => Kd.gH HV.out k e) (by intro p hp; simp only [List.mem_cons, List.not_mem_nil, or_false] at hp; rcases hp with rfl | rfl; all_goals exact HV.out.2.zK (HX.get _ (by simp)) (by decide)); clear HX HV HB2 hx hat N7; have HX := uG; have HV := HU; clear uG HU))
   case roundEnd => exact ⟨⟨i + 1, by omega, by simp, ⟨by rw [HT.out]; exact HV.out⟩, HX.tl⟩, by simp [intOf]; omega⟩
  ·obtain rfl : i = au.length := by omega
   obtain ⟨L0, hL0⟩ : ∃ L0, L0 = iN gN (vR au l1) :: au.map qG := ⟨_, rfl⟩; rw [List.take_length, ← hL0] at HV; have HL0 := aj.mk hL0; have HLN := aj.mk (show L0.length ≤ 101 by rw [hL0, List.length_cons, List.length_map]; have := OK.out.TV.1; omega); clear hL0 hlt hi
   go_wp2
   go_loopw [5, 42] (fun v5 v42 W => ∃ i : Nat, i ≤ l1.length ∧ v42 = .int .i64 i ∧ aj (Kd.R Kd.string 9 W w.heap.size (fun _ => True) v5 (L0 ++ (l1.take i).flatMap lZ)) ∧ Bx [(g2, .cells #[.slice bB au.length aZ] 24 (0, 0))] w W) (fun _ v42 _ => l1.length - (intOf v42).toNat)
   case atStart => exact ⟨0, by omega, rfl, ⟨by simpa using HV.out⟩, HX⟩
   case round =>
    clear HV HX; obtain ⟨i, hi, rfl, HV, HX⟩ := hrel
    by_cases hlt : i < l1.length
    ·obtain ⟨s, hs⟩ : ∃ s, s = l1[i] := ⟨_, rfl⟩
     obtain ⟨ad, As, cs, rfl, q0, q1, q2, hls, hCs⟩ := yD HR1.out i (by omega) (by omega)
     have hrd : bU l1 (i : Int) = s := by rw [hs, bU, Int.toNat_natCast, List.getD_eq_getElem?_getD, List.getElem?_eq_getElem hlt]; rfl
     rw [hrd] at q0 q1 q2 hls hCs; rw [Int.toNat_natCast] at q0 q1 q2; replace q0 := (HX.below.cell (World.block_lt_of_cell? w _ q0)).trans q0; replace q1 := (HX.below.cell (World.block_lt_of_cell? w _ q1)).trans q1; replace q2 := (HX.below.cell (World.block_lt_of_cell? w _ q2)).trans q2
     have hsm : s ∈ l1 := by rw [hs]; exact List.getElem_mem hlt
     have HSM := aj.mk hsm; have HSS := aj.mk (show ∀ n ∈ p8 s, n ∈ numsOf au l1 from fun n hn => by unfold numsOf; exact List.mem_append_right _ (List.mem_flatMap.2 ⟨s, hsm, List.mem_append_left _ hn⟩)); have HTK := aj.mk (show l1.take (i + 1) = l1.take i ++ [s] by rw [List.take_succ_eq_append_getElem hlt, hs]); have HBL := aj.mk (OK.out.FX.2 s hsm); obtain ⟨L1, hL1⟩ : ∃ L1, L1 = L0 ++ (l1.take i).flatMap lZ := ⟨_, rfl⟩
     have HVL := aj.mk (show L1.length ≤ 100000 by
      rw [hL1, List.length_append]; have h1 := HLN.out; have h2 := tT (l1.take i) (fun s hs => OK.out.FX.2 s (List.mem_of_mem_take hs)); have h3 := OK.out.FX.1
      have h4 : (l1.take i).length ≤ 100 := by rw [List.length_take]; omega
      have h5 : 101 * (l1.take i).length ≤ 101 * 100 := Nat.mul_le_mul_left _ h4
      omega)
     rw [← hL1] at HV; have HL1 := aj.mk hL1; have HC := aj.mk hCs; have Sl := aj.mk hls; have hm2 : s.f0.length ≤ 9223372036854775807 := hCs.2.1; clear hs hrd hsm hls hCs hL1
     go_wp2_with (first | ((with_reducible refine av (N := 9) rfl ?_); refine newX rfl rfl HX (cs := #[.slice none 0 0, .int .i64 0, .int .i64 0]) (t := 107) tG ?_; clear HX; intro g9 w9 HX hx hz; have N9 := wX HV hz; replace HV := qQ HV hx; clear hx hz) | ((with_reducible refine bE (t := 107) (p := 9) rfl ?_); refine kL rfl rfl rfl HX 0 rfl (i := 0) (.agg #[.slice As s.f0.length cs, .int .i64 s.f1, .int .i64 s.f2]) [.slice As s.f0.length cs, .int .i64 s.f1, .int .i64 s.f2] #[.slice As s.f0.length cs, .int .i64 s.f1, .int .i64 s.f2] rfl rfl rfl tX (by simp) (by simp [Value.oneCell']) rfl ?_; clear HX; intro w9 HX hx; dsimp only [List.set] at HX; replace HV := EY HV rfl hx N9.out; clear hx q0 q1 q2; obtain ⟨xZ, yc, JC⟩ := HX.g3 0 rfl) | (go_at_call 196; refine (ZT _ (p8 s) _ (by simp [p8]) (HW.out.sub HX.below HSS.out) (wM _ (by decide) _ (fun n hn => OK.out.size n (HSS.out n hn)) (by simp [p8])) (fun W hb => qW.calls As cs s.f0 s.f1 s.f2 (p8 s) W (Kd.ak HC.out (aV HX.below hb)) Sl.out rfl)).mono ?_; rintro e w8 ⟨rfl, hx⟩; replace HX := HX.step hx; replace HV := qQ HV hx; clear hx xZ yc JC) | ((with_reducible refine eD (b := .append) (xs := #[.tmp 46, .tmp 51]) rfl ?_); at_builtin; refine oL (w := w) Kd.string rfl (.tmp 46) (.tmp 51) 190 9 (.string ⟨#[]⟩) 16 rfl Tryz.underlying190 UU rfl (by decide) (by omega) _ L1 (iN iD (p8 s)) [.string (iN iD (p8 s))] rfl rfl rfl HV ⟨HX.below⟩ (by have := HVL.out; omega) (by decide) ?_; intro u5 y9 HU HB2 hx hat; have uG := HX.Xe hx (fun k e => Kd.gH HV.out k e) (by intro p hp; simp only [List.mem_cons, List.not_mem_nil, or_false] at hp; rcases hp with rfl | rfl; all_goals exact HV.out.2.zK (HX.get _ (by simp)) (by decide)); clear HX HV HB2 hx hat N9; have HX := uG; have HV := HU; clear uG HU; obtain ⟨xZ, yc, JC⟩ := HX.g3 0 rfl))
     obtain ⟨L2, hL2⟩ : ∃ L2, L2 = L1 ++ [iN iD (p8 s)] := ⟨_, rfl⟩; have HL2 := aj.mk hL2; have qmM := aj.mk (show L2.length ≤ 100001 by rw [hL2, List.length_append]; have := HVL.out; simp; omega); rw [← hL2] at HV; clear hL2 xZ yc JC
     go_loopw [5, 56] (fun v5 v56 W => ∃ j : Nat, j ≤ s.f0.length ∧ v56 = .int .i64 j ∧ aj (Kd.R Kd.string 9 W w.heap.size (fun _ => True) v5 (L2 ++ (s.f0.take j).map p9)) ∧ Bx [(g9, .cells #[.slice As s.f0.length cs, .int .i64 s.f1, .int .i64 s.f2] 107 (0, 0)), (g2, .cells #[.slice bB au.length aZ] 24 (0, 0))] w W) (fun _ v56 _ => s.f0.length - (intOf v56).toNat)
     case atStart => exact ⟨0, by omega, rfl, ⟨by simpa using HV.out⟩, HX⟩
     case round =>
      clear HV HX; obtain ⟨j, hj, rfl, HV, HX⟩ := hrel
      by_cases hjt : j < s.f0.length
      ·obtain ⟨b, hb⟩ : ∃ b, b = s.f0[j] := ⟨_, rfl⟩
       obtain ⟨ad5, e5, q0, q1, q2, q3⟩ := jK HC.out j (by omega) (by omega); subst e5
       have hrd : aC s.f0 (j : Int) = b := by rw [hb, aC, Int.toNat_natCast, List.getD_eq_getElem?_getD, List.getElem?_eq_getElem hjt]; rfl
       rw [hrd] at q0 q1 q2 q3; rw [Int.toNat_natCast] at q0 q1 q2 q3; replace q0 := (HX.below.cell (World.block_lt_of_cell? w _ q0)).trans q0; replace q1 := (HX.below.cell (World.block_lt_of_cell? w _ q1)).trans q1; replace q2 := (HX.below.cell (World.block_lt_of_cell? w _ q2)).trans q2; replace q3 := (HX.below.cell (World.block_lt_of_cell? w _ q3)).trans q3
       have hbm : b ∈ s.f0 := by rw [hb]; exact List.getElem_mem hjt
       have HBS := aj.mk (show ∀ n ∈ xW b, n ∈ numsOf au l1 from fun n hn => by unfold numsOf; exact List.mem_append_right _ (List.mem_flatMap.2 ⟨s, HSM.out, List.mem_append_right _ (List.mem_flatMap.2 ⟨b, hbm, hn⟩)⟩)); have HTB := aj.mk (show L2 ++ (s.f0.take (j + 1)).map p9 = (L2 ++ (s.f0.take j).map p9) ++ [p9 b] by rw [List.take_succ_eq_append_getElem hjt, List.map_append, hb, List.append_assoc]; rfl); have qmN := aj.mk (show (L2 ++ (s.f0.take j).map p9).length ≤ 100000000 by rw [List.length_append, List.length_map, List.length_take]; have := qmM.out; have := HBL.out; omega); clear hb hrd hbm
       go_wp2_with (first | ((with_reducible refine av (N := 11) rfl ?_); refine newX rfl rfl HX (cs := #[.int .i64 0, .int .i64 0, .int .i64 0, .int .i64 0]) (t := 154) tG ?_; clear HX; intro g11 JW HX hx hz; have N11 := wX HV hz; replace HV := qQ HV hx; clear hx hz) | ((with_reducible refine bE (t := 154) (p := 11) rfl ?_); refine kL rfl rfl rfl HX 0 rfl (i := 0) (.agg #[.int .i64 b.f0, .int .i64 b.f1, .int .i64 b.f2.f0, .int .i64 b.f2.f1]) [.int .i64 b.f0, .int .i64 b.f1, .int .i64 b.f2.f0, .int .i64 b.f2.f1] #[.int .i64 b.f0, .int .i64 b.f1, .int .i64 b.f2.f0, .int .i64 b.f2.f1] rfl rfl rfl tX (by simp) (by simp [Value.oneCell']) rfl ?_; clear HX; intro w9 HX hx; dsimp only [List.set] at HX; replace HV := EY HV rfl hx N11.out; clear hx q0 q1 q2 q3; obtain ⟨xZ, yc, JC, ce4⟩ := HX.g4 0 rfl) | (go_at_call 196; refine (ZU _ (xW b) _ (by simp [xW]) (HW.out.sub HX.below HBS.out) (wM _ (by decide) _ (fun n hn => OK.out.size n (HBS.out n hn)) (by simp [xW])) (fun W hb => qC.calls b.f0 b.f1 b.f2.f0 b.f2.f1 (xW b) W rfl)).mono ?_; rintro e w8 ⟨rfl, hx⟩; replace HX := HX.step hx; replace HV := qQ HV hx; clear hx xZ yc JC ce4) | ((with_reducible refine eD (b := .append) (xs := #[.tmp 60, .tmp 65]) rfl ?_); at_builtin; refine oL (w := w) Kd.string rfl (.tmp 60) (.tmp 65) 190 9 (.string ⟨#[]⟩) 16 rfl Tryz.underlying190 UU rfl (by decide) (by omega) _ (L2 ++ (s.f0.take j).map p9) (p9 b) [.string (p9 b)] rfl rfl rfl HV ⟨HX.below⟩ qmN.out (by decide) ?_; intro u5 y9 HU HB2 hx hat; have uG := HX.Xe hx (fun k e => Kd.gH HV.out k e) (by intro p hp; simp only [List.mem_cons, List.not_mem_nil, or_false] at hp; rcases hp with rfl | rfl | rfl; all_goals exact HV.out.2.zK (HX.get _ (by simp)) (by decide)); clear HX HV HB2 hx hat N11; have HX := uG; have HV := HU; clear uG HU))
       case roundEnd => exact ⟨⟨j + 1, by omega, by simp, ⟨by rw [HTB.out]; exact HV.out⟩, HX.tl⟩, by simp [intOf]; omega⟩
      ·obtain rfl : j = s.f0.length := by omega
       go_wp2
       case roundEnd => exact ⟨⟨i + 1, by omega, by simp, ⟨by
        have h1 := HV.out; rw [List.take_length, HL2.out, HL1.out, List.append_assoc, List.append_assoc] at h1; rw [HTK.out, List.flatMap_append]
        simpa [lZ] using h1⟩, HX.tl⟩, by simp [intOf]; omega⟩
    ·obtain rfl : i = l1.length := by omega
     obtain ⟨ls, hls⟩ : ∃ ls, ls = qH au l1 := ⟨_, rfl⟩
     have hv : L0 ++ (l1.take l1.length).flatMap lZ = ls := by rw [hls, List.take_length, HL0.out]; rfl
     rw [hv] at HV; have Sl := aj.mk hls; have Sm := aj.mk (show ls.length ≤ 20000 by rw [hls]; exact Mv OK.out); have HLZ := aj.mk (show ∀ x ∈ ls, x.size ≤ 7000 by rw [hls]; exact JD OK.out); clear hls hv hlt hi
     obtain ⟨g9, cr, e9⟩ : ∃ g cp, u5 = .slice (some ⟨g, 0, none⟩) ls.length cp := by
      obtain ⟨inner, ⟨_, h⟩, _⟩ := HV.out.2
      rcases h with ⟨e, hn⟩ | ⟨g, cap, cur, e, _⟩
      ·rw [Sl.out] at hn
       simp [qH] at hn
      ·exact ⟨g, cap, e⟩
     subst e9; obtain ⟨Ar, c5, e5, hlr, hCr⟩ := Kd.fO HV.out
     injection e5 with e6 _ e7
     subst e6; subst e7; have HC := aj.mk hCr
     have hm5 : ls.length ≤ 9223372036854775807 := by have := Sm.out; omega
     clear hCr HV
     generalize wr = wb at *
     have Xg := aj.mk (Below.refl wb.heap.size wb)
     go_wp2
     go_loopw [12, 71] (fun v12 v71 W => ∃ i : Nat, i ≤ ls.length ∧ v71 = .int .i64 i ∧ v12 = .int .i64 ((ls.take i).map qI).sum ∧ aj (Below wb.heap.size wb W)) (fun _ v71 _ => ls.length - (intOf v71).toNat)
     case atStart => exact ⟨0, by omega, rfl, rfl, Xg⟩
     case round =>
      clear Xg; obtain ⟨i, hi, rfl, rfl, Xg⟩ := hrel
      by_cases hlt : i < ls.length
      ·obtain ⟨x, hx⟩ : ∃ x, x = ls[i] := ⟨_, rfl⟩
       obtain ⟨ad, ea, d1⟩ := Kd.Gt (Kd.ak HC.out Xg.out) i (by omega) (by omega)
       cases ea
       have hrd : Uv ByteArray.empty ls (i : Int) = x := by rw [hx, Uv, Int.toNat_natCast, List.getD_eq_getElem?_getD, List.getElem?_eq_getElem hlt]; rfl
       rw [hrd, Int.toNat_natCast, Addr.add_mid, Nat.zero_add] at d1
       have hxz : x.size ≤ 7000 := by rw [hx]; exact HLZ.out _ (List.getElem_mem hlt)
       have HXZ := aj.mk hxz; have HTK := aj.mk (show ((ls.take (i + 1)).map qI).sum = ((ls.take i).map qI).sum + qI x by rw [List.take_succ_eq_append_getElem hlt, hx, List.map_append, List.sum_append, List.map_cons, List.map_nil, List.sum_cons, List.sum_nil, Int.add_zero]); obtain ⟨S, hS⟩ : ∃ S, S = ((ls.take i).map qI).sum := ⟨_, rfl⟩
       have J9 := aj.mk (show 0 ≤ S ∧ S ≤ 249900000000000 by
        have h := Sk (ls.take i) fun y hy => HLZ.out y (List.mem_of_mem_take hy)
        rw [← hS, List.length_take] at h; have := Sm.out
        omega)
       rw [← hS]; rw [← hS] at HTK
       have hm6 : x.size ≤ 9223372036854775807 := by omega
       clear hx hrd hS hxz
       go_wp2
       clear d1
       go_loopw [12, 15, 77] (fun v12 _ v77 W => ∃ j : Nat, j ≤ x.size ∧ v77 = .int .i64 j ∧ v12 = .int .i64 (S + sumTo x j) ∧ aj (Below wb.heap.size wb W)) (fun _ _ v77 _ => x.size - (intOf v77).toNat)
       case atStart => exact ⟨0, by omega, rfl, by simp [sumTo], Xg⟩
       case round =>
        clear Xg; obtain ⟨j, hj, rfl, rfl, Xg⟩ := hrel
        by_cases hjt : j < x.size
        ·have HST := aj.mk (Xf x HXZ.out j hjt S J9.out)
         go_wp2
         case roundEnd => exact ⟨⟨j + 1, by omega, by simp, by rw [HST.out], Xg⟩, by simp [intOf]; omega⟩
        ·obtain rfl : j = x.size := by omega
         go_wp2
         case roundEnd => exact ⟨⟨i + 1, by omega, by simp, by rw [HTK.out]; rfl, Xg⟩, by simp [intOf]; omega⟩
      ·obtain rfl : i = ls.length := by omega
       obtain ⟨S, hS⟩ : ∃ S, S = (ls.map qI).sum := ⟨_, rfl⟩
       have J9 := aj.mk (show 0 ≤ S ∧ S ≤ 249900000000000 by
        have h := Sk ls fun y hy => HLZ.out y hy
        rw [← hS] at h; have := Sm.out
        omega)
       rw [List.take_length, ← hS]; have HS := aj.mk hS; clear hS hlt hi
       have hcs : ∀ (j : Nat) x, ls[j]? = some x → wr.cell? ⟨g9, 0 + j, none⟩ = some (.string x) := fun j x hx => by
        obtain ⟨hj, e⟩ := List.getElem?_eq_some_iff.1 hx; obtain ⟨ad, e1, d1⟩ := Kd.Gt (Kd.ak HC.out Xg.out) j (by omega) (by omega)
        cases e1
        rw [Int.toNat_natCast, Addr.add_mid, Uv, Int.toNat_natCast, List.getD_eq_getElem?_getD, hx] at d1; exact d1
       have HCS := aj.mk hcs
       have hg9 : g9 < wr.heap.size := by
        have h1 : 0 < ls.length := by rw [Sl.out]; simp [qH]
        exact World.block_lt_of_cell? wr _ (hcs 0 _ (List.getElem?_eq_getElem h1))
       have HG9 := aj.mk hg9; clear hcs hg9; have hjs := Ua ls HLZ.out Sm.out; obtain ⟨JB, hJB⟩ : ∃ JB, JB = qbI ls := ⟨_, rfl⟩
       have KJ : Calls Tryz.prog 197 #[.slice (some ⟨g9, 0, none⟩) ls.length cr, .string ⟨#[10]⟩] wr fun e w' => e = .returned (.string JB) ∧ Below wr.heap.size wr w' := by
        rw [hJB]; exact Tryz.strings_Join g9 0 cr ls ⟨#[10]⟩ wr HCS.out HG9.out (by have := Sm.out; omega) hlr (Nat.le_trans hjs (by omega))
       have hjz : JB.size ≤ 300000000 := by rw [hJB]; show (Lib.join (ls.map (·.data.toList)) [10]).toArray.size ≤ _; rw [List.size_toArray]; omega
       obtain ⟨q, hq⟩ : ∃ q, q = S % 113 := ⟨_, rfl⟩
       have hqb : 0 ≤ q ∧ q ≤ 112 := by omega
       have hq1 : S.tmod 113 = q := by rw [hq]; exact Int.tmod_eq_emod_of_nonneg J9.out.1
       obtain ⟨d1, hd1⟩ : ∃ d, d = q / 100 := ⟨_, rfl⟩; obtain ⟨d0, hd0⟩ : ∃ d, d = q / 10 := ⟨_, rfl⟩; obtain ⟨d2, hd2⟩ : ∃ d, d = d0 % 10 := ⟨_, rfl⟩; obtain ⟨d3, hd3⟩ : ∃ d, d = q % 10 := ⟨_, rfl⟩
       have e1 : q.tdiv 100 = d1 := by rw [hd1]; exact Int.tdiv_eq_ediv_of_nonneg hqb.1
       have e0 : q.tdiv 10 = d0 := by rw [hd0]; exact Int.tdiv_eq_ediv_of_nonneg hqb.1
       have e2 : d0.tmod 10 = d2 := by rw [hd2]; exact Int.tmod_eq_emod_of_nonneg (by omega)
       have e3 : q.tmod 10 = d3 := by rw [hd3]; exact Int.tmod_eq_emod_of_nonneg hqb.1
       have w1 : wrap64 d1 = d1 := z8 (by omega) (by omega); have w0 : wrap64 d0 = d0 := z8 (by omega) (by omega); have D1 := aj.mk (show 0 ≤ d1 ∧ d1 ≤ 9 by omega); have D2 := aj.mk (show 0 ≤ d2 ∧ d2 ≤ 9 by omega); have D3 := aj.mk (show 0 ≤ d3 ∧ d3 ≤ 9 by omega); have z1 := F4 d1 D1.out; have z2 := F4 d2 D2.out; have z3 := F4 d3 D3.out
       have qmO := aj.mk (show textOf (qH au l1) = JB ++ ⟨#[10, 101, 110, 100, 32]⟩ ++ iK d1 ++ iK d2 ++ iK d3 ++ ⟨#[10]⟩ by
        rw [← Sl.out]
        unfold textOf Jw
        rw [← HS.out, ← hq, hJB, hd1, hd2, hd0, hd3])
       have KD : ∀ d, 0 ≤ d ∧ d ≤ 9 → ∀ W, Below w.heap.size w W → Calls Tryz.prog 198 #[.int .i64 d] W fun e w' => e = .returned (.string (iK d)) ∧ Below W.heap.size W w' := fun d hd W hb => HD.out W hb d (by simp only [List.mem_cons, List.not_mem_nil, or_false]; omega) W (Below.refl _ _)
       have rz := aj.mk (aV HX.below Xg.out)
       have n0 : ¬ 9223372036854775807 < JB.size + 5 := by omega
       have n1 : ¬ 9223372036854775807 < JB.size + 5 + (iK d1).size := by omega
       have n2 : ¬ 9223372036854775807 < JB.size + 5 + (iK d1).size + (iK d2).size := by omega
       have n3 : ¬ 9223372036854775807 < JB.size + 5 + (iK d1).size + (iK d2).size + (iK d3).size := by omega
       have n4 : ¬ 9223372036854775807 < JB.size + 5 + (iK d1).size + (iK d2).size + (iK d3).size + 1 := by omega
       clear HR HR1 OK HW Sl Sm HLZ o8 Vt Fq CF kg qby qbA qbE qbG hm0 hm1 HL0 HLN dI hc1 hjs hJB hq hd1 hd0 hd2 hd3 hqb z1 z2 z3 hjz HC HCS HG9 J9 HS HX HD
       go_wp2_with (first | (go_at_call 197; (with_reducible refine KJ.mono ?_); rintro e w1 ⟨rfl, hx⟩; replace rz := fu rz hx; clear hx KJ) | (go_at_call 198; (with_reducible first | refine (KD d1 D1.out _ rz.out).mono ?_ | refine (KD d2 D2.out _ rz.out).mono ?_ | refine (KD d3 D3.out _ rz.out).mono ?_); rintro e w1 ⟨rfl, hx⟩; replace rz := fu rz hx; clear hx))
       go_ret
       exact ⟨by rw [qmO.out]; rfl, rz.out⟩
end Go.Proofs.YtnpfbjnjdngkhaaGreatDoor.P
namespace Go.Proofs.YtnpfbjnjdngkhaaGreatDoor.P
open Go.RowKit Go.Proofs.YtnpfbjnjdngkhaaGreatDoorW.aW Go.Proofs.YtnpfbjnjdngkhaaGreatDoorW.bZ Go.Proofs.YtnpfbjnjdngkhaaGreatDoorW.dh
def Xh (h : List bO) (st : List dN) : Bool := decide (h.length ≤ 100) && (h.all (fun d => decide (d.f0.length ≤ 100)) && (decide (st.length ≤ 100) && (st.all (fun s => decide (s.f0.length ≤ 100)) && (numsOf h st).all fun n => decide (0 ≤ n) && decide (n < 100))))
def vU.f (h : List bO) (st : List dN) : Option ByteArray := if Xh h st = true then some (textOf (qH h st)) else none
theorem O6 (d : Int) (h : 0 ≤ d ∧ d < 100) : (iK d).size ≤ 20 := by
 have : ∀ n : Fin 100, (iK (n.val : Int)).size ≤ 20 := by decide +kernel
 have h2 : (iK ((d.toNat : Nat) : Int)).size ≤ 20 := this ⟨d.toNat, by omega⟩; rw [show ((d.toNat : Nat) : Int) = d by omega] at h2; exact h2
theorem Bt (w : World) (ns : List Int) (h : ∀ n ∈ ns, 0 ≤ n ∧ n < 100) : Writes w ns := fun n hn W hb => by
 have h1 := h n hn; obtain ⟨i, rfl⟩ : ∃ i : Nat, n = (i : Int) := ⟨n.toNat, by omega⟩
 exact (Tryz.strconv_Itoa_small i (by omega) W).mono fun e w' ⟨he, hw⟩ => ⟨he, hw ▸ Below.refl _ _⟩
theorem vU.calls (bB : Option Addr) (aZ : Nat) (au : List bO) (A1 : Option Addr) (c1 : Nat) (l1 : List dN) (r : ByteArray) (w : World) (dx : Kd.C iM w bB au.length au) (dI : au.length ≤ aZ) (hr1 : Kd.C l7 w A1 l1.length l1) (hc1 : l1.length ≤ c1) (h : vU.f au l1 = some r) :
  Calls Tryz.prog 152 #[.agg #[.slice bB au.length aZ], .slice A1 l1.length c1] w fun e w' => e = .returned (.string r) ∧ Below w.heap.size w w' := by
 unfold vU.f at h
 split at h
 ·rename_i hs
  injection h with h
  subst h
  unfold Xh at hs
  simp only [Bool.and_eq_true, decide_eq_true_eq, List.all_eq_true] at hs; obtain ⟨h1, h2, h3, h4, h5⟩ := hs; exact O5 bB aZ au A1 c1 l1 w dx dI hr1 hc1 ⟨⟨h1, h2⟩, ⟨h3, h4⟩, fun n hn => O6 n (h5 n hn)⟩ (Bt w _ h5) (fun W _ => Bt W _ (by simp only [List.mem_cons, List.not_mem_nil, or_false]; omega))
 ·cases h
end Go.Proofs.YtnpfbjnjdngkhaaGreatDoor.P
namespace Go.Proofs.YtnpfbjnjdngkhaaGreatDoor.P
open Go.RowKit Go.Proofs.YtnpfbjnjdngkhaaGreatDoorW.aW Go.Proofs.YtnpfbjnjdngkhaaGreatDoorW.bZ Go.Proofs.YtnpfbjnjdngkhaaGreatDoorW.dh
attribute [local go_sem] fE fF gU gV eX eY fG fH
def yV.f (au : List bO) (l1 : List dN) : Option (ByteArray × Int) := (fq.f au).bind fun t302 => (if t302 = true then ((ji.f au l1 0).bind fun t303 => (if t303 = true then ((vU.f au l1).bind fun t304 => (some (t304, 0))) else (some ((⟨#[]⟩ : ByteArray), 2)))) else (some ((⟨#[]⟩ : ByteArray), 2)))
theorem yV.calls (bB : Option Addr) (aZ : Nat) (au : List bO) (A1 : Option Addr) (c1 : Nat) (l1 : List dN) (r1 : ByteArray) (r2 : Int) (w : World) (dx : Kd.C iM w bB au.length au) (dI : au.length ≤ aZ) (hr1 : Kd.C l7 w A1 l1.length l1) (hc1 : l1.length ≤ c1) (h : yV.f au l1 = some (r1, r2)) :
  Calls Tryz.prog 60 #[.agg #[.slice bB au.length aZ], .slice A1 l1.length c1] w fun e w' => e = .returned (.tuple #[.string r1, .int .i64 r2]) ∧ Below w.heap.size w w' := by
 have o8 := Tryz.underlying24; have dJ := aj.mk dx; have eu := aj.mk dI; clear dx dI; have HR1 := aj.mk hr1; have uU := aj.mk hc1; clear hr1 hc1; have HB := aj.mk (Below.refl w.heap.size w); have H : ((fq.f au).bind fun t302 => (if t302 = true then ((ji.f au l1 0).bind fun t303 => (if t303 = true then ((vU.f au l1).bind fun t304 => (some (t304, 0))) else (some ((⟨#[]⟩ : ByteArray), 2)))) else (some ((⟨#[]⟩ : ByteArray), 2)))) = some (r1, r2) := h; clear h; obtain ⟨t302, A3, H⟩ := lV H
 by_cases c4 : t302 = true
 ·subst c4
  rw [if_pos rfl] at H; obtain ⟨t303, A5, H⟩ := lV H
  by_cases c6 : t303 = true
  ·subst c6
   rw [if_pos rfl] at H; obtain ⟨t304, A7, H⟩ := lV H; simp only [Option.some.injEq, Prod.mk.injEq] at H; obtain ⟨rfl, rfl⟩ := H
   go_enter Tryz.func60, Tryz.ntmps60
   go_wp2_with (first | ((with_reducible refine av (N := 2) rfl ?_); refine fA 2 #[.slice bB au.length aZ] 24 HB ?_; clear HB; intro qbM w8 hg lN qbN HB hb; clear hb hg; have zn := bc1 lN; have zo := bf lN 0) | ((with_reducible refine aD (f := 105) rfl ?_); refine bW (some 7) rfl rfl Tryz.func105 tX rfl #[.agg #[.slice bB au.length aZ]] rfl tM ?_; (with_reducible refine (fq.calls _ _ au true _ ?bF ?bG A3.out).mono ?_); (case bF => repeat (first | exact (Kd.ak dJ.out HB.out) | (with_reducible refine Kd.bC ?_ _) | (with_reducible refine Kd.bD ?_ _) | (with_reducible refine Kd.bQ ?_))); (case bG => exact eu.out); rintro e JV ⟨rfl, hb⟩; refine ⟨_, rfl, ?_⟩; replace lN := bV lN hb; replace HB := dL HB hb; (try clear hb); have yJ := bc1 lN; have yK := bf lN 0) | (go_at_call 127; (with_reducible refine (ji.calls _ _ au _ _ l1 0 true _ ?bF ?bG ?eG ?eH A5.out).mono ?_); (case bF => repeat (first | exact (Kd.ak dJ.out HB.out) | (with_reducible refine Kd.bC ?_ _) | (with_reducible refine Kd.bD ?_ _) | (with_reducible refine Kd.bQ ?_))); (case bG => exact eu.out); (case eG => repeat (first | exact (Kd.ak HR1.out HB.out) | (with_reducible refine Kd.bC ?_ _) | (with_reducible refine Kd.bD ?_ _) | (with_reducible refine Kd.bQ ?_))); (case eH => exact uU.out); rintro e y9 ⟨rfl, hb⟩; replace lN := bV lN hb; replace HB := dL HB hb; (try clear hb); have wD := bc1 lN; have wE := bf lN 0) | ((with_reducible refine aD (f := 152) rfl ?_); refine bW (some 17) rfl rfl Tryz.func152 tX rfl #[.agg #[.slice bB au.length aZ], .slice A1 l1.length c1] rfl tM ?_; (with_reducible refine (vU.calls _ _ au _ _ l1 t304 _ ?bF ?bG ?eG ?eH A7.out).mono ?_); (case bF => repeat (first | exact (Kd.ak dJ.out HB.out) | (with_reducible refine Kd.bC ?_ _) | (with_reducible refine Kd.bD ?_ _) | (with_reducible refine Kd.bQ ?_))); (case bG => exact eu.out); (case eG => repeat (first | exact (Kd.ak HR1.out HB.out) | (with_reducible refine Kd.bC ?_ _) | (with_reducible refine Kd.bD ?_ _) | (with_reducible refine Kd.bQ ?_))); (case eH => exact uU.out); rintro e Uo ⟨rfl, hb⟩; refine ⟨_, rfl, ?_⟩; replace lN := bV lN hb; replace HB := dL HB hb; (try clear hb)))
   go_ret2
   exact ⟨tF, tB⟩
  ·replace c6 := Bool.eq_false_iff.mpr c6
   subst c6
   have H1 : (some ((⟨#[]⟩ : ByteArray), 2)) = some (r1, r2) := by rw [if_neg (show ¬ (false = true) by decide)] at H; exact H
   clear H; have H := H1; clear H1; simp only [Option.some.injEq, Prod.mk.injEq] at H; obtain ⟨rfl, rfl⟩ := H
   go_enter Tryz.func60, Tryz.ntmps60
   go_wp2_with (first | ((with_reducible refine av (N := 2) rfl ?_); refine fA 2 #[.slice bB au.length aZ] 24 HB ?_; clear HB; intro qbM ML hg lN qbN HB hb; clear hb hg; have uH := bc1 lN; have uI := bf lN 0) | ((with_reducible refine aD (f := 105) rfl ?_); refine bW (some 7) rfl rfl Tryz.func105 tX rfl #[.agg #[.slice bB au.length aZ]] rfl tM ?_; (with_reducible refine (fq.calls _ _ au true _ ?bF ?bG A3.out).mono ?_); (case bF => repeat (first | exact (Kd.ak dJ.out HB.out) | (with_reducible refine Kd.bC ?_ _) | (with_reducible refine Kd.bD ?_ _) | (with_reducible refine Kd.bQ ?_))); (case bG => exact eu.out); rintro e YE ⟨rfl, hb⟩; refine ⟨_, rfl, ?_⟩; replace lN := bV lN hb; replace HB := dL HB hb; (try clear hb); have QC := bc1 lN; have QD := bf lN 0) | (go_at_call 127; (with_reducible refine (ji.calls _ _ au _ _ l1 0 false _ ?bF ?bG ?eG ?eH A5.out).mono ?_); (case bF => repeat (first | exact (Kd.ak dJ.out HB.out) | (with_reducible refine Kd.bC ?_ _) | (with_reducible refine Kd.bD ?_ _) | (with_reducible refine Kd.bQ ?_))); (case bG => exact eu.out); (case eG => repeat (first | exact (Kd.ak HR1.out HB.out) | (with_reducible refine Kd.bC ?_ _) | (with_reducible refine Kd.bD ?_ _) | (with_reducible refine Kd.bQ ?_))); (case eH => exact uU.out); rintro e w19 ⟨rfl, hb⟩; replace lN := bV lN hb; replace HB := dL HB hb; (try clear hb)))
   go_ret2
   exact ⟨tF, tB⟩
 ·replace c4 := Bool.eq_false_iff.mpr c4
  subst c4
  have H1 : (some ((⟨#[]⟩ : ByteArray), 2)) = some (r1, r2) := by rw [if_neg (show ¬ (false = true) by decide)] at H; exact H
  clear H; have H := H1; clear H1; simp only [Option.some.injEq, Prod.mk.injEq] at H; obtain ⟨rfl, rfl⟩ := H
  go_enter Tryz.func60, Tryz.ntmps60
  go_wp2_with (first | ((with_reducible refine av (N := 2) rfl ?_); refine fA 2 #[.slice bB au.length aZ] 24 HB ?_; clear HB; intro qbM w20 hg lN qbN HB hb; clear hb hg; have Ee := bc1 lN; have Ef := bf lN 0) | ((with_reducible refine aD (f := 105) rfl ?_); refine bW (some 7) rfl rfl Tryz.func105 tX rfl #[.agg #[.slice bB au.length aZ]] rfl tM ?_; (with_reducible refine (fq.calls _ _ au false _ ?bF ?bG A3.out).mono ?_); (case bF => repeat (first | exact (Kd.ak dJ.out HB.out) | (with_reducible refine Kd.bC ?_ _) | (with_reducible refine Kd.bD ?_ _) | (with_reducible refine Kd.bQ ?_))); (case bG => exact eu.out); rintro e w22 ⟨rfl, hb⟩; refine ⟨_, rfl, ?_⟩; replace lN := bV lN hb; replace HB := dL HB hb; (try clear hb)))
  go_ret2
  exact ⟨tF, tB⟩
def eP.l0 : Nat → List Int → List Int → Int → Option Bool
 | 0, _, _, _ => none
 | k + 1, x0, x1, x5 => if x5 < (x0.length : Int) then (if 0 ≤ x5 then (if x5 < (x1.length : Int) then (if (rd x0 x5) = (rd x1 x5) then (eP.l0 k x0 x1 (wrap64 (x5 + 1))) else (some false)) else (none)) else (none)) else (some true)
def eP.f (k : Nat) (l0 : List Int) (l1 : List Int) : Option Bool := if (l0.length : Int) = (l1.length : Int) then (eP.l0 k l0 l1 0) else (some false)
theorem eP.calls (k : Nat) (A0 : Option Addr) (c0 : Nat) (l0 : List Int) (A1 : Option Addr) (c1 : Nat) (l1 : List Int) (r : Bool) (w : World) (hr0 : Kd.C (Kd.int .i64) w A0 l0.length l0) (hc0 : l0.length ≤ c0) (hr1 : Kd.C (Kd.int .i64) w A1 l1.length l1) (hc1 : l1.length ≤ c1) (h : eP.f k l0 l1 = some r) :
  Calls Tryz.prog 38 #[.slice A0 l0.length c0, .slice A1 l1.length c1] w fun e w' => e = .returned (.bool r) ∧ iw w w' := by
 have BR := aj.mk hr0; have XU := aj.mk hc0; clear hr0 hc0; have HR1 := aj.mk hr1; have uU := aj.mk hc1; clear hr1 hc1; have H : (if (l0.length : Int) = (l1.length : Int) then (eP.l0 k l0 l1 0) else (some false)) = some r := h; clear h
 by_cases c3 : (l0.length : Int) = (l1.length : Int)
 ·rw [if_pos c3] at H
  have oZ : ((l0.length : Int) == (l1.length : Int)) = true := beq_iff_eq.mpr c3; have zq : ((l0.length : Int) != (l1.length : Int)) = false := bne_eq_false_iff_eq.mpr c3
  have Ca : (l0.length == l1.length) = true := by first | simpa using c3 | (simp at c3 ⊢; omega)
  clear c3; have H' := aj.mk H; clear H
  go_enter Tryz.func38, Tryz.ntmps38
  go_wp2
  repeat (go_quiet (fail); try go_wp2)
  go_loopg [5] k (fun kq v5 w' => ∃ (aQ : Int), v5 = .int .i64 aQ ∧ aj (eP.l0 kq l0 l1 aQ = some r) ∧ aj (kq ≤ k) ∧ iw w w')
  case atStart => exact ⟨(0), tS, H', ⟨Nat.le_refl _⟩, tD⟩
  case round =>
   clear H'
   try clear c1
   try clear p2
   try clear c3
   try clear oZ
   try clear zq
   try clear Ca
   obtain ⟨aQ, rfl, HA, ng, ⟨m1, rfl⟩⟩ := hrel
   cases gk with
   | zero => exact absurd HA.out (by simp [eP.l0])
   | succ k1 =>
    have H := HA.out; clear HA; simp only [eP.l0] at H
    by_cases c4 : aQ < (l0.length : Int)
    ·rw [if_pos c4] at H
     have o7 : decide (aQ < (l0.length : Int)) = true := decide_eq_true c4; clear c4
     by_cases c5 : 0 ≤ aQ
     ·rw [if_pos c5] at H
      have y5 : decide (0 ≤ aQ) = true := decide_eq_true c5; clear c5
      by_cases c6 : aQ < (l1.length : Int)
      ·rw [if_pos c6] at H
       have IG : decide (aQ < (l1.length : Int)) = true := decide_eq_true c6; clear c6
       by_cases c7 : (rd l0 aQ) = (rd l1 aQ)
       ·rw [if_pos c7] at H
        have xu : ((rd l0 aQ) == (rd l1 aQ)) = true := beq_iff_eq.mpr c7; have qee : ((rd l0 aQ) != (rd l1 aQ)) = false := bne_eq_false_iff_eq.mpr c7; clear c7; have H' := aj.mk H; clear H; have O7 : 0 ≤ (aQ : Int) := of_decide_eq_true tA; have O8 : aQ < (l0.length : Int) := of_decide_eq_true tA; obtain ⟨qg7, e190, qad⟩ := Kd.iH BR.out aQ O7 O8
        cases e190
        replace O7 := eq_true O7; replace O8 := eq_true O8; have O9 : 0 ≤ (aQ : Int) := of_decide_eq_true tA; have Pb : aQ < (l1.length : Int) := of_decide_eq_true tA; obtain ⟨qg8, qef, qae⟩ := Kd.iH HR1.out aQ O9 Pb
        cases qef
        replace O9 := eq_true O9; replace Pb := eq_true Pb
        go_wp2
        repeat (go_quiet (fail); try go_wp2)
        go_roundg k1
        case measure => have := ng.out; omega
        case rel => exact ⟨(wrap64 (aQ + 1)), tS, H', ⟨by have := ng.out; omega⟩, tD⟩
       ·rw [if_neg c7] at H
        have xu : ((rd l0 aQ) == (rd l1 aQ)) = false := beq_eq_false_iff_ne.mpr c7; have qee : ((rd l0 aQ) != (rd l1 aQ)) = true := bne_iff_ne.mpr c7; obtain rfl := Option.some.inj H; have O7 : 0 ≤ (aQ : Int) := of_decide_eq_true tA; have O8 : aQ < (l0.length : Int) := of_decide_eq_true tA; obtain ⟨qg7, e190, qad⟩ := Kd.iH BR.out aQ O7 O8
        cases e190
        replace O7 := eq_true O7; replace O8 := eq_true O8; have O9 : 0 ≤ (aQ : Int) := of_decide_eq_true tA; have Pb : aQ < (l1.length : Int) := of_decide_eq_true tA; obtain ⟨qg8, qef, qae⟩ := Kd.iH HR1.out aQ O9 Pb
        cases qef
        replace O9 := eq_true O9; replace Pb := eq_true Pb
        go_wp2
        repeat (go_quiet (fail); try go_wp2)
        go_ret
        exact ⟨tS, tD⟩
      ·rw [if_neg c6] at H
       exact absurd H (by simp)
     ·rw [if_neg c5] at H
      exact absurd H (by simp)
    ·rw [if_neg c4] at H
     have o7 : decide (aQ < (l0.length : Int)) = false := decide_eq_false c4; clear c4; obtain rfl := Option.some.inj H
     go_wp2
     repeat (go_quiet (fail); try go_wp2)
     go_ret
     exact ⟨tS, tD⟩
 ·rw [if_neg c3] at H
  have oZ : ((l0.length : Int) == (l1.length : Int)) = false := beq_eq_false_iff_ne.mpr c3; have zq : ((l0.length : Int) != (l1.length : Int)) = true := bne_iff_ne.mpr c3
  have Ca : (l0.length == l1.length) = false := by first | simpa using c3 | (simp at c3 ⊢; omega)
  obtain rfl := Option.some.inj H
  go_enter Tryz.func38, Tryz.ntmps38
  go_wp2
  repeat (go_quiet (fail); try go_wp2)
  go_ret
  exact ⟨tS, tD⟩
def gP.l0 : Nat → List Int → List Int → Int → Option Bool
 | 0, _, _, _ => none
 | k + 1, x0, x1, x5 => if x5 < (x0.length : Int) then (if 0 ≤ x5 then (if x5 < (x1.length : Int) then (if (rd x0 x5) = (rd x1 x5) then (gP.l0 k x0 x1 (wrap64 (x5 + 1))) else (some false)) else (none)) else (none)) else (some true)
def gP.f (k : Nat) (l0 : List Int) (l1 : List Int) : Option Bool := if (l0.length : Int) = (l1.length : Int) then (gP.l0 k l0 l1 0) else (some false)
theorem gP.calls (k : Nat) (A0 : Option Addr) (c0 : Nat) (l0 : List Int) (A1 : Option Addr) (c1 : Nat) (l1 : List Int) (r : Bool) (w : World) (hr0 : Kd.C (Kd.int .i64) w A0 l0.length l0) (hc0 : l0.length ≤ c0) (hr1 : Kd.C (Kd.int .i64) w A1 l1.length l1) (hc1 : l1.length ≤ c1) (h : gP.f k l0 l1 = some r) :
  Calls Tryz.prog 65 #[.slice A0 l0.length c0, .slice A1 l1.length c1] w fun e w' => e = .returned (.bool r) ∧ iw w w' := by
 have BR := aj.mk hr0; have XU := aj.mk hc0; clear hr0 hc0; have HR1 := aj.mk hr1; have uU := aj.mk hc1; clear hr1 hc1; have H : (if (l0.length : Int) = (l1.length : Int) then (gP.l0 k l0 l1 0) else (some false)) = some r := h; clear h
 by_cases c3 : (l0.length : Int) = (l1.length : Int)
 ·rw [if_pos c3] at H
  have oZ : ((l0.length : Int) == (l1.length : Int)) = true := beq_iff_eq.mpr c3; have zq : ((l0.length : Int) != (l1.length : Int)) = false := bne_eq_false_iff_eq.mpr c3
  have Ca : (l0.length == l1.length) = true := by first | simpa using c3 | (simp at c3 ⊢; omega)
  clear c3; have H' := aj.mk H; clear H
  go_enter Tryz.func65, Tryz.ntmps65
  go_wp2
  repeat (go_quiet (fail); try go_wp2)
  go_loopg [5] k (fun kq v5 w' => ∃ (aQ : Int), v5 = .int .i64 aQ ∧ aj (gP.l0 kq l0 l1 aQ = some r) ∧ aj (kq ≤ k) ∧ iw w w')
  case atStart => exact ⟨(0), tS, H', ⟨Nat.le_refl _⟩, tD⟩
  case round =>
   clear H'
   try clear c1
   try clear p2
   try clear c3
   try clear oZ
   try clear zq
   try clear Ca
   obtain ⟨aQ, rfl, HA, ng, ⟨m1, rfl⟩⟩ := hrel
   cases gk with
   | zero => exact absurd HA.out (by simp [gP.l0])
   | succ k1 =>
    have H := HA.out; clear HA; simp only [gP.l0] at H
    by_cases c4 : aQ < (l0.length : Int)
    ·rw [if_pos c4] at H
     have o7 : decide (aQ < (l0.length : Int)) = true := decide_eq_true c4; clear c4
     by_cases c5 : 0 ≤ aQ
     ·rw [if_pos c5] at H
      have y5 : decide (0 ≤ aQ) = true := decide_eq_true c5; clear c5
      by_cases c6 : aQ < (l1.length : Int)
      ·rw [if_pos c6] at H
       have IG : decide (aQ < (l1.length : Int)) = true := decide_eq_true c6; clear c6
       by_cases c7 : (rd l0 aQ) = (rd l1 aQ)
       ·rw [if_pos c7] at H
        have xu : ((rd l0 aQ) == (rd l1 aQ)) = true := beq_iff_eq.mpr c7; have qee : ((rd l0 aQ) != (rd l1 aQ)) = false := bne_eq_false_iff_eq.mpr c7; clear c7; have H' := aj.mk H; clear H; have Pd : 0 ≤ (aQ : Int) := of_decide_eq_true tA; have Pe : aQ < (l0.length : Int) := of_decide_eq_true tA; obtain ⟨qg9, e305, qaf⟩ := Kd.iH BR.out aQ Pd Pe
        cases e305
        replace Pd := eq_true Pd; replace Pe := eq_true Pe; have Pf : 0 ≤ (aQ : Int) := of_decide_eq_true tA; have Pg : aQ < (l1.length : Int) := of_decide_eq_true tA; obtain ⟨qha, e306, qag⟩ := Kd.iH HR1.out aQ Pf Pg
        cases e306
        replace Pf := eq_true Pf; replace Pg := eq_true Pg
        go_wp2
        repeat (go_quiet (fail); try go_wp2)
        go_roundg k1
        case measure => have := ng.out; omega
        case rel => exact ⟨(wrap64 (aQ + 1)), tS, H', ⟨by have := ng.out; omega⟩, tD⟩
       ·rw [if_neg c7] at H
        have xu : ((rd l0 aQ) == (rd l1 aQ)) = false := beq_eq_false_iff_ne.mpr c7; have qee : ((rd l0 aQ) != (rd l1 aQ)) = true := bne_iff_ne.mpr c7; obtain rfl := Option.some.inj H; have Pd : 0 ≤ (aQ : Int) := of_decide_eq_true tA; have Pe : aQ < (l0.length : Int) := of_decide_eq_true tA; obtain ⟨qg9, e305, qaf⟩ := Kd.iH BR.out aQ Pd Pe
        cases e305
        replace Pd := eq_true Pd; replace Pe := eq_true Pe; have Pf : 0 ≤ (aQ : Int) := of_decide_eq_true tA; have Pg : aQ < (l1.length : Int) := of_decide_eq_true tA; obtain ⟨qha, e306, qag⟩ := Kd.iH HR1.out aQ Pf Pg
        cases e306
        replace Pf := eq_true Pf; replace Pg := eq_true Pg
        go_wp2
        repeat (go_quiet (fail); try go_wp2)
        go_ret
        exact ⟨tS, tD⟩
      ·rw [if_neg c6] at H
       exact absurd H (by simp)
     ·rw [if_neg c5] at H
      exact absurd H (by simp)
    ·rw [if_neg c4] at H
     have o7 : decide (aQ < (l0.length : Int)) = false := decide_eq_false c4; clear c4; obtain rfl := Option.some.inj H
     go_wp2
     repeat (go_quiet (fail); try go_wp2)
     go_ret
     exact ⟨tS, tD⟩
 ·rw [if_neg c3] at H
  have oZ : ((l0.length : Int) == (l1.length : Int)) = false := beq_eq_false_iff_ne.mpr c3; have zq : ((l0.length : Int) != (l1.length : Int)) = true := bne_iff_ne.mpr c3
  have Ca : (l0.length == l1.length) = false := by first | simpa using c3 | (simp at c3 ⊢; omega)
  obtain rfl := Option.some.inj H
  go_enter Tryz.func65, Tryz.ntmps65
  go_wp2
  repeat (go_quiet (fail); try go_wp2)
  go_ret
  exact ⟨tS, tD⟩
def zH (h : List bO) (ws : List Int) (l : List bg) (d t n : Int) : Option (Int × Int) := cK.f 1000 h ws (l ++ [⟨d, t, ⟨n, n⟩⟩])
def isR (w0 w1 : Int) : Option (Int × Int) → Bool
 | some (a, b) => decide (w0 ≤ a) && decide (b ≤ w1)
 | none => false
def qY (is : Int → Bool) : Nat → Int → Bool → Int → Int → Bool × Int × Int
 | 0, _, met, lo, hi => (met, lo, hi)
 | m + 1, n, met, lo, hi => if is n then (if met then qY is m (n + 1) true lo n else qY is m (n + 1) true n n) else (if met then (true, lo, hi) else qY is m (n + 1) false lo hi)
def qbO (h : List bO) (ws : List Int) (l : List bg) (d t : Int) (want : bT) : Bool := iA h && (oP h.length ws && (gB h.length l && (!decide (l.length = 3) && (o9 d 0 (h.length - 1) && (o9 t 0 2 && CO want)))))
def yg (h : List bO) (ws : List Int) (l : List bg) (d t w0 w1 : Int) : Bool × Int × Int := qY (fun n => isR w0 w1 (zH h ws l d t n)) 13 0 false 0 0
def yh.f (h : List bO) (ws : List Int) (l : List bg) (d t w0 w1 : Int) : Option (Int × Int × Int) :=
 if qbO h ws l d t ⟨w0, w1⟩ then (if (List.range 13).all (fun n => (zH h ws l d t (n : Int)).isSome) then
  some (if (yg h ws l d t w0 w1).1 then ((yg h ws l d t w0 w1).2.1, (yg h ws l d t w0 w1).2.2, 0) else (0, 0, 5)) else none) else some (0, 0, 2)
theorem Bx.tail {p : Nat × Obj} {L : List (Nat × Obj)} {w W : World} (h : Bx (p :: L) w W) : Bx L w W := ⟨h.below, fun q hq => h.get q (List.mem_cons_of_mem _ hq), fun q hq => h.lo q (List.mem_cons_of_mem _ hq), (List.nodup_cons.1 h.nd).2⟩
structure DI where
 v4 : Value
 v11 : Value
 v12 : Value
 g : Nat
theorem Bx.row {L : List (Nat × Obj)} {w W w1 : World} {row : Option Nat} (h : Bx L w W) (hg : W.grownBy w1 row) (hlo : ∀ k, row = some k → w.heap.size ≤ k) (hne : ∀ p ∈ L, some p.1 ≠ row) : Bx L w w1 :=
 ⟨kW h.below row h.below.size hg hlo, fun p hp => (hg.block _ (cZ (h.get p hp)) (hne p hp)).trans (h.get p hp), h.lo, h.nd⟩
theorem Ub {L : List (Nat × Obj)} {w W : World} {P : Program} {ops : Array Oper} {o : Oper} {a : Act} {Q : Exit → Act → World → Prop} {Kc : Act → World → Prop} (hw : Region.wanted o (yielded ops a.tmps) = true) (hN : o.dst = none) {t : TypeId} {p : Tmp} {v : Operand} (ho : o.op = .store t (.tmp p) v) (HX : Bx L w W) (n : Nat)
  {g i : Nat} {cs : Array Value} {t' : TypeId} (hn : L[n]? = some (g, .cells cs t' (0, 0))) (u : Value) (seg : List Value) (cs' : Array Value)
  (hp : a.eval (.tmp p) = .pointer (some ⟨g, i, none⟩)) (hv : a.eval v = u) (hu : u.cells.toList = seg) (ht : (P.info? t).map (·.size) = some seg.length) (hfit : i + seg.length ≤ cs.size) (h1 : ∀ q ∈ seg, q.oneCell' = true)
  (hcs : cs.toList.take i ++ seg ++ cs.toList.drop (i + seg.length) = cs'.toList)
  (h : ∀ w1, Bx (L.set n (g, .cells cs' t' (0, 0))) w w1 → W.grownBy w1 (some g) → Kc a w1) : if Region.wanted o (yielded ops a.tmps) = true then Oper.wp P o a W Kc Q else Kc (a.put none undef) W := by
 have HK := HX.get _ (List.mem_of_getElem? hn); obtain ⟨cur', h3, h4, h5⟩ := lT seg i W cs HK hfit; obtain ⟨s1, s2, s3, s4⟩ := kG g seg i W; have hg : W.grownBy (W.setCells g i seg) (some g) := ⟨s1, s2, s3, by rw [s4]; exact Nat.le_refl _, fun k _ hk => kD _ _ k (fun he => hk (by rw [he]))⟩
 obtain rfl : cur' = cs' := by rw [← Array.toList_inj, h5, hcs]
 refine qaF hw hN (w1 := W.setCells g i seg) ?_ (h _ (HX.put n hn hg h3) hg); have hr := qD (P := P) t u seg HK hu ht hfit h1
 unfold execOp
 rw [ho]; simp only [hp, hv]; simp [hr]
theorem yh.calls (bB : Option Addr) (aZ : Nat) (au : List bO) (gu : Option Addr) (gq : Nat) (bN : List Int) (A2 : Option Addr) (c2 : Nat) (l2 : List bg) (a3 : Int) (a4 : Int) (nN : Int) (nO : Int) (r1 : Int) (r2 : Int) (r3 : Int) (w : World) (dx : Kd.C iM w bB au.length au) (dI : au.length ≤ aZ) (kF : Kd.C (Kd.int .i64) w gu bN.length bN) (nk : bN.length ≤ gq) (hr2 : Kd.C eT w A2 l2.length l2) (hc2 : l2.length ≤ c2) (h : yh.f au bN l2 a3 a4 nN nO = some (r1, r2, r3)) :
  Calls Tryz.prog 40 #[.agg #[.slice bB au.length aZ], .agg #[.slice gu bN.length gq], .slice A2 l2.length c2, .int .i64 a3, .int .i64 a4, .agg #[.int .i64 nN, .int .i64 nO]] w fun e w' => e = .returned (.tuple #[.agg #[.int .i64 r1, .int .i64 r2], .int .i64 r3]) ∧ Below w.heap.size w w' := by
 have HX := Bx.nil w
 have K1 := fun w1 (hb : Below w.heap.size w w1) => c105 bB aZ au w1 (Kd.ak dx hb) dI
 have K2 := fun w1 (hb : Below w.heap.size w w1) => c116 bB aZ au w1 (Kd.ak dx hb) dI gu gq bN (Kd.ak kF hb) nk
 have K3 := fun w1 (hb : Below w.heap.size w w1) => qcO bB aZ au w1 (Kd.ak dx hb) dI A2 c2 l2 (Kd.ak hr2 hb) hc2
 have K5 := fun w1 => rC a3 0 (au.length - 1) w1
 have K6 := fun w1 => rC a4 0 2 w1
 have K7 := fun w1 => qlH nN nO w1
 have hm0 : au.length ≤ 9223372036854775807 := dx.2.1; have HR := aj.mk (And.intro dx (And.intro kF hr2))
 unfold yh.f qbO at h
 obtain ⟨b1, hb1⟩ : ∃ b, b = iA au := ⟨_, rfl⟩; obtain ⟨b2, hb2⟩ : ∃ b, b = oP au.length bN := ⟨_, rfl⟩; obtain ⟨b3, hb3⟩ : ∃ b, b = gB au.length l2 := ⟨_, rfl⟩; obtain ⟨b5, hb5⟩ : ∃ b, b = o9 a3 0 (au.length - 1) := ⟨_, rfl⟩; obtain ⟨b6, hb6⟩ : ∃ b, b = o9 a4 0 2 := ⟨_, rfl⟩; obtain ⟨b7, hb7⟩ : ∃ b, b = CO ⟨nN, nO⟩ := ⟨_, rfl⟩; have HG := aj.mk (And.intro hb1 (And.intro hb2 (And.intro hb3 (And.intro hb5 (And.intro hb6 hb7))))); rw [← hb1, ← hb2, ← hb3, ← hb5, ← hb6, ← hb7] at h; rw [← hb1] at K1; rw [← hb2] at K2; rw [← hb3] at K3; rw [← hb5] at K5; rw [← hb6] at K6; rw [← hb7] at K7; clear hb1 hb2 hb3 hb5 hb6 hb7 dx kF hr2; have o8 := Tryz.underlying24; have IY := Tryz.underlying49; have wY := Tryz.underlying149; have CF := Tryz.underlying154; have kg := Tryz.underlying37
 have hc : (b1 = false ∨ b1 = true ∧ b2 = false ∨ b1 = true ∧ b2 = true ∧ b3 = false ∨ b1 = true ∧ b2 = true ∧ b3 = true ∧ l2.length = 3 ∨ b1 = true ∧ b2 = true ∧ b3 = true ∧ l2.length ≠ 3 ∧ b5 = false ∨ b1 = true ∧ b2 = true ∧ b3 = true ∧ l2.length ≠ 3 ∧ b5 = true ∧ b6 = false ∨ b1 = true ∧ b2 = true ∧ b3 = true ∧ l2.length ≠ 3 ∧ b5 = true ∧ b6 = true ∧ b7 = false) ∨ (b1 = true ∧ b2 = true ∧ b3 = true ∧ l2.length ≠ 3 ∧ b5 = true ∧ b6 = true ∧ b7 = true) := by
  by_cases hl : l2.length = 3 <;> cases b1 <;> cases b2 <;> cases b3 <;> cases b5 <;> cases b6 <;> cases b7 <;> simp [hl]
 rcases hc with hc | hc
 ·obtain ⟨rfl, rfl, rfl⟩ : r1 = 0 ∧ r2 = 0 ∧ r3 = 2 := by
   rcases hc with rfl | ⟨rfl, rfl⟩ | ⟨rfl, rfl, rfl⟩ | ⟨rfl, rfl, rfl, hl⟩ | ⟨rfl, rfl, rfl, hl, rfl⟩ | ⟨rfl, rfl, rfl, hl, rfl, rfl⟩ | ⟨rfl, rfl, rfl, hl, rfl, rfl, rfl⟩ <;> (simp (config := { failIfUnchanged := false }) [*] at h; exact ⟨h.1.symm, h.2.1.symm, h.2.2.symm⟩)
  clear h HG
  have hl0 : l2.length = 3 ∨ ((l2.length : Int) == 3) = false := by
   by_cases hl : l2.length = 3
   ·exact .inl hl
   ·exact .inr (by simp; omega)
  rcases hc with rfl | ⟨rfl, rfl⟩ | ⟨rfl, rfl, rfl⟩ | ⟨rfl, rfl, rfl, hl⟩ | ⟨rfl, rfl, rfl, hl, rfl⟩ | ⟨rfl, rfl, rfl, hl, rfl, rfl⟩ | ⟨rfl, rfl, rfl, hl, rfl, rfl, rfl⟩
  case inl.inr.inr.inr.inl =>
   have hl3 : ((l2.length : Int) == 3) = true := by simp [hl]
   clear hl hl0
   go_enter Tryz.func40, Tryz.ntmps40
   go_wp2_with (first | ((with_reducible refine av (N := 6) rfl ?_); refine newX rfl rfl HX (cs := #[.slice bB au.length aZ]) (t := 24) tG ?_; clear HX; intro g6 w6 HX hx hz; clear hx hz) | ((with_reducible refine av (N := 7) rfl ?_); refine newX rfl rfl HX (cs := #[.slice gu bN.length gq]) (t := 49) tG ?_; clear HX; intro g7 w7 HX hx hz; clear hx hz) | ((with_reducible refine av (N := 11) rfl ?_); refine newX rfl rfl HX (cs := #[.int .i64 nN, .int .i64 nO]) (t := 37) tG ?_; clear HX; intro g11 JW HX hx hz; clear hx hz) | ((with_reducible refine av (N := 12) rfl ?_); refine newX rfl rfl HX (cs := #[.int .i64 0, .int .i64 0]) (t := 37) tG ?_; clear HX; intro g12 y9 HX hx hz; clear hx hz; have ch := HX.g1 3 rfl; have cl := HX.g1 2 rfl; obtain ⟨ug, uh⟩ := HX.g2 1 rfl; obtain ⟨nT, nU⟩ := HX.g2 0 rfl))
   go_step3
   go_wp2_with (first | (go_at_call 105; (with_reducible refine (K1 _ HX.below).mono ?_); rintro e w1 ⟨rfl, hx⟩; replace HX := HX.step hx; clear hx ch cl ug uh nT nU; have ch := HX.g1 3 rfl; have cl := HX.g1 2 rfl; obtain ⟨ug, uh⟩ := HX.g2 1 rfl; obtain ⟨nT, nU⟩ := HX.g2 0 rfl) | (go_at_call 116; (with_reducible refine (K2 _ HX.below).mono ?_); rintro e w1 ⟨rfl, hx⟩; replace HX := HX.step hx; clear hx ch cl ug uh nT nU; have ch := HX.g1 3 rfl; have cl := HX.g1 2 rfl; obtain ⟨ug, uh⟩ := HX.g2 1 rfl; obtain ⟨nT, nU⟩ := HX.g2 0 rfl) | (go_at_call 106; (with_reducible refine (K3 _ HX.below).mono ?_); rintro e w1 ⟨rfl, hx⟩; replace HX := HX.step hx; clear hx ch cl ug uh nT nU; have ch := HX.g1 3 rfl; have cl := HX.g1 2 rfl; obtain ⟨ug, uh⟩ := HX.g2 1 rfl; obtain ⟨nT, nU⟩ := HX.g2 0 rfl) | (go_at_call 113; (with_reducible first | refine (K5 _).mono ?_ | refine (K6 _).mono ?_); rintro e w1 ⟨rfl, hx⟩; replace HX := HX.step hx; clear hx ch cl ug uh nT nU; have ch := HX.g1 3 rfl; have cl := HX.g1 2 rfl; obtain ⟨ug, uh⟩ := HX.g2 1 rfl; obtain ⟨nT, nU⟩ := HX.g2 0 rfl) | (go_at_call 122; (with_reducible refine (K7 _).mono ?_); rintro e w1 ⟨rfl, hx⟩; replace HX := HX.step hx; clear hx ch cl ug uh nT nU; have ch := HX.g1 3 rfl; have cl := HX.g1 2 rfl; obtain ⟨ug, uh⟩ := HX.g2 1 rfl; obtain ⟨nT, nU⟩ := HX.g2 0 rfl) | ((with_reducible refine bE (t := 37) (p := 12) rfl ?_); refine kL rfl rfl rfl HX 0 rfl (i := 0) (.agg #[.int .i64 0, .int .i64 0]) [.int .i64 0, .int .i64 0] #[.int .i64 0, .int .i64 0] rfl rfl rfl tX (by simp) (by simp [Value.oneCell']) rfl ?_; clear HX; intro w9 HX hx; clear hx; dsimp only [List.set] at HX))
   rw [Exit.noGoto_ret]; refine bodyPost_ret (lQ rfl _ _ g12 37 #[.int .i64 0, .int .i64 0] (0, 0) _ rfl (HX.gb 0 rfl) Tryz.underlying37 rfl tX) rfl ?_; exact ⟨rfl, HX.below⟩
  case inl.inl | inl.inr.inl | inl.inr.inr.inl =>
   clear hl0
   go_enter Tryz.func40, Tryz.ntmps40
   go_wp2_with (first | ((with_reducible refine av (N := 6) rfl ?_); refine newX rfl rfl HX (cs := #[.slice bB au.length aZ]) (t := 24) tG ?_; clear HX; intro g6 w6 HX hx hz; clear hx hz) | ((with_reducible refine av (N := 7) rfl ?_); refine newX rfl rfl HX (cs := #[.slice gu bN.length gq]) (t := 49) tG ?_; clear HX; intro g7 w7 HX hx hz; clear hx hz) | ((with_reducible refine av (N := 11) rfl ?_); refine newX rfl rfl HX (cs := #[.int .i64 nN, .int .i64 nO]) (t := 37) tG ?_; clear HX; intro g11 JW HX hx hz; clear hx hz) | ((with_reducible refine av (N := 12) rfl ?_); refine newX rfl rfl HX (cs := #[.int .i64 0, .int .i64 0]) (t := 37) tG ?_; clear HX; intro g12 y9 HX hx hz; clear hx hz; have ch := HX.g1 3 rfl; have cl := HX.g1 2 rfl; obtain ⟨ug, uh⟩ := HX.g2 1 rfl; obtain ⟨nT, nU⟩ := HX.g2 0 rfl))
   go_step3
   go_wp2_with (first | (go_at_call 105; (with_reducible refine (K1 _ HX.below).mono ?_); rintro e w1 ⟨rfl, hx⟩; replace HX := HX.step hx; clear hx ch cl ug uh nT nU; have ch := HX.g1 3 rfl; have cl := HX.g1 2 rfl; obtain ⟨ug, uh⟩ := HX.g2 1 rfl; obtain ⟨nT, nU⟩ := HX.g2 0 rfl) | (go_at_call 116; (with_reducible refine (K2 _ HX.below).mono ?_); rintro e w1 ⟨rfl, hx⟩; replace HX := HX.step hx; clear hx ch cl ug uh nT nU; have ch := HX.g1 3 rfl; have cl := HX.g1 2 rfl; obtain ⟨ug, uh⟩ := HX.g2 1 rfl; obtain ⟨nT, nU⟩ := HX.g2 0 rfl) | (go_at_call 106; (with_reducible refine (K3 _ HX.below).mono ?_); rintro e w1 ⟨rfl, hx⟩; replace HX := HX.step hx; clear hx ch cl ug uh nT nU; have ch := HX.g1 3 rfl; have cl := HX.g1 2 rfl; obtain ⟨ug, uh⟩ := HX.g2 1 rfl; obtain ⟨nT, nU⟩ := HX.g2 0 rfl) | (go_at_call 113; (with_reducible first | refine (K5 _).mono ?_ | refine (K6 _).mono ?_); rintro e w1 ⟨rfl, hx⟩; replace HX := HX.step hx; clear hx ch cl ug uh nT nU; have ch := HX.g1 3 rfl; have cl := HX.g1 2 rfl; obtain ⟨ug, uh⟩ := HX.g2 1 rfl; obtain ⟨nT, nU⟩ := HX.g2 0 rfl) | (go_at_call 122; (with_reducible refine (K7 _).mono ?_); rintro e w1 ⟨rfl, hx⟩; replace HX := HX.step hx; clear hx ch cl ug uh nT nU; have ch := HX.g1 3 rfl; have cl := HX.g1 2 rfl; obtain ⟨ug, uh⟩ := HX.g2 1 rfl; obtain ⟨nT, nU⟩ := HX.g2 0 rfl) | ((with_reducible refine bE (t := 37) (p := 12) rfl ?_); refine kL rfl rfl rfl HX 0 rfl (i := 0) (.agg #[.int .i64 0, .int .i64 0]) [.int .i64 0, .int .i64 0] #[.int .i64 0, .int .i64 0] rfl rfl rfl tX (by simp) (by simp [Value.oneCell']) rfl ?_; clear HX; intro w9 HX hx; clear hx; dsimp only [List.set] at HX))
   rw [Exit.noGoto_ret]; refine bodyPost_ret (lQ rfl _ _ g12 37 #[.int .i64 0, .int .i64 0] (0, 0) _ rfl (HX.gb 0 rfl) Tryz.underlying37 rfl tX) rfl ?_; exact ⟨rfl, HX.below⟩
  all_goals
   have hl3 := hl0.resolve_left hl; clear hl hl0
   go_enter Tryz.func40, Tryz.ntmps40
   go_wp2_with (first | ((with_reducible refine av (N := 6) rfl ?_); refine newX rfl rfl HX (cs := #[.slice bB au.length aZ]) (t := 24) tG ?_; clear HX; intro g6 w6 HX hx hz; clear hx hz) | ((with_reducible refine av (N := 7) rfl ?_); refine newX rfl rfl HX (cs := #[.slice gu bN.length gq]) (t := 49) tG ?_; clear HX; intro g7 w7 HX hx hz; clear hx hz) | ((with_reducible refine av (N := 11) rfl ?_); refine newX rfl rfl HX (cs := #[.int .i64 nN, .int .i64 nO]) (t := 37) tG ?_; clear HX; intro g11 JW HX hx hz; clear hx hz) | ((with_reducible refine av (N := 12) rfl ?_); refine newX rfl rfl HX (cs := #[.int .i64 0, .int .i64 0]) (t := 37) tG ?_; clear HX; intro g12 y9 HX hx hz; clear hx hz; have ch := HX.g1 3 rfl; have cl := HX.g1 2 rfl; obtain ⟨ug, uh⟩ := HX.g2 1 rfl; obtain ⟨nT, nU⟩ := HX.g2 0 rfl))
   go_step3
   go_wp2_with (first | (go_at_call 105; (with_reducible refine (K1 _ HX.below).mono ?_); rintro e w1 ⟨rfl, hx⟩; replace HX := HX.step hx; clear hx ch cl ug uh nT nU; have ch := HX.g1 3 rfl; have cl := HX.g1 2 rfl; obtain ⟨ug, uh⟩ := HX.g2 1 rfl; obtain ⟨nT, nU⟩ := HX.g2 0 rfl) | (go_at_call 116; (with_reducible refine (K2 _ HX.below).mono ?_); rintro e w1 ⟨rfl, hx⟩; replace HX := HX.step hx; clear hx ch cl ug uh nT nU; have ch := HX.g1 3 rfl; have cl := HX.g1 2 rfl; obtain ⟨ug, uh⟩ := HX.g2 1 rfl; obtain ⟨nT, nU⟩ := HX.g2 0 rfl) | (go_at_call 106; (with_reducible refine (K3 _ HX.below).mono ?_); rintro e w1 ⟨rfl, hx⟩; replace HX := HX.step hx; clear hx ch cl ug uh nT nU; have ch := HX.g1 3 rfl; have cl := HX.g1 2 rfl; obtain ⟨ug, uh⟩ := HX.g2 1 rfl; obtain ⟨nT, nU⟩ := HX.g2 0 rfl) | (go_at_call 113; (with_reducible first | refine (K5 _).mono ?_ | refine (K6 _).mono ?_); rintro e w1 ⟨rfl, hx⟩; replace HX := HX.step hx; clear hx ch cl ug uh nT nU; have ch := HX.g1 3 rfl; have cl := HX.g1 2 rfl; obtain ⟨ug, uh⟩ := HX.g2 1 rfl; obtain ⟨nT, nU⟩ := HX.g2 0 rfl) | (go_at_call 122; (with_reducible refine (K7 _).mono ?_); rintro e w1 ⟨rfl, hx⟩; replace HX := HX.step hx; clear hx ch cl ug uh nT nU; have ch := HX.g1 3 rfl; have cl := HX.g1 2 rfl; obtain ⟨ug, uh⟩ := HX.g2 1 rfl; obtain ⟨nT, nU⟩ := HX.g2 0 rfl) | ((with_reducible refine bE (t := 37) (p := 12) rfl ?_); refine kL rfl rfl rfl HX 0 rfl (i := 0) (.agg #[.int .i64 0, .int .i64 0]) [.int .i64 0, .int .i64 0] #[.int .i64 0, .int .i64 0] rfl rfl rfl tX (by simp) (by simp [Value.oneCell']) rfl ?_; clear HX; intro w9 HX hx; clear hx; dsimp only [List.set] at HX))
   rw [Exit.noGoto_ret]; refine bodyPost_ret (lQ rfl _ _ g12 37 #[.int .i64 0, .int .i64 0] (0, 0) _ rfl (HX.gb 0 rfl) Tryz.underlying37 rfl tX) rfl ?_; exact ⟨rfl, HX.below⟩
 ·obtain ⟨rfl, rfl, rfl, hl, rfl, rfl, rfl⟩ := hc
  have hl3 : ((l2.length : Int) == 3) = false := by simp; omega
  have hL : ∀ n : Nat, n < 13 → ∃ a b, zH au bN l2 a3 a4 n = some (a, b) := by
   intro n hn; simp only [decide_eq_false hl, Bool.not_false, Bool.and_self, if_true] at h
   by_cases ha : ((List.range 13).all fun n => (zH au bN l2 a3 a4 (n : Int)).isSome) = true
   ·have := List.all_eq_true.1 ha n (List.mem_range.2 hn)
    obtain ⟨x, hx⟩ := Option.isSome_iff_exists.1 this; exact ⟨x.1, x.2, hx⟩
   ·rw [if_neg ha] at h; cases h
  have hR : (if (yg au bN l2 a3 a4 nN nO).1 then ((yg au bN l2 a3 a4 nN nO).2.1, (yg au bN l2 a3 a4 nN nO).2.2, 0) else ((0 : Int), (0 : Int), (5 : Int))) = (r1, r2, r3) := by
   simp only [decide_eq_false hl, Bool.not_false, Bool.and_self, if_true] at h
   split at h
   ·exact Option.some.inj h
   ·cases h
  have HL := aj.mk hL; have HRR := aj.mk hR; have HN := aj.mk (show l2.length ≤ 3 from (nX HG.out.2.2.1.symm).len); clear h hL hR hl
  obtain ⟨is, his⟩ : ∃ is : Int → Bool, is = fun n => isR nN nO (zH au bN l2 a3 a4 n) := ⟨_, rfl⟩
  have HIS := aj.mk his; clear his
  go_enter Tryz.func40, Tryz.ntmps40
  go_wp2_with (first | ((with_reducible refine av (N := 6) rfl ?_); refine newX rfl rfl HX (cs := #[.slice bB au.length aZ]) (t := 24) tG ?_; clear HX; intro g6 w6 HX hx hz; clear hx hz) | ((with_reducible refine av (N := 7) rfl ?_); refine newX rfl rfl HX (cs := #[.slice gu bN.length gq]) (t := 49) tG ?_; clear HX; intro g7 w7 HX hx hz; clear hx hz) | ((with_reducible refine av (N := 11) rfl ?_); refine newX rfl rfl HX (cs := #[.int .i64 nN, .int .i64 nO]) (t := 37) tG ?_; clear HX; intro g11 JW HX hx hz; clear hx hz) | ((with_reducible refine av (N := 12) rfl ?_); refine newX rfl rfl HX (cs := #[.int .i64 0, .int .i64 0]) (t := 37) tG ?_; clear HX; intro g12 y9 HX hx hz; clear hx hz; have ch := HX.g1 3 rfl; have cl := HX.g1 2 rfl; obtain ⟨ug, uh⟩ := HX.g2 1 rfl; obtain ⟨nT, nU⟩ := HX.g2 0 rfl))
  go_step3
  go_wp2_with (first | (go_at_call 105; (with_reducible refine (K1 _ HX.below).mono ?_); rintro e w1 ⟨rfl, hx⟩; replace HX := HX.step hx; clear hx ch cl ug uh nT nU; have ch := HX.g1 3 rfl; have cl := HX.g1 2 rfl; obtain ⟨ug, uh⟩ := HX.g2 1 rfl; obtain ⟨nT, nU⟩ := HX.g2 0 rfl) | (go_at_call 116; (with_reducible refine (K2 _ HX.below).mono ?_); rintro e w1 ⟨rfl, hx⟩; replace HX := HX.step hx; clear hx ch cl ug uh nT nU; have ch := HX.g1 3 rfl; have cl := HX.g1 2 rfl; obtain ⟨ug, uh⟩ := HX.g2 1 rfl; obtain ⟨nT, nU⟩ := HX.g2 0 rfl) | (go_at_call 106; (with_reducible refine (K3 _ HX.below).mono ?_); rintro e w1 ⟨rfl, hx⟩; replace HX := HX.step hx; clear hx ch cl ug uh nT nU; have ch := HX.g1 3 rfl; have cl := HX.g1 2 rfl; obtain ⟨ug, uh⟩ := HX.g2 1 rfl; obtain ⟨nT, nU⟩ := HX.g2 0 rfl) | (go_at_call 113; (with_reducible first | refine (K5 _).mono ?_ | refine (K6 _).mono ?_); rintro e w1 ⟨rfl, hx⟩; replace HX := HX.step hx; clear hx ch cl ug uh nT nU; have ch := HX.g1 3 rfl; have cl := HX.g1 2 rfl; obtain ⟨ug, uh⟩ := HX.g2 1 rfl; obtain ⟨nT, nU⟩ := HX.g2 0 rfl) | (go_at_call 122; (with_reducible refine (K7 _).mono ?_); rintro e w1 ⟨rfl, hx⟩; replace HX := HX.step hx; clear hx ch cl ug uh nT nU; have ch := HX.g1 3 rfl; have cl := HX.g1 2 rfl; obtain ⟨ug, uh⟩ := HX.g2 1 rfl; obtain ⟨nT, nU⟩ := HX.g2 0 rfl) | ((with_reducible refine av (N := 14) rfl ?_); refine newX rfl rfl HX (cs := #[.int .i64 0, .int .i64 0]) (t := 37) tG ?_; clear HX; intro g14 Uo HX hx hz; clear hx hz; clear ch cl ug uh nT nU))
  refine wp_label ?_
  go_wp2_with (fail)
  go_loopw [15, 59] (fun v15 v59 W => ∃ (n : Nat) (met : Bool) (lo hi : Int), v15 = .bool met ∧ v59 = .int .i64 n ∧ n ≤ 13 ∧ aj (qY is (13 - n) n met lo hi = yg au bN l2 a3 a4 nN nO) ∧ Bx [(g14, .cells #[.int .i64 lo, .int .i64 hi] 37 (0, 0)), (g12, .cells #[.int .i64 0, .int .i64 0] 37 (0, 0)), (g11, .cells #[.int .i64 nN, .int .i64 nO] 37 (0, 0)), (g7, .cells #[.slice gu bN.length gq] 49 (0, 0)), (g6, .cells #[.slice bB au.length aZ] 24 (0, 0))] w W) (fun _ v59 _ => (13 - intOf v59).toNat)
  case atStart => exact ⟨0, false, 0, 0, rfl, rfl, by omega, ⟨by rw [HIS.out]; rfl⟩, HX⟩
  case round =>
   clear HX; obtain ⟨n, met, lo, hi, rfl, rfl, hn, HI, HX⟩ := hrel
   by_cases hlt : n < 13
   ·have ch := HX.g1 4 rfl
    have cl := HX.g1 3 rfl
    go_wp2_with (fail)
    go_cut [17] (fun v17 wc => ∃ (g17 : Nat) (a b : Int), v17 = .pointer (some ⟨g17, 0, none⟩) ∧ aj (zH au bN l2 a3 a4 n = some (a, b)) ∧ Bx ((g17, .cells #[.int .i64 a, .int .i64 b] 37 (0, 0)) :: [(g14, .cells #[.int .i64 lo, .int .i64 hi] 37 (0, 0)), (g12, .cells #[.int .i64 0, .int .i64 0] 37 (0, 0)), (g11, .cells #[.int .i64 nN, .int .i64 nO] 37 (0, 0)), (g7, .cells #[.slice gu bN.length gq] 49 (0, 0)), (g6, .cells #[.slice bB au.length aZ] 24 (0, 0))]) w wc)
    case first =>
     obtain ⟨a, b, hab⟩ := HL.out n hlt; have HAB := aj.mk hab; have HCF := aj.mk (show eZ.f l2 = some l2 by unfold eZ.f; rw [if_pos (by have := HN.out; omega)]); clear hab; refine j6 (n := 16) (S := fun w' => w'.cell? ⟨g6, 0, none⟩ = some (.slice bB au.length aZ) ∧ w'.cell? ⟨g7, 0, none⟩ = some (.slice gu bN.length gq)) (ds := []) #[false, false, false, false, false, false, false, false, false, false, false, false, false, false, false, false] tX rfl rfl ⟨ch, cl⟩ (fun hHeld => ?_); have uG : Bx [(g14, .cells #[.int .i64 lo, .int .i64 hi] 37 (0, 0)), (g12, .cells #[.int .i64 0, .int .i64 0] 37 (0, 0)), (g11, .cells #[.int .i64 nN, .int .i64 nO] 37 (0, 0)), (g7, .cells #[.slice gu bN.length gq] 49 (0, 0)), (g6, .cells #[.slice bB au.length aZ] 24 (0, 0))] w wr.drew := HX.step (fJ (Below.refl _ _)); have hb0 : Below wr.heap.size wr wr.drew := fJ (Below.refl _ _); have HX0 := aj.mk HX.below.size; have HQ : aj (∀ p ∈ ([(g14, .cells #[.int .i64 lo, .int .i64 hi] 37 (0, 0)), (g12, .cells #[.int .i64 0, .int .i64 0] 37 (0, 0)), (g11, .cells #[.int .i64 nN, .int .i64 nO] 37 (0, 0)), (g7, .cells #[.slice gu bN.length gq] 49 (0, 0)), (g6, .cells #[.slice bB au.length aZ] 24 (0, 0))] : List (Nat × Obj)), p.1 < wr.heap.size) := ⟨fun p hp => HX.lt (o := p.2) hp⟩; clear HX ch cl
     generalize wr.drew = w6 at uG hb0 hHeld ⊢
     refine aH (i := 3) (N := some 65) (v := ?_) (a' := ?_) (bA 16 8) rfl rfl tX (fun _ _ _ h => h) (Or.inl ⟨by rfl, ?_⟩) ?_ ?_; rotate_left
     ·intro w'
      go_simp
      with_reducible rfl
     rotate_left
     ·simp only [Act.put, sL, ay, aA]
      rfl
     refine aH (i := 5) (N := some 67) (v := ?_) (a' := ?_) (bA 16 40) rfl rfl tX (fun _ _ _ h => h) (Or.inl ⟨by rfl, ?_⟩) ?_ ?_; rotate_left
     ·intro w'
      go_simp
      with_reducible rfl
     rotate_left
     ·simp only [Act.put, sL, ay, aA]
      rfl
     refine aH (i := 6) (N := some 68) (v := ?_) (a' := ?_) (bA 16 104) rfl rfl tX (fun _ _ _ h => h) (Or.inl ⟨by rfl, ?_⟩) ?_ ?_; rotate_left
     ·intro w'
      go_simp
      with_reducible rfl
     rotate_left
     ·simp only [Act.put, sL, ay, aA]
      rfl
     refine aH (i := 7) (N := some 69) (v := ?_) (a' := ?_) (bA 16 232) rfl rfl tX (fun _ _ _ h => h) (Or.inl ⟨by rfl, ?_⟩) ?_ ?_; rotate_left
     ·intro w'
      go_simp
      with_reducible rfl
     rotate_left
     ·simp only [Act.put, sL, ay, aA]
      rfl
     refine aH (i := 8) (N := some 70) (v := ?_) (a' := ?_) (bA 16 488) rfl rfl tX (fun _ _ _ h => h) (Or.inl ⟨by rfl, ?_⟩) ?_ ?_; rotate_left
     ·intro w'
      go_simp
      with_reducible rfl
     rotate_left
     ·simp only [Act.put, sL, ay, aA]
      rfl
     refine aH (i := 9) (N := some 71) (v := ?_) (a' := ?_) (bA 16 1000) rfl rfl tX (fun _ _ _ h => h) (Or.inl ⟨by rfl, ?_⟩) ?_ ?_; rotate_left
     ·intro w'
      go_simp
      with_reducible rfl
     rotate_left
     ·simp only [Act.put, sL, ay, aA]
      rfl
     refine aH (i := 10) (N := some 72) (v := ?_) (a' := ?_) (bA 16 2024) rfl rfl tX (fun _ _ _ h => h) (Or.inl ⟨by rfl, ?_⟩) ?_ ?_; rotate_left
     ·intro w'
      go_simp
      with_reducible rfl
     rotate_left
     ·simp only [Act.put, sL, ay, aA]
      rfl
     refine fC (i := 0) (N := some 62) (v := ?_) (a' := ?_) (bA 16 2025) rfl rfl tX (fun _ _ _ h => h) (Or.inl ⟨by rfl, ?_⟩) hHeld ?_ ?_; rotate_left
     ·rintro w' ⟨s0, s1⟩
      go_simp
      with_reducible rfl
     rotate_left
     ·simp only [Act.put, sL, ay, aA]
      rfl
     refine fC (i := 1) (N := some 63) (v := ?_) (a' := ?_) (bA 16 2027) rfl rfl tX (fun _ _ _ h => h) (Or.inl ⟨by rfl, ?_⟩) hHeld ?_ ?_; rotate_left
     ·rintro w' ⟨s0, s1⟩
      go_simp
      with_reducible rfl
     rotate_left
     ·simp only [Act.put, sL, ay, aA]
      rfl
     refine aH (i := 2) (N := some 64) (v := ?_) (a' := ?_) (bA 16 2031) rfl rfl tX (fun _ _ _ h => h) (Or.inl ⟨by rfl, ?_⟩) ?_ ?_; rotate_left
     ·intro w'
      go_simp
      with_reducible rfl
     rotate_left
     ·simp only [Act.put, sL, ay, aA]
      rfl
     refine wV (σ := DI) 1 (bA 16 32767) (fun s => [(66, s.v4), (73, s.v11), (74, s.v12), (75, .agg #[.int .i64 a, .int .i64 b]), (17, .pointer (some ⟨s.g, 0, none⟩))]) (fun s W => Bx [(s.g, .cells #[.int .i64 0, .int .i64 0] 37 (0, 0)), (g14, .cells #[.int .i64 lo, .int .i64 hi] 37 (0, 0)), (g12, .cells #[.int .i64 0, .int .i64 0] 37 (0, 0)), (g11, .cells #[.int .i64 nN, .int .i64 nO] 37 (0, 0)), (g7, .cells #[.slice gu bN.length gq] 49 (0, 0)), (g6, .cells #[.slice bB au.length aZ] 24 (0, 0))] w W ∧ Below wr.heap.size wr W) ?_ ?_
     ·rintro s W ⟨HX, hb⟩
      refine dw (a' := ?_) ?_ ?_; rotate_left
      ·show cu _ _ = _
       simp only [cu, Act.put, sL, ay, aA]
       rfl
      refine gI (i := 15) (N := none) (bA 16 65535) rfl rfl tX (by decide) (fun K hK => ?_); refine Ub (by rfl) rfl (t := 37) (p := 17) (v := .tmp 75) rfl HX 0 rfl (i := 0) (.agg #[.int .i64 a, .int .i64 b]) [.int .i64 a, .int .i64 b] #[.int .i64 a, .int .i64 b] rfl rfl rfl tX (by simp) (by simp [Value.oneCell']) rfl ?_; intro W1 jS hg1
      dsimp only [List.set] at jS
      refine hK.out _ _ ⟨jS.c1 (g := g6) (t := 24) (by simp), jS.c1 (g := g7) (t := 49) (by simp)⟩ (fun _ => ?_); refine kZ tX ?_
      go_wp2_with (fail)
      go_meet
      exact ⟨s.g, a, b, rfl, HAB, jS⟩
     intro yj; refine wV (σ := DI) 2 (bA 16 16383) (fun s => [(66, s.v4), (73, s.v11), (74, s.v12), (75, .agg #[.int .i64 a, .int .i64 b])]) (fun s W => Bx [(g14, .cells #[.int .i64 lo, .int .i64 hi] 37 (0, 0)), (g12, .cells #[.int .i64 0, .int .i64 0] 37 (0, 0)), (g11, .cells #[.int .i64 nN, .int .i64 nO] 37 (0, 0)), (g7, .cells #[.slice gu bN.length gq] 49 (0, 0)), (g6, .cells #[.slice bB au.length aZ] 24 (0, 0))] w W ∧ Below wr.heap.size wr W) ?_ ?_
     ·rintro s W ⟨HX, hb⟩
      refine dw (a' := ?_) ?_ ?_; rotate_left
      ·show cu _ _ = _
       simp only [cu, Act.put, sL, ay, aA]
       rfl
      refine gI (i := 14) (N := some 17) (bA 16 32767) rfl rfl tX (by decide) (fun K hK => ?_)
      ·refine vv ?hg (N := 17) ?hd (cs := #[.int .i64 0, .int .i64 0]) (t := 37) ?hr ?_; (case hd => rfl); (case hg => rfl); (case hr => first | (go_simp; done) | (go_simp; rfl))
       intro g17 Xi W1 kI hx; have jS := HX.add (g := g17) (by omega) hx kI; have hb1 := aV hb hx; refine hK.out _ _ ⟨jS.c1 (g := g6) (t := 24) (by simp), jS.c1 (g := g7) (t := 49) (by simp)⟩ (fun _ => ?_); exact dw (by show Act.put _ (some 17) _ = _; simp only [cu, Act.put, sL]) (yj ⟨s.v4, s.v11, s.v12, g17⟩ _ ⟨jS, hb1⟩)
     intro Mw; refine wV (σ := DI) 2 (bA 16 24575) (fun s => [(66, s.v4), (73, s.v11), (74, s.v12), (17, .pointer (some ⟨s.g, 0, none⟩))]) (fun s W => Bx [(s.g, .cells #[.int .i64 0, .int .i64 0] 37 (0, 0)), (g14, .cells #[.int .i64 lo, .int .i64 hi] 37 (0, 0)), (g12, .cells #[.int .i64 0, .int .i64 0] 37 (0, 0)), (g11, .cells #[.int .i64 nN, .int .i64 nO] 37 (0, 0)), (g7, .cells #[.slice gu bN.length gq] 49 (0, 0)), (g6, .cells #[.slice bB au.length aZ] 24 (0, 0))] w W ∧ Below wr.heap.size wr W ∧ Kd.R eT 154 W wr.heap.size (fun _ => True) s.v12 (l2 ++ [(⟨a3, a4, ⟨(n : Int), (n : Int)⟩⟩ : bg)])) ?_ ?_
     ·rintro s W ⟨HX, hb, r12⟩
      refine dw (a' := ?_) ?_ ?_; rotate_left
      ·show cu _ _ = _
       simp only [cu, Act.put, sL, ay, aA]
       rfl
      refine gI (i := 13) (N := some 75) (bA 16 32767) rfl rfl tX (by decide) (fun K hK => ?_)
      ·obtain ⟨A5, c5, e5, hl5, hC5⟩ := Kd.fO r12
       refine fP Tryz.func123 tX rfl #[.agg #[.slice bB au.length aZ, .slice gu bN.length gq], .slice A5 (l2 ++ [(⟨a3, a4, ⟨(n : Int), (n : Int)⟩⟩ : bg)]).length c5] (by rfl) rfl rfl (by (try simp only [List.map_toArray, List.map_cons, List.map_nil]); rw [← e5]; first | done | rfl) ?_; refine (cK.calls 1000 bB aZ au gu gq bN A5 c5 (l2 ++ [(⟨a3, a4, ⟨(n : Int), (n : Int)⟩⟩ : bg)]) a b _ (Kd.ak HR.out.1 HX.below) dI (Kd.ak HR.out.2.1 HX.below) nk hC5 hl5 HAB.out).mono ?_; rintro e W1 ⟨rfl, hx⟩; refine ⟨_, rfl, ?_⟩; have jS := HX.step hx; have hb1 := aV hb hx; refine hK.out _ _ ⟨jS.c1 (g := g6) (t := 24) (by simp), jS.c1 (g := g7) (t := 49) (by simp)⟩ (fun _ => ?_); exact dw (by show Act.put _ (some 75) _ = _; simp only [cu, Act.put, sL]) (yj ⟨s.v4, s.v11, s.v12, s.g⟩ _ ⟨jS, hb1⟩)
     intro Dj; refine wV (σ := DI) 3 (bA 16 8191) (fun s => [(66, s.v4), (73, s.v11), (74, s.v12)]) (fun s W => Bx [(g14, .cells #[.int .i64 lo, .int .i64 hi] 37 (0, 0)), (g12, .cells #[.int .i64 0, .int .i64 0] 37 (0, 0)), (g11, .cells #[.int .i64 nN, .int .i64 nO] 37 (0, 0)), (g7, .cells #[.slice gu bN.length gq] 49 (0, 0)), (g6, .cells #[.slice bB au.length aZ] 24 (0, 0))] w W ∧ Below wr.heap.size wr W ∧ Kd.R eT 154 W wr.heap.size (fun _ => True) s.v12 (l2 ++ [(⟨a3, a4, ⟨(n : Int), (n : Int)⟩⟩ : bg)])) ?_ ?_
     ·rintro s W ⟨HX, hb, r12⟩
      refine dw (a' := ?_) ?_ ?_; rotate_left
      ·show cu _ _ = _
       simp only [cu, Act.put, sL, ay, aA]
       rfl
      refine SL (i := 13) (j := 14) (Ni := some 75) (Nj := some 17) (bA 16 16383) (bA 16 24575) rfl rfl rfl rfl tX (by decide) (by decide) (fun K hK => ?_) (fun K hK => ?_)
      ·obtain ⟨A5, c5, e5, hl5, hC5⟩ := Kd.fO r12
       refine fP Tryz.func123 tX rfl #[.agg #[.slice bB au.length aZ, .slice gu bN.length gq], .slice A5 (l2 ++ [(⟨a3, a4, ⟨(n : Int), (n : Int)⟩⟩ : bg)]).length c5] (by rfl) rfl rfl (by (try simp only [List.map_toArray, List.map_cons, List.map_nil]); rw [← e5]; first | done | rfl) ?_; refine (cK.calls 1000 bB aZ au gu gq bN A5 c5 (l2 ++ [(⟨a3, a4, ⟨(n : Int), (n : Int)⟩⟩ : bg)]) a b _ (Kd.ak HR.out.1 HX.below) dI (Kd.ak HR.out.2.1 HX.below) nk hC5 hl5 HAB.out).mono ?_; rintro e W1 ⟨rfl, hx⟩; refine ⟨_, rfl, ?_⟩; have jS := HX.step hx; have hb1 := aV hb hx; refine hK.out _ _ ⟨jS.c1 (g := g6) (t := 24) (by simp), jS.c1 (g := g7) (t := 49) (by simp)⟩ (fun _ => ?_); exact dw (by show Act.put _ (some 75) _ = _; simp only [cu, Act.put, sL]) (Mw ⟨s.v4, s.v11, s.v12, s.g⟩ _ ⟨jS, hb1⟩)
      ·refine vv ?hg (N := 17) ?hd (cs := #[.int .i64 0, .int .i64 0]) (t := 37) ?hr ?_; (case hd => rfl); (case hg => rfl); (case hr => first | (go_simp; done) | (go_simp; rfl))
       intro g17 Xi W1 kI hx; have jS := HX.add (g := g17) (by omega) hx kI; have hb1 := aV hb hx; refine hK.out _ _ ⟨jS.c1 (g := g6) (t := 24) (by simp), jS.c1 (g := g7) (t := 49) (by simp)⟩ (fun _ => ?_); exact dw (by show Act.put _ (some 17) _ = _; simp only [cu, Act.put, sL]) (Dj ⟨s.v4, s.v11, s.v12, g17⟩ _ ⟨jS, hb1, Kd.jy r12 hx⟩)
     intro Xj; refine wV (σ := DI) 3 (bA 16 20479) (fun s => [(66, s.v4), (73, s.v11), (17, .pointer (some ⟨s.g, 0, none⟩))]) (fun s W => Bx [(s.g, .cells #[.int .i64 0, .int .i64 0] 37 (0, 0)), (g14, .cells #[.int .i64 lo, .int .i64 hi] 37 (0, 0)), (g12, .cells #[.int .i64 0, .int .i64 0] 37 (0, 0)), (g11, .cells #[.int .i64 nN, .int .i64 nO] 37 (0, 0)), (g7, .cells #[.slice gu bN.length gq] 49 (0, 0)), (g6, .cells #[.slice bB au.length aZ] 24 (0, 0))] w W ∧ Below wr.heap.size wr W ∧ Kd.R eT 154 W wr.heap.size (fun _ => True) s.v4 l2 ∧ Kd.R eT 154 W wr.heap.size (fun _ => True) s.v11 [(⟨a3, a4, ⟨(n : Int), (n : Int)⟩⟩ : bg)] ∧ uj s.v4 s.v11 ∧ (some s.g ≠ s.v4.ownBlock)) ?_ ?_
     ·rintro s W ⟨HX, hb, r4, Xk, ne, n14⟩
      refine dw (a' := ?_) ?_ ?_; rotate_left
      ·show cu _ _ = _
       simp only [cu, Act.put, sL, ay, aA]
       rfl
      refine gI (i := 12) (N := some 74) (bA 16 24575) rfl rfl tX (by decide) (fun K hK => ?_)
      ·obtain ⟨A5, c5, e5, hl5, hC5⟩ := Kd.fO Xk
       refine Kd.oG eT (w0 := wr) wr.heap.size (by rfl) (.tmp 66) (.tmp 73) 25 154 (.agg #[(.int .i64 0), (.int .i64 0), (.int .i64 0), (.int .i64 0)]) 32 rfl Tryz.underlying25 DY rfl (by decide) (by omega) s.v4 l2 [(⟨a3, a4, ⟨(n : Int), (n : Int)⟩⟩ : bg)] A5 1 c5 (fun _ => True) (fun _ => False) rfl e5 r4 hC5 (fun _ _ h => h) (fun _ h => h.elim) (fun _ _ => trivial) hb hb.size (by have := HN.out; omega) ?_; intro v W1 ho hb1 hg1 hat; have jS := HX.row hg1 (fun k e => Nat.le_trans HX0.out (Kd.gH r4 k e)) (by intro p hp; rcases List.mem_cons.1 hp with rfl | hp; exact n14; exact fun e => absurd (HQ.out p hp) (by have := Kd.gH r4 p.1 e.symm; omega)); refine hK.out _ _ ⟨jS.c1 (g := g6) (t := 24) (by simp), jS.c1 (g := g7) (t := 49) (by simp)⟩ (fun _ => ?_); exact dw (by show Act.put _ (some 74) _ = _; simp only [cu, Act.put, sL]) (Dj ⟨s.v4, s.v11, v, s.g⟩ _ ⟨jS, hb1, ho⟩)
     intro F5; refine wV (σ := DI) 4 (bA 16 4095) (fun s => [(66, s.v4), (73, s.v11)]) (fun s W => Bx [(g14, .cells #[.int .i64 lo, .int .i64 hi] 37 (0, 0)), (g12, .cells #[.int .i64 0, .int .i64 0] 37 (0, 0)), (g11, .cells #[.int .i64 nN, .int .i64 nO] 37 (0, 0)), (g7, .cells #[.slice gu bN.length gq] 49 (0, 0)), (g6, .cells #[.slice bB au.length aZ] 24 (0, 0))] w W ∧ Below wr.heap.size wr W ∧ Kd.R eT 154 W wr.heap.size (fun _ => True) s.v4 l2 ∧ Kd.R eT 154 W wr.heap.size (fun _ => True) s.v11 [(⟨a3, a4, ⟨(n : Int), (n : Int)⟩⟩ : bg)] ∧ uj s.v4 s.v11) ?_ ?_
     ·rintro s W ⟨HX, hb, r4, Xk, ne⟩
      refine dw (a' := ?_) ?_ ?_; rotate_left
      ·show cu _ _ = _
       simp only [cu, Act.put, sL, ay, aA]
       rfl
      refine SL (i := 12) (j := 14) (Ni := some 74) (Nj := some 17) (bA 16 8191) (bA 16 20479) rfl rfl rfl rfl tX (by decide) (by decide) (fun K hK => ?_) (fun K hK => ?_)
      ·obtain ⟨A5, c5, e5, hl5, hC5⟩ := Kd.fO Xk
       refine Kd.oG eT (w0 := wr) wr.heap.size (by rfl) (.tmp 66) (.tmp 73) 25 154 (.agg #[(.int .i64 0), (.int .i64 0), (.int .i64 0), (.int .i64 0)]) 32 rfl Tryz.underlying25 DY rfl (by decide) (by omega) s.v4 l2 [(⟨a3, a4, ⟨(n : Int), (n : Int)⟩⟩ : bg)] A5 1 c5 (fun _ => True) (fun _ => False) rfl e5 r4 hC5 (fun _ _ h => h) (fun _ h => h.elim) (fun _ _ => trivial) hb hb.size (by have := HN.out; omega) ?_; intro v W1 ho hb1 hg1 hat; have jS := HX.row hg1 (fun k e => Nat.le_trans HX0.out (Kd.gH r4 k e)) (by intro p hp; exact fun e => absurd (HQ.out p hp) (by have := Kd.gH r4 p.1 e.symm; omega)); refine hK.out _ _ ⟨jS.c1 (g := g6) (t := 24) (by simp), jS.c1 (g := g7) (t := 49) (by simp)⟩ (fun _ => ?_); exact dw (by show Act.put _ (some 74) _ = _; simp only [cu, Act.put, sL]) (Xj ⟨s.v4, s.v11, v, s.g⟩ _ ⟨jS, hb1, ho⟩)
      ·refine vv ?hg (N := 17) ?hd (cs := #[.int .i64 0, .int .i64 0]) (t := 37) ?hr ?_; (case hd => rfl); (case hg => rfl); (case hr => first | (go_simp; done) | (go_simp; rfl))
       intro g17 Xi W1 kI hx; have jS := HX.add (g := g17) (by omega) hx kI; have hb1 := aV hb hx; refine hK.out _ _ ⟨jS.c1 (g := g6) (t := 24) (by simp), jS.c1 (g := g7) (t := 49) (by simp)⟩ (fun _ => ?_); exact dw (by show Act.put _ (some 17) _ = _; simp only [cu, Act.put, sL]) (F5 ⟨s.v4, s.v11, s.v12, g17⟩ _ ⟨jS, hb1, Kd.jy r4 hx, Kd.jy Xk hx, ne, fun e => absurd (Kd.pE r4 g17 e.symm) (by omega)⟩)
     intro qbP; refine wV (σ := DI) 4 (bA 16 18431) (fun s => [(66, s.v4), (17, .pointer (some ⟨s.g, 0, none⟩))]) (fun s W => Bx [(s.g, .cells #[.int .i64 0, .int .i64 0] 37 (0, 0)), (g14, .cells #[.int .i64 lo, .int .i64 hi] 37 (0, 0)), (g12, .cells #[.int .i64 0, .int .i64 0] 37 (0, 0)), (g11, .cells #[.int .i64 nN, .int .i64 nO] 37 (0, 0)), (g7, .cells #[.slice gu bN.length gq] 49 (0, 0)), (g6, .cells #[.slice bB au.length aZ] 24 (0, 0))] w W ∧ Below wr.heap.size wr W ∧ Kd.R eT 154 W wr.heap.size (fun _ => True) s.v4 l2 ∧ (some s.g ≠ s.v4.ownBlock)) ?_ ?_
     ·rintro s W ⟨HX, hb, r4, n14⟩
      refine dw (a' := ?_) ?_ ?_; rotate_left
      ·show cu _ _ = _
       simp only [cu, Act.put, sL, ay, aA]
       rfl
      refine gI (i := 11) (N := some 73) (bA 16 20479) rfl rfl tX (by decide) (fun K hK => ?_)
      ·refine Kd.oF eT _ 154 ?hg (N := 73) ?hd (xs := [(⟨a3, a4, ⟨(n : Int), (n : Int)⟩⟩ : bg)]) (inner := [.int .i64 a3, .int .i64 a4, .int .i64 n, .int .i64 n]) (ok := fun _ => True) (nE := fun _ => True) ?hr ?hp (fun _ hk => hk) trivial (Below.refl _ _) (Nat.le_refl _) (by simp) ?_; (case hd => rfl); (case hg => rfl); (case hr => first | (go_simp; done) | (go_simp; rfl)); (case hp => exact dH.c4 (show Kd.M eT _ _ _ (⟨a3, a4, ⟨(n : Int), (n : Int)⟩⟩ : bg) [.int .i64 a3, .int .i64 a4, .int .i64 n, .int .i64 n] from mZ _ _ _ (⟨a3, a4, ⟨(n : Int), (n : Int)⟩⟩ : bg)) (dH.none _ _))
       intro v W1 ho hx tq iy; clear tq iy; have jS := HX.step hx; have hb1 := aV hb hx; refine hK.out _ _ ⟨jS.c1 (g := g6) (t := 24) (by simp), jS.c1 (g := g7) (t := 49) (by simp)⟩ (fun _ => ?_); exact dw (by show Act.put _ (some 73) _ = _; simp only [cu, Act.put, sL]) (F5 ⟨s.v4, v, s.v12, s.g⟩ _ ⟨jS, hb1, Kd.jy r4 hx, Kd.dP ho hb.size, fun k U4 U5 => absurd (Kd.pE r4 k U4) (by have := Kd.gH ho k U5; omega), n14⟩)
     intro qbQ; refine wV (σ := DI) 4 (bA 16 20463) (fun s => [(73, s.v11), (17, .pointer (some ⟨s.g, 0, none⟩))]) (fun s W => Bx [(s.g, .cells #[.int .i64 0, .int .i64 0] 37 (0, 0)), (g14, .cells #[.int .i64 lo, .int .i64 hi] 37 (0, 0)), (g12, .cells #[.int .i64 0, .int .i64 0] 37 (0, 0)), (g11, .cells #[.int .i64 nN, .int .i64 nO] 37 (0, 0)), (g7, .cells #[.slice gu bN.length gq] 49 (0, 0)), (g6, .cells #[.slice bB au.length aZ] 24 (0, 0))] w W ∧ Below wr.heap.size wr W ∧ Kd.R eT 154 W wr.heap.size (fun _ => True) s.v11 [(⟨a3, a4, ⟨(n : Int), (n : Int)⟩⟩ : bg)]) ?_ ?_
     ·rintro s W ⟨HX, hb, Xk⟩
      refine dw (a' := ?_) ?_ ?_; rotate_left
      ·show cu _ _ = _
       simp only [cu, Act.put, sL, ay, aA]
       rfl
      refine gI (i := 4) (N := some 66) (bA 16 20479) rfl rfl tX (by decide) (fun K hK => ?_)
      ·refine fP Tryz.func124 tX rfl #[.slice A2 l2.length c2] (by rfl) rfl rfl (by (try simp only [List.map_toArray, List.map_cons, List.map_nil]); first | done | rfl) ?_
       refine (eZ.calls A2 c2 l2 l2 _ (Kd.ak HR.out.2.2 HX.below) hc2 HCF.out).mono ?_; rintro e W1 ⟨v, rfl, ho, hx⟩; refine ⟨_, rfl, ?_⟩; have jS := HX.step hx; have hb1 := aV hb hx; refine hK.out _ _ ⟨jS.c1 (g := g6) (t := 24) (by simp), jS.c1 (g := g7) (t := 49) (by simp)⟩ (fun _ => ?_); exact dw (by show Act.put _ (some 66) _ = _; simp only [cu, Act.put, sL]) (F5 ⟨v, s.v11, s.v12, s.g⟩ _ ⟨jS, hb1, Kd.dP ho hb.size, Kd.jy Xk hx, fun k U4 U5 => absurd (Kd.pE Xk k U5) (by have := Kd.gH ho k U4; omega), fun e => absurd (HX.lt (o := .cells #[.int .i64 0, .int .i64 0] 37 (0, 0)) (g := s.g) (by simp)) (by have := Kd.gH ho s.g e.symm; omega)⟩)
     intro Xl; refine wV (σ := DI) 5 (bA 16 18415) (fun s => [(17, .pointer (some ⟨s.g, 0, none⟩))]) (fun s W => Bx [(s.g, .cells #[.int .i64 0, .int .i64 0] 37 (0, 0)), (g14, .cells #[.int .i64 lo, .int .i64 hi] 37 (0, 0)), (g12, .cells #[.int .i64 0, .int .i64 0] 37 (0, 0)), (g11, .cells #[.int .i64 nN, .int .i64 nO] 37 (0, 0)), (g7, .cells #[.slice gu bN.length gq] 49 (0, 0)), (g6, .cells #[.slice bB au.length aZ] 24 (0, 0))] w W ∧ Below wr.heap.size wr W) ?_ ?_
     ·rintro s W ⟨HX, hb⟩
      refine dw (a' := ?_) ?_ ?_; rotate_left
      ·show cu _ _ = _
       simp only [cu, Act.put, sL, ay, aA]
       rfl
      refine SL (i := 4) (j := 11) (Ni := some 66) (Nj := some 73) (bA 16 18431) (bA 16 20463) rfl rfl rfl rfl tX (by decide) (by decide) (fun K hK => ?_) (fun K hK => ?_)
      ·refine fP Tryz.func124 tX rfl #[.slice A2 l2.length c2] (by rfl) rfl rfl (by (try simp only [List.map_toArray, List.map_cons, List.map_nil]); first | done | rfl) ?_
       refine (eZ.calls A2 c2 l2 l2 _ (Kd.ak HR.out.2.2 HX.below) hc2 HCF.out).mono ?_; rintro e W1 ⟨v, rfl, ho, hx⟩; refine ⟨_, rfl, ?_⟩; have jS := HX.step hx; have hb1 := aV hb hx; refine hK.out _ _ ⟨jS.c1 (g := g6) (t := 24) (by simp), jS.c1 (g := g7) (t := 49) (by simp)⟩ (fun _ => ?_); exact dw (by show Act.put _ (some 66) _ = _; simp only [cu, Act.put, sL]) (qbQ ⟨v, s.v11, s.v12, s.g⟩ _ ⟨jS, hb1, Kd.dP ho hb.size, fun e => absurd (HX.lt (o := .cells #[.int .i64 0, .int .i64 0] 37 (0, 0)) (g := s.g) (by simp)) (by have := Kd.gH ho s.g e.symm; omega)⟩)
      ·refine Kd.oF eT _ 154 ?hg (N := 73) ?hd (xs := [(⟨a3, a4, ⟨(n : Int), (n : Int)⟩⟩ : bg)]) (inner := [.int .i64 a3, .int .i64 a4, .int .i64 n, .int .i64 n]) (ok := fun _ => True) (nE := fun _ => True) ?hr ?hp (fun _ hk => hk) trivial (Below.refl _ _) (Nat.le_refl _) (by simp) ?_; (case hd => rfl); (case hg => rfl); (case hr => first | (go_simp; done) | (go_simp; rfl)); (case hp => exact dH.c4 (show Kd.M eT _ _ _ (⟨a3, a4, ⟨(n : Int), (n : Int)⟩⟩ : bg) [.int .i64 a3, .int .i64 a4, .int .i64 n, .int .i64 n] from mZ _ _ _ (⟨a3, a4, ⟨(n : Int), (n : Int)⟩⟩ : bg)) (dH.none _ _))
       intro v W1 ho hx tq iy; clear tq iy; have jS := HX.step hx; have hb1 := aV hb hx; refine hK.out _ _ ⟨jS.c1 (g := g6) (t := 24) (by simp), jS.c1 (g := g7) (t := 49) (by simp)⟩ (fun _ => ?_); exact dw (by show Act.put _ (some 73) _ = _; simp only [cu, Act.put, sL]) (Xl ⟨s.v4, v, s.v12, s.g⟩ _ ⟨jS, hb1, Kd.dP ho hb.size⟩)
     intro h14; refine wV (σ := DI) 5 (bA 16 2047) (fun s => [(66, s.v4)]) (fun s W => Bx [(g14, .cells #[.int .i64 lo, .int .i64 hi] 37 (0, 0)), (g12, .cells #[.int .i64 0, .int .i64 0] 37 (0, 0)), (g11, .cells #[.int .i64 nN, .int .i64 nO] 37 (0, 0)), (g7, .cells #[.slice gu bN.length gq] 49 (0, 0)), (g6, .cells #[.slice bB au.length aZ] 24 (0, 0))] w W ∧ Below wr.heap.size wr W ∧ Kd.R eT 154 W wr.heap.size (fun _ => True) s.v4 l2) ?_ ?_
     ·rintro s W ⟨HX, hb, r4⟩
      refine dw (a' := ?_) ?_ ?_; rotate_left
      ·show cu _ _ = _
       simp only [cu, Act.put, sL, ay, aA]
       rfl
      refine SL (i := 11) (j := 14) (Ni := some 73) (Nj := some 17) (bA 16 4095) (bA 16 18431) rfl rfl rfl rfl tX (by decide) (by decide) (fun K hK => ?_) (fun K hK => ?_)
      ·refine Kd.oF eT _ 154 ?hg (N := 73) ?hd (xs := [(⟨a3, a4, ⟨(n : Int), (n : Int)⟩⟩ : bg)]) (inner := [.int .i64 a3, .int .i64 a4, .int .i64 n, .int .i64 n]) (ok := fun _ => True) (nE := fun _ => True) ?hr ?hp (fun _ hk => hk) trivial (Below.refl _ _) (Nat.le_refl _) (by simp) ?_; (case hd => rfl); (case hg => rfl); (case hr => first | (go_simp; done) | (go_simp; rfl)); (case hp => exact dH.c4 (show Kd.M eT _ _ _ (⟨a3, a4, ⟨(n : Int), (n : Int)⟩⟩ : bg) [.int .i64 a3, .int .i64 a4, .int .i64 n, .int .i64 n] from mZ _ _ _ (⟨a3, a4, ⟨(n : Int), (n : Int)⟩⟩ : bg)) (dH.none _ _))
       intro v W1 ho hx tq iy; clear tq iy; have jS := HX.step hx; have hb1 := aV hb hx; refine hK.out _ _ ⟨jS.c1 (g := g6) (t := 24) (by simp), jS.c1 (g := g7) (t := 49) (by simp)⟩ (fun _ => ?_); exact dw (by show Act.put _ (some 73) _ = _; simp only [cu, Act.put, sL]) (qbP ⟨s.v4, v, s.v12, s.g⟩ _ ⟨jS, hb1, Kd.jy r4 hx, Kd.dP ho hb.size, fun k U4 U5 => absurd (Kd.pE r4 k U4) (by have := Kd.gH ho k U5; omega)⟩)
      ·refine vv ?hg (N := 17) ?hd (cs := #[.int .i64 0, .int .i64 0]) (t := 37) ?hr ?_; (case hd => rfl); (case hg => rfl); (case hr => first | (go_simp; done) | (go_simp; rfl))
       intro g17 Xi W1 kI hx; have jS := HX.add (g := g17) (by omega) hx kI; have hb1 := aV hb hx; refine hK.out _ _ ⟨jS.c1 (g := g6) (t := 24) (by simp), jS.c1 (g := g7) (t := 49) (by simp)⟩ (fun _ => ?_); exact dw (by show Act.put _ (some 17) _ = _; simp only [cu, Act.put, sL]) (qbQ ⟨s.v4, s.v11, s.v12, g17⟩ _ ⟨jS, hb1, Kd.jy r4 hx, fun e => absurd (Kd.pE r4 g17 e.symm) (by omega)⟩)
     intro h4; refine wV (σ := DI) 5 (bA 16 4079) (fun s => [(73, s.v11)]) (fun s W => Bx [(g14, .cells #[.int .i64 lo, .int .i64 hi] 37 (0, 0)), (g12, .cells #[.int .i64 0, .int .i64 0] 37 (0, 0)), (g11, .cells #[.int .i64 nN, .int .i64 nO] 37 (0, 0)), (g7, .cells #[.slice gu bN.length gq] 49 (0, 0)), (g6, .cells #[.slice bB au.length aZ] 24 (0, 0))] w W ∧ Below wr.heap.size wr W ∧ Kd.R eT 154 W wr.heap.size (fun _ => True) s.v11 [(⟨a3, a4, ⟨(n : Int), (n : Int)⟩⟩ : bg)]) ?_ ?_
     ·rintro s W ⟨HX, hb, Xk⟩
      refine dw (a' := ?_) ?_ ?_; rotate_left
      ·show cu _ _ = _
       simp only [cu, Act.put, sL, ay, aA]
       rfl
      refine SL (i := 4) (j := 14) (Ni := some 66) (Nj := some 17) (bA 16 4095) (bA 16 20463) rfl rfl rfl rfl tX (by decide) (by decide) (fun K hK => ?_) (fun K hK => ?_)
      ·refine fP Tryz.func124 tX rfl #[.slice A2 l2.length c2] (by rfl) rfl rfl (by (try simp only [List.map_toArray, List.map_cons, List.map_nil]); first | done | rfl) ?_
       refine (eZ.calls A2 c2 l2 l2 _ (Kd.ak HR.out.2.2 HX.below) hc2 HCF.out).mono ?_; rintro e W1 ⟨v, rfl, ho, hx⟩; refine ⟨_, rfl, ?_⟩; have jS := HX.step hx; have hb1 := aV hb hx; refine hK.out _ _ ⟨jS.c1 (g := g6) (t := 24) (by simp), jS.c1 (g := g7) (t := 49) (by simp)⟩ (fun _ => ?_); exact dw (by show Act.put _ (some 66) _ = _; simp only [cu, Act.put, sL]) (qbP ⟨v, s.v11, s.v12, s.g⟩ _ ⟨jS, hb1, Kd.dP ho hb.size, Kd.jy Xk hx, fun k U4 U5 => absurd (Kd.pE Xk k U5) (by have := Kd.gH ho k U4; omega)⟩)
      ·refine vv ?hg (N := 17) ?hd (cs := #[.int .i64 0, .int .i64 0]) (t := 37) ?hr ?_; (case hd => rfl); (case hg => rfl); (case hr => first | (go_simp; done) | (go_simp; rfl))
       intro g17 Xi W1 kI hx; have jS := HX.add (g := g17) (by omega) hx kI; have hb1 := aV hb hx; refine hK.out _ _ ⟨jS.c1 (g := g6) (t := 24) (by simp), jS.c1 (g := g7) (t := 49) (by simp)⟩ (fun _ => ?_); exact dw (by show Act.put _ (some 17) _ = _; simp only [cu, Act.put, sL]) (Xl ⟨s.v4, s.v11, s.v12, g17⟩ _ ⟨jS, hb1, Kd.jy Xk hx⟩)
     intro h11; have HX := uG; have hb := hb0; have s : DI := ⟨undef, undef, undef, 0⟩; refine qb8 (i := 4) (j := 11) (k := 14) (Ni := some 66) (Nj := some 73) (Nk := some 17) (bA 16 2047) (bA 16 4079) (bA 16 18415) rfl rfl rfl rfl rfl rfl tX (by decide) (by decide) (by decide) (fun K hK => ?_) (fun K hK => ?_) (fun K hK => ?_)
     ·refine fP Tryz.func124 tX rfl #[.slice A2 l2.length c2] (by rfl) rfl rfl (by (try simp only [List.map_toArray, List.map_cons, List.map_nil]); first | done | rfl) ?_
      refine (eZ.calls A2 c2 l2 l2 _ (Kd.ak HR.out.2.2 HX.below) hc2 HCF.out).mono ?_; rintro e W1 ⟨v, rfl, ho, hx⟩; refine ⟨_, rfl, ?_⟩; have jS := HX.step hx; have hb1 := aV hb hx; refine hK.out _ _ ⟨jS.c1 (g := g6) (t := 24) (by simp), jS.c1 (g := g7) (t := 49) (by simp)⟩ (fun _ => ?_); exact dw (by show Act.put _ (some 66) _ = _; simp only [cu, Act.put, sL]) (h4 ⟨v, s.v11, s.v12, s.g⟩ _ ⟨jS, hb1, Kd.dP ho hb.size⟩)
     ·refine Kd.oF eT _ 154 ?hg (N := 73) ?hd (xs := [(⟨a3, a4, ⟨(n : Int), (n : Int)⟩⟩ : bg)]) (inner := [.int .i64 a3, .int .i64 a4, .int .i64 n, .int .i64 n]) (ok := fun _ => True) (nE := fun _ => True) ?hr ?hp (fun _ hk => hk) trivial (Below.refl _ _) (Nat.le_refl _) (by simp) ?_; (case hd => rfl); (case hg => rfl); (case hr => first | (go_simp; done) | (go_simp; rfl)); (case hp => exact dH.c4 (show Kd.M eT _ _ _ (⟨a3, a4, ⟨(n : Int), (n : Int)⟩⟩ : bg) [.int .i64 a3, .int .i64 a4, .int .i64 n, .int .i64 n] from mZ _ _ _ (⟨a3, a4, ⟨(n : Int), (n : Int)⟩⟩ : bg)) (dH.none _ _))
      intro v W1 ho hx tq iy; clear tq iy; have jS := HX.step hx; have hb1 := aV hb hx; refine hK.out _ _ ⟨jS.c1 (g := g6) (t := 24) (by simp), jS.c1 (g := g7) (t := 49) (by simp)⟩ (fun _ => ?_); exact dw (by show Act.put _ (some 73) _ = _; simp only [cu, Act.put, sL]) (h11 ⟨s.v4, v, s.v12, s.g⟩ _ ⟨jS, hb1, Kd.dP ho hb.size⟩)
     ·refine vv ?hg (N := 17) ?hd (cs := #[.int .i64 0, .int .i64 0]) (t := 37) ?hr ?_; (case hd => rfl); (case hg => rfl); (case hr => first | (go_simp; done) | (go_simp; rfl))
      intro g17 Xi W1 kI hx; have jS := HX.add (g := g17) (by omega) hx kI; have hb1 := aV hb hx; refine hK.out _ _ ⟨jS.c1 (g := g6) (t := 24) (by simp), jS.c1 (g := g7) (t := 49) (by simp)⟩ (fun _ => ?_); exact dw (by show Act.put _ (some 17) _ = _; simp only [cu, Act.put, sL]) (h14 ⟨s.v4, s.v11, s.v12, g17⟩ _ ⟨jS, hb1⟩)
    case rest =>
     obtain ⟨g17, a, b, rfl, HAB, HX⟩ := hcut; obtain ⟨cs1, cs2⟩ := HX.g2 0 rfl; obtain ⟨nT, nU⟩ := HX.g2 1 rfl; obtain ⟨xZ, yc⟩ := HX.g2 2 rfl; obtain ⟨ug, uh⟩ := HX.g2 3 rfl; have HS := aj.mk (show is n = (decide (nN ≤ a) && decide (b ≤ nO)) by rw [HIS.out]; show isR _ _ (zH _ _ _ _ _ _) = _; rw [HAB.out]; rfl); have HI2 := aj.mk (show qY is (12 - n + 1) n met lo hi = yg au bN l2 a3 a4 nN nO by rw [← HI.out]; congr 1; omega); have HNX := aj.mk (show 13 - (n + 1) = 12 - n by omega)
     by_cases h1 : nN ≤ a
     ·by_cases h2 : b ≤ nO
      ·have HT := aj.mk (show is n = true by rw [HS.out]; simp [h1, h2])
       cases met
       ·go_wp2_with (first | ((with_reducible refine bE (t := 37) (p := 14) rfl ?_); refine kL rfl rfl rfl HX 1 rfl (i := 0) (.agg #[.int .i64 n, .int .i64 n]) [.int .i64 n, .int .i64 n] #[.int .i64 n, .int .i64 n] rfl rfl rfl tX (by simp) (by simp [Value.oneCell']) rfl ?_; clear HX nT nU xZ yc; intro w9 HX hx; clear hx; dsimp only [List.set] at HX; obtain ⟨nT, nU⟩ := HX.g2 1 rfl; obtain ⟨xZ, yc⟩ := HX.g2 2 rfl))
        exact ⟨⟨n + 1, true, n, n, rfl, by go_num, by omega, ⟨by rw [HNX.out, ← HI2.out, qY, HT.out]; rfl⟩, HX.tail⟩, by simp [intOf]; omega⟩
       ·go_wp2_with (first | ((with_reducible refine bE (t := 3) (p := 100) rfl ?_); refine kL rfl rfl rfl HX 1 rfl (i := 1) (.int .i64 n) [.int .i64 n] #[.int .i64 lo, .int .i64 n] rfl rfl rfl tX (by simp) (by simp [Value.oneCell']) rfl ?_; clear HX nT nU xZ yc; intro w9 HX hx; clear hx; dsimp only [List.set] at HX; obtain ⟨nT, nU⟩ := HX.g2 1 rfl; obtain ⟨xZ, yc⟩ := HX.g2 2 rfl))
        exact ⟨⟨n + 1, true, lo, n, rfl, by go_num, by omega, ⟨by rw [HNX.out, ← HI2.out, qY, HT.out]; rfl⟩, HX.tail⟩, by simp [intOf]; omega⟩
      ·have HT := aj.mk (show is n = false by rw [HS.out]; simp [h2])
       cases met
       ·go_wp2_with (fail)
        exact ⟨⟨n + 1, false, lo, hi, rfl, by go_num, by omega, ⟨by rw [HNX.out, ← HI2.out, qY, HT.out]; rfl⟩, HX.tail⟩, by simp [intOf]; omega⟩
       ·go_wp2_with (first | ((with_reducible refine bE (t := 37) (p := 12) rfl ?_); refine kL rfl rfl rfl HX 2 rfl (i := 0) (.agg #[.int .i64 lo, .int .i64 hi]) [.int .i64 lo, .int .i64 hi] #[.int .i64 lo, .int .i64 hi] rfl rfl rfl tX (by simp) (by simp [Value.oneCell']) rfl ?_; clear HX nT nU xZ yc; intro w9 HX hx; clear hx; dsimp only [List.set] at HX; obtain ⟨nT, nU⟩ := HX.g2 1 rfl; obtain ⟨xZ, yc⟩ := HX.g2 2 rfl))
        have HF : yg au bN l2 a3 a4 nN nO = (true, lo, hi) := by rw [← HI2.out, qY, HT.out]; rfl
        refine bodyPost_ret (lQ rfl _ _ g12 37 #[.int .i64 lo, .int .i64 hi] (0, 0) _ rfl (HX.gb 2 rfl) Tryz.underlying37 rfl tX) rfl ?_; have hR := HRR.out; rw [HF] at hR
        obtain ⟨rfl, rfl, rfl⟩ : lo = r1 ∧ hi = r2 ∧ 0 = r3 := by simpa using hR
        exact ⟨rfl, HX.below⟩
     ·have HT := aj.mk (show is n = false by rw [HS.out]; simp [h1])
      cases met
      ·go_wp2_with (fail)
       exact ⟨⟨n + 1, false, lo, hi, rfl, by go_num, by omega, ⟨by rw [HNX.out, ← HI2.out, qY, HT.out]; rfl⟩, HX.tail⟩, by simp [intOf]; omega⟩
      ·go_wp2_with (first | ((with_reducible refine bE (t := 37) (p := 12) rfl ?_); refine kL rfl rfl rfl HX 2 rfl (i := 0) (.agg #[.int .i64 lo, .int .i64 hi]) [.int .i64 lo, .int .i64 hi] #[.int .i64 lo, .int .i64 hi] rfl rfl rfl tX (by simp) (by simp [Value.oneCell']) rfl ?_; clear HX nT nU xZ yc; intro w9 HX hx; clear hx; dsimp only [List.set] at HX; obtain ⟨nT, nU⟩ := HX.g2 1 rfl; obtain ⟨xZ, yc⟩ := HX.g2 2 rfl))
       have HF : yg au bN l2 a3 a4 nN nO = (true, lo, hi) := by rw [← HI2.out, qY, HT.out]; rfl
       refine bodyPost_ret (lQ rfl _ _ g12 37 #[.int .i64 lo, .int .i64 hi] (0, 0) _ rfl (HX.gb 2 rfl) Tryz.underlying37 rfl tX) rfl ?_; have hR := HRR.out; rw [HF] at hR
       obtain ⟨rfl, rfl, rfl⟩ : lo = r1 ∧ hi = r2 ∧ 0 = r3 := by simpa using hR
       exact ⟨rfl, HX.below⟩
   ·obtain rfl : n = 13 := by omega
    obtain ⟨nT, nU⟩ := HX.g2 0 rfl; obtain ⟨xZ, yc⟩ := HX.g2 1 rfl
    have HF : yg au bN l2 a3 a4 nN nO = (met, lo, hi) := by rw [← HI.out]; rfl
    cases met
    ·go_wp2_with (first | ((with_reducible refine bE (t := 37) (p := 12) rfl ?_); refine kL rfl rfl rfl HX 1 rfl (i := 0) (.agg #[.int .i64 0, .int .i64 0]) [.int .i64 0, .int .i64 0] #[.int .i64 0, .int .i64 0] rfl rfl rfl tX (by simp) (by simp [Value.oneCell']) rfl ?_; clear HX nT nU xZ yc; intro w9 HX hx; clear hx; dsimp only [List.set] at HX; obtain ⟨nT, nU⟩ := HX.g2 0 rfl; obtain ⟨xZ, yc⟩ := HX.g2 1 rfl))
     (try rw [Exit.noGoto_ret])
     refine bodyPost_ret (lQ rfl _ _ g12 37 #[.int .i64 0, .int .i64 0] (0, 0) _ rfl (HX.gb 1 rfl) Tryz.underlying37 rfl tX) rfl ?_; have hR := HRR.out; rw [HF] at hR
     obtain ⟨rfl, rfl, rfl⟩ : 0 = r1 ∧ 0 = r2 ∧ 5 = r3 := by simpa using hR
     exact ⟨rfl, HX.below⟩
    ·go_wp2_with (first | ((with_reducible refine bE (t := 37) (p := 12) rfl ?_); refine kL rfl rfl rfl HX 1 rfl (i := 0) (.agg #[.int .i64 lo, .int .i64 hi]) [.int .i64 lo, .int .i64 hi] #[.int .i64 lo, .int .i64 hi] rfl rfl rfl tX (by simp) (by simp [Value.oneCell']) rfl ?_; clear HX nT nU xZ yc; intro w9 HX hx; clear hx; dsimp only [List.set] at HX; obtain ⟨nT, nU⟩ := HX.g2 0 rfl; obtain ⟨xZ, yc⟩ := HX.g2 1 rfl))
     (try rw [Exit.noGoto_ret])
     refine bodyPost_ret (lQ rfl _ _ g12 37 #[.int .i64 lo, .int .i64 hi] (0, 0) _ rfl (HX.gb 1 rfl) Tryz.underlying37 rfl tX) rfl ?_; have hR := HRR.out; rw [HF] at hR
     obtain ⟨rfl, rfl, rfl⟩ : lo = r1 ∧ hi = r2 ∧ 0 = r3 := by simpa using hR
     exact ⟨rfl, HX.below⟩
def jg.l0 : Nat → Int → List Int → Int → Int → Option Int
 | 0, _, _, _, _ => none
 | k + 1, x3, x6, x7, x8 => if x8 < x7 then (if 0 ≤ x8 then (if x8 < (x6.length : Int) then (if (rd x6 x8) = x3 then (jg.l0 k x3 x6 x7 (wrap64 (x8 + 1))) else (some (rd x6 x8))) else (none)) else (none)) else (some x3)
def jg.f (k : Nat) (l0 : List Int) : Option Int := jg.l0 k 0 l0 (l0.length : Int) 0
theorem jg.calls (k : Nat) (A0 : Option Addr) (c0 : Nat) (l0 : List Int) (r : Int) (w : World) (hr0 : Kd.C (Kd.int .i64) w A0 l0.length l0) (hc0 : l0.length ≤ c0) (h : jg.f k l0 = some r) :
  Calls Tryz.prog 134 #[.slice A0 l0.length c0] w fun e w' => e = .returned (.int .i64 r) ∧ iw w w' := by
 have BR := aj.mk hr0; have XU := aj.mk hc0; clear hr0 hc0; have H : (jg.l0 k 0 l0 (l0.length : Int) 0) = some r := h; clear h; have H' := aj.mk H; clear H
 go_enter Tryz.func134, Tryz.ntmps134
 go_wp2
 go_loopg [8] k (fun kq v8 w' => ∃ (dR : Int), v8 = .int .i64 dR ∧ aj (jg.l0 kq 0 l0 (l0.length : Int) dR = some r) ∧ aj (kq ≤ k) ∧ iw w w')
 case atStart => exact ⟨(0), tS, H', ⟨Nat.le_refl _⟩, tD⟩
 case round =>
  clear H'
  try clear c1
  obtain ⟨dR, rfl, HA, ng, ⟨m1, rfl⟩⟩ := hrel
  cases gk with
  | zero => exact absurd HA.out (by simp [jg.l0])
  | succ k1 =>
   have H := HA.out; clear HA; simp only [jg.l0] at H
   by_cases c2 : dR < (l0.length : Int)
   ·rw [if_pos c2] at H
    have BS : decide (dR < (l0.length : Int)) = true := decide_eq_true c2; clear c2
    by_cases c3 : 0 ≤ dR
    ·rw [if_pos c3] at H
     have oZ : decide (0 ≤ dR) = true := decide_eq_true c3; clear c3
     by_cases c4 : dR < (l0.length : Int)
     ·rw [if_pos c4] at H
      have o7 : decide (dR < (l0.length : Int)) = true := decide_eq_true c4; clear c4
      by_cases c5 : (rd l0 dR) = 0
      ·rw [if_pos c5] at H
       have y5 : ((rd l0 dR) == 0) = true := beq_iff_eq.mpr c5; have qmQ : ((rd l0 dR) != 0) = false := bne_eq_false_iff_eq.mpr c5; clear c5; have H' := aj.mk H; clear H; have Ph : 0 ≤ (dR : Int) := of_decide_eq_true tA; have Pj : dR < (l0.length : Int) := of_decide_eq_true tA; obtain ⟨qhc, e230, qai⟩ := Kd.iH BR.out dR Ph Pj
       cases e230
       replace Ph := eq_true Ph; replace Pj := eq_true Pj
       go_wp2
       go_roundg k1
       case measure => have := ng.out; omega
       case rel => exact ⟨(wrap64 (dR + 1)), tS, H', ⟨by have := ng.out; omega⟩, tD⟩
      ·rw [if_neg c5] at H
       have y5 : ((rd l0 dR) == 0) = false := beq_eq_false_iff_ne.mpr c5; have qmQ : ((rd l0 dR) != 0) = true := bne_iff_ne.mpr c5; obtain rfl := Option.some.inj H; have Ph : 0 ≤ (dR : Int) := of_decide_eq_true tA; have Pj : dR < (l0.length : Int) := of_decide_eq_true tA; obtain ⟨qhc, e230, qai⟩ := Kd.iH BR.out dR Ph Pj
       cases e230
       replace Ph := eq_true Ph; replace Pj := eq_true Pj
       go_wp2
       go_ret
       exact ⟨tS, tD⟩
     ·rw [if_neg c4] at H
      exact absurd H (by simp)
    ·rw [if_neg c3] at H
     exact absurd H (by simp)
   ·rw [if_neg c2] at H
    have BS : decide (dR < (l0.length : Int)) = false := decide_eq_false c2; clear c2; obtain rfl := Option.some.inj H
    go_wp2
    go_ret
    exact ⟨tS, tD⟩
def cmp_isNaN_int.f (a0 : Int) : Option Bool := some (a0 != a0)
theorem cmp_isNaN_int.calls (a0 : Int) (r : Bool) (w : World) (h : cmp_isNaN_int.f a0 = some r) :
  Calls Tryz.prog 183 #[.int .i64 a0] w fun e w' => e = .returned (.bool r) ∧ iw w w' := by
 have H : (some (a0 != a0)) = some r := h; clear h; obtain rfl := Option.some.inj H
 go_enter Tryz.func183, Tryz.ntmps183
 go_wp2
 go_ret
 exact ⟨tS, tD⟩
def cmp_Compare_int.f (a0 : Int) (a1 : Int) : Option Int := (cmp_isNaN_int.f a0).bind fun t231 => ((cmp_isNaN_int.f a1).bind fun t232 => (if t231 = true then (if t232 = true then (some 0) else (some (-1))) else (if t232 = true then (some 1) else (if a0 < a1 then (some (-1)) else (if a0 > a1 then (some 1) else (some 0))))))
theorem cmp_Compare_int.calls (a0 : Int) (a1 : Int) (r : Int) (w : World) (h : cmp_Compare_int.f a0 a1 = some r) :
  Calls Tryz.prog 135 #[.int .i64 a0, .int .i64 a1] w fun e w' => e = .returned (.int .i64 r) ∧ iw w w' := by
 have H : ((cmp_isNaN_int.f a0).bind fun t231 => ((cmp_isNaN_int.f a1).bind fun t232 => (if t231 = true then (if t232 = true then (some 0) else (some (-1))) else (if t232 = true then (some 1) else (if a0 < a1 then (some (-1)) else (if a0 > a1 then (some 1) else (some 0))))))) = some r := h; clear h; obtain ⟨t231, A3, H⟩ := lV H; obtain ⟨t232, A4, H⟩ := lV H
 by_cases c5 : t231 = true
 ·subst c5
  rw [if_pos rfl] at H
  by_cases c6 : t232 = true
  ·subst c6
   rw [if_pos rfl] at H; obtain rfl := Option.some.inj H
   go_enter Tryz.func135, Tryz.ntmps135
   go_wp2_with (first | ((with_reducible refine aD (f := 183) rfl ?_); refine bW (some 8) rfl rfl Tryz.func183 tX rfl #[.int .i64 a0] rfl tM ?_; (with_reducible refine (cmp_isNaN_int.calls a0 true _ A3.out).mono ?_); rintro e w' ⟨rfl, ⟨nd, rfl⟩⟩; refine ⟨_, rfl, ?_⟩) | ((with_reducible refine aD (f := 183) rfl ?_); refine bW (some 10) rfl rfl Tryz.func183 tX rfl #[.int .i64 a1] rfl tM ?_; (with_reducible refine (cmp_isNaN_int.calls a1 true _ A4.out).mono ?_); rintro e w' ⟨rfl, ⟨nd, rfl⟩⟩; refine ⟨_, rfl, ?_⟩))
   go_ret
   exact ⟨tS, tD⟩
  ·replace c6 := Bool.eq_false_iff.mpr c6
   subst c6
   have H1 : (some (-1)) = some r := by rw [if_neg (show ¬ (false = true) by decide)] at H; exact H
   clear H; have H := H1; clear H1; obtain rfl := Option.some.inj H
   go_enter Tryz.func135, Tryz.ntmps135
   go_wp2_with (first | ((with_reducible refine aD (f := 183) rfl ?_); refine bW (some 8) rfl rfl Tryz.func183 tX rfl #[.int .i64 a0] rfl tM ?_; (with_reducible refine (cmp_isNaN_int.calls a0 true _ A3.out).mono ?_); rintro e w' ⟨rfl, ⟨nd, rfl⟩⟩; refine ⟨_, rfl, ?_⟩) | ((with_reducible refine aD (f := 183) rfl ?_); refine bW (some 10) rfl rfl Tryz.func183 tX rfl #[.int .i64 a1] rfl tM ?_; (with_reducible refine (cmp_isNaN_int.calls a1 false _ A4.out).mono ?_); rintro e w' ⟨rfl, ⟨nd, rfl⟩⟩; refine ⟨_, rfl, ?_⟩))
   go_ret
   exact ⟨tS, tD⟩
 ·replace c5 := Bool.eq_false_iff.mpr c5
  subst c5
  have H1 : (if t232 = true then (some 1) else (if a0 < a1 then (some (-1)) else (if a0 > a1 then (some 1) else (some 0)))) = some r := by rw [if_neg (show ¬ (false = true) by decide)] at H; exact H
  clear H; have H := H1; clear H1
  by_cases c7 : t232 = true
  ·subst c7
   rw [if_pos rfl] at H; obtain rfl := Option.some.inj H
   go_enter Tryz.func135, Tryz.ntmps135
   go_wp2_with (first | ((with_reducible refine aD (f := 183) rfl ?_); refine bW (some 8) rfl rfl Tryz.func183 tX rfl #[.int .i64 a0] rfl tM ?_; (with_reducible refine (cmp_isNaN_int.calls a0 false _ A3.out).mono ?_); rintro e w' ⟨rfl, ⟨nd, rfl⟩⟩; refine ⟨_, rfl, ?_⟩) | ((with_reducible refine aD (f := 183) rfl ?_); refine bW (some 10) rfl rfl Tryz.func183 tX rfl #[.int .i64 a1] rfl tM ?_; (with_reducible refine (cmp_isNaN_int.calls a1 true _ A4.out).mono ?_); rintro e w' ⟨rfl, ⟨nd, rfl⟩⟩; refine ⟨_, rfl, ?_⟩))
   go_ret
   exact ⟨tS, tD⟩
  ·replace c7 := Bool.eq_false_iff.mpr c7
   subst c7
   have H1 : (if a0 < a1 then (some (-1)) else (if a0 > a1 then (some 1) else (some 0))) = some r := by rw [if_neg (show ¬ (false = true) by decide)] at H; exact H
   clear H; have H := H1; clear H1
   by_cases c8 : a0 < a1
   ·rw [if_pos c8] at H
    have E8 : decide (a0 < a1) = true := decide_eq_true c8; clear c8; obtain rfl := Option.some.inj H
    go_enter Tryz.func135, Tryz.ntmps135
    go_wp2_with (first | ((with_reducible refine aD (f := 183) rfl ?_); refine bW (some 8) rfl rfl Tryz.func183 tX rfl #[.int .i64 a0] rfl tM ?_; (with_reducible refine (cmp_isNaN_int.calls a0 false _ A3.out).mono ?_); rintro e w' ⟨rfl, ⟨nd, rfl⟩⟩; refine ⟨_, rfl, ?_⟩) | ((with_reducible refine aD (f := 183) rfl ?_); refine bW (some 10) rfl rfl Tryz.func183 tX rfl #[.int .i64 a1] rfl tM ?_; (with_reducible refine (cmp_isNaN_int.calls a1 false _ A4.out).mono ?_); rintro e w' ⟨rfl, ⟨nd, rfl⟩⟩; refine ⟨_, rfl, ?_⟩))
    go_ret
    exact ⟨tS, tD⟩
   ·rw [if_neg c8] at H
    have E8 : decide (a0 < a1) = false := decide_eq_false c8; clear c8
    by_cases c9 : a0 > a1
    ·rw [if_pos c9] at H
     have Kg : decide (a1 < a0) = true := decide_eq_true c9; clear c9; obtain rfl := Option.some.inj H
     go_enter Tryz.func135, Tryz.ntmps135
     go_wp2_with (first | ((with_reducible refine aD (f := 183) rfl ?_); refine bW (some 8) rfl rfl Tryz.func183 tX rfl #[.int .i64 a0] rfl tM ?_; (with_reducible refine (cmp_isNaN_int.calls a0 false _ A3.out).mono ?_); rintro e w' ⟨rfl, ⟨nd, rfl⟩⟩; refine ⟨_, rfl, ?_⟩) | ((with_reducible refine aD (f := 183) rfl ?_); refine bW (some 10) rfl rfl Tryz.func183 tX rfl #[.int .i64 a1] rfl tM ?_; (with_reducible refine (cmp_isNaN_int.calls a1 false _ A4.out).mono ?_); rintro e w' ⟨rfl, ⟨nd, rfl⟩⟩; refine ⟨_, rfl, ?_⟩))
     go_ret
     exact ⟨tS, tD⟩
    ·rw [if_neg c9] at H
     have Kg : decide (a1 < a0) = false := decide_eq_false c9; clear c9; obtain rfl := Option.some.inj H
     go_enter Tryz.func135, Tryz.ntmps135
     go_wp2_with (first | ((with_reducible refine aD (f := 183) rfl ?_); refine bW (some 8) rfl rfl Tryz.func183 tX rfl #[.int .i64 a0] rfl tM ?_; (with_reducible refine (cmp_isNaN_int.calls a0 false _ A3.out).mono ?_); rintro e w' ⟨rfl, ⟨nd, rfl⟩⟩; refine ⟨_, rfl, ?_⟩) | ((with_reducible refine aD (f := 183) rfl ?_); refine bW (some 10) rfl rfl Tryz.func183 tX rfl #[.int .i64 a1] rfl tM ?_; (with_reducible refine (cmp_isNaN_int.calls a1 false _ A4.out).mono ?_); rintro e w' ⟨rfl, ⟨nd, rfl⟩⟩; refine ⟨_, rfl, ?_⟩))
     go_ret
     exact ⟨tS, tD⟩
def lI.f (a0 : Int) : Option Int := some (Go.bits .and .i64 (wrap64 (IntKind.u64.wrap ((IntKind.u64.wrap ((IntKind.u64.wrap ((Go.bits .and .u64 (IntKind.u64.wrap (((IntKind.u64.wrap ((Go.bits .and .u64 ((IntKind.u64.wrap ((Go.bits .and .u64 (a0 / 2) 6148914691236517205) + (Go.bits .and .u64 a0 6148914691236517205))) / 4) 3689348814741910323) + (Go.bits .and .u64 (IntKind.u64.wrap ((Go.bits .and .u64 (a0 / 2) 6148914691236517205) + (Go.bits .and .u64 a0 6148914691236517205))) 3689348814741910323))) / 16) + (IntKind.u64.wrap ((Go.bits .and .u64 ((IntKind.u64.wrap ((Go.bits .and .u64 (a0 / 2) 6148914691236517205) + (Go.bits .and .u64 a0 6148914691236517205))) / 4) 3689348814741910323) + (Go.bits .and .u64 (IntKind.u64.wrap ((Go.bits .and .u64 (a0 / 2) 6148914691236517205) + (Go.bits .and .u64 a0 6148914691236517205))) 3689348814741910323))))) 1085102592571150095) + ((Go.bits .and .u64 (IntKind.u64.wrap (((IntKind.u64.wrap ((Go.bits .and .u64 ((IntKind.u64.wrap ((Go.bits .and .u64 (a0 / 2) 6148914691236517205) + (Go.bits .and .u64 a0 6148914691236517205))) / 4) 3689348814741910323) + (Go.bits .and .u64 (IntKind.u64.wrap ((Go.bits .and .u64 (a0 / 2) 6148914691236517205) + (Go.bits .and .u64 a0 6148914691236517205))) 3689348814741910323))) / 16) + (IntKind.u64.wrap ((Go.bits .and .u64 ((IntKind.u64.wrap ((Go.bits .and .u64 (a0 / 2) 6148914691236517205) + (Go.bits .and .u64 a0 6148914691236517205))) / 4) 3689348814741910323) + (Go.bits .and .u64 (IntKind.u64.wrap ((Go.bits .and .u64 (a0 / 2) 6148914691236517205) + (Go.bits .and .u64 a0 6148914691236517205))) 3689348814741910323))))) 1085102592571150095) / 256))) + ((IntKind.u64.wrap ((Go.bits .and .u64 (IntKind.u64.wrap (((IntKind.u64.wrap ((Go.bits .and .u64 ((IntKind.u64.wrap ((Go.bits .and .u64 (a0 / 2) 6148914691236517205) + (Go.bits .and .u64 a0 6148914691236517205))) / 4) 3689348814741910323) + (Go.bits .and .u64 (IntKind.u64.wrap ((Go.bits .and .u64 (a0 / 2) 6148914691236517205) + (Go.bits .and .u64 a0 6148914691236517205))) 3689348814741910323))) / 16) + (IntKind.u64.wrap ((Go.bits .and .u64 ((IntKind.u64.wrap ((Go.bits .and .u64 (a0 / 2) 6148914691236517205) + (Go.bits .and .u64 a0 6148914691236517205))) / 4) 3689348814741910323) + (Go.bits .and .u64 (IntKind.u64.wrap ((Go.bits .and .u64 (a0 / 2) 6148914691236517205) + (Go.bits .and .u64 a0 6148914691236517205))) 3689348814741910323))))) 1085102592571150095) + ((Go.bits .and .u64 (IntKind.u64.wrap (((IntKind.u64.wrap ((Go.bits .and .u64 ((IntKind.u64.wrap ((Go.bits .and .u64 (a0 / 2) 6148914691236517205) + (Go.bits .and .u64 a0 6148914691236517205))) / 4) 3689348814741910323) + (Go.bits .and .u64 (IntKind.u64.wrap ((Go.bits .and .u64 (a0 / 2) 6148914691236517205) + (Go.bits .and .u64 a0 6148914691236517205))) 3689348814741910323))) / 16) + (IntKind.u64.wrap ((Go.bits .and .u64 ((IntKind.u64.wrap ((Go.bits .and .u64 (a0 / 2) 6148914691236517205) + (Go.bits .and .u64 a0 6148914691236517205))) / 4) 3689348814741910323) + (Go.bits .and .u64 (IntKind.u64.wrap ((Go.bits .and .u64 (a0 / 2) 6148914691236517205) + (Go.bits .and .u64 a0 6148914691236517205))) 3689348814741910323))))) 1085102592571150095) / 256))) / 65536))) + ((IntKind.u64.wrap ((IntKind.u64.wrap ((Go.bits .and .u64 (IntKind.u64.wrap (((IntKind.u64.wrap ((Go.bits .and .u64 ((IntKind.u64.wrap ((Go.bits .and .u64 (a0 / 2) 6148914691236517205) + (Go.bits .and .u64 a0 6148914691236517205))) / 4) 3689348814741910323) + (Go.bits .and .u64 (IntKind.u64.wrap ((Go.bits .and .u64 (a0 / 2) 6148914691236517205) + (Go.bits .and .u64 a0 6148914691236517205))) 3689348814741910323))) / 16) + (IntKind.u64.wrap ((Go.bits .and .u64 ((IntKind.u64.wrap ((Go.bits .and .u64 (a0 / 2) 6148914691236517205) + (Go.bits .and .u64 a0 6148914691236517205))) / 4) 3689348814741910323) + (Go.bits .and .u64 (IntKind.u64.wrap ((Go.bits .and .u64 (a0 / 2) 6148914691236517205) + (Go.bits .and .u64 a0 6148914691236517205))) 3689348814741910323))))) 1085102592571150095) + ((Go.bits .and .u64 (IntKind.u64.wrap (((IntKind.u64.wrap ((Go.bits .and .u64 ((IntKind.u64.wrap ((Go.bits .and .u64 (a0 / 2) 6148914691236517205) + (Go.bits .and .u64 a0 6148914691236517205))) / 4) 3689348814741910323) + (Go.bits .and .u64 (IntKind.u64.wrap ((Go.bits .and .u64 (a0 / 2) 6148914691236517205) + (Go.bits .and .u64 a0 6148914691236517205))) 3689348814741910323))) / 16) + (IntKind.u64.wrap ((Go.bits .and .u64 ((IntKind.u64.wrap ((Go.bits .and .u64 (a0 / 2) 6148914691236517205) + (Go.bits .and .u64 a0 6148914691236517205))) / 4) 3689348814741910323) + (Go.bits .and .u64 (IntKind.u64.wrap ((Go.bits .and .u64 (a0 / 2) 6148914691236517205) + (Go.bits .and .u64 a0 6148914691236517205))) 3689348814741910323))))) 1085102592571150095) / 256))) + ((IntKind.u64.wrap ((Go.bits .and .u64 (IntKind.u64.wrap (((IntKind.u64.wrap ((Go.bits .and .u64 ((IntKind.u64.wrap ((Go.bits .and .u64 (a0 / 2) 6148914691236517205) + (Go.bits .and .u64 a0 6148914691236517205))) / 4) 3689348814741910323) + (Go.bits .and .u64 (IntKind.u64.wrap ((Go.bits .and .u64 (a0 / 2) 6148914691236517205) + (Go.bits .and .u64 a0 6148914691236517205))) 3689348814741910323))) / 16) + (IntKind.u64.wrap ((Go.bits .and .u64 ((IntKind.u64.wrap ((Go.bits .and .u64 (a0 / 2) 6148914691236517205) + (Go.bits .and .u64 a0 6148914691236517205))) / 4) 3689348814741910323) + (Go.bits .and .u64 (IntKind.u64.wrap ((Go.bits .and .u64 (a0 / 2) 6148914691236517205) + (Go.bits .and .u64 a0 6148914691236517205))) 3689348814741910323))))) 1085102592571150095) + ((Go.bits .and .u64 (IntKind.u64.wrap (((IntKind.u64.wrap ((Go.bits .and .u64 ((IntKind.u64.wrap ((Go.bits .and .u64 (a0 / 2) 6148914691236517205) + (Go.bits .and .u64 a0 6148914691236517205))) / 4) 3689348814741910323) + (Go.bits .and .u64 (IntKind.u64.wrap ((Go.bits .and .u64 (a0 / 2) 6148914691236517205) + (Go.bits .and .u64 a0 6148914691236517205))) 3689348814741910323))) / 16) + (IntKind.u64.wrap ((Go.bits .and .u64 ((IntKind.u64.wrap ((Go.bits .and .u64 (a0 / 2) 6148914691236517205) + (Go.bits .and .u64 a0 6148914691236517205))) / 4) 3689348814741910323) + (Go.bits .and .u64 (IntKind.u64.wrap ((Go.bits .and .u64 (a0 / 2) 6148914691236517205) + (Go.bits .and .u64 a0 6148914691236517205))) 3689348814741910323))))) 1085102592571150095) / 256))) / 65536))) / 4294967296)))) 127)
theorem lI.calls (a0 : Int) (r : Int) (w : World) (h : lI.f a0 = some r) :
  Calls Tryz.prog 185 #[.int .u64 a0] w fun e w' => e = .returned (.int .i64 r) ∧ iw w w' := by
 have H : (some (Go.bits .and .i64 (wrap64 (IntKind.u64.wrap ((IntKind.u64.wrap ((IntKind.u64.wrap ((Go.bits .and .u64 (IntKind.u64.wrap (((IntKind.u64.wrap ((Go.bits .and .u64 ((IntKind.u64.wrap ((Go.bits .and .u64 (a0 / 2) 6148914691236517205) + (Go.bits .and .u64 a0 6148914691236517205))) / 4) 3689348814741910323) + (Go.bits .and .u64 (IntKind.u64.wrap ((Go.bits .and .u64 (a0 / 2) 6148914691236517205) + (Go.bits .and .u64 a0 6148914691236517205))) 3689348814741910323))) / 16) + (IntKind.u64.wrap ((Go.bits .and .u64 ((IntKind.u64.wrap ((Go.bits .and .u64 (a0 / 2) 6148914691236517205) + (Go.bits .and .u64 a0 6148914691236517205))) / 4) 3689348814741910323) + (Go.bits .and .u64 (IntKind.u64.wrap ((Go.bits .and .u64 (a0 / 2) 6148914691236517205) + (Go.bits .and .u64 a0 6148914691236517205))) 3689348814741910323))))) 1085102592571150095) + ((Go.bits .and .u64 (IntKind.u64.wrap (((IntKind.u64.wrap ((Go.bits .and .u64 ((IntKind.u64.wrap ((Go.bits .and .u64 (a0 / 2) 6148914691236517205) + (Go.bits .and .u64 a0 6148914691236517205))) / 4) 3689348814741910323) + (Go.bits .and .u64 (IntKind.u64.wrap ((Go.bits .and .u64 (a0 / 2) 6148914691236517205) + (Go.bits .and .u64 a0 6148914691236517205))) 3689348814741910323))) / 16) + (IntKind.u64.wrap ((Go.bits .and .u64 ((IntKind.u64.wrap ((Go.bits .and .u64 (a0 / 2) 6148914691236517205) + (Go.bits .and .u64 a0 6148914691236517205))) / 4) 3689348814741910323) + (Go.bits .and .u64 (IntKind.u64.wrap ((Go.bits .and .u64 (a0 / 2) 6148914691236517205) + (Go.bits .and .u64 a0 6148914691236517205))) 3689348814741910323))))) 1085102592571150095) / 256))) + ((IntKind.u64.wrap ((Go.bits .and .u64 (IntKind.u64.wrap (((IntKind.u64.wrap ((Go.bits .and .u64 ((IntKind.u64.wrap ((Go.bits .and .u64 (a0 / 2) 6148914691236517205) + (Go.bits .and .u64 a0 6148914691236517205))) / 4) 3689348814741910323) + (Go.bits .and .u64 (IntKind.u64.wrap ((Go.bits .and .u64 (a0 / 2) 6148914691236517205) + (Go.bits .and .u64 a0 6148914691236517205))) 3689348814741910323))) / 16) + (IntKind.u64.wrap ((Go.bits .and .u64 ((IntKind.u64.wrap ((Go.bits .and .u64 (a0 / 2) 6148914691236517205) + (Go.bits .and .u64 a0 6148914691236517205))) / 4) 3689348814741910323) + (Go.bits .and .u64 (IntKind.u64.wrap ((Go.bits .and .u64 (a0 / 2) 6148914691236517205) + (Go.bits .and .u64 a0 6148914691236517205))) 3689348814741910323))))) 1085102592571150095) + ((Go.bits .and .u64 (IntKind.u64.wrap (((IntKind.u64.wrap ((Go.bits .and .u64 ((IntKind.u64.wrap ((Go.bits .and .u64 (a0 / 2) 6148914691236517205) + (Go.bits .and .u64 a0 6148914691236517205))) / 4) 3689348814741910323) + (Go.bits .and .u64 (IntKind.u64.wrap ((Go.bits .and .u64 (a0 / 2) 6148914691236517205) + (Go.bits .and .u64 a0 6148914691236517205))) 3689348814741910323))) / 16) + (IntKind.u64.wrap ((Go.bits .and .u64 ((IntKind.u64.wrap ((Go.bits .and .u64 (a0 / 2) 6148914691236517205) + (Go.bits .and .u64 a0 6148914691236517205))) / 4) 3689348814741910323) + (Go.bits .and .u64 (IntKind.u64.wrap ((Go.bits .and .u64 (a0 / 2) 6148914691236517205) + (Go.bits .and .u64 a0 6148914691236517205))) 3689348814741910323))))) 1085102592571150095) / 256))) / 65536))) + ((IntKind.u64.wrap ((IntKind.u64.wrap ((Go.bits .and .u64 (IntKind.u64.wrap (((IntKind.u64.wrap ((Go.bits .and .u64 ((IntKind.u64.wrap ((Go.bits .and .u64 (a0 / 2) 6148914691236517205) + (Go.bits .and .u64 a0 6148914691236517205))) / 4) 3689348814741910323) + (Go.bits .and .u64 (IntKind.u64.wrap ((Go.bits .and .u64 (a0 / 2) 6148914691236517205) + (Go.bits .and .u64 a0 6148914691236517205))) 3689348814741910323))) / 16) + (IntKind.u64.wrap ((Go.bits .and .u64 ((IntKind.u64.wrap ((Go.bits .and .u64 (a0 / 2) 6148914691236517205) + (Go.bits .and .u64 a0 6148914691236517205))) / 4) 3689348814741910323) + (Go.bits .and .u64 (IntKind.u64.wrap ((Go.bits .and .u64 (a0 / 2) 6148914691236517205) + (Go.bits .and .u64 a0 6148914691236517205))) 3689348814741910323))))) 1085102592571150095) + ((Go.bits .and .u64 (IntKind.u64.wrap (((IntKind.u64.wrap ((Go.bits .and .u64 ((IntKind.u64.wrap ((Go.bits .and .u64 (a0 / 2) 6148914691236517205) + (Go.bits .and .u64 a0 6148914691236517205))) / 4) 3689348814741910323) + (Go.bits .and .u64 (IntKind.u64.wrap ((Go.bits .and .u64 (a0 / 2) 6148914691236517205) + (Go.bits .and .u64 a0 6148914691236517205))) 3689348814741910323))) / 16) + (IntKind.u64.wrap ((Go.bits .and .u64 ((IntKind.u64.wrap ((Go.bits .and .u64 (a0 / 2) 6148914691236517205) + (Go.bits .and .u64 a0 6148914691236517205))) / 4) 3689348814741910323) + (Go.bits .and .u64 (IntKind.u64.wrap ((Go.bits .and .u64 (a0 / 2) 6148914691236517205) + (Go.bits .and .u64 a0 6148914691236517205))) 3689348814741910323))))) 1085102592571150095) / 256))) + ((IntKind.u64.wrap ((Go.bits .and .u64 (IntKind.u64.wrap (((IntKind.u64.wrap ((Go.bits .and .u64 ((IntKind.u64.wrap ((Go.bits .and .u64 (a0 / 2) 6148914691236517205) + (Go.bits .and .u64 a0 6148914691236517205))) / 4) 3689348814741910323) + (Go.bits .and .u64 (IntKind.u64.wrap ((Go.bits .and .u64 (a0 / 2) 6148914691236517205) + (Go.bits .and .u64 a0 6148914691236517205))) 3689348814741910323))) / 16) + (IntKind.u64.wrap ((Go.bits .and .u64 ((IntKind.u64.wrap ((Go.bits .and .u64 (a0 / 2) 6148914691236517205) + (Go.bits .and .u64 a0 6148914691236517205))) / 4) 3689348814741910323) + (Go.bits .and .u64 (IntKind.u64.wrap ((Go.bits .and .u64 (a0 / 2) 6148914691236517205) + (Go.bits .and .u64 a0 6148914691236517205))) 3689348814741910323))))) 1085102592571150095) + ((Go.bits .and .u64 (IntKind.u64.wrap (((IntKind.u64.wrap ((Go.bits .and .u64 ((IntKind.u64.wrap ((Go.bits .and .u64 (a0 / 2) 6148914691236517205) + (Go.bits .and .u64 a0 6148914691236517205))) / 4) 3689348814741910323) + (Go.bits .and .u64 (IntKind.u64.wrap ((Go.bits .and .u64 (a0 / 2) 6148914691236517205) + (Go.bits .and .u64 a0 6148914691236517205))) 3689348814741910323))) / 16) + (IntKind.u64.wrap ((Go.bits .and .u64 ((IntKind.u64.wrap ((Go.bits .and .u64 (a0 / 2) 6148914691236517205) + (Go.bits .and .u64 a0 6148914691236517205))) / 4) 3689348814741910323) + (Go.bits .and .u64 (IntKind.u64.wrap ((Go.bits .and .u64 (a0 / 2) 6148914691236517205) + (Go.bits .and .u64 a0 6148914691236517205))) 3689348814741910323))))) 1085102592571150095) / 256))) / 65536))) / 4294967296)))) 127)) = some r := h; clear h; obtain rfl := Option.some.inj H
 go_enter Tryz.func185, Tryz.ntmps185
 go_wp2
 go_ret
 exact ⟨tS, tD⟩
def jW.f (a0 : Int) : Option Int := (lI.f a0).bind fun t233 => (some t233)
theorem jW.calls (a0 : Int) (r : Int) (w : World) (h : jW.f a0 = some r) :
  Calls Tryz.prog 136 #[.int .u64 a0] w fun e w' => e = .returned (.int .i64 r) ∧ iw w w' := by
 have H : ((lI.f a0).bind fun t233 => (some t233)) = some r := h; clear h; obtain ⟨t233, A2, H⟩ := lV H; obtain rfl := Option.some.inj H
 go_enter Tryz.func136, Tryz.ntmps136
 go_wp2_with (first | ((with_reducible refine aD (f := 185) rfl ?_); refine bW (some 7) rfl rfl Tryz.func185 tX rfl #[.int .u64 a0] rfl tM ?_; (with_reducible refine (lI.calls a0 t233 _ A2.out).mono ?_); rintro e w' ⟨rfl, ⟨nd, rfl⟩⟩; refine ⟨_, rfl, ?_⟩))
 go_ret
 exact ⟨tS, tD⟩
def yt (n : Int) : Int := n % 2 + n / 2 % 2 + n / 4 % 2 + n / 8 % 2 + n / 16 % 2
def yu (a b : Int) : Int := if a < b then -1 else if b < a then 1 else 0
def orI (x y z : Int) : Int := if x = 0 then (if y = 0 then z else y) else x
def rZ (l : List dN) (a b : Int) : Bool := decide (orI (yu (yt a) (yt b)) (yu (nS l a) (nS l b)) (yu a b) < 0)
theorem Xm {n : Int} (h0 : 0 ≤ n) (h1 : n < 32) : IntKind.u64.wrap n = n := by
 rw [IntKind.wrap_u64]
 omega
theorem qeg {n : Int} (h0 : 0 ≤ n) (h1 : n < 32) : jW.f n = some (yt n) := by
 have h : ((List.range 32).all fun m => jW.f (m : Int) == some (yt (m : Int))) = true := by kernel_rfl
 have := List.all_eq_true.1 h n.toNat (List.mem_range.2 (by omega)); rw [show ((n.toNat : Nat) : Int) = n by omega] at this
 simpa using this
theorem Xn {n : Int} (h0 : 0 ≤ n) (h1 : n < 32) : jW.f (IntKind.u64.wrap n) = some (yt n) := by
 rw [show IntKind.u64.wrap n = n from Xm h0 h1]; exact qeg h0 h1
theorem Xo (a b : Int) : cmp_Compare_int.f a b = some (yu a b) := by
 unfold cmp_Compare_int.f cmp_isNaN_int.f yu
 simp only [bne_self_eq_false, Option.bind_some, Bool.false_eq_true, if_false]
 by_cases h : a < b
 ·rw [if_pos h, if_pos h]
 ·rw [if_neg h, if_neg h]
  by_cases h2 : b < a
  ·rw [if_pos (show a > b from h2), if_pos h2]
  ·rw [if_neg (show ¬ a > b from h2), if_neg h2]
theorem qmS (x y z : Int) : jg.f 4 [x, y, z] = some (orI x y z) := by
 unfold jg.f orI
 have w1 : wrap64 (0 + 1) = 1 := by unfold wrap64; omega
 have w2 : wrap64 (1 + 1) = 2 := by unfold wrap64; omega
 have w3 : wrap64 (2 + 1) = 3 := by unfold wrap64; omega
 simp only [jg.l0, List.length_cons, List.length_nil, w1, w2, w3]
 by_cases hx : x = 0
 ·by_cases hy : y = 0
  ·by_cases hz : z = 0 <;> simp [hx, hy, hz, rd]
  ·simp [hx, hy, rd]
 ·simp [hx, rd]
theorem JE (g8 g5 : Nat) (A2 : Option Addr) (c2 : Nat) (l2 : List dN) (a b : Int) (w : World) (h8 : w.heap[g8]? = some (.cells #[.func (.func 128) #[] #[.pointer (some ⟨g5, 0, none⟩)]] 170 (0, 0))) (h5 : w.heap[g5]? = some (.cells #[.slice A2 l2.length c2] 59 (0, 0)))
  (hr2 : Kd.C l7 w A2 l2.length l2) (hc2 : l2.length ≤ c2) (hl : l2.length ≤ 5) (hs : ∀ s ∈ l2, 0 ≤ s.f2 ∧ s.f2 ≤ 999) (ha0 : 0 ≤ a) (ha1 : a < 32) (hb0 : 0 ≤ b) (hb1 : b < 32) :
  Calls Tryz.prog 133 #[.int .i64 a, .int .i64 b, .pointer (some ⟨g8, 0, none⟩)] w fun e w' => e = .returned (.bool (rZ l2 a b)) ∧ Below w.heap.size w w' := by
 have HR := aj.mk hr2; have HL := aj.mk hl; have HS := aj.mk hs; have H8 := aj.mk h8; have H5 := aj.mk h5; have ch := fT h8; clear h8 h5 hr2 hl hs
 go_enter Tryz.func133, Tryz.ntmps133
 go_wp2_with (fail)
 refine j6 (n := 21) (S := fun w' => w'.cell? ⟨g8, 0, none⟩ = some (.func (.func 128) #[] #[.pointer (some ⟨g5, 0, none⟩)])) (ds := []) #[false, false, false, false, false, false, false, false, false, false, false, false, false, false, false, false, false, false, false, false, false] tX rfl rfl ch (fun hHeld => ?_); have HB := aj.mk (fJ (Below.refl w.heap.size w)); clear ch
 generalize w.drew = w6 at HB hHeld ⊢
 refine aH (i := 0) (N := some 6) (v := ?_) (a' := ?_) (bA 21 1) rfl rfl tX (fun _ _ _ h => h) (Or.inl ⟨by rfl, ?_⟩) ?_ ?_; rotate_left
 ·intro w'
  go_simp
  with_reducible rfl
 rotate_left
 ·simp only [Act.put, sL, ay, aA]
  rfl
 refine aH (i := 1) (N := some 7) (v := ?_) (a' := ?_) (bA 21 3) rfl rfl tX (fun _ _ _ h => h) (Or.inl ⟨by rfl, ?_⟩) ?_ ?_; rotate_left
 ·intro w'
  go_simp
  with_reducible rfl
 rotate_left
 ·simp only [Act.put, sL, ay, aA]
  rfl
 refine aH (i := 3) (N := some 9) (v := ?_) (a' := ?_) (bA 21 11) rfl rfl tX (fun _ _ _ h => h) (Or.inl ⟨by rfl, ?_⟩) ?_ ?_; rotate_left
 ·intro w'
  go_simp
  with_reducible rfl
 rotate_left
 ·simp only [Act.put, sL, ay, aA]
  rfl
 refine aH (i := 4) (N := some 10) (v := ?_) (a' := ?_) (bA 21 27) rfl rfl tX (fun _ _ _ h => h) (Or.inl ⟨by rfl, ?_⟩) ?_ ?_; rotate_left
 ·intro w'
  go_simp
  with_reducible rfl
 rotate_left
 ·simp only [Act.put, sL, ay, aA]
  rfl
 refine aH (i := 8) (N := some 14) (v := ?_) (a' := ?_) (bA 21 283) rfl rfl tX (fun _ _ _ h => h) (Or.inl ⟨by rfl, ?_⟩) ?_ ?_; rotate_left
 ·intro w'
  go_simp
  with_reducible rfl
 rotate_left
 ·simp only [Act.put, sL, ay, aA]
  rfl
 refine aH (i := 11) (N := some 17) (v := ?_) (a' := ?_) (bA 21 2331) rfl rfl tX (fun _ _ _ h => h) (Or.inl ⟨by rfl, ?_⟩) ?_ ?_; rotate_left
 ·intro w'
  go_simp
  with_reducible rfl
 rotate_left
 ·simp only [Act.put, sL, ay, aA]
  rfl
 refine aH (i := 14) (N := some 20) (v := ?_) (a' := ?_) (bA 21 18715) rfl rfl tX (fun _ _ _ h => h) (Or.inl ⟨by rfl, ?_⟩) ?_ ?_; rotate_left
 ·intro w'
  go_simp
  with_reducible rfl
 rotate_left
 ·simp only [Act.put, sL, ay, aA]
  rfl
 refine aH (i := 15) (N := some 21) (v := ?_) (a' := ?_) (bA 21 51483) rfl rfl tX (fun _ _ _ h => h) (Or.inl ⟨by rfl, ?_⟩) ?_ ?_; rotate_left
 ·intro w'
  go_simp
  with_reducible rfl
 rotate_left
 ·simp only [Act.put, sL, ay, aA]
  rfl
 refine fC (i := 7) (N := some 13) (v := ?_) (a' := ?_) (bA 21 51611) rfl rfl tX (fun _ _ _ h => h) (Or.inl ⟨by rfl, ?_⟩) hHeld ?_ ?_; rotate_left
 ·rintro w' s0
  go_simp
  with_reducible rfl
 rotate_left
 ·simp only [Act.put, sL, ay, aA]
  rfl
 refine fC (i := 10) (N := some 16) (v := ?_) (a' := ?_) (bA 21 52635) rfl rfl tX (fun _ _ _ h => h) (Or.inl ⟨by rfl, ?_⟩) hHeld ?_ ?_; rotate_left
 ·rintro w' s0
  go_simp
  with_reducible rfl
 rotate_left
 ·simp only [Act.put, sL, ay, aA]
  rfl
 refine gI (i := 2) (N := some 8) (bA 21 52639) rfl rfl tX (by decide) (fun K hK => ?_); refine fP Tryz.func136 tX rfl #[.int .u64 (IntKind.u64.wrap a)] (by rfl) rfl rfl (by (try simp only [List.map_toArray, List.map_cons, List.map_nil]); first | done | rfl) ?_; refine (pK (jW.calls _ _ _ (Xn ha0 ha1))).mono ?_; rintro e w1 ⟨rfl, hx⟩; refine ⟨_, rfl, ?_⟩; replace HB := fu HB hx; clear hx; refine hK.out _ _ (fT (aG H8.out HB.out)) (fun hHeld => ?_); clear hK K; refine dw (a' := ?_) ?_ ?_; rotate_left
 ·show Act.put _ (some 8) _ = _
  simp only [cu, Act.put, sL, ay, aA]
  rfl
 refine gI (i := 5) (N := some 11) (bA 21 52671) rfl rfl tX (by decide) (fun K hK => ?_); refine fP Tryz.func136 tX rfl #[.int .u64 (IntKind.u64.wrap b)] (by rfl) rfl rfl (by (try simp only [List.map_toArray, List.map_cons, List.map_nil]); first | done | rfl) ?_; refine (pK (jW.calls _ _ _ (Xn hb0 hb1))).mono ?_; rintro e w1 ⟨rfl, hx⟩; refine ⟨_, rfl, ?_⟩; replace HB := fu HB hx; clear hx; refine hK.out _ _ (fT (aG H8.out HB.out)) (fun hHeld => ?_); clear hK K; refine dw (a' := ?_) ?_ ?_; rotate_left
 ·show Act.put _ (some 11) _ = _
  simp only [cu, Act.put, sL, ay, aA]
  rfl
 refine gI (i := 6) (N := some 12) (bA 21 52735) rfl rfl tX (by decide) (fun K hK => ?_); refine fP Tryz.func135 tX rfl #[.int .i64 (yt a), .int .i64 (yt b)] (by rfl) rfl rfl (by (try simp only [List.map_toArray, List.map_cons, List.map_nil]); first | done | rfl) ?_; refine (pK (cmp_Compare_int.calls _ _ _ _ (Xo (yt a) (yt b)))).mono ?_; rintro e w1 ⟨rfl, hx⟩; refine ⟨_, rfl, ?_⟩; replace HB := fu HB hx; clear hx; refine hK.out _ _ (fT (aG H8.out HB.out)) (fun hHeld => ?_); clear hK K; refine dw (a' := ?_) ?_ ?_; rotate_left
 ·show Act.put _ (some 12) _ = _
  simp only [cu, Act.put, sL, ay, aA]
  rfl
 refine gI (i := 9) (N := some 15) (bA 21 53247) rfl rfl tX (by decide) (fun K hK => ?_); refine PI 128 #[.int .i64 a, .pointer (some ⟨g5, 0, none⟩)] (by rfl) rfl tG ?_; refine (Dh g5 A2 c2 l2 a _ (aG H5.out HB.out) (Kd.ak HR.out HB.out) hc2 HL.out HS.out).mono ?_; rintro e w1 ⟨rfl, hx⟩; refine ⟨_, rfl, ?_⟩; replace HB := fu HB hx; clear hx; refine hK.out _ _ (fT (aG H8.out HB.out)) (fun hHeld => ?_); clear hK K; refine dw (a' := ?_) ?_ ?_; rotate_left
 ·show Act.put _ (some 15) _ = _
  simp only [cu, Act.put, sL, ay, aA]
  rfl
 refine gI (i := 12) (N := some 18) (bA 21 57343) rfl rfl tX (by decide) (fun K hK => ?_); refine PI 128 #[.int .i64 b, .pointer (some ⟨g5, 0, none⟩)] (by rfl) rfl tG ?_; refine (Dh g5 A2 c2 l2 b _ (aG H5.out HB.out) (Kd.ak HR.out HB.out) hc2 HL.out HS.out).mono ?_; rintro e w1 ⟨rfl, hx⟩; refine ⟨_, rfl, ?_⟩; replace HB := fu HB hx; clear hx; refine hK.out _ _ (fT (aG H8.out HB.out)) (fun hHeld => ?_); clear hK K; refine dw (a' := ?_) ?_ ?_; rotate_left
 ·show Act.put _ (some 18) _ = _
  simp only [cu, Act.put, sL, ay, aA]
  rfl
 refine gI (i := 13) (N := some 19) (bA 21 65535) rfl rfl tX (by decide) (fun K hK => ?_); refine fP Tryz.func135 tX rfl #[.int .i64 (nS l2 a), .int .i64 (nS l2 b)] (by rfl) rfl rfl (by (try simp only [List.map_toArray, List.map_cons, List.map_nil]); first | done | rfl) ?_; refine (pK (cmp_Compare_int.calls _ _ _ _ (Xo (nS l2 a) (nS l2 b)))).mono ?_; rintro e w1 ⟨rfl, hx⟩; refine ⟨_, rfl, ?_⟩; replace HB := fu HB hx; clear hx; refine hK.out _ _ (fT (aG H8.out HB.out)) (fun hHeld => ?_); clear hK K; refine dw (a' := ?_) ?_ ?_; rotate_left
 ·show Act.put _ (some 19) _ = _
  simp only [cu, Act.put, sL, ay, aA]
  rfl
 refine gI (i := 16) (N := some 22) (bA 21 131071) rfl rfl tX (by decide) (fun K hK => ?_); refine fP Tryz.func135 tX rfl #[.int .i64 a, .int .i64 b] (by rfl) rfl rfl (by (try simp only [List.map_toArray, List.map_cons, List.map_nil]); first | done | rfl) ?_; refine (pK (cmp_Compare_int.calls _ _ _ _ (Xo a b))).mono ?_; rintro e w1 ⟨rfl, hx⟩; refine ⟨_, rfl, ?_⟩; replace HB := fu HB hx; clear hx; refine hK.out _ _ (fT (aG H8.out HB.out)) (fun hHeld => ?_); clear hK K; refine dw (a' := ?_) ?_ ?_; rotate_left
 ·show Act.put _ (some 22) _ = _
  simp only [cu, Act.put, sL, ay, aA]
  rfl
 refine gI (i := 17) (N := some 23) (bA 21 262143) rfl rfl tX (by decide) (fun K hK => ?_); refine Kd.oF (Kd.int .i64) _ 3 ?hg (N := 23) ?hd (xs := [yu (yt a) (yt b), yu (nS l2 a) (nS l2 b), yu a b]) (inner := [.int .i64 (yu (yt a) (yt b)), .int .i64 (yu (nS l2 a) (nS l2 b)), .int .i64 (yu a b)]) (ok := fun _ => True) (nE := fun _ => True) ?hr ?hp (fun _ hk => hk) trivial (Below.refl _ _) (Nat.le_refl _) (by simp) ?_; (case hd => rfl); (case hg => rfl); (case hr => first | (go_simp; done) | (go_simp; rfl)); (case hp => exact dH.one (show Kd.M (Kd.int .i64) _ _ _ _ _ from rfl) (dH.one (show Kd.M (Kd.int .i64) _ _ _ _ _ from rfl) (dH.one (show Kd.M (Kd.int .i64) _ _ _ _ _ from rfl) (dH.none _ _)))); intro v w1 ho hx tq iy; clear tq iy; replace HB := fu HB hx; obtain ⟨A5, c5, rfl, hl5, hC5⟩ := Kd.fO ho; clear hx ho; refine hK.out _ _ (fT (aG H8.out HB.out)) (fun hHeld => ?_); clear hK K; refine dw (a' := ?_) ?_ ?_; rotate_left
 ·show Act.put _ (some 23) _ = _
  simp only [cu, Act.put, sL, ay, aA]
  rfl
 refine gI (i := 18) (N := some 24) (bA 21 524287) rfl rfl tX (by decide) (fun K hK => ?_); refine fP Tryz.func134 tX rfl #[.slice A5 [yu (yt a) (yt b), yu (nS l2 a) (nS l2 b), yu a b].length c5] (by rfl) rfl rfl (by (try simp only [List.map_toArray, List.map_cons, List.map_nil]); first | done | rfl) ?_; refine (pK (jg.calls 4 A5 c5 [yu (yt a) (yt b), yu (nS l2 a) (nS l2 b), yu a b] _ _ hC5 hl5 (qmS _ _ _))).mono ?_; rintro e w1 ⟨rfl, hx⟩; refine ⟨_, rfl, ?_⟩; replace HB := fu HB hx; clear hx; refine hK.out _ _ (fT (aG H8.out HB.out)) (fun hHeld => ?_); clear hK K; refine dw (a' := ?_) ?_ ?_; rotate_left
 ·show Act.put _ (some 24) _ = _
  simp only [cu, Act.put, sL, ay, aA]
  rfl
 refine aH (i := 19) (N := some 25) (v := ?_) (a' := ?_) (bA 21 1048575) rfl rfl tX (fun _ _ _ h => h) (Or.inl ⟨by rfl, ?_⟩) ?_ ?_; rotate_left
 ·intro w'
  go_simp
  with_reducible rfl
 rotate_left
 ·simp only [Act.put, sL, ay, aA]
  rfl
 refine aH (i := 20) (N := some 5) (v := ?_) (a' := ?_) (bA 21 2097151) rfl rfl tX (fun _ _ _ h => h) (Or.inl ⟨by rfl, ?_⟩) ?_ ?_; rotate_left
 ·intro w'
  go_simp
  with_reducible rfl
 rotate_left
 ·simp only [Act.put, sL, ay, aA]
  rfl
 refine kZ tX ?_
 go_wp2_with (fail)
 go_ret
 exact ⟨rfl, HB.out⟩
def Bu (bt : Int → Int → Bool) : List Int → Int
 | [] => 0
 | x :: l => l.foldl (fun out y => if bt y out then y else out) x
theorem Pk (bt : Int → Int → Bool) (l : List Int) (x : Int) (h : l ≠ []) : Bu bt (l ++ [x]) = if bt x (Bu bt l) then x else Bu bt l := by
 cases l with
 | nil => exact absurd rfl h
 | cons y l =>
  show (l ++ [x]).foldl (fun out y => if bt y out then y else out) y = _
  rw [List.foldl_append]
  rfl
theorem F6 (g8 g5 : Nat) (A2 : Option Addr) (c2 : Nat) (l2 : List dN) (A : Option Addr) (c : Nat) (l : List Int) (w : World) (h8 : w.heap[g8]? = some (.cells #[.func (.func 128) #[] #[.pointer (some ⟨g5, 0, none⟩)]] 170 (0, 0))) (h5 : w.heap[g5]? = some (.cells #[.slice A2 l2.length c2] 59 (0, 0)))
  (hr2 : Kd.C l7 w A2 l2.length l2) (hc2 : l2.length ≤ c2) (hl : l2.length ≤ 5) (hs : ∀ s ∈ l2, 0 ≤ s.f2 ∧ s.f2 ≤ 999) (hr : Kd.C (Kd.int .i64) w A l.length l) (hb : ∀ x ∈ l, 0 ≤ x ∧ x < 32) :
  Calls Tryz.prog 132 #[.slice A l.length c, .func (.func 133) #[] #[.pointer (some ⟨g8, 0, none⟩)]] w fun e w' => e = .returned (.tuple #[.int .i64 (Bu (rZ l2) l), .bool (decide (0 < l.length))]) ∧ Below w.heap.size w w' := by
 have HR := aj.mk hr; have KB := aj.mk (fun (x y : Int) (hx : 0 ≤ x ∧ x < 32) (hy : 0 ≤ y ∧ y < 32) (W : World) (hbw : Below w.heap.size w W) => JE g8 g5 A2 c2 l2 x y W (aG h8 hbw) (aG h5 hbw) (Kd.ak hr2 hbw) hc2 hl hs hx.1 hx.2 hy.1 hy.2); have HBD := aj.mk hb; have hm : l.length ≤ 9223372036854775807 := hr.2.1; have HB := aj.mk (Below.refl w.heap.size w); clear h8 h5 hr2 hl hs hr hb
 go_enter Tryz.func132, Tryz.ntmps132
 go_wp2_with (fail)
 go_loopw [6, 11] (fun v6 v11 W => ∃ (i : Nat) (out : Int), i ≤ l.length ∧ v6 = .int .i64 out ∧ v11 = .int .i64 i ∧ aj (out = Bu (rZ l2) (l.take i) ∧ (0 < i → 0 ≤ out ∧ out < 32)) ∧ aj (Below w.heap.size w W)) (fun _ v11 _ => l.length - (intOf v11).toNat)
 case atStart => exact ⟨0, 0, by omega, rfl, rfl, ⟨rfl, fun h => absurd h (by omega)⟩, HB⟩
 case round =>
  clear HB; obtain ⟨i, out, hi, rfl, rfl, HI, HB⟩ := hrel
  by_cases hlt : i < l.length
  ·obtain ⟨x, hx⟩ : ∃ x, x = rd l (i : Int) := ⟨_, rfl⟩
   have hx2 : rd l (i : Int) = l[i] := qR hlt; obtain ⟨ad, rfl, q0⟩ := Kd.iH HR.out i (by omega) (by omega); replace q0 := dz HB q0; rw [← hx, Int.toNat_natCast] at q0; have HT := aj.mk (show l.take (i + 1) = l.take i ++ [x] by rw [List.take_succ_eq_append_getElem hlt, hx, hx2]); have HXB := aj.mk (HBD.out x (by rw [hx, hx2]; exact List.getElem_mem hlt))
   have hilt : (i : Int) < l.length := by omega
   clear hx hx2
   by_cases h0 : i = 0
   ·have h1 : ((i : Int) == 0) = true := by simp [h0]
    have H0 := aj.mk h0; clear h0
    go_wp2_with (fail)
    exact ⟨⟨i + 1, x, by omega, rfl, by go_num, ⟨by rw [HT.out, H0.out]; rfl, fun _ => HXB.out⟩, HB⟩, by simp [intOf]; omega⟩
   ·have h1 : ((i : Int) == 0) = false := by simp; omega
    have HO := aj.mk (HI.out.2 (by omega)); have HN := aj.mk (show Bu (rZ l2) (l.take (i + 1)) = if rZ l2 x out then x else out by rw [HT.out, Pk _ _ _ (fun e => by have := congrArg List.length e; rw [List.length_take, List.length_nil] at this; omega), ← HI.out.1]); clear h0
    by_cases hbt : rZ l2 x out = true
    ·have K := aj.mk (fun W hw => KB.out x out HXB.out HO.out W hw)
     rw [hbt] at K; rw [hbt] at HN; clear hbt
     go_wp2_with (go_at_call 133; (with_reducible refine (K.out _ HB.out).mono ?_); rintro e w1 ⟨rfl, hx⟩; replace HB := fu HB hx; clear hx)
     exact ⟨⟨i + 1, x, by omega, rfl, by go_num, ⟨by rw [HN.out]; rfl, fun _ => HXB.out⟩, HB⟩, by simp [intOf]; omega⟩
    ·rw [Bool.not_eq_true] at hbt
     have K := aj.mk (fun W hw => KB.out x out HXB.out HO.out W hw); rw [hbt] at K; rw [hbt] at HN; clear hbt
     go_wp2_with (go_at_call 133; (with_reducible refine (K.out _ HB.out).mono ?_); rintro e w1 ⟨rfl, hx⟩; replace HB := fu HB hx; clear hx)
     exact ⟨⟨i + 1, out, by omega, rfl, by go_num, ⟨by rw [HN.out]; rfl, fun _ => HO.out⟩, HB⟩, by simp [intOf]; omega⟩
  ·obtain rfl : i = l.length := by omega
   go_wp2_with (fail)
   go_ret2
   exact ⟨by rw [HI.out.1, List.take_length]; simp, HB.out⟩
end Go.Proofs.YtnpfbjnjdngkhaaGreatDoor.P
