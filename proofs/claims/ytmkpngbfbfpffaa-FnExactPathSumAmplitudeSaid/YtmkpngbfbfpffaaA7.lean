/- Printed walks: each function's own reading as a Lean function, and the proof that a call of it answers so. -/
import Derived.Test.YtmkpngbfbfpffaaA6
namespace Go.Proofs.Ytmkpngbfbfpffaa.P
open Go.RowKit Go.Proofs.YtmkpngbfbfpffaaW.PrintWords Go.Proofs.YtmkpngbfbfpffaaW.PrintLast Go.Proofs.YtmkpngbfbfpffaaW.PrintMore Go.Proofs.YtmkpngbfbfpffaaW.Sq
attribute [local go_sem] max2_int min2_int max_two min_two max_three min_three max_four min_four   -- for this text's walks alone
set_option linter.unusedVariables false
set_option linter.unusedSimpArgs false
/-! ### impl_PathSumAmplitude: function 9 -/
mutual
def impl_PathSumAmplitude.j0 : Nat → List (S62) → Int → Int → Int → Int → Bool → Option (Int × Int × Int × Int × Int × Bool)
 | 0, _, _, _, _, _, _ => none
 | k + 1, x0, x1, x2, x3, x10, x45 => if x45 = true then (some (0, 0, 0, 0, 0, false)) else (impl_PathSumAmplitude.l0 k x0 x1 x2 x3 x10 x0 (x0.length : Int) 0)
def impl_PathSumAmplitude.l0 : Nat → List (S62) → Int → Int → Int → Int → List (S62) → Int → Int → Option (Int × Int × Int × Int × Int × Bool)
 | 0, _, _, _, _, _, _, _, _ => none
 | k + 1, x0, x1, x2, x3, x10, x47, x48, x49 => if x49 < x48 then (if 0 ≤ x49 then (if x49 < (x47.length : Int) then ((impl_IsValidGate.f ((rd_T62 x47 x49).f0) ((rd_T62 x47 x49).f1) ((rd_T62 x47 x49).f2) ((rd_T62 x47 x49).f3) x1).bind fun t466 => (if t466 = true then (impl_PathSumAmplitude.l0 k x0 x1 x2 x3 x10 x47 x48 (wrap64 (x49 + 1))) else (some (0, 0, 0, 0, 0, false)))) else (none)) else (none)) else (impl_PathSumAmplitude.l1 k x0 x1 x2 x3 x10 0 0 0 0 0 0)
def impl_PathSumAmplitude.l1 : Nat → List (S62) → Int → Int → Int → Int → Int → Int → Int → Int → Int → Int → Option (Int × Int × Int × Int × Int × Bool)
 | 0, _, _, _, _, _, _, _, _, _, _, _ => none
 | k + 1, x0, x1, x2, x3, x10, x14, x468000, x468001, x468002, x468003, x468004 => if 0 ≤ x10 then (if x14 < (shl .i64 1 x10) then ((impl_PathEnd.f k x0 x1 x2 x14).bind fun bt480 => (if bt480.1 = x3 then ((impl_PhaseFactor.f bt480.2).bind fun bt482 => ((impl_AddDOmega.f k x468000 x468001 x468002 x468003 x468004 bt482.1 bt482.2.1 bt482.2.2.1 bt482.2.2.2.1 bt482.2.2.2.2).bind fun bt487 => (if bt487.2.2.2.2.2 = true then (impl_PathSumAmplitude.l1 k x0 x1 x2 x3 x10 (wrap64 (x14 + 1)) bt487.1 bt487.2.1 bt487.2.2.1 bt487.2.2.2.1 bt487.2.2.2.2.1) else (some (0, 0, 0, 0, 0, false))))) else (impl_PathSumAmplitude.l1 k x0 x1 x2 x3 x10 (wrap64 (x14 + 1)) x468000 x468001 x468002 x468003 x468004))) else ((impl_InvSqrt2Power.f x10).bind fun bt468 => ((impl_MulDOmega.f k x468000 x468001 x468002 x468003 x468004 bt468.1 bt468.2.1 bt468.2.2.1 bt468.2.2.2.1 bt468.2.2.2.2).bind fun bt473 => (some (bt473.1, bt473.2.1, bt473.2.2.1, bt473.2.2.2.1, bt473.2.2.2.2.1, bt473.2.2.2.2.2))))) else (none)
end
def impl_PathSumAmplitude.f (k : Nat) (l0 : List (S62)) (a1 : Int) (a2 : Int) (a3 : Int) : Option (Int × Int × Int × Int × Int × Bool) := (impl_HadamardCount.f k l0).bind fun t460 => (if t460 > 10 then (impl_PathSumAmplitude.j0 k l0 a1 a2 a3 t460 true) else ((impl_in.f a1 1 4).bind fun t461 => (if t461 = true then (if 0 ≤ a1 then ((impl_in.f a2 0 (wrap64 ((shl .i64 1 a1) - 1))).bind fun t462 => (if t462 = true then ((impl_in.f a3 0 (wrap64 ((shl .i64 1 a1) - 1))).bind fun t463 => (impl_PathSumAmplitude.j0 k l0 a1 a2 a3 t460 (!t463))) else (impl_PathSumAmplitude.j0 k l0 a1 a2 a3 t460 true))) else (none)) else (impl_PathSumAmplitude.j0 k l0 a1 a2 a3 t460 true))))
def impl_PathSumAmplitude.T16 : Bool × List (List Nat × List Nat) := (true, [([], []), ([], []), ([1], [1]), ([0, 2, 2], [0, 2]), ([3], [3]), ([4], [4]), ([4], [4]), ([], []), ([7, 5, 3, 0, 1, 2, 3, 4, 5, 7], [5, 7]), ([6, 8, 0, 1, 2, 3, 4, 5, 6, 7, 8], [6])])
def impl_PathSumAmplitude.B16 : List Nat := [0, 0, 2, 7, 15, 31, 31, 0, 191, 511]
theorem impl_PathSumAmplitude.tab16 : rtab .any (opsOf Try.f9 16) = impl_PathSumAmplitude.T16 := by kernel_rfl
theorem impl_PathSumAmplitude.bits16 : waitsOk impl_PathSumAmplitude.T16.2 impl_PathSumAmplitude.B16 = true := by kernel_rfl
def impl_PathSumAmplitude.T20 : Bool × List (List Nat × List Nat) := (true, [([], []), ([], []), ([1], [1]), ([0, 2, 2], [0, 2]), ([3], [3]), ([4], [4]), ([4], [4]), ([], []), ([7, 5, 3, 0, 1, 2, 3, 4, 5, 7], [5, 7]), ([6, 8, 0, 1, 2, 3, 4, 5, 6, 7, 8], [6])])
def impl_PathSumAmplitude.B20 : List Nat := [0, 0, 2, 7, 15, 31, 31, 0, 191, 511]
theorem impl_PathSumAmplitude.tab20 : rtab .any (opsOf Try.f9 20) = impl_PathSumAmplitude.T20 := by kernel_rfl
theorem impl_PathSumAmplitude.bits20 : waitsOk impl_PathSumAmplitude.T20.2 impl_PathSumAmplitude.B20 = true := by kernel_rfl
set_option maxHeartbeats 8000000 in
set_option maxRecDepth 100000 in
theorem impl_PathSumAmplitude.calls (k : Nat) (A0 : Option Addr) (c0 : Nat) (l0 : List (S62)) (a1 : Int) (a2 : Int) (a3 : Int) (r1 : Int) (r2 : Int) (r3 : Int) (r4 : Int) (r5 : Int) (r6 : Bool) (w : World) (hr0 : Kd.C k62 w A0 l0.length l0) (hc0 : l0.length ≤ c0) (h : impl_PathSumAmplitude.f k l0 a1 a2 a3 = some (r1, r2, r3, r4, r5, r6)) :
  Calls Try.prog 9 #[.slice A0 l0.length c0, .int .i64 a1, .int .i64 a2, .int .i64 a3] w fun e w' => e = .returned (.tuple #[.agg #[.int .i64 r1, .int .i64 r2, .int .i64 r3, .int .i64 r4, .int .i64 r5], .bool r6]) ∧ Below w.heap.size w w' := by
 have hu27 := Try.underlying27
 have hu62 := Try.underlying62
 have HR0 := Aside0.mk hr0
 have HC0 := Aside0.mk hc0
 clear hr0 hc0
 have HB := Aside0.mk (Below.refl w.heap.size w)
 have H := h
 clear h
 unfold impl_PathSumAmplitude.f at H
 replace H := Option.bind_eq_some_iff.mp H
 obtain ⟨t460, A50, H⟩ := H
 try dsimp only at H
 have A5 := Aside0.mk A50
 clear A50
 have HC6 := Aside0.mk H
 clear H
 go_enter Try.func9, Try.ntmps9
 go_upto_region 2 with (first | ((with_reducible refine gate_dst (N := 8) rfl ?_); refine bx (N := 8) (cs := #[.int .i64 0, .int .i64 0, .int .i64 0, .int .i64 0, .int .i64 0]) (t := 27) ?_; intro gb459 hg w7 hbox hb; have BK459 := Aside0.mk hbox; have GW459 := sz hg HB; have GE459 := GW459; replace HB := bs HB hb; clear hb hbox hg) | ((with_reducible refine gate_callee (f := 30) rfl ?_); refine gL (some 22) Try.func30 #[.slice A0 l0.length c0] ?_; (with_reducible refine (impl_HadamardCount.calls k _ _ l0 t460 _ ?side1 ?side2 A5.out).mono ?_); (case side1 => repeat (first | exact (Kd.C_below HR0.out HB.out) | (with_reducible refine Kd.C_alloc ?_ _) | (with_reducible refine Kd.C_drewN ?_ _) | (with_reducible refine Kd.C_drew ?_))); (case side2 => exact HC0.out); rintro e w8 ⟨rfl, hb⟩; refine ⟨_, rfl, ?_⟩; replace BK459 := cb BK459 hb; replace HB := bs HB hb; (try clear hb); (try clear hb2); (try clear hk); (try clear hi)))
 (try simp only [Act.put, List.setIfInBounds_toArray, List.set_cons_zero, List.set_cons_succ])
 go_cut [45] (fun v45 wc => ∃ (kq : Nat) (x45_5 : Bool), v45 = .bool x45_5 ∧ Aside0 (impl_PathSumAmplitude.j0 kq l0 a1 a2 a3 t460 x45_5 = some (r1, r2, r3, r4, r5, r6)) ∧ Aside0 (kq ≤ k) ∧ Aside0 (wc.heap[gb459]? = some (.cells #[.int .i64 0, .int .i64 0, .int .i64 0, .int .i64 0, .int .i64 0] 27 (0, 0))) ∧ Aside0 (Below w.heap.size w wc))
 case first =>
  have H := HC6.out
  clear HC6
  by_cases c9 : t460 > 10
  ·rw [if_pos c9] at H
   have c9b0 : decide (10 < t460) = true := decide_eq_true c9
   clear c9
   (first | rw [c9b0] | (simp only [i64_w, i32_w]; rw [c9b0]) | skip)
   have H' := Aside0.mk H
   clear H
   go_wp2
   go_meet
   case rel => exact ⟨_, (true), rs, H', ⟨by first | omega | exact Nat.le_refl _⟩, ⟨pl BK459⟩, ⟨bl HB⟩⟩
  ·rw [if_neg c9] at H
   have c9b0 : decide (10 < t460) = false := decide_eq_false c9
   clear c9
   (first | rw [c9b0] | (simp only [i64_w, i32_w]; rw [c9b0]) | skip)
   replace H := Option.bind_eq_some_iff.mp H
   obtain ⟨t461, A100, H⟩ := H
   try dsimp only at H
   have A10 := Aside0.mk A100
   clear A100
   by_cases c11 : t461 = true
   ·subst c11
    rw [if_pos rfl] at H
    by_cases c12 : 0 ≤ a1
    ·rw [if_pos c12] at H
     have c12b0 := eq_true c12
     have c12b1 : decide (0 ≤ a1) = true := decide_eq_true c12
     clear c12
     obtain ⟨ji13, hji13⟩ : ∃ j_ : Int, (shl .i64 1 a1) = j_ := ⟨_, rfl⟩
     replace H : ((impl_in.f a2 0 (wrap64 ((ji13) - 1))).bind fun t462 => (if t462 = true then ((impl_in.f a3 0 (wrap64 ((ji13) - 1))).bind fun t463 => (impl_PathSumAmplitude.j0 k l0 a1 a2 a3 t460 (!t463))) else (impl_PathSumAmplitude.j0 k l0 a1 a2 a3 t460 true))) = some (r1, r2, r3, r4, r5, r6) := by first | (rw [hji13] at H; exact H) | (simp only [hji13] at H ⊢; exact H) | exact H
     (try rw [hji13] at A10)
     have hji13_ : (IntKind.i64.wrap (1 * 2 ^ min a1.toNat 64)) = ji13 := hji13
     have hji13z : a1 ≤ 64 → (IntKind.i64.wrap (1 * 2 ^ a1.toNat)) = ji13 := shl_small hji13
     have hji13u : (IntKind.i64.wrap (2 ^ min a1.toNat 64)) = ji13 := by have h_ := hji13_; rw [Int.one_mul] at h_; exact h_
     have hji13v : a1 ≤ 64 → (IntKind.i64.wrap (2 ^ a1.toNat)) = ji13 := fun hle_ => by have h_ := hji13z hle_; rw [Int.one_mul] at h_; exact h_
     have hji13y : (wrap64 (1 * 2 ^ min a1.toNat 64)) = ji13 := (i64_w _).symm.trans hji13_
     have hji13x : a1 ≤ 64 → (wrap64 (1 * 2 ^ a1.toNat)) = ji13 := fun h_ => (i64_w _).symm.trans (hji13z h_)
     replace H := Option.bind_eq_some_iff.mp H
     obtain ⟨t462, A140, H⟩ := H
     try dsimp only at H
     have A14 := Aside0.mk A140
     clear A140
     by_cases c15 : t462 = true
     ·subst c15
      rw [if_pos rfl] at H
      have c16b0 := eq_true (of_decide_eq_true da : 0 ≤ a1)
      replace H := Option.bind_eq_some_iff.mp H
      obtain ⟨t463, A170, H⟩ := H
      try dsimp only at H
      have A17 := Aside0.mk A170
      clear A170
      have H' := Aside0.mk H
      clear H
      go_wp2_with (first | (go_at_call 31; (with_reducible refine (impl_in.calls a1 1 4 true _ A10.out).mono ?_); rintro e w' ⟨rfl, ⟨nd, rfl⟩⟩) | (go_at_call 31; (with_reducible refine (impl_in.calls a2 0 (wrap64 ((ji13) - 1)) true _ A14.out).mono ?_); rintro e w' ⟨rfl, ⟨nd, rfl⟩⟩) | (go_at_call 31; (with_reducible refine (impl_in.calls a3 0 (wrap64 ((ji13) - 1)) t463 _ A17.out).mono ?_); rintro e w' ⟨rfl, ⟨nd, rfl⟩⟩))
      go_meet
      case rel => exact ⟨_, (!t463), rs, H', ⟨by first | omega | exact Nat.le_refl _⟩, ⟨pl BK459⟩, ⟨bl HB⟩⟩
     ·replace c15 := Bool.eq_false_iff.mpr c15
      subst c15
      rw [nf] at H
      have H' := Aside0.mk H
      clear H
      go_wp2_with (first | (go_at_call 31; (with_reducible refine (impl_in.calls a1 1 4 true _ A10.out).mono ?_); rintro e w' ⟨rfl, ⟨nd, rfl⟩⟩) | (go_at_call 31; (with_reducible refine (impl_in.calls a2 0 (wrap64 ((ji13) - 1)) false _ A14.out).mono ?_); rintro e w' ⟨rfl, ⟨nd, rfl⟩⟩))
      go_meet
      case rel => exact ⟨_, (true), rs, H', ⟨by first | omega | exact Nat.le_refl _⟩, ⟨pl BK459⟩, ⟨bl HB⟩⟩
    ·rw [if_neg c12] at H
     exact absurd H (by simp)
   ·replace c11 := Bool.eq_false_iff.mpr c11
    subst c11
    rw [nf] at H
    have H' := Aside0.mk H
    clear H
    go_wp2_with (first | (go_at_call 31; (with_reducible refine (impl_in.calls a1 1 4 false _ A10.out).mono ?_); rintro e w' ⟨rfl, ⟨nd, rfl⟩⟩))
    go_meet
    case rel => exact ⟨_, (true), rs, H', ⟨by first | omega | exact Nat.le_refl _⟩, ⟨pl BK459⟩, ⟨bl HB⟩⟩
 case rest =>
  clear HC6
  try clear c1
  try clear p2
  try clear c3
  try clear p6
  try clear c9
  try clear c9b0
  try clear c11
  try clear c12
  try clear c12b0
  try clear c12b1
  try clear c15
  try clear c16
  try clear c16b0
  obtain ⟨kq, x45_5, rfl, HA, HJ5, BK459, HB⟩ := hcut
  cases kq with
  | zero => exact absurd HA.out (by simp [impl_PathSumAmplitude.j0])
  | succ kj5 =>
   have H := HA.out
   clear HA
   simp only [impl_PathSumAmplitude.j0] at H
   by_cases c18 : x45_5 = true
   ·subst c18
    rw [if_pos rfl] at H
    simp only [Option.some.injEq, Prod.mk.injEq] at H
    obtain ⟨rfl, rfl, rfl, rfl, rfl, rfl⟩ := H
    obtain ⟨hcz19_0, hcz19_1, hcz19_2, hcz19_3, hcz19_4, hfz19_0, hfz19_1, hfz19_2, hfz19_3, hfz19_4⟩ := cel5 BK459
    go_wp2
    refine bodyPost_ret (results_ct rfl _ _ gb459 27 #[.int .i64 0, .int .i64 0, .int .i64 0, .int .i64 0, .int .i64 0] (0, 0) _ rfl (bp BK459) Try.underlying27 rfl (by kernel_rfl)) rfl ?_
    exact ⟨er, bl HB⟩
   ·replace c18 := Bool.eq_false_iff.mpr c18
    subst c18
    rw [nf] at H
    have H' := Aside0.mk H
    clear H
    go_wp2
    go_loopg [49] kj5 (fun kq v49 w' => ∃ (x49_2 : Int) (x460000_2 : Int) (x460001_2 : Int) (x460002_2 : Int) (x460003_2 : Int) (x460004_2 : Int), v49 = .int .i64 x49_2 ∧ Aside0 (impl_PathSumAmplitude.l0 kq l0 a1 a2 a3 t460 l0 (l0.length : Int) x49_2 = some (r1, r2, r3, r4, r5, r6)) ∧ Aside0 (kq ≤ kj5) ∧ Aside0 (w'.heap[gb459]? = some (.cells #[.int .i64 x460000_2, .int .i64 x460001_2, .int .i64 x460002_2, .int .i64 x460003_2, .int .i64 x460004_2] 27 (0, 0))) ∧ Aside0 (Below w.heap.size w w'))
    case atStart => exact ⟨(0), (0), (0), (0), (0), (0), rs, H', ⟨Nat.le_refl _⟩, ⟨pl BK459⟩, ⟨bl HB⟩⟩
    case round =>
     clear H'
     try clear c1
     try clear p2
     try clear c3
     try clear p6
     try clear c9
     try clear c9b0
     try clear c11
     try clear c12
     try clear c12b0
     try clear c12b1
     try clear c15
     try clear c16
     try clear c16b0
     try clear c18
     try clear hcz19_0
     try clear hcz19_1
     try clear hcz19_2
     try clear hcz19_3
     try clear hcz19_4
     try clear hfz19_0
     try clear hfz19_1
     try clear hfz19_2
     try clear hfz19_3
     try clear hfz19_4
     try clear p2
     try clear p6
     obtain ⟨x49_2, x460000_2, x460001_2, x460002_2, x460003_2, x460004_2, rfl, HA, HK2, BK459, HB⟩ := hrel
     cases gk with
     | zero => exact absurd HA.out (by simp [impl_PathSumAmplitude.l0])
     | succ k2 =>
      have H := HA.out
      clear HA
      simp only [impl_PathSumAmplitude.l0] at H
      by_cases c20 : x49_2 < (l0.length : Int)
      ·rw [if_pos c20] at H
       have c20b0 : decide (x49_2 < (l0.length : Int)) = true := decide_eq_true c20
       clear c20
       by_cases c21 : 0 ≤ x49_2
       ·rw [if_pos c21] at H
        have c21b0 : decide (0 ≤ x49_2) = true := decide_eq_true c21
        clear c21
        by_cases c22 : x49_2 < (l0.length : Int)
        ·rw [if_pos c22] at H
         have c22b0 : decide (x49_2 < (l0.length : Int)) = true := decide_eq_true c22
         clear c22
         replace H := Option.bind_eq_some_iff.mp H
         obtain ⟨t466, A230, H⟩ := H
         try dsimp only at H
         have A23 := Aside0.mk A230
         clear A230
         by_cases c24 : t466 = true
         ·subst c24
          rw [if_pos rfl] at H
          have H' := Aside0.mk H
          clear H
          have p464 : 0 ≤ (x49_2 : Int) := of_decide_eq_true da
          have q464 : x49_2 < (l0.length : Int) := of_decide_eq_true da
          obtain ⟨ad464, e464, hx464_0, hx464_1, hx464_2, hx464_3⟩ := at_T62 HR0.out x49_2 p464 q464
          cases e464
          replace hx464_0 := (HB.out.cell (World.block_lt_of_cell? w _ hx464_0)).trans hx464_0
          replace hx464_1 := (HB.out.cell (World.block_lt_of_cell? w _ hx464_1)).trans hx464_1
          replace hx464_2 := (HB.out.cell (World.block_lt_of_cell? w _ hx464_2)).trans hx464_2
          replace hx464_3 := (HB.out.cell (World.block_lt_of_cell? w _ hx464_3)).trans hx464_3
          replace p464 := eq_true p464
          replace q464 := eq_true q464
          go_wp2_with (first | ((with_reducible refine gate_dst (N := 12) rfl ?_); refine bx (N := 12) (cs := #[.int .i64 0, .int .i64 0, .int .i64 0, .int .i64 0]) (t := 62) ?_; intro gb465 hg w25 hbox hb; have BK465 := Aside0.mk hbox; have GW465 := sz hg HB; have GE465 := GW465; have NB459_465 := nl hg BK459; have NB465_459 := ng hg BK459; replace BK459 := cb BK459 hb; replace HB := bs HB hb; clear hb hbox hg; have hnb26 := NB465_459.out; have hnc26 := NB459_465.out; obtain ⟨hcz27_0, hcz27_1, hcz27_2, hcz27_3, hfz27_0, hfz27_1, hfz27_2, hfz27_3⟩ := cel4 BK465) | ((with_reducible refine gate_callee (f := 32) rfl ?_); refine gL (some 55) Try.func32 #[.agg #[.int .i64 ((rd_T62 l0 x49_2).f0), .int .i64 ((rd_T62 l0 x49_2).f1), .int .i64 ((rd_T62 l0 x49_2).f2), .int .i64 ((rd_T62 l0 x49_2).f3)], .int .i64 a1] ?_; (with_reducible refine (impl_IsValidGate.calls ((rd_T62 l0 x49_2).f0) ((rd_T62 l0 x49_2).f1) ((rd_T62 l0 x49_2).f2) ((rd_T62 l0 x49_2).f3) a1 true _ A23.out).mono ?_); rintro e w28 ⟨rfl, hb⟩; refine ⟨_, rfl, ?_⟩; replace BK459 := cp BK459 hb; replace BK465 := cp BK465 hb; replace HB := bs HB hb; (try clear hb); (try clear hb2); (try clear hk); (try clear hi)))
          go_roundg k2
          case measure => have := HJ5.out; have := HK2.out; omega
          case rel => exact ⟨(wrap64 (x49_2 + 1)), (x460000_2), (x460001_2), (x460002_2), (x460003_2), (x460004_2), rs, H', ⟨by have := HJ5.out; have := HK2.out; omega⟩, ⟨pl BK459⟩, ⟨bl HB⟩⟩
         ·replace c24 := Bool.eq_false_iff.mpr c24
          subst c24
          rw [nf] at H
          simp only [Option.some.injEq, Prod.mk.injEq] at H
          obtain ⟨rfl, rfl, rfl, rfl, rfl, rfl⟩ := H
          have p464 : 0 ≤ (x49_2 : Int) := of_decide_eq_true da
          have q464 : x49_2 < (l0.length : Int) := of_decide_eq_true da
          obtain ⟨ad464, e464, hx464_0, hx464_1, hx464_2, hx464_3⟩ := at_T62 HR0.out x49_2 p464 q464
          cases e464
          replace hx464_0 := (HB.out.cell (World.block_lt_of_cell? w _ hx464_0)).trans hx464_0
          replace hx464_1 := (HB.out.cell (World.block_lt_of_cell? w _ hx464_1)).trans hx464_1
          replace hx464_2 := (HB.out.cell (World.block_lt_of_cell? w _ hx464_2)).trans hx464_2
          replace hx464_3 := (HB.out.cell (World.block_lt_of_cell? w _ hx464_3)).trans hx464_3
          replace p464 := eq_true p464
          replace q464 := eq_true q464
          go_wp2_with (first | ((with_reducible refine gate_dst (N := 12) rfl ?_); refine bx (N := 12) (cs := #[.int .i64 0, .int .i64 0, .int .i64 0, .int .i64 0]) (t := 62) ?_; intro gb465 hg w29 hbox hb; have BK465 := Aside0.mk hbox; have GW465 := sz hg HB; have GE465 := GW465; have NB459_465 := nl hg BK459; have NB465_459 := ng hg BK459; replace BK459 := cb BK459 hb; replace HB := bs HB hb; clear hb hbox hg; have hnb30 := NB465_459.out; have hnc30 := NB459_465.out; obtain ⟨hcz31_0, hcz31_1, hcz31_2, hcz31_3, hfz31_0, hfz31_1, hfz31_2, hfz31_3⟩ := cel4 BK465) | ((with_reducible refine gate_callee (f := 32) rfl ?_); refine gL (some 55) Try.func32 #[.agg #[.int .i64 ((rd_T62 l0 x49_2).f0), .int .i64 ((rd_T62 l0 x49_2).f1), .int .i64 ((rd_T62 l0 x49_2).f2), .int .i64 ((rd_T62 l0 x49_2).f3)], .int .i64 a1] ?_; (with_reducible refine (impl_IsValidGate.calls ((rd_T62 l0 x49_2).f0) ((rd_T62 l0 x49_2).f1) ((rd_T62 l0 x49_2).f2) ((rd_T62 l0 x49_2).f3) a1 false _ A23.out).mono ?_); rintro e w32 ⟨rfl, hb⟩; refine ⟨_, rfl, ?_⟩; replace BK459 := cp BK459 hb; replace BK465 := cp BK465 hb; replace HB := bs HB hb; (try clear hb); (try clear hb2); (try clear hk); (try clear hi); obtain ⟨hcz33_0, hcz33_1, hcz33_2, hcz33_3, hcz33_4, hfz33_0, hfz33_1, hfz33_2, hfz33_3, hfz33_4⟩ := cel5 BK459))
          refine bodyPost_ret (results_ct rfl _ _ gb459 27 #[.int .i64 0, .int .i64 0, .int .i64 0, .int .i64 0, .int .i64 0] (0, 0) _ rfl (bp BK459) Try.underlying27 rfl (by kernel_rfl)) rfl ?_
          exact ⟨er, bl HB⟩
        ·rw [if_neg c22] at H
         exact absurd H (by simp)
       ·rw [if_neg c21] at H
        exact absurd H (by simp)
      ·rw [if_neg c20] at H
       have c20b0 : decide (x49_2 < (l0.length : Int)) = false := decide_eq_false c20
       clear c20
       have H' := Aside0.mk H
       clear H
       go_wp2_with (first | ((with_reducible refine gate_dst (N := 13) rfl ?_); refine bx (N := 13) (cs := #[.int .i64 0, .int .i64 0, .int .i64 0, .int .i64 0, .int .i64 0]) (t := 27) ?_; intro gb467 hg w34 hbox hb; have BK467 := Aside0.mk hbox; have GW467 := sz hg HB; have GE467 := GW467; have NB459_467 := nl hg BK459; have NB467_459 := ng hg BK459; replace BK459 := cb BK459 hb; replace HB := bs HB hb; clear hb hbox hg; have hnb35 := NB467_459.out; have hnc35 := NB459_467.out; obtain ⟨hcz36_0, hcz36_1, hcz36_2, hcz36_3, hcz36_4, hfz36_0, hfz36_1, hfz36_2, hfz36_3, hfz36_4⟩ := cel5 BK467))
       go_loopg [14] k2 (fun kq v14 w' => ∃ (x14_3 : Int) (x460000_3 : Int) (x460001_3 : Int) (x460002_3 : Int) (x460003_3 : Int) (x460004_3 : Int) (x468000_3 : Int) (x468001_3 : Int) (x468002_3 : Int) (x468003_3 : Int) (x468004_3 : Int), v14 = .int .i64 x14_3 ∧ Aside0 (impl_PathSumAmplitude.l1 kq l0 a1 a2 a3 t460 x14_3 x468000_3 x468001_3 x468002_3 x468003_3 x468004_3 = some (r1, r2, r3, r4, r5, r6)) ∧ Aside0 (kq ≤ k2) ∧ Aside0 (w'.heap[gb459]? = some (.cells #[.int .i64 x460000_3, .int .i64 x460001_3, .int .i64 x460002_3, .int .i64 x460003_3, .int .i64 x460004_3] 27 (0, 0))) ∧ Aside0 (w'.heap[gb467]? = some (.cells #[.int .i64 x468000_3, .int .i64 x468001_3, .int .i64 x468002_3, .int .i64 x468003_3, .int .i64 x468004_3] 27 (0, 0))) ∧ Aside0 (Below w.heap.size w w'))
       case atStart => exact ⟨(0), (x460000_2), (x460001_2), (x460002_2), (x460003_2), (x460004_2), (0), (0), (0), (0), (0), rs, H', ⟨Nat.le_refl _⟩, ⟨bp BK459⟩, ⟨bp BK467⟩, ⟨bl HB⟩⟩
       case round =>
        clear H'
        try clear c1
        try clear c2
        try clear p2
        try clear c3
        try clear p4
        try clear q4
        try clear hx4
        try clear p6
        try clear c9
        try clear c9b0
        try clear c11
        try clear c12
        try clear c12b0
        try clear c12b1
        try clear c15
        try clear c16
        try clear c16b0
        try clear c18
        try clear c20
        try clear c20b0
        try clear c21
        try clear c21b0
        try clear c22
        try clear c22b0
        try clear c24
        try clear c26
        try clear c30
        try clear c32
        try clear c35
        try clear hcz19_0
        try clear hcz19_1
        try clear hcz19_2
        try clear hcz19_3
        try clear hcz19_4
        try clear hcz27_0
        try clear hcz27_1
        try clear hcz27_2
        try clear hcz27_3
        try clear hcz31_0
        try clear hcz31_1
        try clear hcz31_2
        try clear hcz31_3
        try clear hcz33_0
        try clear hcz33_1
        try clear hcz33_2
        try clear hcz33_3
        try clear hcz33_4
        try clear hcz36_0
        try clear hcz36_1
        try clear hcz36_2
        try clear hcz36_3
        try clear hcz36_4
        try clear hfz19_0
        try clear hfz19_1
        try clear hfz19_2
        try clear hfz19_3
        try clear hfz19_4
        try clear hfz27_0
        try clear hfz27_1
        try clear hfz27_2
        try clear hfz27_3
        try clear hfz31_0
        try clear hfz31_1
        try clear hfz31_2
        try clear hfz31_3
        try clear hfz33_0
        try clear hfz33_1
        try clear hfz33_2
        try clear hfz33_3
        try clear hfz33_4
        try clear hfz36_0
        try clear hfz36_1
        try clear hfz36_2
        try clear hfz36_3
        try clear hfz36_4
        try clear hx464_0
        try clear hx464_1
        try clear hx464_2
        try clear hx464_3
        try clear p2
        try clear p464
        try clear p6
        try clear q464
        obtain ⟨x14_3, x460000_3, x460001_3, x460002_3, x460003_3, x460004_3, x468000_3, x468001_3, x468002_3, x468003_3, x468004_3, rfl, HA, HK3, BK459, BK467, HB⟩ := hrel
        cases gk with
        | zero => exact absurd HA.out (by simp [impl_PathSumAmplitude.l1])
        | succ k3 =>
         have H := HA.out
         clear HA
         simp only [impl_PathSumAmplitude.l1] at H
         by_cases c37 : 0 ≤ t460
         ·rw [if_pos c37] at H
          have c37b0 := eq_true c37
          have c37b1 : decide (0 ≤ t460) = true := decide_eq_true c37
          clear c37
          obtain ⟨ji38, hji38⟩ : ∃ j_ : Int, (shl .i64 1 t460) = j_ := ⟨_, rfl⟩
          replace H : (if x14_3 < (ji38) then ((impl_PathEnd.f k3 l0 a1 a2 x14_3).bind fun bt480 => (if bt480.1 = a3 then ((impl_PhaseFactor.f bt480.2).bind fun bt482 => ((impl_AddDOmega.f k3 x468000_3 x468001_3 x468002_3 x468003_3 x468004_3 bt482.1 bt482.2.1 bt482.2.2.1 bt482.2.2.2.1 bt482.2.2.2.2).bind fun bt487 => (if bt487.2.2.2.2.2 = true then (impl_PathSumAmplitude.l1 k3 l0 a1 a2 a3 t460 (wrap64 (x14_3 + 1)) bt487.1 bt487.2.1 bt487.2.2.1 bt487.2.2.2.1 bt487.2.2.2.2.1) else (some (0, 0, 0, 0, 0, false))))) else (impl_PathSumAmplitude.l1 k3 l0 a1 a2 a3 t460 (wrap64 (x14_3 + 1)) x468000_3 x468001_3 x468002_3 x468003_3 x468004_3))) else ((impl_InvSqrt2Power.f t460).bind fun bt468 => ((impl_MulDOmega.f k3 x468000_3 x468001_3 x468002_3 x468003_3 x468004_3 bt468.1 bt468.2.1 bt468.2.2.1 bt468.2.2.2.1 bt468.2.2.2.2).bind fun bt473 => (some (bt473.1, bt473.2.1, bt473.2.2.1, bt473.2.2.2.1, bt473.2.2.2.2.1, bt473.2.2.2.2.2))))) = some (r1, r2, r3, r4, r5, r6) := by first | (rw [hji38] at H; exact H) | (simp only [hji38] at H ⊢; exact H) | exact H
          have hji38_ : (IntKind.i64.wrap (1 * 2 ^ min t460.toNat 64)) = ji38 := hji38
          have hji38z : t460 ≤ 64 → (IntKind.i64.wrap (1 * 2 ^ t460.toNat)) = ji38 := shl_small hji38
          have hji38u : (IntKind.i64.wrap (2 ^ min t460.toNat 64)) = ji38 := by have h_ := hji38_; rw [Int.one_mul] at h_; exact h_
          have hji38v : t460 ≤ 64 → (IntKind.i64.wrap (2 ^ t460.toNat)) = ji38 := fun hle_ => by have h_ := hji38z hle_; rw [Int.one_mul] at h_; exact h_
          have hji38y : (wrap64 (1 * 2 ^ min t460.toNat 64)) = ji38 := (i64_w _).symm.trans hji38_
          have hji38x : t460 ≤ 64 → (wrap64 (1 * 2 ^ t460.toNat)) = ji38 := fun h_ => (i64_w _).symm.trans (hji38z h_)
          by_cases c39 : x14_3 < (ji38)
          ·rw [if_pos c39] at H
           have c39b0 : decide (x14_3 < (ji38)) = true := decide_eq_true c39
           clear c39
           replace H := Option.bind_eq_some_iff.mp H
           obtain ⟨⟨t480, t481⟩, A400, H⟩ := H
           try dsimp only at H
           have A40 := Aside0.mk A400
           clear A400
           by_cases c41 : t480 = a3
           ·rw [if_pos c41] at H
            have c41b0 : (t480 == a3) = true := beq_iff_eq.mpr c41
            have c41b1 : (t480 != a3) = false := bne_eq_false_iff_eq.mpr c41
            clear c41
            replace H := Option.bind_eq_some_iff.mp H
            obtain ⟨⟨t482, t483, t484, t485, t486⟩, A420, H⟩ := H
            try dsimp only at H
            have A42 := Aside0.mk A420
            clear A420
            replace H := Option.bind_eq_some_iff.mp H
            obtain ⟨⟨t487, t488, t489, t490, t491, t492⟩, A430, H⟩ := H
            try dsimp only at H
            have A43 := Aside0.mk A430
            clear A430
            by_cases c44 : t492 = true
            ·subst c44
             rw [if_pos rfl] at H
             have H' := Aside0.mk H
             clear H
             try go_wp2_with (first | ((with_reducible refine gate_callee (f := 33) rfl ?_); refine gL (some 71) Try.func33 #[.slice A0 l0.length c0, .int .i64 a1, .int .i64 a2, .int .i64 x14_3] ?_; (with_reducible refine (impl_PathEnd.calls k3 _ _ l0 a1 a2 x14_3 t480 t481 _ ?side1 ?side2 A40.out).mono ?_); (case side1 => repeat (first | exact (Kd.C_below HR0.out HB.out) | (with_reducible refine Kd.C_alloc ?_ _) | (with_reducible refine Kd.C_drewN ?_ _) | (with_reducible refine Kd.C_drew ?_))); (case side2 => exact HC0.out); rintro e w45 ⟨rfl, hb⟩; refine ⟨_, rfl, ?_⟩; replace BK459 := cb BK459 hb; replace BK467 := cb BK467 hb; replace HB := bs HB hb; (try clear hb); (try clear hb2); (try clear hk); (try clear hi)))
             have n0_ := Aside0.mk (blk_drew BK459.out)
             have n1_ := Aside0.mk (blk_drew BK467.out)
             have n2_ := Aside0.mk (below_drew1 HB.out)
             clear BK459
             clear BK467
             clear HB
             have BK459 := n0_
             have BK467 := n1_
             have HB := n2_
             clear n0_ n1_ n2_
             refine start_ (n := 10) (S := fun w' => w'.cell? ⟨gb467, 0, none⟩ = some (.int .i64 x468000_3) ∧ w'.cell? ⟨gb467, 1, none⟩ = some (.int .i64 x468001_3) ∧ w'.cell? ⟨gb467, 2, none⟩ = some (.int .i64 x468002_3) ∧ w'.cell? ⟨gb467, 3, none⟩ = some (.int .i64 x468003_3) ∧ w'.cell? ⟨gb467, 4, none⟩ = some (.int .i64 x468004_3)) (ds := []) #[false, false, false, false, false, false, false, false, false, false] (by kernel_rfl) rfl rfl ⟨(blk_cell BK467.out 0).trans rfl, (blk_cell BK467.out 1).trans rfl, (blk_cell BK467.out 2).trans rfl, (blk_cell BK467.out 3).trans rfl, (blk_cell BK467.out 4).trans rfl⟩ (fun hHeld => ?_); refine with_tabW impl_PathSumAmplitude.tab16 impl_PathSumAmplitude.bits16 (fun HT_ HW_ => ?_)
             generalize w45.drew = w46 at BK459 BK467 HB hHeld ⊢
             refine pu 1 HT_ ?_
             refine take_ (i := 0) (N := some 78) (v := ?_) (a' := ?_) #[true, true, false, false, false, false, false, false, false, false] rfl rfl (take_ofW HT_.out HW_.out (by kernel_rfl)) (fun _ _ _ h => h) (Or.inl ⟨by rfl, ?_⟩) hHeld ?_ ?_
             rotate_left
             ·rintro w' ⟨s0, s1, s2, s3, s4⟩
              go_simp
              with_reducible rfl
             rotate_left
             ·simp only [Act.put, List.setIfInBounds_toArray, List.set_cons_zero, List.set_cons_succ, i64_w, i32_w]
              rfl
             refine join_ (σ := Nat) 2 #[true, true, true, true, true, true, true, true, false, false] (fun s_ => [(80, .agg #[.int .i64 t482, .int .i64 t483, .int .i64 t484, .int .i64 t485, .int .i64 t486]), (81, .tuple #[.agg #[.int .i64 t487, .int .i64 t488, .int .i64 t489, .int .i64 t490, .int .i64 t491], .bool true]), (17, .pointer (some ⟨s_, 0, none⟩)), (77, .tuple #[.agg #[.int .i64 t487, .int .i64 t488, .int .i64 t489, .int .i64 t490, .int .i64 t491], .bool true]), (82, .agg #[.int .i64 t487, .int .i64 t488, .int .i64 t489, .int .i64 t490, .int .i64 t491]), (83, .bool true)]) (fun s_ w' => (w'.cell? ⟨gb467, 0, none⟩ = some (.int .i64 x468000_3) ∧ w'.cell? ⟨gb467, 1, none⟩ = some (.int .i64 x468001_3) ∧ w'.cell? ⟨gb467, 2, none⟩ = some (.int .i64 x468002_3) ∧ w'.cell? ⟨gb467, 3, none⟩ = some (.int .i64 x468003_3) ∧ w'.cell? ⟨gb467, 4, none⟩ = some (.int .i64 x468004_3)) ∧ (w'.heap[gb459]? = some (.cells #[.int .i64 x460000_3, .int .i64 x460001_3, .int .i64 x460002_3, .int .i64 x460003_3, .int .i64 x460004_3] 27 (0, 0))) ∧ (w'.heap[gb467]? = some (.cells #[.int .i64 x468000_3, .int .i64 x468001_3, .int .i64 x468002_3, .int .i64 x468003_3, .int .i64 x468004_3] 27 (0, 0))) ∧ (w'.heap[s_]? = some (.cells #[.int .i64 0, .int .i64 0, .int .i64 0, .int .i64 0, .int .i64 0] 27 (0, 0))) ∧ (w.heap.size ≤ s_) ∧ (w.heap.size ≤ s_) ∧ (gb459 ≠ s_) ∧ (s_ ≠ gb459) ∧ (gb467 ≠ s_) ∧ (s_ ≠ gb467) ∧ (Below w.heap.size w w')) ?_ ?_
             rotate_left
             ·intro hCont
              refine two_ (i := 2) (j := 7) (Ni := some 80) (Nj := some 17) #[true, true, true, false, false, false, false, false, false, false] #[true, true, false, false, false, false, false, true, false, false] rfl rfl rfl rfl (two_of HT_.out (by kernel_rfl)) (by decide) (by decide) (fun K hK => ?_) (fun K hK => ?_)
              ·skip
               refine goes_ Try.func35 (by kernel_rfl) rfl #[.int .i64 t481] (by rfl) rfl rfl (by (try simp only [List.map_toArray, List.map_cons, List.map_nil]); first | done | rfl | (simp only [List.length_drop, List.length_take]; rfl)) ?_
               with_reducible refine (impl_PhaseFactor.calls t481 t482 t483 t484 t485 t486 _ A42.out).mono ?_
               rintro e w47 ⟨rfl, hb⟩
               refine ⟨_, rfl, ?_⟩
               have n0_ := cb BK459 hb
               have n1_ := cb BK467 hb
               have n2_ := bs HB hb
               clear BK459
               clear BK467
               clear HB
               have BK459 := n0_
               have BK467 := n1_
               have HB := n2_
               clear n0_ n1_ n2_
               (try clear hb)
               (try clear hb2)
               (try clear hk)
               (try clear hi)
               refine hK.out _ _ ⟨(blk_cell BK467.out 0).trans rfl, (blk_cell BK467.out 1).trans rfl, (blk_cell BK467.out 2).trans rfl, (blk_cell BK467.out 3).trans rfl, (blk_cell BK467.out 4).trans rfl⟩ (fun hHeld => ?_)
               clear hK K
               refine norm_ (a' := ?_) ?_ ?_
               rotate_left
               ·show Act.put _ (some 80) _ = _
                simp only [Act.put, List.setIfInBounds_toArray, List.set_cons_zero, List.set_cons_succ, i64_w, i32_w]
                rfl
               refine two_ (i := 3) (j := 7) (Ni := some 81) (Nj := some 17) #[true, true, true, true, false, false, false, false, false, false] #[true, true, true, false, false, false, false, true, false, false] rfl rfl rfl rfl (two_of HT_.out (by kernel_rfl)) (by decide) (by decide) (fun K hK => ?_) (fun K hK => ?_)
               ·skip
                refine goes_ Try.func34 (by kernel_rfl) rfl #[.agg #[.int .i64 x468000_3, .int .i64 x468001_3, .int .i64 x468002_3, .int .i64 x468003_3, .int .i64 x468004_3], .agg #[.int .i64 t482, .int .i64 t483, .int .i64 t484, .int .i64 t485, .int .i64 t486]] (by rfl) rfl rfl (by (try simp only [List.map_toArray, List.map_cons, List.map_nil]); first | done | rfl | (simp only [List.length_drop, List.length_take]; rfl)) ?_
                with_reducible refine (impl_AddDOmega.calls k3 x468000_3 x468001_3 x468002_3 x468003_3 x468004_3 t482 t483 t484 t485 t486 t487 t488 t489 t490 t491 true _ A43.out).mono ?_
                rintro e w48 ⟨rfl, hb⟩
                refine ⟨_, rfl, ?_⟩
                have n0_ := cb BK459 hb
                have n1_ := cb BK467 hb
                have n2_ := bs HB hb
                clear BK459
                clear BK467
                clear HB
                have BK459 := n0_
                have BK467 := n1_
                have HB := n2_
                clear n0_ n1_ n2_
                (try clear hb)
                (try clear hb2)
                (try clear hk)
                (try clear hi)
                refine hK.out _ _ ⟨(blk_cell BK467.out 0).trans rfl, (blk_cell BK467.out 1).trans rfl, (blk_cell BK467.out 2).trans rfl, (blk_cell BK467.out 3).trans rfl, (blk_cell BK467.out 4).trans rfl⟩ (fun hHeld => ?_)
                clear hK K
                refine norm_ (a' := ?_) ?_ ?_
                rotate_left
                ·show Act.put _ (some 81) _ = _
                 simp only [Act.put, List.setIfInBounds_toArray, List.set_cons_zero, List.set_cons_succ, i64_w, i32_w]
                 rfl
                refine pu 4 HT_ ?_
                refine pu 5 HT_ ?_
                refine pu 6 HT_ ?_
                refine one_ (i := 7) (N := some 17) #[true, true, true, true, true, true, true, true, false, false] rfl rfl (one_of HT_.out (by kernel_rfl)) (by decide) (fun K hK => ?_)
                refine box_step ?hg (N := 17) ?hd (cs := #[.int .i64 0, .int .i64 0, .int .i64 0, .int .i64 0, .int .i64 0]) (t := 27) ?hr ?_; (case hd => rfl); (case hg => rfl); (case hr => first | (go_simp; done) | (go_simp; rfl))
                intro gb493 hg w49 hbox hb
                have n0_ := cb BK459 hb
                have n1_ := cb BK467 hb
                have n2_ := bs HB hb
                have n3_ := Aside0.mk hbox
                have n4_ := sz hg HB
                have n5_ := sz hg HB
                have n6_ := nl hg BK459
                have n7_ := ng hg BK459
                have n8_ := nl hg BK467
                have n9_ := ng hg BK467
                clear BK459
                clear BK467
                clear HB
                have BK459 := n0_
                have BK467 := n1_
                have HB := n2_
                have BK493 := n3_
                have GW493 := n4_
                have GE493 := n5_
                have NB459_493 := n6_
                have NB493_459 := n7_
                have NB467_493 := n8_
                have NB493_467 := n9_
                clear n0_ n1_ n2_ n3_ n4_ n5_ n6_ n7_ n8_ n9_
                clear hb hbox hg
                refine hK.out _ _ ⟨(blk_cell BK467.out 0).trans rfl, (blk_cell BK467.out 1).trans rfl, (blk_cell BK467.out 2).trans rfl, (blk_cell BK467.out 3).trans rfl, (blk_cell BK467.out 4).trans rfl⟩ (fun hHeld => ?_)
                clear hK K
                refine norm_ (a' := ?_) ?_ ?_
                rotate_left
                ·show Act.put _ (some 17) _ = _
                 simp only [Act.put, List.setIfInBounds_toArray, List.set_cons_zero, List.set_cons_succ, i64_w, i32_w]
                 rfl
                exact norm_ (by simp only [putAll, Act.put, List.setIfInBounds_toArray, List.set_cons_zero, List.set_cons_succ]) (hCont (gb493) _ ⟨hHeld, (pl BK459), (pl BK467), (pl BK493), GW493.out, GE493.out, NB459_493.out, NB493_459.out, NB467_493.out, NB493_467.out, (bl HB)⟩)
               ·skip
                refine box_step ?hg (N := 17) ?hd (cs := #[.int .i64 0, .int .i64 0, .int .i64 0, .int .i64 0, .int .i64 0]) (t := 27) ?hr ?_; (case hd => rfl); (case hg => rfl); (case hr => first | (go_simp; done) | (go_simp; rfl))
                intro gb493 hg w48 hbox hb
                have n0_ := cb BK459 hb
                have n1_ := cb BK467 hb
                have n2_ := bs HB hb
                have n3_ := Aside0.mk hbox
                have n4_ := sz hg HB
                have n5_ := sz hg HB
                have n6_ := nl hg BK459
                have n7_ := ng hg BK459
                have n8_ := nl hg BK467
                have n9_ := ng hg BK467
                clear BK459
                clear BK467
                clear HB
                have BK459 := n0_
                have BK467 := n1_
                have HB := n2_
                have BK493 := n3_
                have GW493 := n4_
                have GE493 := n5_
                have NB459_493 := n6_
                have NB493_459 := n7_
                have NB467_493 := n8_
                have NB493_467 := n9_
                clear n0_ n1_ n2_ n3_ n4_ n5_ n6_ n7_ n8_ n9_
                clear hb hbox hg
                refine hK.out _ _ ⟨(blk_cell BK467.out 0).trans rfl, (blk_cell BK467.out 1).trans rfl, (blk_cell BK467.out 2).trans rfl, (blk_cell BK467.out 3).trans rfl, (blk_cell BK467.out 4).trans rfl⟩ (fun hHeld => ?_)
                clear hK K
                refine norm_ (a' := ?_) ?_ ?_
                rotate_left
                ·show Act.put _ (some 17) _ = _
                 simp only [Act.put, List.setIfInBounds_toArray, List.set_cons_zero, List.set_cons_succ, i64_w, i32_w]
                 rfl
                refine one_ (i := 3) (N := some 81) #[true, true, true, true, false, false, false, true, false, false] rfl rfl (one_of HT_.out (by kernel_rfl)) (by decide) (fun K hK => ?_)
                refine goes_ Try.func34 (by kernel_rfl) rfl #[.agg #[.int .i64 x468000_3, .int .i64 x468001_3, .int .i64 x468002_3, .int .i64 x468003_3, .int .i64 x468004_3], .agg #[.int .i64 t482, .int .i64 t483, .int .i64 t484, .int .i64 t485, .int .i64 t486]] (by rfl) rfl rfl (by (try simp only [List.map_toArray, List.map_cons, List.map_nil]); first | done | rfl | (simp only [List.length_drop, List.length_take]; rfl)) ?_
                with_reducible refine (impl_AddDOmega.calls k3 x468000_3 x468001_3 x468002_3 x468003_3 x468004_3 t482 t483 t484 t485 t486 t487 t488 t489 t490 t491 true _ A43.out).mono ?_
                rintro e w49 ⟨rfl, hb⟩
                refine ⟨_, rfl, ?_⟩
                have n0_ := cb BK459 hb
                have n1_ := cb BK467 hb
                have n2_ := cb BK493 hb
                have n3_ := bs HB hb
                clear BK459
                clear BK467
                clear BK493
                clear HB
                have BK459 := n0_
                have BK467 := n1_
                have BK493 := n2_
                have HB := n3_
                clear n0_ n1_ n2_ n3_
                (try clear hb)
                (try clear hb2)
                (try clear hk)
                (try clear hi)
                refine hK.out _ _ ⟨(blk_cell BK467.out 0).trans rfl, (blk_cell BK467.out 1).trans rfl, (blk_cell BK467.out 2).trans rfl, (blk_cell BK467.out 3).trans rfl, (blk_cell BK467.out 4).trans rfl⟩ (fun hHeld => ?_)
                clear hK K
                refine norm_ (a' := ?_) ?_ ?_
                rotate_left
                ·show Act.put _ (some 81) _ = _
                 simp only [Act.put, List.setIfInBounds_toArray, List.set_cons_zero, List.set_cons_succ, i64_w, i32_w]
                 rfl
                refine pu 4 HT_ ?_
                refine pu 5 HT_ ?_
                refine pu 6 HT_ ?_
                exact norm_ (by simp only [putAll, Act.put, List.setIfInBounds_toArray, List.set_cons_zero, List.set_cons_succ]) (hCont (gb493) _ ⟨hHeld, (pl BK459), (pl BK467), (pl BK493), GW493.out, GE493.out, NB459_493.out, NB493_459.out, NB467_493.out, NB493_467.out, (bl HB)⟩)
              ·skip
               refine box_step ?hg (N := 17) ?hd (cs := #[.int .i64 0, .int .i64 0, .int .i64 0, .int .i64 0, .int .i64 0]) (t := 27) ?hr ?_; (case hd => rfl); (case hg => rfl); (case hr => first | (go_simp; done) | (go_simp; rfl))
               intro gb493 hg w47 hbox hb
               have n0_ := cb BK459 hb
               have n1_ := cb BK467 hb
               have n2_ := bs HB hb
               have n3_ := Aside0.mk hbox
               have n4_ := sz hg HB
               have n5_ := sz hg HB
               have n6_ := nl hg BK459
               have n7_ := ng hg BK459
               have n8_ := nl hg BK467
               have n9_ := ng hg BK467
               clear BK459
               clear BK467
               clear HB
               have BK459 := n0_
               have BK467 := n1_
               have HB := n2_
               have BK493 := n3_
               have GW493 := n4_
               have GE493 := n5_
               have NB459_493 := n6_
               have NB493_459 := n7_
               have NB467_493 := n8_
               have NB493_467 := n9_
               clear n0_ n1_ n2_ n3_ n4_ n5_ n6_ n7_ n8_ n9_
               clear hb hbox hg
               refine hK.out _ _ ⟨(blk_cell BK467.out 0).trans rfl, (blk_cell BK467.out 1).trans rfl, (blk_cell BK467.out 2).trans rfl, (blk_cell BK467.out 3).trans rfl, (blk_cell BK467.out 4).trans rfl⟩ (fun hHeld => ?_)
               clear hK K
               refine norm_ (a' := ?_) ?_ ?_
               rotate_left
               ·show Act.put _ (some 17) _ = _
                simp only [Act.put, List.setIfInBounds_toArray, List.set_cons_zero, List.set_cons_succ, i64_w, i32_w]
                rfl
               refine one_ (i := 2) (N := some 80) #[true, true, true, false, false, false, false, true, false, false] rfl rfl (one_of HT_.out (by kernel_rfl)) (by decide) (fun K hK => ?_)
               refine goes_ Try.func35 (by kernel_rfl) rfl #[.int .i64 t481] (by rfl) rfl rfl (by (try simp only [List.map_toArray, List.map_cons, List.map_nil]); first | done | rfl | (simp only [List.length_drop, List.length_take]; rfl)) ?_
               with_reducible refine (impl_PhaseFactor.calls t481 t482 t483 t484 t485 t486 _ A42.out).mono ?_
               rintro e w48 ⟨rfl, hb⟩
               refine ⟨_, rfl, ?_⟩
               have n0_ := cb BK459 hb
               have n1_ := cb BK467 hb
               have n2_ := cb BK493 hb
               have n3_ := bs HB hb
               clear BK459
               clear BK467
               clear BK493
               clear HB
               have BK459 := n0_
               have BK467 := n1_
               have BK493 := n2_
               have HB := n3_
               clear n0_ n1_ n2_ n3_
               (try clear hb)
               (try clear hb2)
               (try clear hk)
               (try clear hi)
               refine hK.out _ _ ⟨(blk_cell BK467.out 0).trans rfl, (blk_cell BK467.out 1).trans rfl, (blk_cell BK467.out 2).trans rfl, (blk_cell BK467.out 3).trans rfl, (blk_cell BK467.out 4).trans rfl⟩ (fun hHeld => ?_)
               clear hK K
               refine norm_ (a' := ?_) ?_ ?_
               rotate_left
               ·show Act.put _ (some 80) _ = _
                simp only [Act.put, List.setIfInBounds_toArray, List.set_cons_zero, List.set_cons_succ, i64_w, i32_w]
                rfl
               refine one_ (i := 3) (N := some 81) #[true, true, true, true, false, false, false, true, false, false] rfl rfl (one_of HT_.out (by kernel_rfl)) (by decide) (fun K hK => ?_)
               refine goes_ Try.func34 (by kernel_rfl) rfl #[.agg #[.int .i64 x468000_3, .int .i64 x468001_3, .int .i64 x468002_3, .int .i64 x468003_3, .int .i64 x468004_3], .agg #[.int .i64 t482, .int .i64 t483, .int .i64 t484, .int .i64 t485, .int .i64 t486]] (by rfl) rfl rfl (by (try simp only [List.map_toArray, List.map_cons, List.map_nil]); first | done | rfl | (simp only [List.length_drop, List.length_take]; rfl)) ?_
               with_reducible refine (impl_AddDOmega.calls k3 x468000_3 x468001_3 x468002_3 x468003_3 x468004_3 t482 t483 t484 t485 t486 t487 t488 t489 t490 t491 true _ A43.out).mono ?_
               rintro e w49 ⟨rfl, hb⟩
               refine ⟨_, rfl, ?_⟩
               have n0_ := cb BK459 hb
               have n1_ := cb BK467 hb
               have n2_ := cb BK493 hb
               have n3_ := bs HB hb
               clear BK459
               clear BK467
               clear BK493
               clear HB
               have BK459 := n0_
               have BK467 := n1_
               have BK493 := n2_
               have HB := n3_
               clear n0_ n1_ n2_ n3_
               (try clear hb)
               (try clear hb2)
               (try clear hk)
               (try clear hi)
               refine hK.out _ _ ⟨(blk_cell BK467.out 0).trans rfl, (blk_cell BK467.out 1).trans rfl, (blk_cell BK467.out 2).trans rfl, (blk_cell BK467.out 3).trans rfl, (blk_cell BK467.out 4).trans rfl⟩ (fun hHeld => ?_)
               clear hK K
               refine norm_ (a' := ?_) ?_ ?_
               rotate_left
               ·show Act.put _ (some 81) _ = _
                simp only [Act.put, List.setIfInBounds_toArray, List.set_cons_zero, List.set_cons_succ, i64_w, i32_w]
                rfl
               refine pu 4 HT_ ?_
               refine pu 5 HT_ ?_
               refine pu 6 HT_ ?_
               exact norm_ (by simp only [putAll, Act.put, List.setIfInBounds_toArray, List.set_cons_zero, List.set_cons_succ]) (hCont (gb493) _ ⟨hHeld, (pl BK459), (pl BK467), (pl BK493), GW493.out, GE493.out, NB459_493.out, NB493_459.out, NB467_493.out, NB493_467.out, (bl HB)⟩)
             rintro gb493 w50 ⟨hS_, h0_, h1_, h2_, h3_, h4_, h5_, h6_, h7_, h8_, h9_⟩
             have n0_ : Aside0 (w50.heap[gb459]? = some (.cells #[.int .i64 x460000_3, .int .i64 x460001_3, .int .i64 x460002_3, .int .i64 x460003_3, .int .i64 x460004_3] 27 (0, 0))) := ⟨h0_⟩
             have n1_ : Aside0 (w50.heap[gb467]? = some (.cells #[.int .i64 x468000_3, .int .i64 x468001_3, .int .i64 x468002_3, .int .i64 x468003_3, .int .i64 x468004_3] 27 (0, 0))) := ⟨h1_⟩
             have n2_ : Aside0 (w50.heap[gb493]? = some (.cells #[.int .i64 0, .int .i64 0, .int .i64 0, .int .i64 0, .int .i64 0] 27 (0, 0))) := ⟨h2_⟩
             have n3_ : Aside0 (w.heap.size ≤ gb493) := ⟨h3_⟩
             have n4_ : Aside0 (w.heap.size ≤ gb493) := ⟨h4_⟩
             have n5_ : Aside0 (gb459 ≠ gb493) := ⟨h5_⟩
             have n6_ : Aside0 (gb493 ≠ gb459) := ⟨h6_⟩
             have n7_ : Aside0 (gb467 ≠ gb493) := ⟨h7_⟩
             have n8_ : Aside0 (gb493 ≠ gb467) := ⟨h8_⟩
             have n9_ : Aside0 (Below w.heap.size w w50) := ⟨h9_⟩
             clear BK459
             clear BK467
             clear HB
             clear h0_ h1_ h2_ h3_ h4_ h5_ h6_ h7_ h8_ h9_
             have BK459 := n0_
             have BK467 := n1_
             have BK493 := n2_
             have GW493 := n3_
             have GE493 := n4_
             have NB459_493 := n5_
             have NB493_459 := n6_
             have NB467_493 := n7_
             have NB493_467 := n8_
             have HB := n9_
             clear n0_ n1_ n2_ n3_ n4_ n5_ n6_ n7_ n8_ n9_
             have hHeld : w50.cell? ⟨gb467, 0, none⟩ = some (.int .i64 x468000_3) ∧ w50.cell? ⟨gb467, 1, none⟩ = some (.int .i64 x468001_3) ∧ w50.cell? ⟨gb467, 2, none⟩ = some (.int .i64 x468002_3) ∧ w50.cell? ⟨gb467, 3, none⟩ = some (.int .i64 x468003_3) ∧ w50.cell? ⟨gb467, 4, none⟩ = some (.int .i64 x468004_3) := hS_
             refine norm_ (a' := ?_) ?_ ?_
             rotate_left
             ·simp only [putAll, Act.put, List.setIfInBounds_toArray, List.set_cons_zero, List.set_cons_succ]
              rfl
             refine one_ (i := 8) (N := none) #[true, true, true, true, true, true, true, true, true, false] rfl rfl (one_of HT_.out (by kernel_rfl)) (by decide) (fun K hK => ?_)
             have hs51 : w50.cell? ⟨gb493, 0, none⟩ = some (.int .i64 0) := (blk_cell BK493.out 0).trans rfl
             have hfs51 := blk_frozen BK493.out 0
             have hns51_0 := NB459_493.out
             have hns51_1 := NB467_493.out
             have hms51_0 := NB493_459.out
             have hms51_1 := NB493_467.out
             have hs52 : w50.cell? ⟨gb493, 1, none⟩ = some (.int .i64 0) := (blk_cell BK493.out 1).trans rfl
             have hfs52 := blk_frozen BK493.out 1
             have hns52_0 := NB459_493.out
             have hns52_1 := NB467_493.out
             have hms52_0 := NB493_459.out
             have hms52_1 := NB493_467.out
             have hs53 : w50.cell? ⟨gb493, 2, none⟩ = some (.int .i64 0) := (blk_cell BK493.out 2).trans rfl
             have hfs53 := blk_frozen BK493.out 2
             have hns53_0 := NB459_493.out
             have hns53_1 := NB467_493.out
             have hms53_0 := NB493_459.out
             have hms53_1 := NB493_467.out
             have hs54 : w50.cell? ⟨gb493, 3, none⟩ = some (.int .i64 0) := (blk_cell BK493.out 3).trans rfl
             have hfs54 := blk_frozen BK493.out 3
             have hns54_0 := NB459_493.out
             have hns54_1 := NB467_493.out
             have hms54_0 := NB493_459.out
             have hms54_1 := NB493_467.out
             have hs55 : w50.cell? ⟨gb493, 4, none⟩ = some (.int .i64 0) := (blk_cell BK493.out 4).trans rfl
             have hfs55 := blk_frozen BK493.out 4
             have hns55_0 := NB459_493.out
             have hns55_1 := NB467_493.out
             have hms55_0 := NB493_459.out
             have hms55_1 := NB493_467.out
             refine skip_ (w1 := ?_) (by rfl) rfl ?_ ?_
             rotate_left
             ·go_simp
              rfl
             refine hK.out _ _ ⟨((cell_far (p := ⟨gb493, _, none⟩) NB467_493.out _).trans (((cell_far (p := ⟨gb493, _, none⟩) NB467_493.out _).trans (((cell_far (p := ⟨gb493, _, none⟩) NB467_493.out _).trans (((cell_far (p := ⟨gb493, _, none⟩) NB467_493.out _).trans (((cell_far (p := ⟨gb493, _, none⟩) NB467_493.out _).trans (hHeld.1)))))))))), ((cell_far (p := ⟨gb493, _, none⟩) NB467_493.out _).trans (((cell_far (p := ⟨gb493, _, none⟩) NB467_493.out _).trans (((cell_far (p := ⟨gb493, _, none⟩) NB467_493.out _).trans (((cell_far (p := ⟨gb493, _, none⟩) NB467_493.out _).trans (((cell_far (p := ⟨gb493, _, none⟩) NB467_493.out _).trans (hHeld.2.1)))))))))), ((cell_far (p := ⟨gb493, _, none⟩) NB467_493.out _).trans (((cell_far (p := ⟨gb493, _, none⟩) NB467_493.out _).trans (((cell_far (p := ⟨gb493, _, none⟩) NB467_493.out _).trans (((cell_far (p := ⟨gb493, _, none⟩) NB467_493.out _).trans (((cell_far (p := ⟨gb493, _, none⟩) NB467_493.out _).trans (hHeld.2.2.1)))))))))), ((cell_far (p := ⟨gb493, _, none⟩) NB467_493.out _).trans (((cell_far (p := ⟨gb493, _, none⟩) NB467_493.out _).trans (((cell_far (p := ⟨gb493, _, none⟩) NB467_493.out _).trans (((cell_far (p := ⟨gb493, _, none⟩) NB467_493.out _).trans (((cell_far (p := ⟨gb493, _, none⟩) NB467_493.out _).trans (hHeld.2.2.2.1)))))))))), ((cell_far (p := ⟨gb493, _, none⟩) NB467_493.out _).trans (((cell_far (p := ⟨gb493, _, none⟩) NB467_493.out _).trans (((cell_far (p := ⟨gb493, _, none⟩) NB467_493.out _).trans (((cell_far (p := ⟨gb493, _, none⟩) NB467_493.out _).trans (((cell_far (p := ⟨gb493, _, none⟩) NB467_493.out _).trans (hHeld.2.2.2.2))))))))))⟩ (fun hHeld => ?_)
             clear hK K
             refine pu 9 HT_ ?_
             refine done_ (done_of HT_.out (by kernel_rfl)) ?_
             have hnb56 := NB493_459.out
             have hnc56 := NB459_493.out
             have hnb57 := NB493_467.out
             have hnc57 := NB467_493.out
             obtain ⟨hcz58_0, hcz58_1, hcz58_2, hcz58_3, hcz58_4, hfz58_0, hfz58_1, hfz58_2, hfz58_3, hfz58_4⟩ := cel5 BK493
             have hnb59 := NB467_459.out
             have hnc59 := NB459_467.out
             obtain ⟨hcz60_0, hcz60_1, hcz60_2, hcz60_3, hcz60_4, hfz60_0, hfz60_1, hfz60_2, hfz60_3, hfz60_4⟩ := cel5 BK467
             try go_wp2
             go_roundg k3
             case measure => have := HJ5.out; have := HK2.out; have := HK3.out; omega
             case rel => exact ⟨(wrap64 (x14_3 + 1)), (x460000_3), (x460001_3), (x460002_3), (x460003_3), (x460004_3), (t487), (t488), (t489), (t490), (t491), rs, H', ⟨by have := HJ5.out; have := HK2.out; have := HK3.out; omega⟩, ⟨bp BK459⟩, ⟨bp BK467⟩, ⟨bl HB⟩⟩
            ·replace c44 := Bool.eq_false_iff.mpr c44
             subst c44
             rw [nf] at H
             simp only [Option.some.injEq, Prod.mk.injEq] at H
             obtain ⟨rfl, rfl, rfl, rfl, rfl, rfl⟩ := H
             try go_wp2_with (first | ((with_reducible refine gate_callee (f := 33) rfl ?_); refine gL (some 71) Try.func33 #[.slice A0 l0.length c0, .int .i64 a1, .int .i64 a2, .int .i64 x14_3] ?_; (with_reducible refine (impl_PathEnd.calls k3 _ _ l0 a1 a2 x14_3 t480 t481 _ ?side1 ?side2 A40.out).mono ?_); (case side1 => repeat (first | exact (Kd.C_below HR0.out HB.out) | (with_reducible refine Kd.C_alloc ?_ _) | (with_reducible refine Kd.C_drewN ?_ _) | (with_reducible refine Kd.C_drew ?_))); (case side2 => exact HC0.out); rintro e w61 ⟨rfl, hb⟩; refine ⟨_, rfl, ?_⟩; replace BK459 := cb BK459 hb; replace BK467 := cb BK467 hb; replace HB := bs HB hb; (try clear hb); (try clear hb2); (try clear hk); (try clear hi)))
             have n0_ := Aside0.mk (blk_drew BK459.out)
             have n1_ := Aside0.mk (blk_drew BK467.out)
             have n2_ := Aside0.mk (below_drew1 HB.out)
             clear BK459
             clear BK467
             clear HB
             have BK459 := n0_
             have BK467 := n1_
             have HB := n2_
             clear n0_ n1_ n2_
             refine start_ (n := 10) (S := fun w' => w'.cell? ⟨gb467, 0, none⟩ = some (.int .i64 x468000_3) ∧ w'.cell? ⟨gb467, 1, none⟩ = some (.int .i64 x468001_3) ∧ w'.cell? ⟨gb467, 2, none⟩ = some (.int .i64 x468002_3) ∧ w'.cell? ⟨gb467, 3, none⟩ = some (.int .i64 x468003_3) ∧ w'.cell? ⟨gb467, 4, none⟩ = some (.int .i64 x468004_3)) (ds := []) #[false, false, false, false, false, false, false, false, false, false] (by kernel_rfl) rfl rfl ⟨(blk_cell BK467.out 0).trans rfl, (blk_cell BK467.out 1).trans rfl, (blk_cell BK467.out 2).trans rfl, (blk_cell BK467.out 3).trans rfl, (blk_cell BK467.out 4).trans rfl⟩ (fun hHeld => ?_); refine with_tabW impl_PathSumAmplitude.tab16 impl_PathSumAmplitude.bits16 (fun HT_ HW_ => ?_)
             generalize w61.drew = w62 at BK459 BK467 HB hHeld ⊢
             refine pu 1 HT_ ?_
             refine take_ (i := 0) (N := some 78) (v := ?_) (a' := ?_) #[true, true, false, false, false, false, false, false, false, false] rfl rfl (take_ofW HT_.out HW_.out (by kernel_rfl)) (fun _ _ _ h => h) (Or.inl ⟨by rfl, ?_⟩) hHeld ?_ ?_
             rotate_left
             ·rintro w' ⟨s0, s1, s2, s3, s4⟩
              go_simp
              with_reducible rfl
             rotate_left
             ·simp only [Act.put, List.setIfInBounds_toArray, List.set_cons_zero, List.set_cons_succ, i64_w, i32_w]
              rfl
             refine join_ (σ := Nat) 2 #[true, true, true, true, true, true, true, true, false, false] (fun s_ => [(80, .agg #[.int .i64 t482, .int .i64 t483, .int .i64 t484, .int .i64 t485, .int .i64 t486]), (81, .tuple #[.agg #[.int .i64 t487, .int .i64 t488, .int .i64 t489, .int .i64 t490, .int .i64 t491], .bool false]), (17, .pointer (some ⟨s_, 0, none⟩)), (77, .tuple #[.agg #[.int .i64 t487, .int .i64 t488, .int .i64 t489, .int .i64 t490, .int .i64 t491], .bool false]), (82, .agg #[.int .i64 t487, .int .i64 t488, .int .i64 t489, .int .i64 t490, .int .i64 t491]), (83, .bool false)]) (fun s_ w' => (w'.cell? ⟨gb467, 0, none⟩ = some (.int .i64 x468000_3) ∧ w'.cell? ⟨gb467, 1, none⟩ = some (.int .i64 x468001_3) ∧ w'.cell? ⟨gb467, 2, none⟩ = some (.int .i64 x468002_3) ∧ w'.cell? ⟨gb467, 3, none⟩ = some (.int .i64 x468003_3) ∧ w'.cell? ⟨gb467, 4, none⟩ = some (.int .i64 x468004_3)) ∧ (w'.heap[gb459]? = some (.cells #[.int .i64 x460000_3, .int .i64 x460001_3, .int .i64 x460002_3, .int .i64 x460003_3, .int .i64 x460004_3] 27 (0, 0))) ∧ (w'.heap[gb467]? = some (.cells #[.int .i64 x468000_3, .int .i64 x468001_3, .int .i64 x468002_3, .int .i64 x468003_3, .int .i64 x468004_3] 27 (0, 0))) ∧ (w'.heap[s_]? = some (.cells #[.int .i64 0, .int .i64 0, .int .i64 0, .int .i64 0, .int .i64 0] 27 (0, 0))) ∧ (w.heap.size ≤ s_) ∧ (w.heap.size ≤ s_) ∧ (gb459 ≠ s_) ∧ (s_ ≠ gb459) ∧ (gb467 ≠ s_) ∧ (s_ ≠ gb467) ∧ (Below w.heap.size w w')) ?_ ?_
             rotate_left
             ·intro hCont
              refine two_ (i := 2) (j := 7) (Ni := some 80) (Nj := some 17) #[true, true, true, false, false, false, false, false, false, false] #[true, true, false, false, false, false, false, true, false, false] rfl rfl rfl rfl (two_of HT_.out (by kernel_rfl)) (by decide) (by decide) (fun K hK => ?_) (fun K hK => ?_)
              ·skip
               refine goes_ Try.func35 (by kernel_rfl) rfl #[.int .i64 t481] (by rfl) rfl rfl (by (try simp only [List.map_toArray, List.map_cons, List.map_nil]); first | done | rfl | (simp only [List.length_drop, List.length_take]; rfl)) ?_
               with_reducible refine (impl_PhaseFactor.calls t481 t482 t483 t484 t485 t486 _ A42.out).mono ?_
               rintro e w63 ⟨rfl, hb⟩
               refine ⟨_, rfl, ?_⟩
               have n0_ := cb BK459 hb
               have n1_ := cb BK467 hb
               have n2_ := bs HB hb
               clear BK459
               clear BK467
               clear HB
               have BK459 := n0_
               have BK467 := n1_
               have HB := n2_
               clear n0_ n1_ n2_
               (try clear hb)
               (try clear hb2)
               (try clear hk)
               (try clear hi)
               refine hK.out _ _ ⟨(blk_cell BK467.out 0).trans rfl, (blk_cell BK467.out 1).trans rfl, (blk_cell BK467.out 2).trans rfl, (blk_cell BK467.out 3).trans rfl, (blk_cell BK467.out 4).trans rfl⟩ (fun hHeld => ?_)
               clear hK K
               refine norm_ (a' := ?_) ?_ ?_
               rotate_left
               ·show Act.put _ (some 80) _ = _
                simp only [Act.put, List.setIfInBounds_toArray, List.set_cons_zero, List.set_cons_succ, i64_w, i32_w]
                rfl
               refine two_ (i := 3) (j := 7) (Ni := some 81) (Nj := some 17) #[true, true, true, true, false, false, false, false, false, false] #[true, true, true, false, false, false, false, true, false, false] rfl rfl rfl rfl (two_of HT_.out (by kernel_rfl)) (by decide) (by decide) (fun K hK => ?_) (fun K hK => ?_)
               ·skip
                refine goes_ Try.func34 (by kernel_rfl) rfl #[.agg #[.int .i64 x468000_3, .int .i64 x468001_3, .int .i64 x468002_3, .int .i64 x468003_3, .int .i64 x468004_3], .agg #[.int .i64 t482, .int .i64 t483, .int .i64 t484, .int .i64 t485, .int .i64 t486]] (by rfl) rfl rfl (by (try simp only [List.map_toArray, List.map_cons, List.map_nil]); first | done | rfl | (simp only [List.length_drop, List.length_take]; rfl)) ?_
                with_reducible refine (impl_AddDOmega.calls k3 x468000_3 x468001_3 x468002_3 x468003_3 x468004_3 t482 t483 t484 t485 t486 t487 t488 t489 t490 t491 false _ A43.out).mono ?_
                rintro e w64 ⟨rfl, hb⟩
                refine ⟨_, rfl, ?_⟩
                have n0_ := cb BK459 hb
                have n1_ := cb BK467 hb
                have n2_ := bs HB hb
                clear BK459
                clear BK467
                clear HB
                have BK459 := n0_
                have BK467 := n1_
                have HB := n2_
                clear n0_ n1_ n2_
                (try clear hb)
                (try clear hb2)
                (try clear hk)
                (try clear hi)
                refine hK.out _ _ ⟨(blk_cell BK467.out 0).trans rfl, (blk_cell BK467.out 1).trans rfl, (blk_cell BK467.out 2).trans rfl, (blk_cell BK467.out 3).trans rfl, (blk_cell BK467.out 4).trans rfl⟩ (fun hHeld => ?_)
                clear hK K
                refine norm_ (a' := ?_) ?_ ?_
                rotate_left
                ·show Act.put _ (some 81) _ = _
                 simp only [Act.put, List.setIfInBounds_toArray, List.set_cons_zero, List.set_cons_succ, i64_w, i32_w]
                 rfl
                refine pu 4 HT_ ?_
                refine pu 5 HT_ ?_
                refine pu 6 HT_ ?_
                refine one_ (i := 7) (N := some 17) #[true, true, true, true, true, true, true, true, false, false] rfl rfl (one_of HT_.out (by kernel_rfl)) (by decide) (fun K hK => ?_)
                refine box_step ?hg (N := 17) ?hd (cs := #[.int .i64 0, .int .i64 0, .int .i64 0, .int .i64 0, .int .i64 0]) (t := 27) ?hr ?_; (case hd => rfl); (case hg => rfl); (case hr => first | (go_simp; done) | (go_simp; rfl))
                intro gb493 hg w65 hbox hb
                have n0_ := cb BK459 hb
                have n1_ := cb BK467 hb
                have n2_ := bs HB hb
                have n3_ := Aside0.mk hbox
                have n4_ := sz hg HB
                have n5_ := sz hg HB
                have n6_ := nl hg BK459
                have n7_ := ng hg BK459
                have n8_ := nl hg BK467
                have n9_ := ng hg BK467
                clear BK459
                clear BK467
                clear HB
                have BK459 := n0_
                have BK467 := n1_
                have HB := n2_
                have BK493 := n3_
                have GW493 := n4_
                have GE493 := n5_
                have NB459_493 := n6_
                have NB493_459 := n7_
                have NB467_493 := n8_
                have NB493_467 := n9_
                clear n0_ n1_ n2_ n3_ n4_ n5_ n6_ n7_ n8_ n9_
                clear hb hbox hg
                refine hK.out _ _ ⟨(blk_cell BK467.out 0).trans rfl, (blk_cell BK467.out 1).trans rfl, (blk_cell BK467.out 2).trans rfl, (blk_cell BK467.out 3).trans rfl, (blk_cell BK467.out 4).trans rfl⟩ (fun hHeld => ?_)
                clear hK K
                refine norm_ (a' := ?_) ?_ ?_
                rotate_left
                ·show Act.put _ (some 17) _ = _
                 simp only [Act.put, List.setIfInBounds_toArray, List.set_cons_zero, List.set_cons_succ, i64_w, i32_w]
                 rfl
                exact norm_ (by simp only [putAll, Act.put, List.setIfInBounds_toArray, List.set_cons_zero, List.set_cons_succ]) (hCont (gb493) _ ⟨hHeld, (pl BK459), (pl BK467), (pl BK493), GW493.out, GE493.out, NB459_493.out, NB493_459.out, NB467_493.out, NB493_467.out, (bl HB)⟩)
               ·skip
                refine box_step ?hg (N := 17) ?hd (cs := #[.int .i64 0, .int .i64 0, .int .i64 0, .int .i64 0, .int .i64 0]) (t := 27) ?hr ?_; (case hd => rfl); (case hg => rfl); (case hr => first | (go_simp; done) | (go_simp; rfl))
                intro gb493 hg w64 hbox hb
                have n0_ := cb BK459 hb
                have n1_ := cb BK467 hb
                have n2_ := bs HB hb
                have n3_ := Aside0.mk hbox
                have n4_ := sz hg HB
                have n5_ := sz hg HB
                have n6_ := nl hg BK459
                have n7_ := ng hg BK459
                have n8_ := nl hg BK467
                have n9_ := ng hg BK467
                clear BK459
                clear BK467
                clear HB
                have BK459 := n0_
                have BK467 := n1_
                have HB := n2_
                have BK493 := n3_
                have GW493 := n4_
                have GE493 := n5_
                have NB459_493 := n6_
                have NB493_459 := n7_
                have NB467_493 := n8_
                have NB493_467 := n9_
                clear n0_ n1_ n2_ n3_ n4_ n5_ n6_ n7_ n8_ n9_
                clear hb hbox hg
                refine hK.out _ _ ⟨(blk_cell BK467.out 0).trans rfl, (blk_cell BK467.out 1).trans rfl, (blk_cell BK467.out 2).trans rfl, (blk_cell BK467.out 3).trans rfl, (blk_cell BK467.out 4).trans rfl⟩ (fun hHeld => ?_)
                clear hK K
                refine norm_ (a' := ?_) ?_ ?_
                rotate_left
                ·show Act.put _ (some 17) _ = _
                 simp only [Act.put, List.setIfInBounds_toArray, List.set_cons_zero, List.set_cons_succ, i64_w, i32_w]
                 rfl
                refine one_ (i := 3) (N := some 81) #[true, true, true, true, false, false, false, true, false, false] rfl rfl (one_of HT_.out (by kernel_rfl)) (by decide) (fun K hK => ?_)
                refine goes_ Try.func34 (by kernel_rfl) rfl #[.agg #[.int .i64 x468000_3, .int .i64 x468001_3, .int .i64 x468002_3, .int .i64 x468003_3, .int .i64 x468004_3], .agg #[.int .i64 t482, .int .i64 t483, .int .i64 t484, .int .i64 t485, .int .i64 t486]] (by rfl) rfl rfl (by (try simp only [List.map_toArray, List.map_cons, List.map_nil]); first | done | rfl | (simp only [List.length_drop, List.length_take]; rfl)) ?_
                with_reducible refine (impl_AddDOmega.calls k3 x468000_3 x468001_3 x468002_3 x468003_3 x468004_3 t482 t483 t484 t485 t486 t487 t488 t489 t490 t491 false _ A43.out).mono ?_
                rintro e w65 ⟨rfl, hb⟩
                refine ⟨_, rfl, ?_⟩
                have n0_ := cb BK459 hb
                have n1_ := cb BK467 hb
                have n2_ := cb BK493 hb
                have n3_ := bs HB hb
                clear BK459
                clear BK467
                clear BK493
                clear HB
                have BK459 := n0_
                have BK467 := n1_
                have BK493 := n2_
                have HB := n3_
                clear n0_ n1_ n2_ n3_
                (try clear hb)
                (try clear hb2)
                (try clear hk)
                (try clear hi)
                refine hK.out _ _ ⟨(blk_cell BK467.out 0).trans rfl, (blk_cell BK467.out 1).trans rfl, (blk_cell BK467.out 2).trans rfl, (blk_cell BK467.out 3).trans rfl, (blk_cell BK467.out 4).trans rfl⟩ (fun hHeld => ?_)
                clear hK K
                refine norm_ (a' := ?_) ?_ ?_
                rotate_left
                ·show Act.put _ (some 81) _ = _
                 simp only [Act.put, List.setIfInBounds_toArray, List.set_cons_zero, List.set_cons_succ, i64_w, i32_w]
                 rfl
                refine pu 4 HT_ ?_
                refine pu 5 HT_ ?_
                refine pu 6 HT_ ?_
                exact norm_ (by simp only [putAll, Act.put, List.setIfInBounds_toArray, List.set_cons_zero, List.set_cons_succ]) (hCont (gb493) _ ⟨hHeld, (pl BK459), (pl BK467), (pl BK493), GW493.out, GE493.out, NB459_493.out, NB493_459.out, NB467_493.out, NB493_467.out, (bl HB)⟩)
              ·skip
               refine box_step ?hg (N := 17) ?hd (cs := #[.int .i64 0, .int .i64 0, .int .i64 0, .int .i64 0, .int .i64 0]) (t := 27) ?hr ?_; (case hd => rfl); (case hg => rfl); (case hr => first | (go_simp; done) | (go_simp; rfl))
               intro gb493 hg w63 hbox hb
               have n0_ := cb BK459 hb
               have n1_ := cb BK467 hb
               have n2_ := bs HB hb
               have n3_ := Aside0.mk hbox
               have n4_ := sz hg HB
               have n5_ := sz hg HB
               have n6_ := nl hg BK459
               have n7_ := ng hg BK459
               have n8_ := nl hg BK467
               have n9_ := ng hg BK467
               clear BK459
               clear BK467
               clear HB
               have BK459 := n0_
               have BK467 := n1_
               have HB := n2_
               have BK493 := n3_
               have GW493 := n4_
               have GE493 := n5_
               have NB459_493 := n6_
               have NB493_459 := n7_
               have NB467_493 := n8_
               have NB493_467 := n9_
               clear n0_ n1_ n2_ n3_ n4_ n5_ n6_ n7_ n8_ n9_
               clear hb hbox hg
               refine hK.out _ _ ⟨(blk_cell BK467.out 0).trans rfl, (blk_cell BK467.out 1).trans rfl, (blk_cell BK467.out 2).trans rfl, (blk_cell BK467.out 3).trans rfl, (blk_cell BK467.out 4).trans rfl⟩ (fun hHeld => ?_)
               clear hK K
               refine norm_ (a' := ?_) ?_ ?_
               rotate_left
               ·show Act.put _ (some 17) _ = _
                simp only [Act.put, List.setIfInBounds_toArray, List.set_cons_zero, List.set_cons_succ, i64_w, i32_w]
                rfl
               refine one_ (i := 2) (N := some 80) #[true, true, true, false, false, false, false, true, false, false] rfl rfl (one_of HT_.out (by kernel_rfl)) (by decide) (fun K hK => ?_)
               refine goes_ Try.func35 (by kernel_rfl) rfl #[.int .i64 t481] (by rfl) rfl rfl (by (try simp only [List.map_toArray, List.map_cons, List.map_nil]); first | done | rfl | (simp only [List.length_drop, List.length_take]; rfl)) ?_
               with_reducible refine (impl_PhaseFactor.calls t481 t482 t483 t484 t485 t486 _ A42.out).mono ?_
               rintro e w64 ⟨rfl, hb⟩
               refine ⟨_, rfl, ?_⟩
               have n0_ := cb BK459 hb
               have n1_ := cb BK467 hb
               have n2_ := cb BK493 hb
               have n3_ := bs HB hb
               clear BK459
               clear BK467
               clear BK493
               clear HB
               have BK459 := n0_
               have BK467 := n1_
               have BK493 := n2_
               have HB := n3_
               clear n0_ n1_ n2_ n3_
               (try clear hb)
               (try clear hb2)
               (try clear hk)
               (try clear hi)
               refine hK.out _ _ ⟨(blk_cell BK467.out 0).trans rfl, (blk_cell BK467.out 1).trans rfl, (blk_cell BK467.out 2).trans rfl, (blk_cell BK467.out 3).trans rfl, (blk_cell BK467.out 4).trans rfl⟩ (fun hHeld => ?_)
               clear hK K
               refine norm_ (a' := ?_) ?_ ?_
               rotate_left
               ·show Act.put _ (some 80) _ = _
                simp only [Act.put, List.setIfInBounds_toArray, List.set_cons_zero, List.set_cons_succ, i64_w, i32_w]
                rfl
               refine one_ (i := 3) (N := some 81) #[true, true, true, true, false, false, false, true, false, false] rfl rfl (one_of HT_.out (by kernel_rfl)) (by decide) (fun K hK => ?_)
               refine goes_ Try.func34 (by kernel_rfl) rfl #[.agg #[.int .i64 x468000_3, .int .i64 x468001_3, .int .i64 x468002_3, .int .i64 x468003_3, .int .i64 x468004_3], .agg #[.int .i64 t482, .int .i64 t483, .int .i64 t484, .int .i64 t485, .int .i64 t486]] (by rfl) rfl rfl (by (try simp only [List.map_toArray, List.map_cons, List.map_nil]); first | done | rfl | (simp only [List.length_drop, List.length_take]; rfl)) ?_
               with_reducible refine (impl_AddDOmega.calls k3 x468000_3 x468001_3 x468002_3 x468003_3 x468004_3 t482 t483 t484 t485 t486 t487 t488 t489 t490 t491 false _ A43.out).mono ?_
               rintro e w65 ⟨rfl, hb⟩
               refine ⟨_, rfl, ?_⟩
               have n0_ := cb BK459 hb
               have n1_ := cb BK467 hb
               have n2_ := cb BK493 hb
               have n3_ := bs HB hb
               clear BK459
               clear BK467
               clear BK493
               clear HB
               have BK459 := n0_
               have BK467 := n1_
               have BK493 := n2_
               have HB := n3_
               clear n0_ n1_ n2_ n3_
               (try clear hb)
               (try clear hb2)
               (try clear hk)
               (try clear hi)
               refine hK.out _ _ ⟨(blk_cell BK467.out 0).trans rfl, (blk_cell BK467.out 1).trans rfl, (blk_cell BK467.out 2).trans rfl, (blk_cell BK467.out 3).trans rfl, (blk_cell BK467.out 4).trans rfl⟩ (fun hHeld => ?_)
               clear hK K
               refine norm_ (a' := ?_) ?_ ?_
               rotate_left
               ·show Act.put _ (some 81) _ = _
                simp only [Act.put, List.setIfInBounds_toArray, List.set_cons_zero, List.set_cons_succ, i64_w, i32_w]
                rfl
               refine pu 4 HT_ ?_
               refine pu 5 HT_ ?_
               refine pu 6 HT_ ?_
               exact norm_ (by simp only [putAll, Act.put, List.setIfInBounds_toArray, List.set_cons_zero, List.set_cons_succ]) (hCont (gb493) _ ⟨hHeld, (pl BK459), (pl BK467), (pl BK493), GW493.out, GE493.out, NB459_493.out, NB493_459.out, NB467_493.out, NB493_467.out, (bl HB)⟩)
             rintro gb493 w66 ⟨hS_, h0_, h1_, h2_, h3_, h4_, h5_, h6_, h7_, h8_, h9_⟩
             have n0_ : Aside0 (w66.heap[gb459]? = some (.cells #[.int .i64 x460000_3, .int .i64 x460001_3, .int .i64 x460002_3, .int .i64 x460003_3, .int .i64 x460004_3] 27 (0, 0))) := ⟨h0_⟩
             have n1_ : Aside0 (w66.heap[gb467]? = some (.cells #[.int .i64 x468000_3, .int .i64 x468001_3, .int .i64 x468002_3, .int .i64 x468003_3, .int .i64 x468004_3] 27 (0, 0))) := ⟨h1_⟩
             have n2_ : Aside0 (w66.heap[gb493]? = some (.cells #[.int .i64 0, .int .i64 0, .int .i64 0, .int .i64 0, .int .i64 0] 27 (0, 0))) := ⟨h2_⟩
             have n3_ : Aside0 (w.heap.size ≤ gb493) := ⟨h3_⟩
             have n4_ : Aside0 (w.heap.size ≤ gb493) := ⟨h4_⟩
             have n5_ : Aside0 (gb459 ≠ gb493) := ⟨h5_⟩
             have n6_ : Aside0 (gb493 ≠ gb459) := ⟨h6_⟩
             have n7_ : Aside0 (gb467 ≠ gb493) := ⟨h7_⟩
             have n8_ : Aside0 (gb493 ≠ gb467) := ⟨h8_⟩
             have n9_ : Aside0 (Below w.heap.size w w66) := ⟨h9_⟩
             clear BK459
             clear BK467
             clear HB
             clear h0_ h1_ h2_ h3_ h4_ h5_ h6_ h7_ h8_ h9_
             have BK459 := n0_
             have BK467 := n1_
             have BK493 := n2_
             have GW493 := n3_
             have GE493 := n4_
             have NB459_493 := n5_
             have NB493_459 := n6_
             have NB467_493 := n7_
             have NB493_467 := n8_
             have HB := n9_
             clear n0_ n1_ n2_ n3_ n4_ n5_ n6_ n7_ n8_ n9_
             have hHeld : w66.cell? ⟨gb467, 0, none⟩ = some (.int .i64 x468000_3) ∧ w66.cell? ⟨gb467, 1, none⟩ = some (.int .i64 x468001_3) ∧ w66.cell? ⟨gb467, 2, none⟩ = some (.int .i64 x468002_3) ∧ w66.cell? ⟨gb467, 3, none⟩ = some (.int .i64 x468003_3) ∧ w66.cell? ⟨gb467, 4, none⟩ = some (.int .i64 x468004_3) := hS_
             refine norm_ (a' := ?_) ?_ ?_
             rotate_left
             ·simp only [putAll, Act.put, List.setIfInBounds_toArray, List.set_cons_zero, List.set_cons_succ]
              rfl
             refine one_ (i := 8) (N := none) #[true, true, true, true, true, true, true, true, true, false] rfl rfl (one_of HT_.out (by kernel_rfl)) (by decide) (fun K hK => ?_)
             have hs67 : w66.cell? ⟨gb493, 0, none⟩ = some (.int .i64 0) := (blk_cell BK493.out 0).trans rfl
             have hfs67 := blk_frozen BK493.out 0
             have hns67_0 := NB459_493.out
             have hns67_1 := NB467_493.out
             have hms67_0 := NB493_459.out
             have hms67_1 := NB493_467.out
             have hs68 : w66.cell? ⟨gb493, 1, none⟩ = some (.int .i64 0) := (blk_cell BK493.out 1).trans rfl
             have hfs68 := blk_frozen BK493.out 1
             have hns68_0 := NB459_493.out
             have hns68_1 := NB467_493.out
             have hms68_0 := NB493_459.out
             have hms68_1 := NB493_467.out
             have hs69 : w66.cell? ⟨gb493, 2, none⟩ = some (.int .i64 0) := (blk_cell BK493.out 2).trans rfl
             have hfs69 := blk_frozen BK493.out 2
             have hns69_0 := NB459_493.out
             have hns69_1 := NB467_493.out
             have hms69_0 := NB493_459.out
             have hms69_1 := NB493_467.out
             have hs70 : w66.cell? ⟨gb493, 3, none⟩ = some (.int .i64 0) := (blk_cell BK493.out 3).trans rfl
             have hfs70 := blk_frozen BK493.out 3
             have hns70_0 := NB459_493.out
             have hns70_1 := NB467_493.out
             have hms70_0 := NB493_459.out
             have hms70_1 := NB493_467.out
             have hs71 : w66.cell? ⟨gb493, 4, none⟩ = some (.int .i64 0) := (blk_cell BK493.out 4).trans rfl
             have hfs71 := blk_frozen BK493.out 4
             have hns71_0 := NB459_493.out
             have hns71_1 := NB467_493.out
             have hms71_0 := NB493_459.out
             have hms71_1 := NB493_467.out
             refine skip_ (w1 := ?_) (by rfl) rfl ?_ ?_
             rotate_left
             ·go_simp
              rfl
             refine hK.out _ _ ⟨((cell_far (p := ⟨gb493, _, none⟩) NB467_493.out _).trans (((cell_far (p := ⟨gb493, _, none⟩) NB467_493.out _).trans (((cell_far (p := ⟨gb493, _, none⟩) NB467_493.out _).trans (((cell_far (p := ⟨gb493, _, none⟩) NB467_493.out _).trans (((cell_far (p := ⟨gb493, _, none⟩) NB467_493.out _).trans (hHeld.1)))))))))), ((cell_far (p := ⟨gb493, _, none⟩) NB467_493.out _).trans (((cell_far (p := ⟨gb493, _, none⟩) NB467_493.out _).trans (((cell_far (p := ⟨gb493, _, none⟩) NB467_493.out _).trans (((cell_far (p := ⟨gb493, _, none⟩) NB467_493.out _).trans (((cell_far (p := ⟨gb493, _, none⟩) NB467_493.out _).trans (hHeld.2.1)))))))))), ((cell_far (p := ⟨gb493, _, none⟩) NB467_493.out _).trans (((cell_far (p := ⟨gb493, _, none⟩) NB467_493.out _).trans (((cell_far (p := ⟨gb493, _, none⟩) NB467_493.out _).trans (((cell_far (p := ⟨gb493, _, none⟩) NB467_493.out _).trans (((cell_far (p := ⟨gb493, _, none⟩) NB467_493.out _).trans (hHeld.2.2.1)))))))))), ((cell_far (p := ⟨gb493, _, none⟩) NB467_493.out _).trans (((cell_far (p := ⟨gb493, _, none⟩) NB467_493.out _).trans (((cell_far (p := ⟨gb493, _, none⟩) NB467_493.out _).trans (((cell_far (p := ⟨gb493, _, none⟩) NB467_493.out _).trans (((cell_far (p := ⟨gb493, _, none⟩) NB467_493.out _).trans (hHeld.2.2.2.1)))))))))), ((cell_far (p := ⟨gb493, _, none⟩) NB467_493.out _).trans (((cell_far (p := ⟨gb493, _, none⟩) NB467_493.out _).trans (((cell_far (p := ⟨gb493, _, none⟩) NB467_493.out _).trans (((cell_far (p := ⟨gb493, _, none⟩) NB467_493.out _).trans (((cell_far (p := ⟨gb493, _, none⟩) NB467_493.out _).trans (hHeld.2.2.2.2))))))))))⟩ (fun hHeld => ?_)
             clear hK K
             refine pu 9 HT_ ?_
             refine done_ (done_of HT_.out (by kernel_rfl)) ?_
             have hnb72 := NB459_467.out
             have hnc72 := NB467_459.out
             have hnb73 := NB459_493.out
             have hnc73 := NB493_459.out
             obtain ⟨hcz74_0, hcz74_1, hcz74_2, hcz74_3, hcz74_4, hfz74_0, hfz74_1, hfz74_2, hfz74_3, hfz74_4⟩ := cel5 BK459
             try go_wp2
             refine bodyPost_ret (results_ct rfl _ _ gb459 27 #[.int .i64 0, .int .i64 0, .int .i64 0, .int .i64 0, .int .i64 0] (0, 0) _ rfl (bp BK459) Try.underlying27 rfl (by kernel_rfl)) rfl ?_
             exact ⟨by first | rfl | (simp [errW_none, errW_some] <;> rfl) | (simp only [← hji38]; first | rfl | (simp [errW_none, errW_some] <;> rfl)) | (simp [*, errW_none, errW_some] <;> rfl), bl HB⟩
           ·rw [if_neg c41] at H
            have c41b0 : (t480 == a3) = false := beq_eq_false_iff_ne.mpr c41
            have c41b1 : (t480 != a3) = true := bne_iff_ne.mpr c41
            have H' := Aside0.mk H
            clear H
            go_wp2_with (first | ((with_reducible refine gate_callee (f := 33) rfl ?_); refine gL (some 71) Try.func33 #[.slice A0 l0.length c0, .int .i64 a1, .int .i64 a2, .int .i64 x14_3] ?_; (with_reducible refine (impl_PathEnd.calls k3 _ _ l0 a1 a2 x14_3 t480 t481 _ ?side1 ?side2 A40.out).mono ?_); (case side1 => repeat (first | exact (Kd.C_below HR0.out HB.out) | (with_reducible refine Kd.C_alloc ?_ _) | (with_reducible refine Kd.C_drewN ?_ _) | (with_reducible refine Kd.C_drew ?_))); (case side2 => exact HC0.out); rintro e w75 ⟨rfl, hb⟩; refine ⟨_, rfl, ?_⟩; replace BK459 := cb BK459 hb; replace BK467 := cb BK467 hb; replace HB := bs HB hb; (try clear hb); (try clear hb2); (try clear hk); (try clear hi)))
            go_roundg k3
            case measure => have := HJ5.out; have := HK2.out; have := HK3.out; omega
            case rel => exact ⟨(wrap64 (x14_3 + 1)), (x460000_3), (x460001_3), (x460002_3), (x460003_3), (x460004_3), (x468000_3), (x468001_3), (x468002_3), (x468003_3), (x468004_3), rs, H', ⟨by have := HJ5.out; have := HK2.out; have := HK3.out; omega⟩, ⟨pl BK459⟩, ⟨pl BK467⟩, ⟨bl HB⟩⟩
          ·rw [if_neg c39] at H
           have c39b0 : decide (x14_3 < (ji38)) = false := decide_eq_false c39
           clear c39
           replace H := Option.bind_eq_some_iff.mp H
           obtain ⟨⟨t468, t469, t470, t471, t472⟩, A760, H⟩ := H
           try dsimp only at H
           have A76 := Aside0.mk A760
           clear A760
           replace H := Option.bind_eq_some_iff.mp H
           obtain ⟨⟨t473, t474, t475, t476, t477, t478⟩, A770, H⟩ := H
           try dsimp only at H
           have A77 := Aside0.mk A770
           clear A770
           simp only [Option.some.injEq, Prod.mk.injEq] at H
           obtain ⟨rfl, rfl, rfl, rfl, rfl, rfl⟩ := H
           try go_wp2
           have n0_ := Aside0.mk (blk_drew BK459.out)
           have n1_ := Aside0.mk (blk_drew BK467.out)
           have n2_ := Aside0.mk (below_drew1 HB.out)
           clear BK459
           clear BK467
           clear HB
           have BK459 := n0_
           have BK467 := n1_
           have HB := n2_
           clear n0_ n1_ n2_
           refine start_ (n := 10) (S := fun w' => w'.cell? ⟨gb467, 0, none⟩ = some (.int .i64 x468000_3) ∧ w'.cell? ⟨gb467, 1, none⟩ = some (.int .i64 x468001_3) ∧ w'.cell? ⟨gb467, 2, none⟩ = some (.int .i64 x468002_3) ∧ w'.cell? ⟨gb467, 3, none⟩ = some (.int .i64 x468003_3) ∧ w'.cell? ⟨gb467, 4, none⟩ = some (.int .i64 x468004_3)) (ds := []) #[false, false, false, false, false, false, false, false, false, false] (by kernel_rfl) rfl rfl ⟨(blk_cell BK467.out 0).trans rfl, (blk_cell BK467.out 1).trans rfl, (blk_cell BK467.out 2).trans rfl, (blk_cell BK467.out 3).trans rfl, (blk_cell BK467.out 4).trans rfl⟩ (fun hHeld => ?_); refine with_tabW impl_PathSumAmplitude.tab20 impl_PathSumAmplitude.bits20 (fun HT_ HW_ => ?_)
           generalize wr.drew = w78 at BK459 BK467 HB hHeld ⊢
           refine pu 1 HT_ ?_
           refine take_ (i := 0) (N := some 89) (v := ?_) (a' := ?_) #[true, true, false, false, false, false, false, false, false, false] rfl rfl (take_ofW HT_.out HW_.out (by kernel_rfl)) (fun _ _ _ h => h) (Or.inl ⟨by rfl, ?_⟩) hHeld ?_ ?_
           rotate_left
           ·rintro w' ⟨s0, s1, s2, s3, s4⟩
            go_simp
            with_reducible rfl
           rotate_left
           ·simp only [Act.put, List.setIfInBounds_toArray, List.set_cons_zero, List.set_cons_succ, i64_w, i32_w]
            rfl
           refine join_ (σ := Nat) 2 #[true, true, true, true, true, true, true, true, false, false] (fun s_ => [(91, .agg #[.int .i64 t468, .int .i64 t469, .int .i64 t470, .int .i64 t471, .int .i64 t472]), (92, .tuple #[.agg #[.int .i64 t473, .int .i64 t474, .int .i64 t475, .int .i64 t476, .int .i64 t477], .bool t478]), (19, .pointer (some ⟨s_, 0, none⟩)), (88, .tuple #[.agg #[.int .i64 t473, .int .i64 t474, .int .i64 t475, .int .i64 t476, .int .i64 t477], .bool t478]), (93, .agg #[.int .i64 t473, .int .i64 t474, .int .i64 t475, .int .i64 t476, .int .i64 t477]), (94, .bool t478)]) (fun s_ w' => (w'.cell? ⟨gb467, 0, none⟩ = some (.int .i64 x468000_3) ∧ w'.cell? ⟨gb467, 1, none⟩ = some (.int .i64 x468001_3) ∧ w'.cell? ⟨gb467, 2, none⟩ = some (.int .i64 x468002_3) ∧ w'.cell? ⟨gb467, 3, none⟩ = some (.int .i64 x468003_3) ∧ w'.cell? ⟨gb467, 4, none⟩ = some (.int .i64 x468004_3)) ∧ (w'.heap[gb459]? = some (.cells #[.int .i64 x460000_3, .int .i64 x460001_3, .int .i64 x460002_3, .int .i64 x460003_3, .int .i64 x460004_3] 27 (0, 0))) ∧ (w'.heap[gb467]? = some (.cells #[.int .i64 x468000_3, .int .i64 x468001_3, .int .i64 x468002_3, .int .i64 x468003_3, .int .i64 x468004_3] 27 (0, 0))) ∧ (w'.heap[s_]? = some (.cells #[.int .i64 0, .int .i64 0, .int .i64 0, .int .i64 0, .int .i64 0] 27 (0, 0))) ∧ (w.heap.size ≤ s_) ∧ (w.heap.size ≤ s_) ∧ (gb459 ≠ s_) ∧ (s_ ≠ gb459) ∧ (gb467 ≠ s_) ∧ (s_ ≠ gb467) ∧ (Below w.heap.size w w')) ?_ ?_
           rotate_left
           ·intro hCont
            refine two_ (i := 2) (j := 7) (Ni := some 91) (Nj := some 19) #[true, true, true, false, false, false, false, false, false, false] #[true, true, false, false, false, false, false, true, false, false] rfl rfl rfl rfl (two_of HT_.out (by kernel_rfl)) (by decide) (by decide) (fun K hK => ?_) (fun K hK => ?_)
            ·skip
             refine goes_ Try.func37 (by kernel_rfl) rfl #[.int .i64 t460] (by rfl) rfl rfl (by (try simp only [List.map_toArray, List.map_cons, List.map_nil]); first | done | rfl | (simp only [List.length_drop, List.length_take]; rfl)) ?_
             with_reducible refine (impl_InvSqrt2Power.calls t460 t468 t469 t470 t471 t472 _ A76.out).mono ?_
             rintro e w79 ⟨rfl, hb⟩
             refine ⟨_, rfl, ?_⟩
             have n0_ := cb BK459 hb
             have n1_ := cb BK467 hb
             have n2_ := bs HB hb
             clear BK459
             clear BK467
             clear HB
             have BK459 := n0_
             have BK467 := n1_
             have HB := n2_
             clear n0_ n1_ n2_
             (try clear hb)
             (try clear hb2)
             (try clear hk)
             (try clear hi)
             refine hK.out _ _ ⟨(blk_cell BK467.out 0).trans rfl, (blk_cell BK467.out 1).trans rfl, (blk_cell BK467.out 2).trans rfl, (blk_cell BK467.out 3).trans rfl, (blk_cell BK467.out 4).trans rfl⟩ (fun hHeld => ?_)
             clear hK K
             refine norm_ (a' := ?_) ?_ ?_
             rotate_left
             ·show Act.put _ (some 91) _ = _
              simp only [Act.put, List.setIfInBounds_toArray, List.set_cons_zero, List.set_cons_succ, i64_w, i32_w]
              rfl
             refine two_ (i := 3) (j := 7) (Ni := some 92) (Nj := some 19) #[true, true, true, true, false, false, false, false, false, false] #[true, true, true, false, false, false, false, true, false, false] rfl rfl rfl rfl (two_of HT_.out (by kernel_rfl)) (by decide) (by decide) (fun K hK => ?_) (fun K hK => ?_)
             ·skip
              refine goes_ Try.func36 (by kernel_rfl) rfl #[.agg #[.int .i64 x468000_3, .int .i64 x468001_3, .int .i64 x468002_3, .int .i64 x468003_3, .int .i64 x468004_3], .agg #[.int .i64 t468, .int .i64 t469, .int .i64 t470, .int .i64 t471, .int .i64 t472]] (by rfl) rfl rfl (by (try simp only [List.map_toArray, List.map_cons, List.map_nil]); first | done | rfl | (simp only [List.length_drop, List.length_take]; rfl)) ?_
              with_reducible refine (impl_MulDOmega.calls k3 x468000_3 x468001_3 x468002_3 x468003_3 x468004_3 t468 t469 t470 t471 t472 t473 t474 t475 t476 t477 t478 _ A77.out).mono ?_
              rintro e w80 ⟨rfl, hb⟩
              refine ⟨_, rfl, ?_⟩
              have n0_ := cb BK459 hb
              have n1_ := cb BK467 hb
              have n2_ := bs HB hb
              clear BK459
              clear BK467
              clear HB
              have BK459 := n0_
              have BK467 := n1_
              have HB := n2_
              clear n0_ n1_ n2_
              (try clear hb)
              (try clear hb2)
              (try clear hk)
              (try clear hi)
              refine hK.out _ _ ⟨(blk_cell BK467.out 0).trans rfl, (blk_cell BK467.out 1).trans rfl, (blk_cell BK467.out 2).trans rfl, (blk_cell BK467.out 3).trans rfl, (blk_cell BK467.out 4).trans rfl⟩ (fun hHeld => ?_)
              clear hK K
              refine norm_ (a' := ?_) ?_ ?_
              rotate_left
              ·show Act.put _ (some 92) _ = _
               simp only [Act.put, List.setIfInBounds_toArray, List.set_cons_zero, List.set_cons_succ, i64_w, i32_w]
               rfl
              refine pu 4 HT_ ?_
              refine pu 5 HT_ ?_
              refine pu 6 HT_ ?_
              refine one_ (i := 7) (N := some 19) #[true, true, true, true, true, true, true, true, false, false] rfl rfl (one_of HT_.out (by kernel_rfl)) (by decide) (fun K hK => ?_)
              refine box_step ?hg (N := 19) ?hd (cs := #[.int .i64 0, .int .i64 0, .int .i64 0, .int .i64 0, .int .i64 0]) (t := 27) ?hr ?_; (case hd => rfl); (case hg => rfl); (case hr => first | (go_simp; done) | (go_simp; rfl))
              intro gb479 hg w81 hbox hb
              have n0_ := cb BK459 hb
              have n1_ := cb BK467 hb
              have n2_ := bs HB hb
              have n3_ := Aside0.mk hbox
              have n4_ := sz hg HB
              have n5_ := sz hg HB
              have n6_ := nl hg BK459
              have n7_ := ng hg BK459
              have n8_ := nl hg BK467
              have n9_ := ng hg BK467
              clear BK459
              clear BK467
              clear HB
              have BK459 := n0_
              have BK467 := n1_
              have HB := n2_
              have BK479 := n3_
              have GW479 := n4_
              have GE479 := n5_
              have NB459_479 := n6_
              have NB479_459 := n7_
              have NB467_479 := n8_
              have NB479_467 := n9_
              clear n0_ n1_ n2_ n3_ n4_ n5_ n6_ n7_ n8_ n9_
              clear hb hbox hg
              refine hK.out _ _ ⟨(blk_cell BK467.out 0).trans rfl, (blk_cell BK467.out 1).trans rfl, (blk_cell BK467.out 2).trans rfl, (blk_cell BK467.out 3).trans rfl, (blk_cell BK467.out 4).trans rfl⟩ (fun hHeld => ?_)
              clear hK K
              refine norm_ (a' := ?_) ?_ ?_
              rotate_left
              ·show Act.put _ (some 19) _ = _
               simp only [Act.put, List.setIfInBounds_toArray, List.set_cons_zero, List.set_cons_succ, i64_w, i32_w]
               rfl
              exact norm_ (by simp only [putAll, Act.put, List.setIfInBounds_toArray, List.set_cons_zero, List.set_cons_succ]) (hCont (gb479) _ ⟨hHeld, (pl BK459), (pl BK467), (pl BK479), GW479.out, GE479.out, NB459_479.out, NB479_459.out, NB467_479.out, NB479_467.out, (bl HB)⟩)
             ·skip
              refine box_step ?hg (N := 19) ?hd (cs := #[.int .i64 0, .int .i64 0, .int .i64 0, .int .i64 0, .int .i64 0]) (t := 27) ?hr ?_; (case hd => rfl); (case hg => rfl); (case hr => first | (go_simp; done) | (go_simp; rfl))
              intro gb479 hg w80 hbox hb
              have n0_ := cb BK459 hb
              have n1_ := cb BK467 hb
              have n2_ := bs HB hb
              have n3_ := Aside0.mk hbox
              have n4_ := sz hg HB
              have n5_ := sz hg HB
              have n6_ := nl hg BK459
              have n7_ := ng hg BK459
              have n8_ := nl hg BK467
              have n9_ := ng hg BK467
              clear BK459
              clear BK467
              clear HB
              have BK459 := n0_
              have BK467 := n1_
              have HB := n2_
              have BK479 := n3_
              have GW479 := n4_
              have GE479 := n5_
              have NB459_479 := n6_
              have NB479_459 := n7_
              have NB467_479 := n8_
              have NB479_467 := n9_
              clear n0_ n1_ n2_ n3_ n4_ n5_ n6_ n7_ n8_ n9_
              clear hb hbox hg
              refine hK.out _ _ ⟨(blk_cell BK467.out 0).trans rfl, (blk_cell BK467.out 1).trans rfl, (blk_cell BK467.out 2).trans rfl, (blk_cell BK467.out 3).trans rfl, (blk_cell BK467.out 4).trans rfl⟩ (fun hHeld => ?_)
              clear hK K
              refine norm_ (a' := ?_) ?_ ?_
              rotate_left
              ·show Act.put _ (some 19) _ = _
               simp only [Act.put, List.setIfInBounds_toArray, List.set_cons_zero, List.set_cons_succ, i64_w, i32_w]
               rfl
              refine one_ (i := 3) (N := some 92) #[true, true, true, true, false, false, false, true, false, false] rfl rfl (one_of HT_.out (by kernel_rfl)) (by decide) (fun K hK => ?_)
              refine goes_ Try.func36 (by kernel_rfl) rfl #[.agg #[.int .i64 x468000_3, .int .i64 x468001_3, .int .i64 x468002_3, .int .i64 x468003_3, .int .i64 x468004_3], .agg #[.int .i64 t468, .int .i64 t469, .int .i64 t470, .int .i64 t471, .int .i64 t472]] (by rfl) rfl rfl (by (try simp only [List.map_toArray, List.map_cons, List.map_nil]); first | done | rfl | (simp only [List.length_drop, List.length_take]; rfl)) ?_
              with_reducible refine (impl_MulDOmega.calls k3 x468000_3 x468001_3 x468002_3 x468003_3 x468004_3 t468 t469 t470 t471 t472 t473 t474 t475 t476 t477 t478 _ A77.out).mono ?_
              rintro e w81 ⟨rfl, hb⟩
              refine ⟨_, rfl, ?_⟩
              have n0_ := cb BK459 hb
              have n1_ := cb BK467 hb
              have n2_ := cb BK479 hb
              have n3_ := bs HB hb
              clear BK459
              clear BK467
              clear BK479
              clear HB
              have BK459 := n0_
              have BK467 := n1_
              have BK479 := n2_
              have HB := n3_
              clear n0_ n1_ n2_ n3_
              (try clear hb)
              (try clear hb2)
              (try clear hk)
              (try clear hi)
              refine hK.out _ _ ⟨(blk_cell BK467.out 0).trans rfl, (blk_cell BK467.out 1).trans rfl, (blk_cell BK467.out 2).trans rfl, (blk_cell BK467.out 3).trans rfl, (blk_cell BK467.out 4).trans rfl⟩ (fun hHeld => ?_)
              clear hK K
              refine norm_ (a' := ?_) ?_ ?_
              rotate_left
              ·show Act.put _ (some 92) _ = _
               simp only [Act.put, List.setIfInBounds_toArray, List.set_cons_zero, List.set_cons_succ, i64_w, i32_w]
               rfl
              refine pu 4 HT_ ?_
              refine pu 5 HT_ ?_
              refine pu 6 HT_ ?_
              exact norm_ (by simp only [putAll, Act.put, List.setIfInBounds_toArray, List.set_cons_zero, List.set_cons_succ]) (hCont (gb479) _ ⟨hHeld, (pl BK459), (pl BK467), (pl BK479), GW479.out, GE479.out, NB459_479.out, NB479_459.out, NB467_479.out, NB479_467.out, (bl HB)⟩)
            ·skip
             refine box_step ?hg (N := 19) ?hd (cs := #[.int .i64 0, .int .i64 0, .int .i64 0, .int .i64 0, .int .i64 0]) (t := 27) ?hr ?_; (case hd => rfl); (case hg => rfl); (case hr => first | (go_simp; done) | (go_simp; rfl))
             intro gb479 hg w79 hbox hb
             have n0_ := cb BK459 hb
             have n1_ := cb BK467 hb
             have n2_ := bs HB hb
             have n3_ := Aside0.mk hbox
             have n4_ := sz hg HB
             have n5_ := sz hg HB
             have n6_ := nl hg BK459
             have n7_ := ng hg BK459
             have n8_ := nl hg BK467
             have n9_ := ng hg BK467
             clear BK459
             clear BK467
             clear HB
             have BK459 := n0_
             have BK467 := n1_
             have HB := n2_
             have BK479 := n3_
             have GW479 := n4_
             have GE479 := n5_
             have NB459_479 := n6_
             have NB479_459 := n7_
             have NB467_479 := n8_
             have NB479_467 := n9_
             clear n0_ n1_ n2_ n3_ n4_ n5_ n6_ n7_ n8_ n9_
             clear hb hbox hg
             refine hK.out _ _ ⟨(blk_cell BK467.out 0).trans rfl, (blk_cell BK467.out 1).trans rfl, (blk_cell BK467.out 2).trans rfl, (blk_cell BK467.out 3).trans rfl, (blk_cell BK467.out 4).trans rfl⟩ (fun hHeld => ?_)
             clear hK K
             refine norm_ (a' := ?_) ?_ ?_
             rotate_left
             ·show Act.put _ (some 19) _ = _
              simp only [Act.put, List.setIfInBounds_toArray, List.set_cons_zero, List.set_cons_succ, i64_w, i32_w]
              rfl
             refine one_ (i := 2) (N := some 91) #[true, true, true, false, false, false, false, true, false, false] rfl rfl (one_of HT_.out (by kernel_rfl)) (by decide) (fun K hK => ?_)
             refine goes_ Try.func37 (by kernel_rfl) rfl #[.int .i64 t460] (by rfl) rfl rfl (by (try simp only [List.map_toArray, List.map_cons, List.map_nil]); first | done | rfl | (simp only [List.length_drop, List.length_take]; rfl)) ?_
             with_reducible refine (impl_InvSqrt2Power.calls t460 t468 t469 t470 t471 t472 _ A76.out).mono ?_
             rintro e w80 ⟨rfl, hb⟩
             refine ⟨_, rfl, ?_⟩
             have n0_ := cb BK459 hb
             have n1_ := cb BK467 hb
             have n2_ := cb BK479 hb
             have n3_ := bs HB hb
             clear BK459
             clear BK467
             clear BK479
             clear HB
             have BK459 := n0_
             have BK467 := n1_
             have BK479 := n2_
             have HB := n3_
             clear n0_ n1_ n2_ n3_
             (try clear hb)
             (try clear hb2)
             (try clear hk)
             (try clear hi)
             refine hK.out _ _ ⟨(blk_cell BK467.out 0).trans rfl, (blk_cell BK467.out 1).trans rfl, (blk_cell BK467.out 2).trans rfl, (blk_cell BK467.out 3).trans rfl, (blk_cell BK467.out 4).trans rfl⟩ (fun hHeld => ?_)
             clear hK K
             refine norm_ (a' := ?_) ?_ ?_
             rotate_left
             ·show Act.put _ (some 91) _ = _
              simp only [Act.put, List.setIfInBounds_toArray, List.set_cons_zero, List.set_cons_succ, i64_w, i32_w]
              rfl
             refine one_ (i := 3) (N := some 92) #[true, true, true, true, false, false, false, true, false, false] rfl rfl (one_of HT_.out (by kernel_rfl)) (by decide) (fun K hK => ?_)
             refine goes_ Try.func36 (by kernel_rfl) rfl #[.agg #[.int .i64 x468000_3, .int .i64 x468001_3, .int .i64 x468002_3, .int .i64 x468003_3, .int .i64 x468004_3], .agg #[.int .i64 t468, .int .i64 t469, .int .i64 t470, .int .i64 t471, .int .i64 t472]] (by rfl) rfl rfl (by (try simp only [List.map_toArray, List.map_cons, List.map_nil]); first | done | rfl | (simp only [List.length_drop, List.length_take]; rfl)) ?_
             with_reducible refine (impl_MulDOmega.calls k3 x468000_3 x468001_3 x468002_3 x468003_3 x468004_3 t468 t469 t470 t471 t472 t473 t474 t475 t476 t477 t478 _ A77.out).mono ?_
             rintro e w81 ⟨rfl, hb⟩
             refine ⟨_, rfl, ?_⟩
             have n0_ := cb BK459 hb
             have n1_ := cb BK467 hb
             have n2_ := cb BK479 hb
             have n3_ := bs HB hb
             clear BK459
             clear BK467
             clear BK479
             clear HB
             have BK459 := n0_
             have BK467 := n1_
             have BK479 := n2_
             have HB := n3_
             clear n0_ n1_ n2_ n3_
             (try clear hb)
             (try clear hb2)
             (try clear hk)
             (try clear hi)
             refine hK.out _ _ ⟨(blk_cell BK467.out 0).trans rfl, (blk_cell BK467.out 1).trans rfl, (blk_cell BK467.out 2).trans rfl, (blk_cell BK467.out 3).trans rfl, (blk_cell BK467.out 4).trans rfl⟩ (fun hHeld => ?_)
             clear hK K
             refine norm_ (a' := ?_) ?_ ?_
             rotate_left
             ·show Act.put _ (some 92) _ = _
              simp only [Act.put, List.setIfInBounds_toArray, List.set_cons_zero, List.set_cons_succ, i64_w, i32_w]
              rfl
             refine pu 4 HT_ ?_
             refine pu 5 HT_ ?_
             refine pu 6 HT_ ?_
             exact norm_ (by simp only [putAll, Act.put, List.setIfInBounds_toArray, List.set_cons_zero, List.set_cons_succ]) (hCont (gb479) _ ⟨hHeld, (pl BK459), (pl BK467), (pl BK479), GW479.out, GE479.out, NB459_479.out, NB479_459.out, NB467_479.out, NB479_467.out, (bl HB)⟩)
           rintro gb479 w82 ⟨hS_, h0_, h1_, h2_, h3_, h4_, h5_, h6_, h7_, h8_, h9_⟩
           have n0_ : Aside0 (w82.heap[gb459]? = some (.cells #[.int .i64 x460000_3, .int .i64 x460001_3, .int .i64 x460002_3, .int .i64 x460003_3, .int .i64 x460004_3] 27 (0, 0))) := ⟨h0_⟩
           have n1_ : Aside0 (w82.heap[gb467]? = some (.cells #[.int .i64 x468000_3, .int .i64 x468001_3, .int .i64 x468002_3, .int .i64 x468003_3, .int .i64 x468004_3] 27 (0, 0))) := ⟨h1_⟩
           have n2_ : Aside0 (w82.heap[gb479]? = some (.cells #[.int .i64 0, .int .i64 0, .int .i64 0, .int .i64 0, .int .i64 0] 27 (0, 0))) := ⟨h2_⟩
           have n3_ : Aside0 (w.heap.size ≤ gb479) := ⟨h3_⟩
           have n4_ : Aside0 (w.heap.size ≤ gb479) := ⟨h4_⟩
           have n5_ : Aside0 (gb459 ≠ gb479) := ⟨h5_⟩
           have n6_ : Aside0 (gb479 ≠ gb459) := ⟨h6_⟩
           have n7_ : Aside0 (gb467 ≠ gb479) := ⟨h7_⟩
           have n8_ : Aside0 (gb479 ≠ gb467) := ⟨h8_⟩
           have n9_ : Aside0 (Below w.heap.size w w82) := ⟨h9_⟩
           clear BK459
           clear BK467
           clear HB
           clear h0_ h1_ h2_ h3_ h4_ h5_ h6_ h7_ h8_ h9_
           have BK459 := n0_
           have BK467 := n1_
           have BK479 := n2_
           have GW479 := n3_
           have GE479 := n4_
           have NB459_479 := n5_
           have NB479_459 := n6_
           have NB467_479 := n7_
           have NB479_467 := n8_
           have HB := n9_
           clear n0_ n1_ n2_ n3_ n4_ n5_ n6_ n7_ n8_ n9_
           have hHeld : w82.cell? ⟨gb467, 0, none⟩ = some (.int .i64 x468000_3) ∧ w82.cell? ⟨gb467, 1, none⟩ = some (.int .i64 x468001_3) ∧ w82.cell? ⟨gb467, 2, none⟩ = some (.int .i64 x468002_3) ∧ w82.cell? ⟨gb467, 3, none⟩ = some (.int .i64 x468003_3) ∧ w82.cell? ⟨gb467, 4, none⟩ = some (.int .i64 x468004_3) := hS_
           refine norm_ (a' := ?_) ?_ ?_
           rotate_left
           ·simp only [putAll, Act.put, List.setIfInBounds_toArray, List.set_cons_zero, List.set_cons_succ]
            rfl
           refine one_ (i := 8) (N := none) #[true, true, true, true, true, true, true, true, true, false] rfl rfl (one_of HT_.out (by kernel_rfl)) (by decide) (fun K hK => ?_)
           have hs83 : w82.cell? ⟨gb479, 0, none⟩ = some (.int .i64 0) := (blk_cell BK479.out 0).trans rfl
           have hfs83 := blk_frozen BK479.out 0
           have hns83_0 := NB459_479.out
           have hns83_1 := NB467_479.out
           have hms83_0 := NB479_459.out
           have hms83_1 := NB479_467.out
           have hs84 : w82.cell? ⟨gb479, 1, none⟩ = some (.int .i64 0) := (blk_cell BK479.out 1).trans rfl
           have hfs84 := blk_frozen BK479.out 1
           have hns84_0 := NB459_479.out
           have hns84_1 := NB467_479.out
           have hms84_0 := NB479_459.out
           have hms84_1 := NB479_467.out
           have hs85 : w82.cell? ⟨gb479, 2, none⟩ = some (.int .i64 0) := (blk_cell BK479.out 2).trans rfl
           have hfs85 := blk_frozen BK479.out 2
           have hns85_0 := NB459_479.out
           have hns85_1 := NB467_479.out
           have hms85_0 := NB479_459.out
           have hms85_1 := NB479_467.out
           have hs86 : w82.cell? ⟨gb479, 3, none⟩ = some (.int .i64 0) := (blk_cell BK479.out 3).trans rfl
           have hfs86 := blk_frozen BK479.out 3
           have hns86_0 := NB459_479.out
           have hns86_1 := NB467_479.out
           have hms86_0 := NB479_459.out
           have hms86_1 := NB479_467.out
           have hs87 : w82.cell? ⟨gb479, 4, none⟩ = some (.int .i64 0) := (blk_cell BK479.out 4).trans rfl
           have hfs87 := blk_frozen BK479.out 4
           have hns87_0 := NB459_479.out
           have hns87_1 := NB467_479.out
           have hms87_0 := NB479_459.out
           have hms87_1 := NB479_467.out
           refine skip_ (w1 := ?_) (by rfl) rfl ?_ ?_
           rotate_left
           ·go_simp
            rfl
           refine hK.out _ _ ⟨((cell_far (p := ⟨gb479, _, none⟩) NB467_479.out _).trans (((cell_far (p := ⟨gb479, _, none⟩) NB467_479.out _).trans (((cell_far (p := ⟨gb479, _, none⟩) NB467_479.out _).trans (((cell_far (p := ⟨gb479, _, none⟩) NB467_479.out _).trans (((cell_far (p := ⟨gb479, _, none⟩) NB467_479.out _).trans (hHeld.1)))))))))), ((cell_far (p := ⟨gb479, _, none⟩) NB467_479.out _).trans (((cell_far (p := ⟨gb479, _, none⟩) NB467_479.out _).trans (((cell_far (p := ⟨gb479, _, none⟩) NB467_479.out _).trans (((cell_far (p := ⟨gb479, _, none⟩) NB467_479.out _).trans (((cell_far (p := ⟨gb479, _, none⟩) NB467_479.out _).trans (hHeld.2.1)))))))))), ((cell_far (p := ⟨gb479, _, none⟩) NB467_479.out _).trans (((cell_far (p := ⟨gb479, _, none⟩) NB467_479.out _).trans (((cell_far (p := ⟨gb479, _, none⟩) NB467_479.out _).trans (((cell_far (p := ⟨gb479, _, none⟩) NB467_479.out _).trans (((cell_far (p := ⟨gb479, _, none⟩) NB467_479.out _).trans (hHeld.2.2.1)))))))))), ((cell_far (p := ⟨gb479, _, none⟩) NB467_479.out _).trans (((cell_far (p := ⟨gb479, _, none⟩) NB467_479.out _).trans (((cell_far (p := ⟨gb479, _, none⟩) NB467_479.out _).trans (((cell_far (p := ⟨gb479, _, none⟩) NB467_479.out _).trans (((cell_far (p := ⟨gb479, _, none⟩) NB467_479.out _).trans (hHeld.2.2.2.1)))))))))), ((cell_far (p := ⟨gb479, _, none⟩) NB467_479.out _).trans (((cell_far (p := ⟨gb479, _, none⟩) NB467_479.out _).trans (((cell_far (p := ⟨gb479, _, none⟩) NB467_479.out _).trans (((cell_far (p := ⟨gb479, _, none⟩) NB467_479.out _).trans (((cell_far (p := ⟨gb479, _, none⟩) NB467_479.out _).trans (hHeld.2.2.2.2))))))))))⟩ (fun hHeld => ?_)
           clear hK K
           refine pu 9 HT_ ?_
           refine done_ (done_of HT_.out (by kernel_rfl)) ?_
           have hnb88 := NB479_459.out
           have hnc88 := NB459_479.out
           have hnb89 := NB479_467.out
           have hnc89 := NB467_479.out
           obtain ⟨hcz90_0, hcz90_1, hcz90_2, hcz90_3, hcz90_4, hfz90_0, hfz90_1, hfz90_2, hfz90_3, hfz90_4⟩ := cel5 BK479
           have hnb91 := NB459_467.out
           have hnc91 := NB467_459.out
           obtain ⟨hcz92_0, hcz92_1, hcz92_2, hcz92_3, hcz92_4, hfz92_0, hfz92_1, hfz92_2, hfz92_3, hfz92_4⟩ := cel5 BK459
           try go_wp2
           refine bodyPost_ret (results_ct rfl _ _ gb459 27 #[.int .i64 t473, .int .i64 t474, .int .i64 t475, .int .i64 t476, .int .i64 t477] (0, 0) _ rfl (bp BK459) Try.underlying27 rfl (by kernel_rfl)) rfl ?_
           exact ⟨by first | rfl | (simp [errW_none, errW_some] <;> rfl) | (simp only [← hji38]; first | rfl | (simp [errW_none, errW_some] <;> rfl)) | (simp [*, errW_none, errW_some] <;> rfl), bl HB⟩
         ·rw [if_neg c37] at H
          exact absurd H (by simp)
/-! ### laws_eqZOmega: function 38 -/
def laws_eqZOmega.f (a0_0 : Int) (a0_1 : Int) (a0_2 : Int) (a0_3 : Int) (a1_0 : Int) (a1_1 : Int) (a1_2 : Int) (a1_3 : Int) : Option (Bool) := if a0_0 = a1_0 then (if a0_1 = a1_1 then (if a0_2 = a1_2 then (if a0_3 = a1_3 then (some true) else (some false)) else (some false)) else (some false)) else (some false)
set_option maxHeartbeats 8000000 in
set_option maxRecDepth 100000 in
theorem laws_eqZOmega.calls (a0_0 : Int) (a0_1 : Int) (a0_2 : Int) (a0_3 : Int) (a1_0 : Int) (a1_1 : Int) (a1_2 : Int) (a1_3 : Int) (r : Bool) (w : World) (h : laws_eqZOmega.f a0_0 a0_1 a0_2 a0_3 a1_0 a1_1 a1_2 a1_3 = some r) :
  Calls Try.prog 38 #[.agg #[.int .i64 a0_0, .int .i64 a0_1, .int .i64 a0_2, .int .i64 a0_3], .agg #[.int .i64 a1_0, .int .i64 a1_1, .int .i64 a1_2, .int .i64 a1_3]] w fun e w' => e = .returned (.bool r) ∧ Below w.heap.size w w' := by
 have hu25 := Try.underlying25
 have HB := Aside0.mk (Below.refl w.heap.size w)
 have H := h
 clear h
 unfold laws_eqZOmega.f at H
 by_cases c3 : a0_0 = a1_0
 ·rw [if_pos c3] at H
  have c3b0 : (a0_0 == a1_0) = true := beq_iff_eq.mpr c3
  have c3b1 : (a0_0 != a1_0) = false := bne_eq_false_iff_eq.mpr c3
  clear c3
  by_cases c4 : a0_1 = a1_1
  ·rw [if_pos c4] at H
   have c4b0 : (a0_1 == a1_1) = true := beq_iff_eq.mpr c4
   have c4b1 : (a0_1 != a1_1) = false := bne_eq_false_iff_eq.mpr c4
   clear c4
   by_cases c5 : a0_2 = a1_2
   ·rw [if_pos c5] at H
    have c5b0 : (a0_2 == a1_2) = true := beq_iff_eq.mpr c5
    have c5b1 : (a0_2 != a1_2) = false := bne_eq_false_iff_eq.mpr c5
    clear c5
    by_cases c6 : a0_3 = a1_3
    ·rw [if_pos c6] at H
     have c6b0 : (a0_3 == a1_3) = true := beq_iff_eq.mpr c6
     have c6b1 : (a0_3 != a1_3) = false := bne_eq_false_iff_eq.mpr c6
     clear c6
     obtain rfl := Option.some.inj H
     go_enter Try.func38, Try.ntmps38
     go_wp2_with (first | ((with_reducible refine gate_dst (N := 2) rfl ?_); refine bx (N := 2) (cs := #[.int .i64 a0_0, .int .i64 a0_1, .int .i64 a0_2, .int .i64 a0_3]) (t := 25) ?_; intro gb494 hg w7 hbox hb; have BK494 := Aside0.mk hbox; have GW494 := sz hg HB; have GE494 := GW494; replace HB := bs HB hb; clear hb hbox hg) | ((with_reducible refine gate_dst (N := 3) rfl ?_); refine bx (N := 3) (cs := #[.int .i64 a1_0, .int .i64 a1_1, .int .i64 a1_2, .int .i64 a1_3]) (t := 25) ?_; intro gb495 hg w8 hbox hb; have BK495 := Aside0.mk hbox; have GW495 := sz hg HB; have GE495 := GW495; have NB494_495 := nl hg BK494; have NB495_494 := ng hg BK494; replace BK494 := cb BK494 hb; replace HB := bs HB hb; clear hb hbox hg; have hnb9 := NB494_495.out; have hnc9 := NB495_494.out; obtain ⟨hcz10_0, hcz10_1, hcz10_2, hcz10_3, hfz10_0, hfz10_1, hfz10_2, hfz10_3⟩ := cel4 BK494; obtain ⟨hcz11_0, hcz11_1, hcz11_2, hcz11_3, hfz11_0, hfz11_1, hfz11_2, hfz11_3⟩ := cel4 BK495))
     go_ret
     exact ⟨er, bl HB⟩
    ·rw [if_neg c6] at H
     have c6b0 : (a0_3 == a1_3) = false := beq_eq_false_iff_ne.mpr c6
     have c6b1 : (a0_3 != a1_3) = true := bne_iff_ne.mpr c6
     obtain rfl := Option.some.inj H
     go_enter Try.func38, Try.ntmps38
     go_wp2_with (first | ((with_reducible refine gate_dst (N := 2) rfl ?_); refine bx (N := 2) (cs := #[.int .i64 a0_0, .int .i64 a0_1, .int .i64 a0_2, .int .i64 a0_3]) (t := 25) ?_; intro gb494 hg w12 hbox hb; have BK494 := Aside0.mk hbox; have GW494 := sz hg HB; have GE494 := GW494; replace HB := bs HB hb; clear hb hbox hg) | ((with_reducible refine gate_dst (N := 3) rfl ?_); refine bx (N := 3) (cs := #[.int .i64 a1_0, .int .i64 a1_1, .int .i64 a1_2, .int .i64 a1_3]) (t := 25) ?_; intro gb495 hg w13 hbox hb; have BK495 := Aside0.mk hbox; have GW495 := sz hg HB; have GE495 := GW495; have NB494_495 := nl hg BK494; have NB495_494 := ng hg BK494; replace BK494 := cb BK494 hb; replace HB := bs HB hb; clear hb hbox hg; have hnb14 := NB494_495.out; have hnc14 := NB495_494.out; obtain ⟨hcz15_0, hcz15_1, hcz15_2, hcz15_3, hfz15_0, hfz15_1, hfz15_2, hfz15_3⟩ := cel4 BK494; obtain ⟨hcz16_0, hcz16_1, hcz16_2, hcz16_3, hfz16_0, hfz16_1, hfz16_2, hfz16_3⟩ := cel4 BK495))
     go_ret
     exact ⟨er, bl HB⟩
   ·rw [if_neg c5] at H
    have c5b0 : (a0_2 == a1_2) = false := beq_eq_false_iff_ne.mpr c5
    have c5b1 : (a0_2 != a1_2) = true := bne_iff_ne.mpr c5
    obtain rfl := Option.some.inj H
    go_enter Try.func38, Try.ntmps38
    go_wp2_with (first | ((with_reducible refine gate_dst (N := 2) rfl ?_); refine bx (N := 2) (cs := #[.int .i64 a0_0, .int .i64 a0_1, .int .i64 a0_2, .int .i64 a0_3]) (t := 25) ?_; intro gb494 hg w17 hbox hb; have BK494 := Aside0.mk hbox; have GW494 := sz hg HB; have GE494 := GW494; replace HB := bs HB hb; clear hb hbox hg) | ((with_reducible refine gate_dst (N := 3) rfl ?_); refine bx (N := 3) (cs := #[.int .i64 a1_0, .int .i64 a1_1, .int .i64 a1_2, .int .i64 a1_3]) (t := 25) ?_; intro gb495 hg w18 hbox hb; have BK495 := Aside0.mk hbox; have GW495 := sz hg HB; have GE495 := GW495; have NB494_495 := nl hg BK494; have NB495_494 := ng hg BK494; replace BK494 := cb BK494 hb; replace HB := bs HB hb; clear hb hbox hg; have hnb19 := NB494_495.out; have hnc19 := NB495_494.out; obtain ⟨hcz20_0, hcz20_1, hcz20_2, hcz20_3, hfz20_0, hfz20_1, hfz20_2, hfz20_3⟩ := cel4 BK494; obtain ⟨hcz21_0, hcz21_1, hcz21_2, hcz21_3, hfz21_0, hfz21_1, hfz21_2, hfz21_3⟩ := cel4 BK495))
    go_ret
    exact ⟨er, bl HB⟩
  ·rw [if_neg c4] at H
   have c4b0 : (a0_1 == a1_1) = false := beq_eq_false_iff_ne.mpr c4
   have c4b1 : (a0_1 != a1_1) = true := bne_iff_ne.mpr c4
   obtain rfl := Option.some.inj H
   go_enter Try.func38, Try.ntmps38
   go_wp2_with (first | ((with_reducible refine gate_dst (N := 2) rfl ?_); refine bx (N := 2) (cs := #[.int .i64 a0_0, .int .i64 a0_1, .int .i64 a0_2, .int .i64 a0_3]) (t := 25) ?_; intro gb494 hg w22 hbox hb; have BK494 := Aside0.mk hbox; have GW494 := sz hg HB; have GE494 := GW494; replace HB := bs HB hb; clear hb hbox hg) | ((with_reducible refine gate_dst (N := 3) rfl ?_); refine bx (N := 3) (cs := #[.int .i64 a1_0, .int .i64 a1_1, .int .i64 a1_2, .int .i64 a1_3]) (t := 25) ?_; intro gb495 hg w23 hbox hb; have BK495 := Aside0.mk hbox; have GW495 := sz hg HB; have GE495 := GW495; have NB494_495 := nl hg BK494; have NB495_494 := ng hg BK494; replace BK494 := cb BK494 hb; replace HB := bs HB hb; clear hb hbox hg; have hnb24 := NB494_495.out; have hnc24 := NB495_494.out; obtain ⟨hcz25_0, hcz25_1, hcz25_2, hcz25_3, hfz25_0, hfz25_1, hfz25_2, hfz25_3⟩ := cel4 BK494; obtain ⟨hcz26_0, hcz26_1, hcz26_2, hcz26_3, hfz26_0, hfz26_1, hfz26_2, hfz26_3⟩ := cel4 BK495))
   go_ret
   exact ⟨er, bl HB⟩
 ·rw [if_neg c3] at H
  have c3b0 : (a0_0 == a1_0) = false := beq_eq_false_iff_ne.mpr c3
  have c3b1 : (a0_0 != a1_0) = true := bne_iff_ne.mpr c3
  obtain rfl := Option.some.inj H
  go_enter Try.func38, Try.ntmps38
  go_wp2_with (first | ((with_reducible refine gate_dst (N := 2) rfl ?_); refine bx (N := 2) (cs := #[.int .i64 a0_0, .int .i64 a0_1, .int .i64 a0_2, .int .i64 a0_3]) (t := 25) ?_; intro gb494 hg w27 hbox hb; have BK494 := Aside0.mk hbox; have GW494 := sz hg HB; have GE494 := GW494; replace HB := bs HB hb; clear hb hbox hg) | ((with_reducible refine gate_dst (N := 3) rfl ?_); refine bx (N := 3) (cs := #[.int .i64 a1_0, .int .i64 a1_1, .int .i64 a1_2, .int .i64 a1_3]) (t := 25) ?_; intro gb495 hg w28 hbox hb; have BK495 := Aside0.mk hbox; have GW495 := sz hg HB; have GE495 := GW495; have NB494_495 := nl hg BK494; have NB495_494 := ng hg BK494; replace BK494 := cb BK494 hb; replace HB := bs HB hb; clear hb hbox hg; have hnb29 := NB494_495.out; have hnc29 := NB495_494.out; obtain ⟨hcz30_0, hcz30_1, hcz30_2, hcz30_3, hfz30_0, hfz30_1, hfz30_2, hfz30_3⟩ := cel4 BK494; obtain ⟨hcz31_0, hcz31_1, hcz31_2, hcz31_3, hfz31_0, hfz31_1, hfz31_2, hfz31_3⟩ := cel4 BK495))
  go_ret
  exact ⟨er, bl HB⟩
/-! ### laws_eqDOmega: function 10 -/
def laws_eqDOmega.f (a0_0 : Int) (a0_1 : Int) (a0_2 : Int) (a0_3 : Int) (a0_4 : Int) (a1_0 : Int) (a1_1 : Int) (a1_2 : Int) (a1_3 : Int) (a1_4 : Int) : Option (Bool) := (laws_eqZOmega.f a0_0 a0_1 a0_2 a0_3 a1_0 a1_1 a1_2 a1_3).bind fun t498 => (if t498 = true then (if a0_4 = a1_4 then (some true) else (some false)) else (some false))
set_option maxHeartbeats 8000000 in
set_option maxRecDepth 100000 in
theorem laws_eqDOmega.calls (a0_0 : Int) (a0_1 : Int) (a0_2 : Int) (a0_3 : Int) (a0_4 : Int) (a1_0 : Int) (a1_1 : Int) (a1_2 : Int) (a1_3 : Int) (a1_4 : Int) (r : Bool) (w : World) (h : laws_eqDOmega.f a0_0 a0_1 a0_2 a0_3 a0_4 a1_0 a1_1 a1_2 a1_3 a1_4 = some r) :
  Calls Try.prog 10 #[.agg #[.int .i64 a0_0, .int .i64 a0_1, .int .i64 a0_2, .int .i64 a0_3, .int .i64 a0_4], .agg #[.int .i64 a1_0, .int .i64 a1_1, .int .i64 a1_2, .int .i64 a1_3, .int .i64 a1_4]] w fun e w' => e = .returned (.bool r) ∧ Below w.heap.size w w' := by
 have hu27 := Try.underlying27
 have hu25 := Try.underlying25
 have HB := Aside0.mk (Below.refl w.heap.size w)
 have H := h
 clear h
 unfold laws_eqDOmega.f at H
 replace H := Option.bind_eq_some_iff.mp H
 obtain ⟨t498, A30, H⟩ := H
 try dsimp only at H
 have A3 := Aside0.mk A30
 clear A30
 by_cases c4 : t498 = true
 ·subst c4
  rw [if_pos rfl] at H
  by_cases c5 : a0_4 = a1_4
  ·rw [if_pos c5] at H
   have c5b0 : (a0_4 == a1_4) = true := beq_iff_eq.mpr c5
   have c5b1 : (a0_4 != a1_4) = false := bne_eq_false_iff_eq.mpr c5
   clear c5
   obtain rfl := Option.some.inj H
   go_enter Try.func10, Try.ntmps10
   go_wp2_with (first | ((with_reducible refine gate_dst (N := 2) rfl ?_); refine bx (N := 2) (cs := #[.int .i64 a0_0, .int .i64 a0_1, .int .i64 a0_2, .int .i64 a0_3, .int .i64 a0_4]) (t := 27) ?_; intro gb496 hg w6 hbox hb; have BK496 := Aside0.mk hbox; have GW496 := sz hg HB; have GE496 := GW496; replace HB := bs HB hb; clear hb hbox hg) | ((with_reducible refine gate_dst (N := 3) rfl ?_); refine bx (N := 3) (cs := #[.int .i64 a1_0, .int .i64 a1_1, .int .i64 a1_2, .int .i64 a1_3, .int .i64 a1_4]) (t := 27) ?_; intro gb497 hg w7 hbox hb; have BK497 := Aside0.mk hbox; have GW497 := sz hg HB; have GE497 := GW497; have NB496_497 := nl hg BK496; have NB497_496 := ng hg BK496; replace BK496 := cb BK496 hb; replace HB := bs HB hb; clear hb hbox hg; have hnb8 := NB496_497.out; have hnc8 := NB497_496.out; obtain ⟨hcz9_0, hcz9_1, hcz9_2, hcz9_3, hcz9_4, hfz9_0, hfz9_1, hfz9_2, hfz9_3, hfz9_4⟩ := cel5 BK496; obtain ⟨hcz10_0, hcz10_1, hcz10_2, hcz10_3, hcz10_4, hfz10_0, hfz10_1, hfz10_2, hfz10_3, hfz10_4⟩ := cel5 BK497) | ((with_reducible refine gate_callee (f := 38) rfl ?_); refine gL (some 9) Try.func38 #[.agg #[.int .i64 a0_0, .int .i64 a0_1, .int .i64 a0_2, .int .i64 a0_3], .agg #[.int .i64 a1_0, .int .i64 a1_1, .int .i64 a1_2, .int .i64 a1_3]] ?_; (with_reducible refine (laws_eqZOmega.calls a0_0 a0_1 a0_2 a0_3 a1_0 a1_1 a1_2 a1_3 true _ A3.out).mono ?_); rintro e w11 ⟨rfl, hb⟩; refine ⟨_, rfl, ?_⟩; replace BK496 := cb BK496 hb; replace BK497 := cb BK497 hb; replace HB := bs HB hb; (try clear hb); (try clear hb2); (try clear hk); (try clear hi); obtain ⟨hcz12_0, hcz12_1, hcz12_2, hcz12_3, hcz12_4, hfz12_0, hfz12_1, hfz12_2, hfz12_3, hfz12_4⟩ := cel5 BK496; obtain ⟨hcz13_0, hcz13_1, hcz13_2, hcz13_3, hcz13_4, hfz13_0, hfz13_1, hfz13_2, hfz13_3, hfz13_4⟩ := cel5 BK497))
   go_ret
   exact ⟨er, bl HB⟩
  ·rw [if_neg c5] at H
   have c5b0 : (a0_4 == a1_4) = false := beq_eq_false_iff_ne.mpr c5
   have c5b1 : (a0_4 != a1_4) = true := bne_iff_ne.mpr c5
   obtain rfl := Option.some.inj H
   go_enter Try.func10, Try.ntmps10
   go_wp2_with (first | ((with_reducible refine gate_dst (N := 2) rfl ?_); refine bx (N := 2) (cs := #[.int .i64 a0_0, .int .i64 a0_1, .int .i64 a0_2, .int .i64 a0_3, .int .i64 a0_4]) (t := 27) ?_; intro gb496 hg w14 hbox hb; have BK496 := Aside0.mk hbox; have GW496 := sz hg HB; have GE496 := GW496; replace HB := bs HB hb; clear hb hbox hg) | ((with_reducible refine gate_dst (N := 3) rfl ?_); refine bx (N := 3) (cs := #[.int .i64 a1_0, .int .i64 a1_1, .int .i64 a1_2, .int .i64 a1_3, .int .i64 a1_4]) (t := 27) ?_; intro gb497 hg w15 hbox hb; have BK497 := Aside0.mk hbox; have GW497 := sz hg HB; have GE497 := GW497; have NB496_497 := nl hg BK496; have NB497_496 := ng hg BK496; replace BK496 := cb BK496 hb; replace HB := bs HB hb; clear hb hbox hg; have hnb16 := NB496_497.out; have hnc16 := NB497_496.out; obtain ⟨hcz17_0, hcz17_1, hcz17_2, hcz17_3, hcz17_4, hfz17_0, hfz17_1, hfz17_2, hfz17_3, hfz17_4⟩ := cel5 BK496; obtain ⟨hcz18_0, hcz18_1, hcz18_2, hcz18_3, hcz18_4, hfz18_0, hfz18_1, hfz18_2, hfz18_3, hfz18_4⟩ := cel5 BK497) | ((with_reducible refine gate_callee (f := 38) rfl ?_); refine gL (some 9) Try.func38 #[.agg #[.int .i64 a0_0, .int .i64 a0_1, .int .i64 a0_2, .int .i64 a0_3], .agg #[.int .i64 a1_0, .int .i64 a1_1, .int .i64 a1_2, .int .i64 a1_3]] ?_; (with_reducible refine (laws_eqZOmega.calls a0_0 a0_1 a0_2 a0_3 a1_0 a1_1 a1_2 a1_3 true _ A3.out).mono ?_); rintro e w19 ⟨rfl, hb⟩; refine ⟨_, rfl, ?_⟩; replace BK496 := cb BK496 hb; replace BK497 := cb BK497 hb; replace HB := bs HB hb; (try clear hb); (try clear hb2); (try clear hk); (try clear hi); obtain ⟨hcz20_0, hcz20_1, hcz20_2, hcz20_3, hcz20_4, hfz20_0, hfz20_1, hfz20_2, hfz20_3, hfz20_4⟩ := cel5 BK496; obtain ⟨hcz21_0, hcz21_1, hcz21_2, hcz21_3, hcz21_4, hfz21_0, hfz21_1, hfz21_2, hfz21_3, hfz21_4⟩ := cel5 BK497))
   go_ret
   exact ⟨er, bl HB⟩
 ·replace c4 := Bool.eq_false_iff.mpr c4
  subst c4
  rw [nf] at H
  obtain rfl := Option.some.inj H
  go_enter Try.func10, Try.ntmps10
  go_wp2_with (first | ((with_reducible refine gate_dst (N := 2) rfl ?_); refine bx (N := 2) (cs := #[.int .i64 a0_0, .int .i64 a0_1, .int .i64 a0_2, .int .i64 a0_3, .int .i64 a0_4]) (t := 27) ?_; intro gb496 hg w22 hbox hb; have BK496 := Aside0.mk hbox; have GW496 := sz hg HB; have GE496 := GW496; replace HB := bs HB hb; clear hb hbox hg) | ((with_reducible refine gate_dst (N := 3) rfl ?_); refine bx (N := 3) (cs := #[.int .i64 a1_0, .int .i64 a1_1, .int .i64 a1_2, .int .i64 a1_3, .int .i64 a1_4]) (t := 27) ?_; intro gb497 hg w23 hbox hb; have BK497 := Aside0.mk hbox; have GW497 := sz hg HB; have GE497 := GW497; have NB496_497 := nl hg BK496; have NB497_496 := ng hg BK496; replace BK496 := cb BK496 hb; replace HB := bs HB hb; clear hb hbox hg; have hnb24 := NB496_497.out; have hnc24 := NB497_496.out; obtain ⟨hcz25_0, hcz25_1, hcz25_2, hcz25_3, hcz25_4, hfz25_0, hfz25_1, hfz25_2, hfz25_3, hfz25_4⟩ := cel5 BK496; obtain ⟨hcz26_0, hcz26_1, hcz26_2, hcz26_3, hcz26_4, hfz26_0, hfz26_1, hfz26_2, hfz26_3, hfz26_4⟩ := cel5 BK497) | ((with_reducible refine gate_callee (f := 38) rfl ?_); refine gL (some 9) Try.func38 #[.agg #[.int .i64 a0_0, .int .i64 a0_1, .int .i64 a0_2, .int .i64 a0_3], .agg #[.int .i64 a1_0, .int .i64 a1_1, .int .i64 a1_2, .int .i64 a1_3]] ?_; (with_reducible refine (laws_eqZOmega.calls a0_0 a0_1 a0_2 a0_3 a1_0 a1_1 a1_2 a1_3 false _ A3.out).mono ?_); rintro e w27 ⟨rfl, hb⟩; refine ⟨_, rfl, ?_⟩; replace BK496 := cb BK496 hb; replace BK497 := cb BK497 hb; replace HB := bs HB hb; (try clear hb); (try clear hb2); (try clear hk); (try clear hi)))
  go_ret
  exact ⟨er, bl HB⟩
/-! ### laws_eqGate: function 39 -/
def laws_eqGate.f (a0_0 : Int) (a0_1 : Int) (a0_2 : Int) (a0_3 : Int) (a1_0 : Int) (a1_1 : Int) (a1_2 : Int) (a1_3 : Int) : Option (Bool) := if a0_0 = a1_0 then (if a0_1 = a1_1 then (if a0_2 = a1_2 then (if a0_3 = a1_3 then (some true) else (some false)) else (some false)) else (some false)) else (some false)
set_option maxHeartbeats 8000000 in
set_option maxRecDepth 100000 in
theorem laws_eqGate.calls (a0_0 : Int) (a0_1 : Int) (a0_2 : Int) (a0_3 : Int) (a1_0 : Int) (a1_1 : Int) (a1_2 : Int) (a1_3 : Int) (r : Bool) (w : World) (h : laws_eqGate.f a0_0 a0_1 a0_2 a0_3 a1_0 a1_1 a1_2 a1_3 = some r) :
  Calls Try.prog 39 #[.agg #[.int .i64 a0_0, .int .i64 a0_1, .int .i64 a0_2, .int .i64 a0_3], .agg #[.int .i64 a1_0, .int .i64 a1_1, .int .i64 a1_2, .int .i64 a1_3]] w fun e w' => e = .returned (.bool r) ∧ Below w.heap.size w w' := by
 have hu62 := Try.underlying62
 have HB := Aside0.mk (Below.refl w.heap.size w)
 have H := h
 clear h
 unfold laws_eqGate.f at H
 by_cases c3 : a0_0 = a1_0
 ·rw [if_pos c3] at H
  have c3b0 : (a0_0 == a1_0) = true := beq_iff_eq.mpr c3
  have c3b1 : (a0_0 != a1_0) = false := bne_eq_false_iff_eq.mpr c3
  clear c3
  by_cases c4 : a0_1 = a1_1
  ·rw [if_pos c4] at H
   have c4b0 : (a0_1 == a1_1) = true := beq_iff_eq.mpr c4
   have c4b1 : (a0_1 != a1_1) = false := bne_eq_false_iff_eq.mpr c4
   clear c4
   by_cases c5 : a0_2 = a1_2
   ·rw [if_pos c5] at H
    have c5b0 : (a0_2 == a1_2) = true := beq_iff_eq.mpr c5
    have c5b1 : (a0_2 != a1_2) = false := bne_eq_false_iff_eq.mpr c5
    clear c5
    by_cases c6 : a0_3 = a1_3
    ·rw [if_pos c6] at H
     have c6b0 : (a0_3 == a1_3) = true := beq_iff_eq.mpr c6
     have c6b1 : (a0_3 != a1_3) = false := bne_eq_false_iff_eq.mpr c6
     clear c6
     obtain rfl := Option.some.inj H
     go_enter Try.func39, Try.ntmps39
     go_wp2_with (first | ((with_reducible refine gate_dst (N := 2) rfl ?_); refine bx (N := 2) (cs := #[.int .i64 a0_0, .int .i64 a0_1, .int .i64 a0_2, .int .i64 a0_3]) (t := 62) ?_; intro gb499 hg w7 hbox hb; have BK499 := Aside0.mk hbox; have GW499 := sz hg HB; have GE499 := GW499; replace HB := bs HB hb; clear hb hbox hg) | ((with_reducible refine gate_dst (N := 3) rfl ?_); refine bx (N := 3) (cs := #[.int .i64 a1_0, .int .i64 a1_1, .int .i64 a1_2, .int .i64 a1_3]) (t := 62) ?_; intro gb500 hg w8 hbox hb; have BK500 := Aside0.mk hbox; have GW500 := sz hg HB; have GE500 := GW500; have NB499_500 := nl hg BK499; have NB500_499 := ng hg BK499; replace BK499 := cb BK499 hb; replace HB := bs HB hb; clear hb hbox hg; have hnb9 := NB499_500.out; have hnc9 := NB500_499.out; obtain ⟨hcz10_0, hcz10_1, hcz10_2, hcz10_3, hfz10_0, hfz10_1, hfz10_2, hfz10_3⟩ := cel4 BK499; obtain ⟨hcz11_0, hcz11_1, hcz11_2, hcz11_3, hfz11_0, hfz11_1, hfz11_2, hfz11_3⟩ := cel4 BK500))
     go_ret
     exact ⟨er, bl HB⟩
    ·rw [if_neg c6] at H
     have c6b0 : (a0_3 == a1_3) = false := beq_eq_false_iff_ne.mpr c6
     have c6b1 : (a0_3 != a1_3) = true := bne_iff_ne.mpr c6
     obtain rfl := Option.some.inj H
     go_enter Try.func39, Try.ntmps39
     go_wp2_with (first | ((with_reducible refine gate_dst (N := 2) rfl ?_); refine bx (N := 2) (cs := #[.int .i64 a0_0, .int .i64 a0_1, .int .i64 a0_2, .int .i64 a0_3]) (t := 62) ?_; intro gb499 hg w12 hbox hb; have BK499 := Aside0.mk hbox; have GW499 := sz hg HB; have GE499 := GW499; replace HB := bs HB hb; clear hb hbox hg) | ((with_reducible refine gate_dst (N := 3) rfl ?_); refine bx (N := 3) (cs := #[.int .i64 a1_0, .int .i64 a1_1, .int .i64 a1_2, .int .i64 a1_3]) (t := 62) ?_; intro gb500 hg w13 hbox hb; have BK500 := Aside0.mk hbox; have GW500 := sz hg HB; have GE500 := GW500; have NB499_500 := nl hg BK499; have NB500_499 := ng hg BK499; replace BK499 := cb BK499 hb; replace HB := bs HB hb; clear hb hbox hg; have hnb14 := NB499_500.out; have hnc14 := NB500_499.out; obtain ⟨hcz15_0, hcz15_1, hcz15_2, hcz15_3, hfz15_0, hfz15_1, hfz15_2, hfz15_3⟩ := cel4 BK499; obtain ⟨hcz16_0, hcz16_1, hcz16_2, hcz16_3, hfz16_0, hfz16_1, hfz16_2, hfz16_3⟩ := cel4 BK500))
     go_ret
     exact ⟨er, bl HB⟩
   ·rw [if_neg c5] at H
    have c5b0 : (a0_2 == a1_2) = false := beq_eq_false_iff_ne.mpr c5
    have c5b1 : (a0_2 != a1_2) = true := bne_iff_ne.mpr c5
    obtain rfl := Option.some.inj H
    go_enter Try.func39, Try.ntmps39
    go_wp2_with (first | ((with_reducible refine gate_dst (N := 2) rfl ?_); refine bx (N := 2) (cs := #[.int .i64 a0_0, .int .i64 a0_1, .int .i64 a0_2, .int .i64 a0_3]) (t := 62) ?_; intro gb499 hg w17 hbox hb; have BK499 := Aside0.mk hbox; have GW499 := sz hg HB; have GE499 := GW499; replace HB := bs HB hb; clear hb hbox hg) | ((with_reducible refine gate_dst (N := 3) rfl ?_); refine bx (N := 3) (cs := #[.int .i64 a1_0, .int .i64 a1_1, .int .i64 a1_2, .int .i64 a1_3]) (t := 62) ?_; intro gb500 hg w18 hbox hb; have BK500 := Aside0.mk hbox; have GW500 := sz hg HB; have GE500 := GW500; have NB499_500 := nl hg BK499; have NB500_499 := ng hg BK499; replace BK499 := cb BK499 hb; replace HB := bs HB hb; clear hb hbox hg; have hnb19 := NB499_500.out; have hnc19 := NB500_499.out; obtain ⟨hcz20_0, hcz20_1, hcz20_2, hcz20_3, hfz20_0, hfz20_1, hfz20_2, hfz20_3⟩ := cel4 BK499; obtain ⟨hcz21_0, hcz21_1, hcz21_2, hcz21_3, hfz21_0, hfz21_1, hfz21_2, hfz21_3⟩ := cel4 BK500))
    go_ret
    exact ⟨er, bl HB⟩
  ·rw [if_neg c4] at H
   have c4b0 : (a0_1 == a1_1) = false := beq_eq_false_iff_ne.mpr c4
   have c4b1 : (a0_1 != a1_1) = true := bne_iff_ne.mpr c4
   obtain rfl := Option.some.inj H
   go_enter Try.func39, Try.ntmps39
   go_wp2_with (first | ((with_reducible refine gate_dst (N := 2) rfl ?_); refine bx (N := 2) (cs := #[.int .i64 a0_0, .int .i64 a0_1, .int .i64 a0_2, .int .i64 a0_3]) (t := 62) ?_; intro gb499 hg w22 hbox hb; have BK499 := Aside0.mk hbox; have GW499 := sz hg HB; have GE499 := GW499; replace HB := bs HB hb; clear hb hbox hg) | ((with_reducible refine gate_dst (N := 3) rfl ?_); refine bx (N := 3) (cs := #[.int .i64 a1_0, .int .i64 a1_1, .int .i64 a1_2, .int .i64 a1_3]) (t := 62) ?_; intro gb500 hg w23 hbox hb; have BK500 := Aside0.mk hbox; have GW500 := sz hg HB; have GE500 := GW500; have NB499_500 := nl hg BK499; have NB500_499 := ng hg BK499; replace BK499 := cb BK499 hb; replace HB := bs HB hb; clear hb hbox hg; have hnb24 := NB499_500.out; have hnc24 := NB500_499.out; obtain ⟨hcz25_0, hcz25_1, hcz25_2, hcz25_3, hfz25_0, hfz25_1, hfz25_2, hfz25_3⟩ := cel4 BK499; obtain ⟨hcz26_0, hcz26_1, hcz26_2, hcz26_3, hfz26_0, hfz26_1, hfz26_2, hfz26_3⟩ := cel4 BK500))
   go_ret
   exact ⟨er, bl HB⟩
 ·rw [if_neg c3] at H
  have c3b0 : (a0_0 == a1_0) = false := beq_eq_false_iff_ne.mpr c3
  have c3b1 : (a0_0 != a1_0) = true := bne_iff_ne.mpr c3
  obtain rfl := Option.some.inj H
  go_enter Try.func39, Try.ntmps39
  go_wp2_with (first | ((with_reducible refine gate_dst (N := 2) rfl ?_); refine bx (N := 2) (cs := #[.int .i64 a0_0, .int .i64 a0_1, .int .i64 a0_2, .int .i64 a0_3]) (t := 62) ?_; intro gb499 hg w27 hbox hb; have BK499 := Aside0.mk hbox; have GW499 := sz hg HB; have GE499 := GW499; replace HB := bs HB hb; clear hb hbox hg) | ((with_reducible refine gate_dst (N := 3) rfl ?_); refine bx (N := 3) (cs := #[.int .i64 a1_0, .int .i64 a1_1, .int .i64 a1_2, .int .i64 a1_3]) (t := 62) ?_; intro gb500 hg w28 hbox hb; have BK500 := Aside0.mk hbox; have GW500 := sz hg HB; have GE500 := GW500; have NB499_500 := nl hg BK499; have NB500_499 := ng hg BK499; replace BK499 := cb BK499 hb; replace HB := bs HB hb; clear hb hbox hg; have hnb29 := NB499_500.out; have hnc29 := NB500_499.out; obtain ⟨hcz30_0, hcz30_1, hcz30_2, hcz30_3, hfz30_0, hfz30_1, hfz30_2, hfz30_3⟩ := cel4 BK499; obtain ⟨hcz31_0, hcz31_1, hcz31_2, hcz31_3, hfz31_0, hfz31_1, hfz31_2, hfz31_3⟩ := cel4 BK500))
  go_ret
  exact ⟨er, bl HB⟩
/-! ### laws_eqGateS: function 11 -/
def laws_eqGateS.l0 : Nat → List (S62) → List (S62) → Int → Option (Bool)
 | 0, _, _, _ => none
 | k + 1, x0, x1, x5 => if x5 < (x0.length : Int) then (if 0 ≤ x5 then (if x5 < (x1.length : Int) then ((laws_eqGate.f ((rd_T62 x0 x5).f0) ((rd_T62 x0 x5).f1) ((rd_T62 x0 x5).f2) ((rd_T62 x0 x5).f3) ((rd_T62 x1 x5).f0) ((rd_T62 x1 x5).f1) ((rd_T62 x1 x5).f2) ((rd_T62 x1 x5).f3)).bind fun t503 => (if t503 = true then (laws_eqGateS.l0 k x0 x1 (wrap64 (x5 + 1))) else (some false))) else (none)) else (none)) else (some true)
def laws_eqGateS.f (k : Nat) (l0 : List (S62)) (l1 : List (S62)) : Option (Bool) := if (l0.length : Int) = (l1.length : Int) then (laws_eqGateS.l0 k l0 l1 0) else (some false)
def laws_eqGateS.T6 : Bool × List (List Nat × List Nat) := (true, [([], []), ([], []), ([0, 1], [0, 1]), ([2], [2]), ([], []), ([], []), ([4, 5], [4, 5]), ([6], [6]), ([3, 7], [3, 7]), ([8], [8])])
def laws_eqGateS.B6 : List Nat := [0, 0, 3, 7, 0, 0, 48, 112, 255, 511]
theorem laws_eqGateS.tab6 : rtab .any (opsOf Try.f11 6) = laws_eqGateS.T6 := by kernel_rfl
theorem laws_eqGateS.bits6 : waitsOk laws_eqGateS.T6.2 laws_eqGateS.B6 = true := by kernel_rfl
set_option maxHeartbeats 8000000 in
set_option maxRecDepth 100000 in
theorem laws_eqGateS.calls (k : Nat) (A0 : Option Addr) (c0 : Nat) (l0 : List (S62)) (A1 : Option Addr) (c1 : Nat) (l1 : List (S62)) (r : Bool) (w : World) (hr0 : Kd.C k62 w A0 l0.length l0) (hc0 : l0.length ≤ c0) (hr1 : Kd.C k62 w A1 l1.length l1) (hc1 : l1.length ≤ c1) (h : laws_eqGateS.f k l0 l1 = some r) :
  Calls Try.prog 11 #[.slice A0 l0.length c0, .slice A1 l1.length c1] w fun e w' => e = .returned (.bool r) ∧ Below w.heap.size w w' := by
 have hu62 := Try.underlying62
 have HR0 := Aside0.mk hr0
 have HC0 := Aside0.mk hc0
 clear hr0 hc0
 have HR1 := Aside0.mk hr1
 have HC1 := Aside0.mk hc1
 clear hr1 hc1
 have HB := Aside0.mk (Below.refl w.heap.size w)
 have H := h
 clear h
 unfold laws_eqGateS.f at H
 by_cases c3 : (l0.length : Int) = (l1.length : Int)
 ·rw [if_pos c3] at H
  have c3b0 : ((l0.length : Int) == (l1.length : Int)) = true := beq_iff_eq.mpr c3
  have c3b1 : ((l0.length : Int) != (l1.length : Int)) = false := bne_eq_false_iff_eq.mpr c3
  have c3b2 : (l0.length == l1.length) = true := by first | simpa using c3 | (simp at c3 ⊢; omega)
  clear c3
  have H' := Aside0.mk H
  clear H
  go_enter Try.func11, Try.ntmps11
  go_wp2
  go_loopg [5] k (fun kq v5 w' => ∃ (x5_1 : Int), v5 = .int .i64 x5_1 ∧ Aside0 (laws_eqGateS.l0 kq l0 l1 x5_1 = some r) ∧ Aside0 (kq ≤ k) ∧ Aside0 (Below w.heap.size w w'))
  case atStart => exact ⟨(0), rs, H', ⟨Nat.le_refl _⟩, ⟨bl HB⟩⟩
  case round =>
   clear H'
   try clear c1
   try clear p2
   try clear c3
   try clear c3b0
   try clear c3b1
   try clear c3b2
   obtain ⟨x5_1, rfl, HA, HK1, HB⟩ := hrel
   cases gk with
   | zero => exact absurd HA.out (by simp [laws_eqGateS.l0])
   | succ k1 =>
    have H := HA.out
    clear HA
    simp only [laws_eqGateS.l0] at H
    by_cases c4 : x5_1 < (l0.length : Int)
    ·rw [if_pos c4] at H
     have c4b0 : decide (x5_1 < (l0.length : Int)) = true := decide_eq_true c4
     clear c4
     by_cases c5 : 0 ≤ x5_1
     ·rw [if_pos c5] at H
      have c5b0 : decide (0 ≤ x5_1) = true := decide_eq_true c5
      clear c5
      by_cases c6 : x5_1 < (l1.length : Int)
      ·rw [if_pos c6] at H
       have c6b0 : decide (x5_1 < (l1.length : Int)) = true := decide_eq_true c6
       clear c6
       replace H := Option.bind_eq_some_iff.mp H
       obtain ⟨t503, A70, H⟩ := H
       try dsimp only at H
       have A7 := Aside0.mk A70
       clear A70
       by_cases c8 : t503 = true
       ·subst c8
        rw [if_pos rfl] at H
        have H' := Aside0.mk H
        clear H
        try go_wp2
        have n0_ := Aside0.mk (below_drew1 HB.out)
        clear HB
        have HB := n0_
        clear n0_
        have p501 : 0 ≤ (x5_1 : Int) := of_decide_eq_true da
        have q501 : x5_1 < (l0.length : Int) := of_decide_eq_true da
        obtain ⟨ad501, e501, hx501_0, hx501_1, hx501_2, hx501_3⟩ := at_T62 HR0.out x5_1 p501 q501
        have hw501_3 := hx501_3
        have hw501_2 := hx501_2
        have hw501_1 := hx501_1
        have hw501_0 := hx501_0
        cases e501
        replace hx501_0 := (HB.out.cell (World.block_lt_of_cell? w _ hx501_0)).trans hx501_0
        replace hx501_1 := (HB.out.cell (World.block_lt_of_cell? w _ hx501_1)).trans hx501_1
        replace hx501_2 := (HB.out.cell (World.block_lt_of_cell? w _ hx501_2)).trans hx501_2
        replace hx501_3 := (HB.out.cell (World.block_lt_of_cell? w _ hx501_3)).trans hx501_3
        replace p501 := eq_true p501
        replace q501 := eq_true q501
        have p502 : 0 ≤ (x5_1 : Int) := of_decide_eq_true da
        have q502 : x5_1 < (l1.length : Int) := of_decide_eq_true da
        obtain ⟨ad502, e502, hx502_0, hx502_1, hx502_2, hx502_3⟩ := at_T62 HR1.out x5_1 p502 q502
        have hw502_3 := hx502_3
        have hw502_2 := hx502_2
        have hw502_1 := hx502_1
        have hw502_0 := hx502_0
        cases e502
        replace hx502_0 := (HB.out.cell (World.block_lt_of_cell? w _ hx502_0)).trans hx502_0
        replace hx502_1 := (HB.out.cell (World.block_lt_of_cell? w _ hx502_1)).trans hx502_1
        replace hx502_2 := (HB.out.cell (World.block_lt_of_cell? w _ hx502_2)).trans hx502_2
        replace hx502_3 := (HB.out.cell (World.block_lt_of_cell? w _ hx502_3)).trans hx502_3
        replace p502 := eq_true p502
        replace q502 := eq_true q502
        refine start_ (n := 10) (S := fun w' => w'.cell? (ad501.add ((x5_1).toNat * 4)) = some (.int .i64 ((rd_T62 l0 x5_1).f0)) ∧ w'.cell? ⟨(ad501.add ((x5_1).toNat * 4)).block, (ad501.add ((x5_1).toNat * 4)).off + 1, none⟩ = some (.int .i64 ((rd_T62 l0 x5_1).f1)) ∧ w'.cell? ⟨(ad501.add ((x5_1).toNat * 4)).block, (ad501.add ((x5_1).toNat * 4)).off + 2, none⟩ = some (.int .i64 ((rd_T62 l0 x5_1).f2)) ∧ w'.cell? ⟨(ad501.add ((x5_1).toNat * 4)).block, (ad501.add ((x5_1).toNat * 4)).off + 3, none⟩ = some (.int .i64 ((rd_T62 l0 x5_1).f3)) ∧ w'.cell? (ad502.add ((x5_1).toNat * 4)) = some (.int .i64 ((rd_T62 l1 x5_1).f0)) ∧ w'.cell? ⟨(ad502.add ((x5_1).toNat * 4)).block, (ad502.add ((x5_1).toNat * 4)).off + 1, none⟩ = some (.int .i64 ((rd_T62 l1 x5_1).f1)) ∧ w'.cell? ⟨(ad502.add ((x5_1).toNat * 4)).block, (ad502.add ((x5_1).toNat * 4)).off + 2, none⟩ = some (.int .i64 ((rd_T62 l1 x5_1).f2)) ∧ w'.cell? ⟨(ad502.add ((x5_1).toNat * 4)).block, (ad502.add ((x5_1).toNat * 4)).off + 3, none⟩ = some (.int .i64 ((rd_T62 l1 x5_1).f3))) (ds := []) #[false, false, false, false, false, false, false, false, false, false] (by kernel_rfl) rfl rfl ⟨((HB.out.cell (World.block_lt_of_cell? w _ hw501_0)).trans hw501_0), ((HB.out.cell (World.block_lt_of_cell? w _ hw501_1)).trans hw501_1), ((HB.out.cell (World.block_lt_of_cell? w _ hw501_2)).trans hw501_2), ((HB.out.cell (World.block_lt_of_cell? w _ hw501_3)).trans hw501_3), ((HB.out.cell (World.block_lt_of_cell? w _ hw502_0)).trans hw502_0), ((HB.out.cell (World.block_lt_of_cell? w _ hw502_1)).trans hw502_1), ((HB.out.cell (World.block_lt_of_cell? w _ hw502_2)).trans hw502_2), ((HB.out.cell (World.block_lt_of_cell? w _ hw502_3)).trans hw502_3)⟩ (fun hHeld => ?_); refine with_tabW laws_eqGateS.tab6 laws_eqGateS.bits6 (fun HT_ HW_ => ?_)
        generalize wr.drew = w9 at HB hx501_0 hx501_1 hx501_2 hx501_3 hx502_0 hx502_1 hx502_2 hx502_3 hHeld ⊢
        refine pu 0 HT_ ?_
        refine pu 1 HT_ ?_
        refine pu 2 HT_ ?_
        refine pu 4 HT_ ?_
        refine pu 5 HT_ ?_
        refine pu 6 HT_ ?_
        refine take_ (i := 3) (N := some 20) (v := ?_) (a' := ?_) #[true, true, true, true, true, true, true, false, false, false] rfl rfl (take_ofW HT_.out HW_.out (by kernel_rfl)) (fun _ _ _ h => h) (Or.inl ⟨by rfl, ?_⟩) hHeld ?_ ?_
        rotate_left
        ·rintro w' ⟨s0, s1, s2, s3, s4, s5, s6, s7⟩
         go_simp
         with_reducible rfl
        rotate_left
        ·simp only [Act.put, List.setIfInBounds_toArray, List.set_cons_zero, List.set_cons_succ, i64_w, i32_w]
         rfl
        refine take_ (i := 7) (N := some 24) (v := ?_) (a' := ?_) #[true, true, true, true, true, true, true, true, false, false] rfl rfl (take_ofW HT_.out HW_.out (by kernel_rfl)) (fun _ _ _ h => h) (Or.inl ⟨by rfl, ?_⟩) hHeld ?_ ?_
        rotate_left
        ·rintro w' ⟨s0, s1, s2, s3, s4, s5, s6, s7⟩
         go_simp
         with_reducible rfl
        rotate_left
        ·simp only [Act.put, List.setIfInBounds_toArray, List.set_cons_zero, List.set_cons_succ, i64_w, i32_w]
         rfl
        refine one_ (i := 8) (N := some 25) #[true, true, true, true, true, true, true, true, true, false] rfl rfl (one_of HT_.out (by kernel_rfl)) (by decide) (fun K hK => ?_)
        refine goes_ Try.func39 (by kernel_rfl) rfl #[.agg #[.int .i64 ((rd_T62 l0 x5_1).f0), .int .i64 ((rd_T62 l0 x5_1).f1), .int .i64 ((rd_T62 l0 x5_1).f2), .int .i64 ((rd_T62 l0 x5_1).f3)], .agg #[.int .i64 ((rd_T62 l1 x5_1).f0), .int .i64 ((rd_T62 l1 x5_1).f1), .int .i64 ((rd_T62 l1 x5_1).f2), .int .i64 ((rd_T62 l1 x5_1).f3)]] (by rfl) rfl rfl (by (try simp only [List.map_toArray, List.map_cons, List.map_nil]); first | done | rfl | (simp only [List.length_drop, List.length_take]; rfl)) ?_
        with_reducible refine (laws_eqGate.calls ((rd_T62 l0 x5_1).f0) ((rd_T62 l0 x5_1).f1) ((rd_T62 l0 x5_1).f2) ((rd_T62 l0 x5_1).f3) ((rd_T62 l1 x5_1).f0) ((rd_T62 l1 x5_1).f1) ((rd_T62 l1 x5_1).f2) ((rd_T62 l1 x5_1).f3) true _ A7.out).mono ?_
        rintro e w10 ⟨rfl, hb⟩
        refine ⟨_, rfl, ?_⟩
        have n0_ := bs HB hb
        clear HB
        have HB := n0_
        clear n0_
        (try clear hb)
        (try clear hb2)
        (try clear hk)
        (try clear hi)
        refine hK.out _ _ ⟨((HB.out.cell (World.block_lt_of_cell? w _ hw501_0)).trans hw501_0), ((HB.out.cell (World.block_lt_of_cell? w _ hw501_1)).trans hw501_1), ((HB.out.cell (World.block_lt_of_cell? w _ hw501_2)).trans hw501_2), ((HB.out.cell (World.block_lt_of_cell? w _ hw501_3)).trans hw501_3), ((HB.out.cell (World.block_lt_of_cell? w _ hw502_0)).trans hw502_0), ((HB.out.cell (World.block_lt_of_cell? w _ hw502_1)).trans hw502_1), ((HB.out.cell (World.block_lt_of_cell? w _ hw502_2)).trans hw502_2), ((HB.out.cell (World.block_lt_of_cell? w _ hw502_3)).trans hw502_3)⟩ (fun hHeld => ?_)
        clear hK K
        refine norm_ (a' := ?_) ?_ ?_
        rotate_left
        ·show Act.put _ (some 25) _ = _
         simp only [Act.put, List.setIfInBounds_toArray, List.set_cons_zero, List.set_cons_succ, i64_w, i32_w]
         rfl
        refine pu 9 HT_ ?_
        refine done_ (done_of HT_.out (by kernel_rfl)) ?_
        try go_wp2
        go_roundg k1
        case measure => have := HK1.out; omega
        case rel => exact ⟨(wrap64 (x5_1 + 1)), rs, H', ⟨by have := HK1.out; omega⟩, ⟨bl HB⟩⟩
       ·replace c8 := Bool.eq_false_iff.mpr c8
        subst c8
        rw [nf] at H
        obtain rfl := Option.some.inj H
        try go_wp2
        have n0_ := Aside0.mk (below_drew1 HB.out)
        clear HB
        have HB := n0_
        clear n0_
        have p501 : 0 ≤ (x5_1 : Int) := of_decide_eq_true da
        have q501 : x5_1 < (l0.length : Int) := of_decide_eq_true da
        obtain ⟨ad501, e501, hx501_0, hx501_1, hx501_2, hx501_3⟩ := at_T62 HR0.out x5_1 p501 q501
        have hw501_3 := hx501_3
        have hw501_2 := hx501_2
        have hw501_1 := hx501_1
        have hw501_0 := hx501_0
        cases e501
        replace hx501_0 := (HB.out.cell (World.block_lt_of_cell? w _ hx501_0)).trans hx501_0
        replace hx501_1 := (HB.out.cell (World.block_lt_of_cell? w _ hx501_1)).trans hx501_1
        replace hx501_2 := (HB.out.cell (World.block_lt_of_cell? w _ hx501_2)).trans hx501_2
        replace hx501_3 := (HB.out.cell (World.block_lt_of_cell? w _ hx501_3)).trans hx501_3
        replace p501 := eq_true p501
        replace q501 := eq_true q501
        have p502 : 0 ≤ (x5_1 : Int) := of_decide_eq_true da
        have q502 : x5_1 < (l1.length : Int) := of_decide_eq_true da
        obtain ⟨ad502, e502, hx502_0, hx502_1, hx502_2, hx502_3⟩ := at_T62 HR1.out x5_1 p502 q502
        have hw502_3 := hx502_3
        have hw502_2 := hx502_2
        have hw502_1 := hx502_1
        have hw502_0 := hx502_0
        cases e502
        replace hx502_0 := (HB.out.cell (World.block_lt_of_cell? w _ hx502_0)).trans hx502_0
        replace hx502_1 := (HB.out.cell (World.block_lt_of_cell? w _ hx502_1)).trans hx502_1
        replace hx502_2 := (HB.out.cell (World.block_lt_of_cell? w _ hx502_2)).trans hx502_2
        replace hx502_3 := (HB.out.cell (World.block_lt_of_cell? w _ hx502_3)).trans hx502_3
        replace p502 := eq_true p502
        replace q502 := eq_true q502
        refine start_ (n := 10) (S := fun w' => w'.cell? (ad501.add ((x5_1).toNat * 4)) = some (.int .i64 ((rd_T62 l0 x5_1).f0)) ∧ w'.cell? ⟨(ad501.add ((x5_1).toNat * 4)).block, (ad501.add ((x5_1).toNat * 4)).off + 1, none⟩ = some (.int .i64 ((rd_T62 l0 x5_1).f1)) ∧ w'.cell? ⟨(ad501.add ((x5_1).toNat * 4)).block, (ad501.add ((x5_1).toNat * 4)).off + 2, none⟩ = some (.int .i64 ((rd_T62 l0 x5_1).f2)) ∧ w'.cell? ⟨(ad501.add ((x5_1).toNat * 4)).block, (ad501.add ((x5_1).toNat * 4)).off + 3, none⟩ = some (.int .i64 ((rd_T62 l0 x5_1).f3)) ∧ w'.cell? (ad502.add ((x5_1).toNat * 4)) = some (.int .i64 ((rd_T62 l1 x5_1).f0)) ∧ w'.cell? ⟨(ad502.add ((x5_1).toNat * 4)).block, (ad502.add ((x5_1).toNat * 4)).off + 1, none⟩ = some (.int .i64 ((rd_T62 l1 x5_1).f1)) ∧ w'.cell? ⟨(ad502.add ((x5_1).toNat * 4)).block, (ad502.add ((x5_1).toNat * 4)).off + 2, none⟩ = some (.int .i64 ((rd_T62 l1 x5_1).f2)) ∧ w'.cell? ⟨(ad502.add ((x5_1).toNat * 4)).block, (ad502.add ((x5_1).toNat * 4)).off + 3, none⟩ = some (.int .i64 ((rd_T62 l1 x5_1).f3))) (ds := []) #[false, false, false, false, false, false, false, false, false, false] (by kernel_rfl) rfl rfl ⟨((HB.out.cell (World.block_lt_of_cell? w _ hw501_0)).trans hw501_0), ((HB.out.cell (World.block_lt_of_cell? w _ hw501_1)).trans hw501_1), ((HB.out.cell (World.block_lt_of_cell? w _ hw501_2)).trans hw501_2), ((HB.out.cell (World.block_lt_of_cell? w _ hw501_3)).trans hw501_3), ((HB.out.cell (World.block_lt_of_cell? w _ hw502_0)).trans hw502_0), ((HB.out.cell (World.block_lt_of_cell? w _ hw502_1)).trans hw502_1), ((HB.out.cell (World.block_lt_of_cell? w _ hw502_2)).trans hw502_2), ((HB.out.cell (World.block_lt_of_cell? w _ hw502_3)).trans hw502_3)⟩ (fun hHeld => ?_); refine with_tabW laws_eqGateS.tab6 laws_eqGateS.bits6 (fun HT_ HW_ => ?_)
        generalize wr.drew = w11 at HB hx501_0 hx501_1 hx501_2 hx501_3 hx502_0 hx502_1 hx502_2 hx502_3 hHeld ⊢
        refine pu 0 HT_ ?_
        refine pu 1 HT_ ?_
        refine pu 2 HT_ ?_
        refine pu 4 HT_ ?_
        refine pu 5 HT_ ?_
        refine pu 6 HT_ ?_
        refine take_ (i := 3) (N := some 20) (v := ?_) (a' := ?_) #[true, true, true, true, true, true, true, false, false, false] rfl rfl (take_ofW HT_.out HW_.out (by kernel_rfl)) (fun _ _ _ h => h) (Or.inl ⟨by rfl, ?_⟩) hHeld ?_ ?_
        rotate_left
        ·rintro w' ⟨s0, s1, s2, s3, s4, s5, s6, s7⟩
         go_simp
         with_reducible rfl
        rotate_left
        ·simp only [Act.put, List.setIfInBounds_toArray, List.set_cons_zero, List.set_cons_succ, i64_w, i32_w]
         rfl
        refine take_ (i := 7) (N := some 24) (v := ?_) (a' := ?_) #[true, true, true, true, true, true, true, true, false, false] rfl rfl (take_ofW HT_.out HW_.out (by kernel_rfl)) (fun _ _ _ h => h) (Or.inl ⟨by rfl, ?_⟩) hHeld ?_ ?_
        rotate_left
        ·rintro w' ⟨s0, s1, s2, s3, s4, s5, s6, s7⟩
         go_simp
         with_reducible rfl
        rotate_left
        ·simp only [Act.put, List.setIfInBounds_toArray, List.set_cons_zero, List.set_cons_succ, i64_w, i32_w]
         rfl
        refine one_ (i := 8) (N := some 25) #[true, true, true, true, true, true, true, true, true, false] rfl rfl (one_of HT_.out (by kernel_rfl)) (by decide) (fun K hK => ?_)
        refine goes_ Try.func39 (by kernel_rfl) rfl #[.agg #[.int .i64 ((rd_T62 l0 x5_1).f0), .int .i64 ((rd_T62 l0 x5_1).f1), .int .i64 ((rd_T62 l0 x5_1).f2), .int .i64 ((rd_T62 l0 x5_1).f3)], .agg #[.int .i64 ((rd_T62 l1 x5_1).f0), .int .i64 ((rd_T62 l1 x5_1).f1), .int .i64 ((rd_T62 l1 x5_1).f2), .int .i64 ((rd_T62 l1 x5_1).f3)]] (by rfl) rfl rfl (by (try simp only [List.map_toArray, List.map_cons, List.map_nil]); first | done | rfl | (simp only [List.length_drop, List.length_take]; rfl)) ?_
        with_reducible refine (laws_eqGate.calls ((rd_T62 l0 x5_1).f0) ((rd_T62 l0 x5_1).f1) ((rd_T62 l0 x5_1).f2) ((rd_T62 l0 x5_1).f3) ((rd_T62 l1 x5_1).f0) ((rd_T62 l1 x5_1).f1) ((rd_T62 l1 x5_1).f2) ((rd_T62 l1 x5_1).f3) false _ A7.out).mono ?_
        rintro e w12 ⟨rfl, hb⟩
        refine ⟨_, rfl, ?_⟩
        have n0_ := bs HB hb
        clear HB
        have HB := n0_
        clear n0_
        (try clear hb)
        (try clear hb2)
        (try clear hk)
        (try clear hi)
        refine hK.out _ _ ⟨((HB.out.cell (World.block_lt_of_cell? w _ hw501_0)).trans hw501_0), ((HB.out.cell (World.block_lt_of_cell? w _ hw501_1)).trans hw501_1), ((HB.out.cell (World.block_lt_of_cell? w _ hw501_2)).trans hw501_2), ((HB.out.cell (World.block_lt_of_cell? w _ hw501_3)).trans hw501_3), ((HB.out.cell (World.block_lt_of_cell? w _ hw502_0)).trans hw502_0), ((HB.out.cell (World.block_lt_of_cell? w _ hw502_1)).trans hw502_1), ((HB.out.cell (World.block_lt_of_cell? w _ hw502_2)).trans hw502_2), ((HB.out.cell (World.block_lt_of_cell? w _ hw502_3)).trans hw502_3)⟩ (fun hHeld => ?_)
        clear hK K
        refine norm_ (a' := ?_) ?_ ?_
        rotate_left
        ·show Act.put _ (some 25) _ = _
         simp only [Act.put, List.setIfInBounds_toArray, List.set_cons_zero, List.set_cons_succ, i64_w, i32_w]
         rfl
        refine pu 9 HT_ ?_
        refine done_ (done_of HT_.out (by kernel_rfl)) ?_
        try go_wp2
        go_ret
        exact ⟨er, bl HB⟩
      ·rw [if_neg c6] at H
       exact absurd H (by simp)
     ·rw [if_neg c5] at H
      exact absurd H (by simp)
    ·rw [if_neg c4] at H
     have c4b0 : decide (x5_1 < (l0.length : Int)) = false := decide_eq_false c4
     clear c4
     obtain rfl := Option.some.inj H
     go_wp2
     go_ret
     exact ⟨er, bl HB⟩
 ·rw [if_neg c3] at H
  have c3b0 : ((l0.length : Int) == (l1.length : Int)) = false := beq_eq_false_iff_ne.mpr c3
  have c3b1 : ((l0.length : Int) != (l1.length : Int)) = true := bne_iff_ne.mpr c3
  have c3b2 : (l0.length == l1.length) = false := by first | simpa using c3 | (simp at c3 ⊢; omega)
  obtain rfl := Option.some.inj H
  go_enter Try.func11, Try.ntmps11
  go_wp2
  go_ret
  exact ⟨er, bl HB⟩
end Go.Proofs.Ytmkpngbfbfpffaa.P
