/- Printed walks: each function's own reading as a Lean function, and the proof that a call of it answers so. -/
import Derived.Test.YtmkpngbfbfpffaaA3
namespace Go.Proofs.Ytmkpngbfbfpffaa.P
open Go.RowKit Go.Proofs.YtmkpngbfbfpffaaW.PrintWords Go.Proofs.YtmkpngbfbfpffaaW.PrintLast Go.Proofs.YtmkpngbfbfpffaaW.PrintMore Go.Proofs.YtmkpngbfbfpffaaW.Sq
attribute [local go_sem] max2_int min2_int max_two min_two max_three min_three max_four min_four   -- for this text's walks alone
set_option linter.unusedVariables false
set_option linter.unusedSimpArgs false
/-! ### spec_PathSumAmplitude: function 7 -/
mutual
def spec_PathSumAmplitude.j0 : Nat → List (S62) → Int → Int → Int → Int → Bool → Option (Int × Int × Int × Int × Int × Bool)
 | 0, _, _, _, _, _, _ => none
 | k + 1, x0, x1, x2, x3, x10, x49 => if x49 = true then (some (0, 0, 0, 0, 0, false)) else (spec_PathSumAmplitude.l0 k x0 x1 x2 x3 x10 0 0 0 0 0 0)
def spec_PathSumAmplitude.l0 : Nat → List (S62) → Int → Int → Int → Int → Int → Int → Int → Int → Int → Int → Option (Int × Int × Int × Int × Int × Bool)
 | 0, _, _, _, _, _, _, _, _, _, _, _ => none
 | k + 1, x0, x1, x2, x3, x10, x12, x294000, x294001, x294002, x294003, x294004 => if 0 ≤ (IntKind.u64.wrap (x10)) then (if x12 < (shl .i64 1 (IntKind.u64.wrap (x10))) then ((spec_PathEnd.f k x0 x1 x2 x12).bind fun bt305 => (if bt305.1 = x3 then ((spec_PhaseFactor.f bt305.2).bind fun bt307 => ((spec_AddDOmega.f k x294000 x294001 x294002 x294003 x294004 bt307.1 bt307.2.1 bt307.2.2.1 bt307.2.2.2.1 bt307.2.2.2.2).bind fun bt312 => (if bt312.2.2.2.2.2 = true then (spec_PathSumAmplitude.l0 k x0 x1 x2 x3 x10 (wrap64 (x12 + 1)) bt312.1 bt312.2.1 bt312.2.2.1 bt312.2.2.2.1 bt312.2.2.2.2.1) else (some (0, 0, 0, 0, 0, false))))) else (spec_PathSumAmplitude.l0 k x0 x1 x2 x3 x10 (wrap64 (x12 + 1)) x294000 x294001 x294002 x294003 x294004))) else ((spec_InvSqrt2Power.f x10).bind fun bt294 => ((spec_MulDOmega.f k x294000 x294001 x294002 x294003 x294004 bt294.1 bt294.2.1 bt294.2.2.1 bt294.2.2.2.1 bt294.2.2.2.2).bind fun bt299 => (some (bt299.1, bt299.2.1, bt299.2.2.1, bt299.2.2.2.1, bt299.2.2.2.2.1, bt299.2.2.2.2.2))))) else (none)
end
def spec_PathSumAmplitude.f (k : Nat) (l0 : List (S62)) (a1 : Int) (a2 : Int) (a3 : Int) : Option (Int × Int × Int × Int × Int × Bool) := (spec_HadamardCount.f k l0).bind fun t288 => (if t288 > 10 then (spec_PathSumAmplitude.j0 k l0 a1 a2 a3 t288 true) else ((spec_l1In.f a1 1 4).bind fun t289 => (if t289 = true then ((spec_l44Right.f k l0 a1).bind fun t290 => (if t290 = true then (if 0 ≤ (IntKind.u64.wrap (a1)) then ((spec_l1In.f a2 0 (wrap64 ((shl .i64 1 (IntKind.u64.wrap (a1))) - 1))).bind fun t291 => (if t291 = true then ((spec_l1In.f a3 0 (wrap64 ((shl .i64 1 (IntKind.u64.wrap (a1))) - 1))).bind fun t292 => (spec_PathSumAmplitude.j0 k l0 a1 a2 a3 t288 (!t292))) else (spec_PathSumAmplitude.j0 k l0 a1 a2 a3 t288 true))) else (none)) else (spec_PathSumAmplitude.j0 k l0 a1 a2 a3 t288 true))) else (spec_PathSumAmplitude.j0 k l0 a1 a2 a3 t288 true))))
def spec_PathSumAmplitude.T10 : Bool × List (List Nat × List Nat) := (true, [([], []), ([], []), ([1], [1]), ([0, 2, 2], [0, 2]), ([3], [3]), ([4], [4]), ([4], [4]), ([], []), ([7, 5, 3, 0, 1, 2, 3, 4, 5, 7], [5, 7]), ([6, 8, 0, 1, 2, 3, 4, 5, 6, 7, 8], [6])])
def spec_PathSumAmplitude.B10 : List Nat := [0, 0, 2, 7, 15, 31, 31, 0, 191, 511]
theorem spec_PathSumAmplitude.tab10 : rtab .any (opsOf Try.f7 10) = spec_PathSumAmplitude.T10 := by kernel_rfl
theorem spec_PathSumAmplitude.bits10 : waitsOk spec_PathSumAmplitude.T10.2 spec_PathSumAmplitude.B10 = true := by kernel_rfl
def spec_PathSumAmplitude.T14 : Bool × List (List Nat × List Nat) := (true, [([], []), ([], []), ([1], [1]), ([0, 2, 2], [0, 2]), ([3], [3]), ([3], [3]), ([4, 3, 0, 1, 2, 3, 4, 5], [4]), ([5, 6, 0, 1, 2, 3, 4, 5, 6], [5])])
def spec_PathSumAmplitude.B14 : List Nat := [0, 0, 2, 7, 15, 15, 63, 127]
theorem spec_PathSumAmplitude.tab14 : rtab .any (opsOf Try.f7 14) = spec_PathSumAmplitude.T14 := by kernel_rfl
theorem spec_PathSumAmplitude.bits14 : waitsOk spec_PathSumAmplitude.T14.2 spec_PathSumAmplitude.B14 = true := by kernel_rfl
set_option maxHeartbeats 8000000 in
set_option maxRecDepth 100000 in
theorem spec_PathSumAmplitude.calls (k : Nat) (A0 : Option Addr) (c0 : Nat) (l0 : List (S62)) (a1 : Int) (a2 : Int) (a3 : Int) (r1 : Int) (r2 : Int) (r3 : Int) (r4 : Int) (r5 : Int) (r6 : Bool) (w : World) (hr0 : Kd.C k62 w A0 l0.length l0) (hc0 : l0.length ≤ c0) (h : spec_PathSumAmplitude.f k l0 a1 a2 a3 = some (r1, r2, r3, r4, r5, r6)) :
  Calls Try.prog 7 #[.slice A0 l0.length c0, .int .i64 a1, .int .i64 a2, .int .i64 a3] w fun e w' => e = .returned (.tuple #[.agg #[.int .i64 r1, .int .i64 r2, .int .i64 r3, .int .i64 r4, .int .i64 r5], .bool r6]) ∧ Below w.heap.size w w' := by
 have hu27 := Try.underlying27
 have HR0 := Aside0.mk hr0
 have HC0 := Aside0.mk hc0
 clear hr0 hc0
 have HB := Aside0.mk (Below.refl w.heap.size w)
 have H := h
 clear h
 unfold spec_PathSumAmplitude.f at H
 replace H := Option.bind_eq_some_iff.mp H
 obtain ⟨t288, A50, H⟩ := H
 try dsimp only at H
 have A5 := Aside0.mk A50
 clear A50
 have HC6 := Aside0.mk H
 clear H
 go_enter Try.func7, Try.ntmps7
 go_upto_region 2 with (first | ((with_reducible refine gate_dst (N := 8) rfl ?_); refine bx (N := 8) (cs := #[.int .i64 0, .int .i64 0, .int .i64 0, .int .i64 0, .int .i64 0]) (t := 27) ?_; intro gb287 hg w7 hbox hb; have BK287 := Aside0.mk hbox; have GW287 := sz hg HB; have GE287 := GW287; replace HB := bs HB hb; clear hb hbox hg) | ((with_reducible refine gate_callee (f := 21) rfl ?_); refine gL (some 18) Try.func21 #[.slice A0 l0.length c0] ?_; (with_reducible refine (spec_HadamardCount.calls k _ _ l0 t288 _ ?side1 ?side2 A5.out).mono ?_); (case side1 => repeat (first | exact (Kd.C_below HR0.out HB.out) | (with_reducible refine Kd.C_alloc ?_ _) | (with_reducible refine Kd.C_drewN ?_ _) | (with_reducible refine Kd.C_drew ?_))); (case side2 => exact HC0.out); rintro e w8 ⟨rfl, hb⟩; refine ⟨_, rfl, ?_⟩; replace BK287 := cb BK287 hb; replace HB := bs HB hb; (try clear hb); (try clear hb2); (try clear hk); (try clear hi)))
 (try simp only [Act.put, List.setIfInBounds_toArray, List.set_cons_zero, List.set_cons_succ])
 go_cut [49] (fun v49 wc => ∃ (kq : Nat) (x49_5 : Bool), v49 = .bool x49_5 ∧ Aside0 (spec_PathSumAmplitude.j0 kq l0 a1 a2 a3 t288 x49_5 = some (r1, r2, r3, r4, r5, r6)) ∧ Aside0 (kq ≤ k) ∧ Aside0 (wc.heap[gb287]? = some (.cells #[.int .i64 0, .int .i64 0, .int .i64 0, .int .i64 0, .int .i64 0] 27 (0, 0))) ∧ Aside0 (Below w.heap.size w wc))
 case first =>
  have H := HC6.out
  clear HC6
  by_cases c9 : t288 > 10
  ·rw [if_pos c9] at H
   have c9b0 : decide (10 < t288) = true := decide_eq_true c9
   clear c9
   (first | rw [c9b0] | (simp only [i64_w, i32_w]; rw [c9b0]) | skip)
   have H' := Aside0.mk H
   clear H
   go_wp2
   go_meet
   case rel => exact ⟨_, (true), rs, H', ⟨by first | omega | exact Nat.le_refl _⟩, ⟨pl BK287⟩, ⟨bl HB⟩⟩
  ·rw [if_neg c9] at H
   have c9b0 : decide (10 < t288) = false := decide_eq_false c9
   clear c9
   (first | rw [c9b0] | (simp only [i64_w, i32_w]; rw [c9b0]) | skip)
   replace H := Option.bind_eq_some_iff.mp H
   obtain ⟨t289, A100, H⟩ := H
   try dsimp only at H
   have A10 := Aside0.mk A100
   clear A100
   by_cases c11 : t289 = true
   ·subst c11
    rw [if_pos rfl] at H
    replace H := Option.bind_eq_some_iff.mp H
    obtain ⟨t290, A120, H⟩ := H
    try dsimp only at H
    have A12 := Aside0.mk A120
    clear A120
    by_cases c13 : t290 = true
    ·subst c13
     rw [if_pos rfl] at H
     obtain ⟨ji14, hji14⟩ : ∃ j_ : Int, (IntKind.u64.wrap (a1)) = j_ := ⟨_, rfl⟩
     replace H : (if 0 ≤ (ji14) then ((spec_l1In.f a2 0 (wrap64 ((shl .i64 1 (ji14)) - 1))).bind fun t291 => (if t291 = true then ((spec_l1In.f a3 0 (wrap64 ((shl .i64 1 (ji14)) - 1))).bind fun t292 => (spec_PathSumAmplitude.j0 k l0 a1 a2 a3 t288 (!t292))) else (spec_PathSumAmplitude.j0 k l0 a1 a2 a3 t288 true))) else (none)) = some (r1, r2, r3, r4, r5, r6) := by first | (rw [hji14] at H; exact H) | (simp only [hji14] at H ⊢; exact H) | exact H
     (try rw [hji14] at A10)
     (try rw [hji14] at A12)
     by_cases c15 : 0 ≤ (ji14)
     ·rw [if_pos c15] at H
      have c15b0 := eq_true c15
      have c15b1 : decide (0 ≤ (ji14)) = true := decide_eq_true c15
      clear c15
      obtain ⟨ji16, hji16⟩ : ∃ j_ : Int, (shl .i64 1 (ji14)) = j_ := ⟨_, rfl⟩
      replace H : ((spec_l1In.f a2 0 (wrap64 ((ji16) - 1))).bind fun t291 => (if t291 = true then ((spec_l1In.f a3 0 (wrap64 ((ji16) - 1))).bind fun t292 => (spec_PathSumAmplitude.j0 k l0 a1 a2 a3 t288 (!t292))) else (spec_PathSumAmplitude.j0 k l0 a1 a2 a3 t288 true))) = some (r1, r2, r3, r4, r5, r6) := by first | (rw [hji16] at H; exact H) | (simp only [hji16] at H ⊢; exact H) | exact H
      (try rw [hji16] at A10)
      (try rw [hji16] at A12)
      have hji16_ : (IntKind.i64.wrap (1 * 2 ^ min (ji14).toNat 64)) = ji16 := hji16
      have hji16z : (ji14) ≤ 64 → (IntKind.i64.wrap (1 * 2 ^ (ji14).toNat)) = ji16 := shl_small hji16
      have hji16u : (IntKind.i64.wrap (2 ^ min (ji14).toNat 64)) = ji16 := by have h_ := hji16_; rw [Int.one_mul] at h_; exact h_
      have hji16v : (ji14) ≤ 64 → (IntKind.i64.wrap (2 ^ (ji14).toNat)) = ji16 := fun hle_ => by have h_ := hji16z hle_; rw [Int.one_mul] at h_; exact h_
      have hji16y : (wrap64 (1 * 2 ^ min (ji14).toNat 64)) = ji16 := (i64_w _).symm.trans hji16_
      have hji16x : (ji14) ≤ 64 → (wrap64 (1 * 2 ^ (ji14).toNat)) = ji16 := fun h_ => (i64_w _).symm.trans (hji16z h_)
      replace H := Option.bind_eq_some_iff.mp H
      obtain ⟨t291, A170, H⟩ := H
      try dsimp only at H
      have A17 := Aside0.mk A170
      clear A170
      by_cases c18 : t291 = true
      ·subst c18
       rw [if_pos rfl] at H
       have c19b0 := eq_true (of_decide_eq_true da : 0 ≤ (ji14))
       replace H := Option.bind_eq_some_iff.mp H
       obtain ⟨t292, A200, H⟩ := H
       try dsimp only at H
       have A20 := Aside0.mk A200
       clear A200
       have H' := Aside0.mk H
       clear H
       go_wp2_with (first | (go_at_call 22; (with_reducible refine (spec_l1In.calls a1 1 4 true _ A10.out).mono ?_); rintro e w' ⟨rfl, ⟨nd, rfl⟩⟩) | (go_at_call 23; (with_reducible refine (spec_l44Right.calls k _ _ l0 a1 true _ ?side1 ?side2 A12.out).mono ?_); (case side1 => repeat (first | exact (Kd.C_below HR0.out (bl HB)) | (with_reducible refine Kd.C_alloc ?_ _) | (with_reducible refine Kd.C_drewN ?_ _) | (with_reducible refine Kd.C_drew ?_))); (case side2 => exact HC0.out); rintro e w21 ⟨rfl, hb⟩; replace BK287 := cb BK287 hb; replace HB := bs HB hb; (try clear hb); (try clear hb2); (try clear hk); (try clear hi)) | (go_at_call 22; (with_reducible refine (spec_l1In.calls a2 0 (wrap64 ((ji16) - 1)) true _ A17.out).mono ?_); rintro e w' ⟨rfl, ⟨nd, rfl⟩⟩) | (go_at_call 22; (with_reducible refine (spec_l1In.calls a3 0 (wrap64 ((ji16) - 1)) t292 _ A20.out).mono ?_); rintro e w' ⟨rfl, ⟨nd, rfl⟩⟩))
       go_meet
       case rel => exact ⟨_, (!t292), rs, H', ⟨by first | omega | exact Nat.le_refl _⟩, ⟨pl BK287⟩, ⟨bl HB⟩⟩
      ·replace c18 := Bool.eq_false_iff.mpr c18
       subst c18
       rw [nf] at H
       have H' := Aside0.mk H
       clear H
       go_wp2_with (first | (go_at_call 22; (with_reducible refine (spec_l1In.calls a1 1 4 true _ A10.out).mono ?_); rintro e w' ⟨rfl, ⟨nd, rfl⟩⟩) | (go_at_call 23; (with_reducible refine (spec_l44Right.calls k _ _ l0 a1 true _ ?side1 ?side2 A12.out).mono ?_); (case side1 => repeat (first | exact (Kd.C_below HR0.out (bl HB)) | (with_reducible refine Kd.C_alloc ?_ _) | (with_reducible refine Kd.C_drewN ?_ _) | (with_reducible refine Kd.C_drew ?_))); (case side2 => exact HC0.out); rintro e w22 ⟨rfl, hb⟩; replace BK287 := cb BK287 hb; replace HB := bs HB hb; (try clear hb); (try clear hb2); (try clear hk); (try clear hi)) | (go_at_call 22; (with_reducible refine (spec_l1In.calls a2 0 (wrap64 ((ji16) - 1)) false _ A17.out).mono ?_); rintro e w' ⟨rfl, ⟨nd, rfl⟩⟩))
       go_meet
       case rel => exact ⟨_, (true), rs, H', ⟨by first | omega | exact Nat.le_refl _⟩, ⟨pl BK287⟩, ⟨bl HB⟩⟩
     ·rw [if_neg c15] at H
      exact absurd H (by simp)
    ·replace c13 := Bool.eq_false_iff.mpr c13
     subst c13
     rw [nf] at H
     have H' := Aside0.mk H
     clear H
     go_wp2_with (first | (go_at_call 22; (with_reducible refine (spec_l1In.calls a1 1 4 true _ A10.out).mono ?_); rintro e w' ⟨rfl, ⟨nd, rfl⟩⟩) | (go_at_call 23; (with_reducible refine (spec_l44Right.calls k _ _ l0 a1 false _ ?side1 ?side2 A12.out).mono ?_); (case side1 => repeat (first | exact (Kd.C_below HR0.out (bl HB)) | (with_reducible refine Kd.C_alloc ?_ _) | (with_reducible refine Kd.C_drewN ?_ _) | (with_reducible refine Kd.C_drew ?_))); (case side2 => exact HC0.out); rintro e w23 ⟨rfl, hb⟩; replace BK287 := cb BK287 hb; replace HB := bs HB hb; (try clear hb); (try clear hb2); (try clear hk); (try clear hi)))
     go_meet
     case rel => exact ⟨_, (true), rs, H', ⟨by first | omega | exact Nat.le_refl _⟩, ⟨pl BK287⟩, ⟨bl HB⟩⟩
   ·replace c11 := Bool.eq_false_iff.mpr c11
    subst c11
    rw [nf] at H
    have H' := Aside0.mk H
    clear H
    go_wp2_with (first | (go_at_call 22; (with_reducible refine (spec_l1In.calls a1 1 4 false _ A10.out).mono ?_); rintro e w' ⟨rfl, ⟨nd, rfl⟩⟩))
    go_meet
    case rel => exact ⟨_, (true), rs, H', ⟨by first | omega | exact Nat.le_refl _⟩, ⟨pl BK287⟩, ⟨bl HB⟩⟩
 case rest =>
  clear HC6
  try clear c1
  try clear c2
  try clear p2
  try clear p6
  try clear c7
  try clear c9
  try clear c9b0
  try clear c11
  try clear c13
  try clear c15
  try clear c15b0
  try clear c15b1
  try clear c18
  try clear c19
  try clear c19b0
  try clear c21
  obtain ⟨kq, x49_5, rfl, HA, HJ5, BK287, HB⟩ := hcut
  cases kq with
  | zero => exact absurd HA.out (by simp [spec_PathSumAmplitude.j0])
  | succ kj5 =>
   have H := HA.out
   clear HA
   simp only [spec_PathSumAmplitude.j0] at H
   by_cases c24 : x49_5 = true
   ·subst c24
    rw [if_pos rfl] at H
    simp only [Option.some.injEq, Prod.mk.injEq] at H
    obtain ⟨rfl, rfl, rfl, rfl, rfl, rfl⟩ := H
    obtain ⟨hcz25_0, hcz25_1, hcz25_2, hcz25_3, hcz25_4, hfz25_0, hfz25_1, hfz25_2, hfz25_3, hfz25_4⟩ := cel5 BK287
    go_wp2
    refine bodyPost_ret (results_ct rfl _ _ gb287 27 #[.int .i64 0, .int .i64 0, .int .i64 0, .int .i64 0, .int .i64 0] (0, 0) _ rfl (bp BK287) Try.underlying27 rfl (by kernel_rfl)) rfl ?_
    exact ⟨er, bl HB⟩
   ·replace c24 := Bool.eq_false_iff.mpr c24
    subst c24
    rw [nf] at H
    have H' := Aside0.mk H
    clear H
    go_wp2_with (first | ((with_reducible refine gate_dst (N := 11) rfl ?_); refine bx (N := 11) (cs := #[.int .i64 0, .int .i64 0, .int .i64 0, .int .i64 0, .int .i64 0]) (t := 27) ?_; intro gb293 hg w26 hbox hb; have BK293 := Aside0.mk hbox; have GW293 := sz hg HB; have GE293 := GW293; have NB287_293 := nl hg BK287; have NB293_287 := ng hg BK287; replace BK287 := cb BK287 hb; replace HB := bs HB hb; clear hb hbox hg; have hnb27 := NB293_287.out; have hnc27 := NB287_293.out; obtain ⟨hcz28_0, hcz28_1, hcz28_2, hcz28_3, hcz28_4, hfz28_0, hfz28_1, hfz28_2, hfz28_3, hfz28_4⟩ := cel5 BK293))
    go_loopg [12] kj5 (fun kq v12 w' => ∃ (x12_2 : Int) (x288000_2 : Int) (x288001_2 : Int) (x288002_2 : Int) (x288003_2 : Int) (x288004_2 : Int) (x294000_2 : Int) (x294001_2 : Int) (x294002_2 : Int) (x294003_2 : Int) (x294004_2 : Int), v12 = .int .i64 x12_2 ∧ Aside0 (spec_PathSumAmplitude.l0 kq l0 a1 a2 a3 t288 x12_2 x294000_2 x294001_2 x294002_2 x294003_2 x294004_2 = some (r1, r2, r3, r4, r5, r6)) ∧ Aside0 (kq ≤ kj5) ∧ Aside0 (w'.heap[gb287]? = some (.cells #[.int .i64 x288000_2, .int .i64 x288001_2, .int .i64 x288002_2, .int .i64 x288003_2, .int .i64 x288004_2] 27 (0, 0))) ∧ Aside0 (w'.heap[gb293]? = some (.cells #[.int .i64 x294000_2, .int .i64 x294001_2, .int .i64 x294002_2, .int .i64 x294003_2, .int .i64 x294004_2] 27 (0, 0))) ∧ Aside0 (Below w.heap.size w w'))
    case atStart => exact ⟨(0), (0), (0), (0), (0), (0), (0), (0), (0), (0), (0), rs, H', ⟨Nat.le_refl _⟩, ⟨bp BK287⟩, ⟨bp BK293⟩, ⟨bl HB⟩⟩
    case round =>
     clear H'
     try clear c1
     try clear c2
     try clear p2
     try clear p6
     try clear c7
     try clear c9
     try clear c9b0
     try clear c11
     try clear c13
     try clear c15
     try clear c15b0
     try clear c15b1
     try clear c18
     try clear c19
     try clear c19b0
     try clear c21
     try clear c24
     try clear c27
     try clear hcz25_0
     try clear hcz25_1
     try clear hcz25_2
     try clear hcz25_3
     try clear hcz25_4
     try clear hcz28_0
     try clear hcz28_1
     try clear hcz28_2
     try clear hcz28_3
     try clear hcz28_4
     try clear hfz25_0
     try clear hfz25_1
     try clear hfz25_2
     try clear hfz25_3
     try clear hfz25_4
     try clear hfz28_0
     try clear hfz28_1
     try clear hfz28_2
     try clear hfz28_3
     try clear hfz28_4
     try clear p2
     try clear p6
     obtain ⟨x12_2, x288000_2, x288001_2, x288002_2, x288003_2, x288004_2, x294000_2, x294001_2, x294002_2, x294003_2, x294004_2, rfl, HA, HK2, BK287, BK293, HB⟩ := hrel
     cases gk with
     | zero => exact absurd HA.out (by simp [spec_PathSumAmplitude.l0])
     | succ k2 =>
      have H := HA.out
      clear HA
      simp only [spec_PathSumAmplitude.l0] at H
      obtain ⟨ji29, hji29⟩ : ∃ j_ : Int, (IntKind.u64.wrap (t288)) = j_ := ⟨_, rfl⟩
      replace H : (if 0 ≤ (ji29) then (if x12_2 < (shl .i64 1 (ji29)) then ((spec_PathEnd.f k2 l0 a1 a2 x12_2).bind fun bt305 => (if bt305.1 = a3 then ((spec_PhaseFactor.f bt305.2).bind fun bt307 => ((spec_AddDOmega.f k2 x294000_2 x294001_2 x294002_2 x294003_2 x294004_2 bt307.1 bt307.2.1 bt307.2.2.1 bt307.2.2.2.1 bt307.2.2.2.2).bind fun bt312 => (if bt312.2.2.2.2.2 = true then (spec_PathSumAmplitude.l0 k2 l0 a1 a2 a3 t288 (wrap64 (x12_2 + 1)) bt312.1 bt312.2.1 bt312.2.2.1 bt312.2.2.2.1 bt312.2.2.2.2.1) else (some (0, 0, 0, 0, 0, false))))) else (spec_PathSumAmplitude.l0 k2 l0 a1 a2 a3 t288 (wrap64 (x12_2 + 1)) x294000_2 x294001_2 x294002_2 x294003_2 x294004_2))) else ((spec_InvSqrt2Power.f t288).bind fun bt294 => ((spec_MulDOmega.f k2 x294000_2 x294001_2 x294002_2 x294003_2 x294004_2 bt294.1 bt294.2.1 bt294.2.2.1 bt294.2.2.2.1 bt294.2.2.2.2).bind fun bt299 => (some (bt299.1, bt299.2.1, bt299.2.2.1, bt299.2.2.2.1, bt299.2.2.2.2.1, bt299.2.2.2.2.2))))) else (none)) = some (r1, r2, r3, r4, r5, r6) := by first | (rw [hji29] at H; exact H) | (simp only [hji29] at H ⊢; exact H) | exact H
      by_cases c30 : 0 ≤ (ji29)
      ·rw [if_pos c30] at H
       have c30b0 := eq_true c30
       have c30b1 : decide (0 ≤ (ji29)) = true := decide_eq_true c30
       clear c30
       obtain ⟨ji31, hji31⟩ : ∃ j_ : Int, (shl .i64 1 (ji29)) = j_ := ⟨_, rfl⟩
       replace H : (if x12_2 < (ji31) then ((spec_PathEnd.f k2 l0 a1 a2 x12_2).bind fun bt305 => (if bt305.1 = a3 then ((spec_PhaseFactor.f bt305.2).bind fun bt307 => ((spec_AddDOmega.f k2 x294000_2 x294001_2 x294002_2 x294003_2 x294004_2 bt307.1 bt307.2.1 bt307.2.2.1 bt307.2.2.2.1 bt307.2.2.2.2).bind fun bt312 => (if bt312.2.2.2.2.2 = true then (spec_PathSumAmplitude.l0 k2 l0 a1 a2 a3 t288 (wrap64 (x12_2 + 1)) bt312.1 bt312.2.1 bt312.2.2.1 bt312.2.2.2.1 bt312.2.2.2.2.1) else (some (0, 0, 0, 0, 0, false))))) else (spec_PathSumAmplitude.l0 k2 l0 a1 a2 a3 t288 (wrap64 (x12_2 + 1)) x294000_2 x294001_2 x294002_2 x294003_2 x294004_2))) else ((spec_InvSqrt2Power.f t288).bind fun bt294 => ((spec_MulDOmega.f k2 x294000_2 x294001_2 x294002_2 x294003_2 x294004_2 bt294.1 bt294.2.1 bt294.2.2.1 bt294.2.2.2.1 bt294.2.2.2.2).bind fun bt299 => (some (bt299.1, bt299.2.1, bt299.2.2.1, bt299.2.2.2.1, bt299.2.2.2.2.1, bt299.2.2.2.2.2))))) = some (r1, r2, r3, r4, r5, r6) := by first | (rw [hji31] at H; exact H) | (simp only [hji31] at H ⊢; exact H) | exact H
       have hji31_ : (IntKind.i64.wrap (1 * 2 ^ min (ji29).toNat 64)) = ji31 := hji31
       have hji31z : (ji29) ≤ 64 → (IntKind.i64.wrap (1 * 2 ^ (ji29).toNat)) = ji31 := shl_small hji31
       have hji31u : (IntKind.i64.wrap (2 ^ min (ji29).toNat 64)) = ji31 := by have h_ := hji31_; rw [Int.one_mul] at h_; exact h_
       have hji31v : (ji29) ≤ 64 → (IntKind.i64.wrap (2 ^ (ji29).toNat)) = ji31 := fun hle_ => by have h_ := hji31z hle_; rw [Int.one_mul] at h_; exact h_
       have hji31y : (wrap64 (1 * 2 ^ min (ji29).toNat 64)) = ji31 := (i64_w _).symm.trans hji31_
       have hji31x : (ji29) ≤ 64 → (wrap64 (1 * 2 ^ (ji29).toNat)) = ji31 := fun h_ => (i64_w _).symm.trans (hji31z h_)
       by_cases c32 : x12_2 < (ji31)
       ·rw [if_pos c32] at H
        have c32b0 : decide (x12_2 < (ji31)) = true := decide_eq_true c32
        clear c32
        replace H := Option.bind_eq_some_iff.mp H
        obtain ⟨⟨t305, t306⟩, A330, H⟩ := H
        try dsimp only at H
        have A33 := Aside0.mk A330
        clear A330
        by_cases c34 : t305 = a3
        ·rw [if_pos c34] at H
         have c34b0 : (t305 == a3) = true := beq_iff_eq.mpr c34
         have c34b1 : (t305 != a3) = false := bne_eq_false_iff_eq.mpr c34
         clear c34
         replace H := Option.bind_eq_some_iff.mp H
         obtain ⟨⟨t307, t308, t309, t310, t311⟩, A350, H⟩ := H
         try dsimp only at H
         have A35 := Aside0.mk A350
         clear A350
         replace H := Option.bind_eq_some_iff.mp H
         obtain ⟨⟨t312, t313, t314, t315, t316, t317⟩, A360, H⟩ := H
         try dsimp only at H
         have A36 := Aside0.mk A360
         clear A360
         by_cases c37 : t317 = true
         ·subst c37
          rw [if_pos rfl] at H
          have H' := Aside0.mk H
          clear H
          try go_wp2_with (first | ((with_reducible refine gate_callee (f := 24) rfl ?_); refine gL (some 64) Try.func24 #[.slice A0 l0.length c0, .int .i64 a1, .int .i64 a2, .int .i64 x12_2] ?_; (with_reducible refine (spec_PathEnd.calls k2 _ _ l0 a1 a2 x12_2 t305 t306 _ ?side1 ?side2 A33.out).mono ?_); (case side1 => repeat (first | exact (Kd.C_below HR0.out HB.out) | (with_reducible refine Kd.C_alloc ?_ _) | (with_reducible refine Kd.C_drewN ?_ _) | (with_reducible refine Kd.C_drew ?_))); (case side2 => exact HC0.out); rintro e w38 ⟨rfl, hb⟩; refine ⟨_, rfl, ?_⟩; replace BK287 := cb BK287 hb; replace BK293 := cb BK293 hb; replace HB := bs HB hb; (try clear hb); (try clear hb2); (try clear hk); (try clear hi)))
          have n0_ := Aside0.mk (blk_drew BK287.out)
          have n1_ := Aside0.mk (blk_drew BK293.out)
          have n2_ := Aside0.mk (below_drew1 HB.out)
          clear BK287
          clear BK293
          clear HB
          have BK287 := n0_
          have BK293 := n1_
          have HB := n2_
          clear n0_ n1_ n2_
          refine start_ (n := 10) (S := fun w' => w'.cell? ⟨gb293, 0, none⟩ = some (.int .i64 x294000_2) ∧ w'.cell? ⟨gb293, 1, none⟩ = some (.int .i64 x294001_2) ∧ w'.cell? ⟨gb293, 2, none⟩ = some (.int .i64 x294002_2) ∧ w'.cell? ⟨gb293, 3, none⟩ = some (.int .i64 x294003_2) ∧ w'.cell? ⟨gb293, 4, none⟩ = some (.int .i64 x294004_2)) (ds := []) #[false, false, false, false, false, false, false, false, false, false] (by kernel_rfl) rfl rfl ⟨(blk_cell BK293.out 0).trans rfl, (blk_cell BK293.out 1).trans rfl, (blk_cell BK293.out 2).trans rfl, (blk_cell BK293.out 3).trans rfl, (blk_cell BK293.out 4).trans rfl⟩ (fun hHeld => ?_); refine with_tabW spec_PathSumAmplitude.tab10 spec_PathSumAmplitude.bits10 (fun HT_ HW_ => ?_)
          generalize w38.drew = w39 at BK287 BK293 HB hHeld ⊢
          refine pu 1 HT_ ?_
          refine take_ (i := 0) (N := some 71) (v := ?_) (a' := ?_) #[true, true, false, false, false, false, false, false, false, false] rfl rfl (take_ofW HT_.out HW_.out (by kernel_rfl)) (fun _ _ _ h => h) (Or.inl ⟨by rfl, ?_⟩) hHeld ?_ ?_
          rotate_left
          ·rintro w' ⟨s0, s1, s2, s3, s4⟩
           go_simp
           with_reducible rfl
          rotate_left
          ·simp only [Act.put, List.setIfInBounds_toArray, List.set_cons_zero, List.set_cons_succ, i64_w, i32_w]
           rfl
          refine join_ (σ := Nat) 2 #[true, true, true, true, true, true, true, true, false, false] (fun s_ => [(73, .agg #[.int .i64 t307, .int .i64 t308, .int .i64 t309, .int .i64 t310, .int .i64 t311]), (74, .tuple #[.agg #[.int .i64 t312, .int .i64 t313, .int .i64 t314, .int .i64 t315, .int .i64 t316], .bool true]), (15, .pointer (some ⟨s_, 0, none⟩)), (70, .tuple #[.agg #[.int .i64 t312, .int .i64 t313, .int .i64 t314, .int .i64 t315, .int .i64 t316], .bool true]), (75, .agg #[.int .i64 t312, .int .i64 t313, .int .i64 t314, .int .i64 t315, .int .i64 t316]), (76, .bool true)]) (fun s_ w' => (w'.cell? ⟨gb293, 0, none⟩ = some (.int .i64 x294000_2) ∧ w'.cell? ⟨gb293, 1, none⟩ = some (.int .i64 x294001_2) ∧ w'.cell? ⟨gb293, 2, none⟩ = some (.int .i64 x294002_2) ∧ w'.cell? ⟨gb293, 3, none⟩ = some (.int .i64 x294003_2) ∧ w'.cell? ⟨gb293, 4, none⟩ = some (.int .i64 x294004_2)) ∧ (w'.heap[gb287]? = some (.cells #[.int .i64 x288000_2, .int .i64 x288001_2, .int .i64 x288002_2, .int .i64 x288003_2, .int .i64 x288004_2] 27 (0, 0))) ∧ (w'.heap[gb293]? = some (.cells #[.int .i64 x294000_2, .int .i64 x294001_2, .int .i64 x294002_2, .int .i64 x294003_2, .int .i64 x294004_2] 27 (0, 0))) ∧ (w'.heap[s_]? = some (.cells #[.int .i64 0, .int .i64 0, .int .i64 0, .int .i64 0, .int .i64 0] 27 (0, 0))) ∧ (w.heap.size ≤ s_) ∧ (w.heap.size ≤ s_) ∧ (gb287 ≠ s_) ∧ (s_ ≠ gb287) ∧ (gb293 ≠ s_) ∧ (s_ ≠ gb293) ∧ (Below w.heap.size w w')) ?_ ?_
          rotate_left
          ·intro hCont
           refine two_ (i := 2) (j := 7) (Ni := some 73) (Nj := some 15) #[true, true, true, false, false, false, false, false, false, false] #[true, true, false, false, false, false, false, true, false, false] rfl rfl rfl rfl (two_of HT_.out (by kernel_rfl)) (by decide) (by decide) (fun K hK => ?_) (fun K hK => ?_)
           ·skip
            refine goes_ Try.func26 (by kernel_rfl) rfl #[.int .i64 t306] (by rfl) rfl rfl (by (try simp only [List.map_toArray, List.map_cons, List.map_nil]); first | done | rfl | (simp only [List.length_drop, List.length_take]; rfl)) ?_
            with_reducible refine (spec_PhaseFactor.calls t306 t307 t308 t309 t310 t311 _ A35.out).mono ?_
            rintro e w40 ⟨rfl, hb⟩
            refine ⟨_, rfl, ?_⟩
            have n0_ := cb BK287 hb
            have n1_ := cb BK293 hb
            have n2_ := bs HB hb
            clear BK287
            clear BK293
            clear HB
            have BK287 := n0_
            have BK293 := n1_
            have HB := n2_
            clear n0_ n1_ n2_
            (try clear hb)
            (try clear hb2)
            (try clear hk)
            (try clear hi)
            refine hK.out _ _ ⟨(blk_cell BK293.out 0).trans rfl, (blk_cell BK293.out 1).trans rfl, (blk_cell BK293.out 2).trans rfl, (blk_cell BK293.out 3).trans rfl, (blk_cell BK293.out 4).trans rfl⟩ (fun hHeld => ?_)
            clear hK K
            refine norm_ (a' := ?_) ?_ ?_
            rotate_left
            ·show Act.put _ (some 73) _ = _
             simp only [Act.put, List.setIfInBounds_toArray, List.set_cons_zero, List.set_cons_succ, i64_w, i32_w]
             rfl
            refine two_ (i := 3) (j := 7) (Ni := some 74) (Nj := some 15) #[true, true, true, true, false, false, false, false, false, false] #[true, true, true, false, false, false, false, true, false, false] rfl rfl rfl rfl (two_of HT_.out (by kernel_rfl)) (by decide) (by decide) (fun K hK => ?_) (fun K hK => ?_)
            ·skip
             refine goes_ Try.func25 (by kernel_rfl) rfl #[.agg #[.int .i64 x294000_2, .int .i64 x294001_2, .int .i64 x294002_2, .int .i64 x294003_2, .int .i64 x294004_2], .agg #[.int .i64 t307, .int .i64 t308, .int .i64 t309, .int .i64 t310, .int .i64 t311]] (by rfl) rfl rfl (by (try simp only [List.map_toArray, List.map_cons, List.map_nil]); first | done | rfl | (simp only [List.length_drop, List.length_take]; rfl)) ?_
             with_reducible refine (spec_AddDOmega.calls k2 x294000_2 x294001_2 x294002_2 x294003_2 x294004_2 t307 t308 t309 t310 t311 t312 t313 t314 t315 t316 true _ A36.out).mono ?_
             rintro e w41 ⟨rfl, hb⟩
             refine ⟨_, rfl, ?_⟩
             have n0_ := cb BK287 hb
             have n1_ := cb BK293 hb
             have n2_ := bs HB hb
             clear BK287
             clear BK293
             clear HB
             have BK287 := n0_
             have BK293 := n1_
             have HB := n2_
             clear n0_ n1_ n2_
             (try clear hb)
             (try clear hb2)
             (try clear hk)
             (try clear hi)
             refine hK.out _ _ ⟨(blk_cell BK293.out 0).trans rfl, (blk_cell BK293.out 1).trans rfl, (blk_cell BK293.out 2).trans rfl, (blk_cell BK293.out 3).trans rfl, (blk_cell BK293.out 4).trans rfl⟩ (fun hHeld => ?_)
             clear hK K
             refine norm_ (a' := ?_) ?_ ?_
             rotate_left
             ·show Act.put _ (some 74) _ = _
              simp only [Act.put, List.setIfInBounds_toArray, List.set_cons_zero, List.set_cons_succ, i64_w, i32_w]
              rfl
             refine pu 4 HT_ ?_
             refine pu 5 HT_ ?_
             refine pu 6 HT_ ?_
             refine one_ (i := 7) (N := some 15) #[true, true, true, true, true, true, true, true, false, false] rfl rfl (one_of HT_.out (by kernel_rfl)) (by decide) (fun K hK => ?_)
             refine box_step ?hg (N := 15) ?hd (cs := #[.int .i64 0, .int .i64 0, .int .i64 0, .int .i64 0, .int .i64 0]) (t := 27) ?hr ?_; (case hd => rfl); (case hg => rfl); (case hr => first | (go_simp; done) | (go_simp; rfl))
             intro gb318 hg w42 hbox hb
             have n0_ := cb BK287 hb
             have n1_ := cb BK293 hb
             have n2_ := bs HB hb
             have n3_ := Aside0.mk hbox
             have n4_ := sz hg HB
             have n5_ := sz hg HB
             have n6_ := nl hg BK287
             have n7_ := ng hg BK287
             have n8_ := nl hg BK293
             have n9_ := ng hg BK293
             clear BK287
             clear BK293
             clear HB
             have BK287 := n0_
             have BK293 := n1_
             have HB := n2_
             have BK318 := n3_
             have GW318 := n4_
             have GE318 := n5_
             have NB287_318 := n6_
             have NB318_287 := n7_
             have NB293_318 := n8_
             have NB318_293 := n9_
             clear n0_ n1_ n2_ n3_ n4_ n5_ n6_ n7_ n8_ n9_
             clear hb hbox hg
             refine hK.out _ _ ⟨(blk_cell BK293.out 0).trans rfl, (blk_cell BK293.out 1).trans rfl, (blk_cell BK293.out 2).trans rfl, (blk_cell BK293.out 3).trans rfl, (blk_cell BK293.out 4).trans rfl⟩ (fun hHeld => ?_)
             clear hK K
             refine norm_ (a' := ?_) ?_ ?_
             rotate_left
             ·show Act.put _ (some 15) _ = _
              simp only [Act.put, List.setIfInBounds_toArray, List.set_cons_zero, List.set_cons_succ, i64_w, i32_w]
              rfl
             exact norm_ (by simp only [putAll, Act.put, List.setIfInBounds_toArray, List.set_cons_zero, List.set_cons_succ]) (hCont (gb318) _ ⟨hHeld, (pl BK287), (pl BK293), (pl BK318), GW318.out, GE318.out, NB287_318.out, NB318_287.out, NB293_318.out, NB318_293.out, (bl HB)⟩)
            ·skip
             refine box_step ?hg (N := 15) ?hd (cs := #[.int .i64 0, .int .i64 0, .int .i64 0, .int .i64 0, .int .i64 0]) (t := 27) ?hr ?_; (case hd => rfl); (case hg => rfl); (case hr => first | (go_simp; done) | (go_simp; rfl))
             intro gb318 hg w41 hbox hb
             have n0_ := cb BK287 hb
             have n1_ := cb BK293 hb
             have n2_ := bs HB hb
             have n3_ := Aside0.mk hbox
             have n4_ := sz hg HB
             have n5_ := sz hg HB
             have n6_ := nl hg BK287
             have n7_ := ng hg BK287
             have n8_ := nl hg BK293
             have n9_ := ng hg BK293
             clear BK287
             clear BK293
             clear HB
             have BK287 := n0_
             have BK293 := n1_
             have HB := n2_
             have BK318 := n3_
             have GW318 := n4_
             have GE318 := n5_
             have NB287_318 := n6_
             have NB318_287 := n7_
             have NB293_318 := n8_
             have NB318_293 := n9_
             clear n0_ n1_ n2_ n3_ n4_ n5_ n6_ n7_ n8_ n9_
             clear hb hbox hg
             refine hK.out _ _ ⟨(blk_cell BK293.out 0).trans rfl, (blk_cell BK293.out 1).trans rfl, (blk_cell BK293.out 2).trans rfl, (blk_cell BK293.out 3).trans rfl, (blk_cell BK293.out 4).trans rfl⟩ (fun hHeld => ?_)
             clear hK K
             refine norm_ (a' := ?_) ?_ ?_
             rotate_left
             ·show Act.put _ (some 15) _ = _
              simp only [Act.put, List.setIfInBounds_toArray, List.set_cons_zero, List.set_cons_succ, i64_w, i32_w]
              rfl
             refine one_ (i := 3) (N := some 74) #[true, true, true, true, false, false, false, true, false, false] rfl rfl (one_of HT_.out (by kernel_rfl)) (by decide) (fun K hK => ?_)
             refine goes_ Try.func25 (by kernel_rfl) rfl #[.agg #[.int .i64 x294000_2, .int .i64 x294001_2, .int .i64 x294002_2, .int .i64 x294003_2, .int .i64 x294004_2], .agg #[.int .i64 t307, .int .i64 t308, .int .i64 t309, .int .i64 t310, .int .i64 t311]] (by rfl) rfl rfl (by (try simp only [List.map_toArray, List.map_cons, List.map_nil]); first | done | rfl | (simp only [List.length_drop, List.length_take]; rfl)) ?_
             with_reducible refine (spec_AddDOmega.calls k2 x294000_2 x294001_2 x294002_2 x294003_2 x294004_2 t307 t308 t309 t310 t311 t312 t313 t314 t315 t316 true _ A36.out).mono ?_
             rintro e w42 ⟨rfl, hb⟩
             refine ⟨_, rfl, ?_⟩
             have n0_ := cb BK287 hb
             have n1_ := cb BK293 hb
             have n2_ := cb BK318 hb
             have n3_ := bs HB hb
             clear BK287
             clear BK293
             clear BK318
             clear HB
             have BK287 := n0_
             have BK293 := n1_
             have BK318 := n2_
             have HB := n3_
             clear n0_ n1_ n2_ n3_
             (try clear hb)
             (try clear hb2)
             (try clear hk)
             (try clear hi)
             refine hK.out _ _ ⟨(blk_cell BK293.out 0).trans rfl, (blk_cell BK293.out 1).trans rfl, (blk_cell BK293.out 2).trans rfl, (blk_cell BK293.out 3).trans rfl, (blk_cell BK293.out 4).trans rfl⟩ (fun hHeld => ?_)
             clear hK K
             refine norm_ (a' := ?_) ?_ ?_
             rotate_left
             ·show Act.put _ (some 74) _ = _
              simp only [Act.put, List.setIfInBounds_toArray, List.set_cons_zero, List.set_cons_succ, i64_w, i32_w]
              rfl
             refine pu 4 HT_ ?_
             refine pu 5 HT_ ?_
             refine pu 6 HT_ ?_
             exact norm_ (by simp only [putAll, Act.put, List.setIfInBounds_toArray, List.set_cons_zero, List.set_cons_succ]) (hCont (gb318) _ ⟨hHeld, (pl BK287), (pl BK293), (pl BK318), GW318.out, GE318.out, NB287_318.out, NB318_287.out, NB293_318.out, NB318_293.out, (bl HB)⟩)
           ·skip
            refine box_step ?hg (N := 15) ?hd (cs := #[.int .i64 0, .int .i64 0, .int .i64 0, .int .i64 0, .int .i64 0]) (t := 27) ?hr ?_; (case hd => rfl); (case hg => rfl); (case hr => first | (go_simp; done) | (go_simp; rfl))
            intro gb318 hg w40 hbox hb
            have n0_ := cb BK287 hb
            have n1_ := cb BK293 hb
            have n2_ := bs HB hb
            have n3_ := Aside0.mk hbox
            have n4_ := sz hg HB
            have n5_ := sz hg HB
            have n6_ := nl hg BK287
            have n7_ := ng hg BK287
            have n8_ := nl hg BK293
            have n9_ := ng hg BK293
            clear BK287
            clear BK293
            clear HB
            have BK287 := n0_
            have BK293 := n1_
            have HB := n2_
            have BK318 := n3_
            have GW318 := n4_
            have GE318 := n5_
            have NB287_318 := n6_
            have NB318_287 := n7_
            have NB293_318 := n8_
            have NB318_293 := n9_
            clear n0_ n1_ n2_ n3_ n4_ n5_ n6_ n7_ n8_ n9_
            clear hb hbox hg
            refine hK.out _ _ ⟨(blk_cell BK293.out 0).trans rfl, (blk_cell BK293.out 1).trans rfl, (blk_cell BK293.out 2).trans rfl, (blk_cell BK293.out 3).trans rfl, (blk_cell BK293.out 4).trans rfl⟩ (fun hHeld => ?_)
            clear hK K
            refine norm_ (a' := ?_) ?_ ?_
            rotate_left
            ·show Act.put _ (some 15) _ = _
             simp only [Act.put, List.setIfInBounds_toArray, List.set_cons_zero, List.set_cons_succ, i64_w, i32_w]
             rfl
            refine one_ (i := 2) (N := some 73) #[true, true, true, false, false, false, false, true, false, false] rfl rfl (one_of HT_.out (by kernel_rfl)) (by decide) (fun K hK => ?_)
            refine goes_ Try.func26 (by kernel_rfl) rfl #[.int .i64 t306] (by rfl) rfl rfl (by (try simp only [List.map_toArray, List.map_cons, List.map_nil]); first | done | rfl | (simp only [List.length_drop, List.length_take]; rfl)) ?_
            with_reducible refine (spec_PhaseFactor.calls t306 t307 t308 t309 t310 t311 _ A35.out).mono ?_
            rintro e w41 ⟨rfl, hb⟩
            refine ⟨_, rfl, ?_⟩
            have n0_ := cb BK287 hb
            have n1_ := cb BK293 hb
            have n2_ := cb BK318 hb
            have n3_ := bs HB hb
            clear BK287
            clear BK293
            clear BK318
            clear HB
            have BK287 := n0_
            have BK293 := n1_
            have BK318 := n2_
            have HB := n3_
            clear n0_ n1_ n2_ n3_
            (try clear hb)
            (try clear hb2)
            (try clear hk)
            (try clear hi)
            refine hK.out _ _ ⟨(blk_cell BK293.out 0).trans rfl, (blk_cell BK293.out 1).trans rfl, (blk_cell BK293.out 2).trans rfl, (blk_cell BK293.out 3).trans rfl, (blk_cell BK293.out 4).trans rfl⟩ (fun hHeld => ?_)
            clear hK K
            refine norm_ (a' := ?_) ?_ ?_
            rotate_left
            ·show Act.put _ (some 73) _ = _
             simp only [Act.put, List.setIfInBounds_toArray, List.set_cons_zero, List.set_cons_succ, i64_w, i32_w]
             rfl
            refine one_ (i := 3) (N := some 74) #[true, true, true, true, false, false, false, true, false, false] rfl rfl (one_of HT_.out (by kernel_rfl)) (by decide) (fun K hK => ?_)
            refine goes_ Try.func25 (by kernel_rfl) rfl #[.agg #[.int .i64 x294000_2, .int .i64 x294001_2, .int .i64 x294002_2, .int .i64 x294003_2, .int .i64 x294004_2], .agg #[.int .i64 t307, .int .i64 t308, .int .i64 t309, .int .i64 t310, .int .i64 t311]] (by rfl) rfl rfl (by (try simp only [List.map_toArray, List.map_cons, List.map_nil]); first | done | rfl | (simp only [List.length_drop, List.length_take]; rfl)) ?_
            with_reducible refine (spec_AddDOmega.calls k2 x294000_2 x294001_2 x294002_2 x294003_2 x294004_2 t307 t308 t309 t310 t311 t312 t313 t314 t315 t316 true _ A36.out).mono ?_
            rintro e w42 ⟨rfl, hb⟩
            refine ⟨_, rfl, ?_⟩
            have n0_ := cb BK287 hb
            have n1_ := cb BK293 hb
            have n2_ := cb BK318 hb
            have n3_ := bs HB hb
            clear BK287
            clear BK293
            clear BK318
            clear HB
            have BK287 := n0_
            have BK293 := n1_
            have BK318 := n2_
            have HB := n3_
            clear n0_ n1_ n2_ n3_
            (try clear hb)
            (try clear hb2)
            (try clear hk)
            (try clear hi)
            refine hK.out _ _ ⟨(blk_cell BK293.out 0).trans rfl, (blk_cell BK293.out 1).trans rfl, (blk_cell BK293.out 2).trans rfl, (blk_cell BK293.out 3).trans rfl, (blk_cell BK293.out 4).trans rfl⟩ (fun hHeld => ?_)
            clear hK K
            refine norm_ (a' := ?_) ?_ ?_
            rotate_left
            ·show Act.put _ (some 74) _ = _
             simp only [Act.put, List.setIfInBounds_toArray, List.set_cons_zero, List.set_cons_succ, i64_w, i32_w]
             rfl
            refine pu 4 HT_ ?_
            refine pu 5 HT_ ?_
            refine pu 6 HT_ ?_
            exact norm_ (by simp only [putAll, Act.put, List.setIfInBounds_toArray, List.set_cons_zero, List.set_cons_succ]) (hCont (gb318) _ ⟨hHeld, (pl BK287), (pl BK293), (pl BK318), GW318.out, GE318.out, NB287_318.out, NB318_287.out, NB293_318.out, NB318_293.out, (bl HB)⟩)
          rintro gb318 w43 ⟨hS_, h0_, h1_, h2_, h3_, h4_, h5_, h6_, h7_, h8_, h9_⟩
          have n0_ : Aside0 (w43.heap[gb287]? = some (.cells #[.int .i64 x288000_2, .int .i64 x288001_2, .int .i64 x288002_2, .int .i64 x288003_2, .int .i64 x288004_2] 27 (0, 0))) := ⟨h0_⟩
          have n1_ : Aside0 (w43.heap[gb293]? = some (.cells #[.int .i64 x294000_2, .int .i64 x294001_2, .int .i64 x294002_2, .int .i64 x294003_2, .int .i64 x294004_2] 27 (0, 0))) := ⟨h1_⟩
          have n2_ : Aside0 (w43.heap[gb318]? = some (.cells #[.int .i64 0, .int .i64 0, .int .i64 0, .int .i64 0, .int .i64 0] 27 (0, 0))) := ⟨h2_⟩
          have n3_ : Aside0 (w.heap.size ≤ gb318) := ⟨h3_⟩
          have n4_ : Aside0 (w.heap.size ≤ gb318) := ⟨h4_⟩
          have n5_ : Aside0 (gb287 ≠ gb318) := ⟨h5_⟩
          have n6_ : Aside0 (gb318 ≠ gb287) := ⟨h6_⟩
          have n7_ : Aside0 (gb293 ≠ gb318) := ⟨h7_⟩
          have n8_ : Aside0 (gb318 ≠ gb293) := ⟨h8_⟩
          have n9_ : Aside0 (Below w.heap.size w w43) := ⟨h9_⟩
          clear BK287
          clear BK293
          clear HB
          clear h0_ h1_ h2_ h3_ h4_ h5_ h6_ h7_ h8_ h9_
          have BK287 := n0_
          have BK293 := n1_
          have BK318 := n2_
          have GW318 := n3_
          have GE318 := n4_
          have NB287_318 := n5_
          have NB318_287 := n6_
          have NB293_318 := n7_
          have NB318_293 := n8_
          have HB := n9_
          clear n0_ n1_ n2_ n3_ n4_ n5_ n6_ n7_ n8_ n9_
          have hHeld : w43.cell? ⟨gb293, 0, none⟩ = some (.int .i64 x294000_2) ∧ w43.cell? ⟨gb293, 1, none⟩ = some (.int .i64 x294001_2) ∧ w43.cell? ⟨gb293, 2, none⟩ = some (.int .i64 x294002_2) ∧ w43.cell? ⟨gb293, 3, none⟩ = some (.int .i64 x294003_2) ∧ w43.cell? ⟨gb293, 4, none⟩ = some (.int .i64 x294004_2) := hS_
          refine norm_ (a' := ?_) ?_ ?_
          rotate_left
          ·simp only [putAll, Act.put, List.setIfInBounds_toArray, List.set_cons_zero, List.set_cons_succ]
           rfl
          refine one_ (i := 8) (N := none) #[true, true, true, true, true, true, true, true, true, false] rfl rfl (one_of HT_.out (by kernel_rfl)) (by decide) (fun K hK => ?_)
          have hs44 : w43.cell? ⟨gb318, 0, none⟩ = some (.int .i64 0) := (blk_cell BK318.out 0).trans rfl
          have hfs44 := blk_frozen BK318.out 0
          have hns44_0 := NB287_318.out
          have hns44_1 := NB293_318.out
          have hms44_0 := NB318_287.out
          have hms44_1 := NB318_293.out
          have hs45 : w43.cell? ⟨gb318, 1, none⟩ = some (.int .i64 0) := (blk_cell BK318.out 1).trans rfl
          have hfs45 := blk_frozen BK318.out 1
          have hns45_0 := NB287_318.out
          have hns45_1 := NB293_318.out
          have hms45_0 := NB318_287.out
          have hms45_1 := NB318_293.out
          have hs46 : w43.cell? ⟨gb318, 2, none⟩ = some (.int .i64 0) := (blk_cell BK318.out 2).trans rfl
          have hfs46 := blk_frozen BK318.out 2
          have hns46_0 := NB287_318.out
          have hns46_1 := NB293_318.out
          have hms46_0 := NB318_287.out
          have hms46_1 := NB318_293.out
          have hs47 : w43.cell? ⟨gb318, 3, none⟩ = some (.int .i64 0) := (blk_cell BK318.out 3).trans rfl
          have hfs47 := blk_frozen BK318.out 3
          have hns47_0 := NB287_318.out
          have hns47_1 := NB293_318.out
          have hms47_0 := NB318_287.out
          have hms47_1 := NB318_293.out
          have hs48 : w43.cell? ⟨gb318, 4, none⟩ = some (.int .i64 0) := (blk_cell BK318.out 4).trans rfl
          have hfs48 := blk_frozen BK318.out 4
          have hns48_0 := NB287_318.out
          have hns48_1 := NB293_318.out
          have hms48_0 := NB318_287.out
          have hms48_1 := NB318_293.out
          refine skip_ (w1 := ?_) (by rfl) rfl ?_ ?_
          rotate_left
          ·go_simp
           rfl
          refine hK.out _ _ ⟨((cell_far (p := ⟨gb318, _, none⟩) NB293_318.out _).trans (((cell_far (p := ⟨gb318, _, none⟩) NB293_318.out _).trans (((cell_far (p := ⟨gb318, _, none⟩) NB293_318.out _).trans (((cell_far (p := ⟨gb318, _, none⟩) NB293_318.out _).trans (((cell_far (p := ⟨gb318, _, none⟩) NB293_318.out _).trans (hHeld.1)))))))))), ((cell_far (p := ⟨gb318, _, none⟩) NB293_318.out _).trans (((cell_far (p := ⟨gb318, _, none⟩) NB293_318.out _).trans (((cell_far (p := ⟨gb318, _, none⟩) NB293_318.out _).trans (((cell_far (p := ⟨gb318, _, none⟩) NB293_318.out _).trans (((cell_far (p := ⟨gb318, _, none⟩) NB293_318.out _).trans (hHeld.2.1)))))))))), ((cell_far (p := ⟨gb318, _, none⟩) NB293_318.out _).trans (((cell_far (p := ⟨gb318, _, none⟩) NB293_318.out _).trans (((cell_far (p := ⟨gb318, _, none⟩) NB293_318.out _).trans (((cell_far (p := ⟨gb318, _, none⟩) NB293_318.out _).trans (((cell_far (p := ⟨gb318, _, none⟩) NB293_318.out _).trans (hHeld.2.2.1)))))))))), ((cell_far (p := ⟨gb318, _, none⟩) NB293_318.out _).trans (((cell_far (p := ⟨gb318, _, none⟩) NB293_318.out _).trans (((cell_far (p := ⟨gb318, _, none⟩) NB293_318.out _).trans (((cell_far (p := ⟨gb318, _, none⟩) NB293_318.out _).trans (((cell_far (p := ⟨gb318, _, none⟩) NB293_318.out _).trans (hHeld.2.2.2.1)))))))))), ((cell_far (p := ⟨gb318, _, none⟩) NB293_318.out _).trans (((cell_far (p := ⟨gb318, _, none⟩) NB293_318.out _).trans (((cell_far (p := ⟨gb318, _, none⟩) NB293_318.out _).trans (((cell_far (p := ⟨gb318, _, none⟩) NB293_318.out _).trans (((cell_far (p := ⟨gb318, _, none⟩) NB293_318.out _).trans (hHeld.2.2.2.2))))))))))⟩ (fun hHeld => ?_)
          clear hK K
          refine pu 9 HT_ ?_
          refine done_ (done_of HT_.out (by kernel_rfl)) ?_
          have hnb49 := NB318_287.out
          have hnc49 := NB287_318.out
          have hnb50 := NB318_293.out
          have hnc50 := NB293_318.out
          obtain ⟨hcz51_0, hcz51_1, hcz51_2, hcz51_3, hcz51_4, hfz51_0, hfz51_1, hfz51_2, hfz51_3, hfz51_4⟩ := cel5 BK318
          have hnb52 := NB293_287.out
          have hnc52 := NB287_293.out
          obtain ⟨hcz53_0, hcz53_1, hcz53_2, hcz53_3, hcz53_4, hfz53_0, hfz53_1, hfz53_2, hfz53_3, hfz53_4⟩ := cel5 BK293
          try go_wp2
          go_roundg k2
          case measure => have := HJ5.out; have := HK2.out; omega
          case rel => exact ⟨(wrap64 (x12_2 + 1)), (x288000_2), (x288001_2), (x288002_2), (x288003_2), (x288004_2), (t312), (t313), (t314), (t315), (t316), rs, H', ⟨by have := HJ5.out; have := HK2.out; omega⟩, ⟨bp BK287⟩, ⟨bp BK293⟩, ⟨bl HB⟩⟩
         ·replace c37 := Bool.eq_false_iff.mpr c37
          subst c37
          rw [nf] at H
          simp only [Option.some.injEq, Prod.mk.injEq] at H
          obtain ⟨rfl, rfl, rfl, rfl, rfl, rfl⟩ := H
          try go_wp2_with (first | ((with_reducible refine gate_callee (f := 24) rfl ?_); refine gL (some 64) Try.func24 #[.slice A0 l0.length c0, .int .i64 a1, .int .i64 a2, .int .i64 x12_2] ?_; (with_reducible refine (spec_PathEnd.calls k2 _ _ l0 a1 a2 x12_2 t305 t306 _ ?side1 ?side2 A33.out).mono ?_); (case side1 => repeat (first | exact (Kd.C_below HR0.out HB.out) | (with_reducible refine Kd.C_alloc ?_ _) | (with_reducible refine Kd.C_drewN ?_ _) | (with_reducible refine Kd.C_drew ?_))); (case side2 => exact HC0.out); rintro e w54 ⟨rfl, hb⟩; refine ⟨_, rfl, ?_⟩; replace BK287 := cb BK287 hb; replace BK293 := cb BK293 hb; replace HB := bs HB hb; (try clear hb); (try clear hb2); (try clear hk); (try clear hi)))
          have n0_ := Aside0.mk (blk_drew BK287.out)
          have n1_ := Aside0.mk (blk_drew BK293.out)
          have n2_ := Aside0.mk (below_drew1 HB.out)
          clear BK287
          clear BK293
          clear HB
          have BK287 := n0_
          have BK293 := n1_
          have HB := n2_
          clear n0_ n1_ n2_
          refine start_ (n := 10) (S := fun w' => w'.cell? ⟨gb293, 0, none⟩ = some (.int .i64 x294000_2) ∧ w'.cell? ⟨gb293, 1, none⟩ = some (.int .i64 x294001_2) ∧ w'.cell? ⟨gb293, 2, none⟩ = some (.int .i64 x294002_2) ∧ w'.cell? ⟨gb293, 3, none⟩ = some (.int .i64 x294003_2) ∧ w'.cell? ⟨gb293, 4, none⟩ = some (.int .i64 x294004_2)) (ds := []) #[false, false, false, false, false, false, false, false, false, false] (by kernel_rfl) rfl rfl ⟨(blk_cell BK293.out 0).trans rfl, (blk_cell BK293.out 1).trans rfl, (blk_cell BK293.out 2).trans rfl, (blk_cell BK293.out 3).trans rfl, (blk_cell BK293.out 4).trans rfl⟩ (fun hHeld => ?_); refine with_tabW spec_PathSumAmplitude.tab10 spec_PathSumAmplitude.bits10 (fun HT_ HW_ => ?_)
          generalize w54.drew = w55 at BK287 BK293 HB hHeld ⊢
          refine pu 1 HT_ ?_
          refine take_ (i := 0) (N := some 71) (v := ?_) (a' := ?_) #[true, true, false, false, false, false, false, false, false, false] rfl rfl (take_ofW HT_.out HW_.out (by kernel_rfl)) (fun _ _ _ h => h) (Or.inl ⟨by rfl, ?_⟩) hHeld ?_ ?_
          rotate_left
          ·rintro w' ⟨s0, s1, s2, s3, s4⟩
           go_simp
           with_reducible rfl
          rotate_left
          ·simp only [Act.put, List.setIfInBounds_toArray, List.set_cons_zero, List.set_cons_succ, i64_w, i32_w]
           rfl
          refine join_ (σ := Nat) 2 #[true, true, true, true, true, true, true, true, false, false] (fun s_ => [(73, .agg #[.int .i64 t307, .int .i64 t308, .int .i64 t309, .int .i64 t310, .int .i64 t311]), (74, .tuple #[.agg #[.int .i64 t312, .int .i64 t313, .int .i64 t314, .int .i64 t315, .int .i64 t316], .bool false]), (15, .pointer (some ⟨s_, 0, none⟩)), (70, .tuple #[.agg #[.int .i64 t312, .int .i64 t313, .int .i64 t314, .int .i64 t315, .int .i64 t316], .bool false]), (75, .agg #[.int .i64 t312, .int .i64 t313, .int .i64 t314, .int .i64 t315, .int .i64 t316]), (76, .bool false)]) (fun s_ w' => (w'.cell? ⟨gb293, 0, none⟩ = some (.int .i64 x294000_2) ∧ w'.cell? ⟨gb293, 1, none⟩ = some (.int .i64 x294001_2) ∧ w'.cell? ⟨gb293, 2, none⟩ = some (.int .i64 x294002_2) ∧ w'.cell? ⟨gb293, 3, none⟩ = some (.int .i64 x294003_2) ∧ w'.cell? ⟨gb293, 4, none⟩ = some (.int .i64 x294004_2)) ∧ (w'.heap[gb287]? = some (.cells #[.int .i64 x288000_2, .int .i64 x288001_2, .int .i64 x288002_2, .int .i64 x288003_2, .int .i64 x288004_2] 27 (0, 0))) ∧ (w'.heap[gb293]? = some (.cells #[.int .i64 x294000_2, .int .i64 x294001_2, .int .i64 x294002_2, .int .i64 x294003_2, .int .i64 x294004_2] 27 (0, 0))) ∧ (w'.heap[s_]? = some (.cells #[.int .i64 0, .int .i64 0, .int .i64 0, .int .i64 0, .int .i64 0] 27 (0, 0))) ∧ (w.heap.size ≤ s_) ∧ (w.heap.size ≤ s_) ∧ (gb287 ≠ s_) ∧ (s_ ≠ gb287) ∧ (gb293 ≠ s_) ∧ (s_ ≠ gb293) ∧ (Below w.heap.size w w')) ?_ ?_
          rotate_left
          ·intro hCont
           refine two_ (i := 2) (j := 7) (Ni := some 73) (Nj := some 15) #[true, true, true, false, false, false, false, false, false, false] #[true, true, false, false, false, false, false, true, false, false] rfl rfl rfl rfl (two_of HT_.out (by kernel_rfl)) (by decide) (by decide) (fun K hK => ?_) (fun K hK => ?_)
           ·skip
            refine goes_ Try.func26 (by kernel_rfl) rfl #[.int .i64 t306] (by rfl) rfl rfl (by (try simp only [List.map_toArray, List.map_cons, List.map_nil]); first | done | rfl | (simp only [List.length_drop, List.length_take]; rfl)) ?_
            with_reducible refine (spec_PhaseFactor.calls t306 t307 t308 t309 t310 t311 _ A35.out).mono ?_
            rintro e w56 ⟨rfl, hb⟩
            refine ⟨_, rfl, ?_⟩
            have n0_ := cb BK287 hb
            have n1_ := cb BK293 hb
            have n2_ := bs HB hb
            clear BK287
            clear BK293
            clear HB
            have BK287 := n0_
            have BK293 := n1_
            have HB := n2_
            clear n0_ n1_ n2_
            (try clear hb)
            (try clear hb2)
            (try clear hk)
            (try clear hi)
            refine hK.out _ _ ⟨(blk_cell BK293.out 0).trans rfl, (blk_cell BK293.out 1).trans rfl, (blk_cell BK293.out 2).trans rfl, (blk_cell BK293.out 3).trans rfl, (blk_cell BK293.out 4).trans rfl⟩ (fun hHeld => ?_)
            clear hK K
            refine norm_ (a' := ?_) ?_ ?_
            rotate_left
            ·show Act.put _ (some 73) _ = _
             simp only [Act.put, List.setIfInBounds_toArray, List.set_cons_zero, List.set_cons_succ, i64_w, i32_w]
             rfl
            refine two_ (i := 3) (j := 7) (Ni := some 74) (Nj := some 15) #[true, true, true, true, false, false, false, false, false, false] #[true, true, true, false, false, false, false, true, false, false] rfl rfl rfl rfl (two_of HT_.out (by kernel_rfl)) (by decide) (by decide) (fun K hK => ?_) (fun K hK => ?_)
            ·skip
             refine goes_ Try.func25 (by kernel_rfl) rfl #[.agg #[.int .i64 x294000_2, .int .i64 x294001_2, .int .i64 x294002_2, .int .i64 x294003_2, .int .i64 x294004_2], .agg #[.int .i64 t307, .int .i64 t308, .int .i64 t309, .int .i64 t310, .int .i64 t311]] (by rfl) rfl rfl (by (try simp only [List.map_toArray, List.map_cons, List.map_nil]); first | done | rfl | (simp only [List.length_drop, List.length_take]; rfl)) ?_
             with_reducible refine (spec_AddDOmega.calls k2 x294000_2 x294001_2 x294002_2 x294003_2 x294004_2 t307 t308 t309 t310 t311 t312 t313 t314 t315 t316 false _ A36.out).mono ?_
             rintro e w57 ⟨rfl, hb⟩
             refine ⟨_, rfl, ?_⟩
             have n0_ := cb BK287 hb
             have n1_ := cb BK293 hb
             have n2_ := bs HB hb
             clear BK287
             clear BK293
             clear HB
             have BK287 := n0_
             have BK293 := n1_
             have HB := n2_
             clear n0_ n1_ n2_
             (try clear hb)
             (try clear hb2)
             (try clear hk)
             (try clear hi)
             refine hK.out _ _ ⟨(blk_cell BK293.out 0).trans rfl, (blk_cell BK293.out 1).trans rfl, (blk_cell BK293.out 2).trans rfl, (blk_cell BK293.out 3).trans rfl, (blk_cell BK293.out 4).trans rfl⟩ (fun hHeld => ?_)
             clear hK K
             refine norm_ (a' := ?_) ?_ ?_
             rotate_left
             ·show Act.put _ (some 74) _ = _
              simp only [Act.put, List.setIfInBounds_toArray, List.set_cons_zero, List.set_cons_succ, i64_w, i32_w]
              rfl
             refine pu 4 HT_ ?_
             refine pu 5 HT_ ?_
             refine pu 6 HT_ ?_
             refine one_ (i := 7) (N := some 15) #[true, true, true, true, true, true, true, true, false, false] rfl rfl (one_of HT_.out (by kernel_rfl)) (by decide) (fun K hK => ?_)
             refine box_step ?hg (N := 15) ?hd (cs := #[.int .i64 0, .int .i64 0, .int .i64 0, .int .i64 0, .int .i64 0]) (t := 27) ?hr ?_; (case hd => rfl); (case hg => rfl); (case hr => first | (go_simp; done) | (go_simp; rfl))
             intro gb318 hg w58 hbox hb
             have n0_ := cb BK287 hb
             have n1_ := cb BK293 hb
             have n2_ := bs HB hb
             have n3_ := Aside0.mk hbox
             have n4_ := sz hg HB
             have n5_ := sz hg HB
             have n6_ := nl hg BK287
             have n7_ := ng hg BK287
             have n8_ := nl hg BK293
             have n9_ := ng hg BK293
             clear BK287
             clear BK293
             clear HB
             have BK287 := n0_
             have BK293 := n1_
             have HB := n2_
             have BK318 := n3_
             have GW318 := n4_
             have GE318 := n5_
             have NB287_318 := n6_
             have NB318_287 := n7_
             have NB293_318 := n8_
             have NB318_293 := n9_
             clear n0_ n1_ n2_ n3_ n4_ n5_ n6_ n7_ n8_ n9_
             clear hb hbox hg
             refine hK.out _ _ ⟨(blk_cell BK293.out 0).trans rfl, (blk_cell BK293.out 1).trans rfl, (blk_cell BK293.out 2).trans rfl, (blk_cell BK293.out 3).trans rfl, (blk_cell BK293.out 4).trans rfl⟩ (fun hHeld => ?_)
             clear hK K
             refine norm_ (a' := ?_) ?_ ?_
             rotate_left
             ·show Act.put _ (some 15) _ = _
              simp only [Act.put, List.setIfInBounds_toArray, List.set_cons_zero, List.set_cons_succ, i64_w, i32_w]
              rfl
             exact norm_ (by simp only [putAll, Act.put, List.setIfInBounds_toArray, List.set_cons_zero, List.set_cons_succ]) (hCont (gb318) _ ⟨hHeld, (pl BK287), (pl BK293), (pl BK318), GW318.out, GE318.out, NB287_318.out, NB318_287.out, NB293_318.out, NB318_293.out, (bl HB)⟩)
            ·skip
             refine box_step ?hg (N := 15) ?hd (cs := #[.int .i64 0, .int .i64 0, .int .i64 0, .int .i64 0, .int .i64 0]) (t := 27) ?hr ?_; (case hd => rfl); (case hg => rfl); (case hr => first | (go_simp; done) | (go_simp; rfl))
             intro gb318 hg w57 hbox hb
             have n0_ := cb BK287 hb
             have n1_ := cb BK293 hb
             have n2_ := bs HB hb
             have n3_ := Aside0.mk hbox
             have n4_ := sz hg HB
             have n5_ := sz hg HB
             have n6_ := nl hg BK287
             have n7_ := ng hg BK287
             have n8_ := nl hg BK293
             have n9_ := ng hg BK293
             clear BK287
             clear BK293
             clear HB
             have BK287 := n0_
             have BK293 := n1_
             have HB := n2_
             have BK318 := n3_
             have GW318 := n4_
             have GE318 := n5_
             have NB287_318 := n6_
             have NB318_287 := n7_
             have NB293_318 := n8_
             have NB318_293 := n9_
             clear n0_ n1_ n2_ n3_ n4_ n5_ n6_ n7_ n8_ n9_
             clear hb hbox hg
             refine hK.out _ _ ⟨(blk_cell BK293.out 0).trans rfl, (blk_cell BK293.out 1).trans rfl, (blk_cell BK293.out 2).trans rfl, (blk_cell BK293.out 3).trans rfl, (blk_cell BK293.out 4).trans rfl⟩ (fun hHeld => ?_)
             clear hK K
             refine norm_ (a' := ?_) ?_ ?_
             rotate_left
             ·show Act.put _ (some 15) _ = _
              simp only [Act.put, List.setIfInBounds_toArray, List.set_cons_zero, List.set_cons_succ, i64_w, i32_w]
              rfl
             refine one_ (i := 3) (N := some 74) #[true, true, true, true, false, false, false, true, false, false] rfl rfl (one_of HT_.out (by kernel_rfl)) (by decide) (fun K hK => ?_)
             refine goes_ Try.func25 (by kernel_rfl) rfl #[.agg #[.int .i64 x294000_2, .int .i64 x294001_2, .int .i64 x294002_2, .int .i64 x294003_2, .int .i64 x294004_2], .agg #[.int .i64 t307, .int .i64 t308, .int .i64 t309, .int .i64 t310, .int .i64 t311]] (by rfl) rfl rfl (by (try simp only [List.map_toArray, List.map_cons, List.map_nil]); first | done | rfl | (simp only [List.length_drop, List.length_take]; rfl)) ?_
             with_reducible refine (spec_AddDOmega.calls k2 x294000_2 x294001_2 x294002_2 x294003_2 x294004_2 t307 t308 t309 t310 t311 t312 t313 t314 t315 t316 false _ A36.out).mono ?_
             rintro e w58 ⟨rfl, hb⟩
             refine ⟨_, rfl, ?_⟩
             have n0_ := cb BK287 hb
             have n1_ := cb BK293 hb
             have n2_ := cb BK318 hb
             have n3_ := bs HB hb
             clear BK287
             clear BK293
             clear BK318
             clear HB
             have BK287 := n0_
             have BK293 := n1_
             have BK318 := n2_
             have HB := n3_
             clear n0_ n1_ n2_ n3_
             (try clear hb)
             (try clear hb2)
             (try clear hk)
             (try clear hi)
             refine hK.out _ _ ⟨(blk_cell BK293.out 0).trans rfl, (blk_cell BK293.out 1).trans rfl, (blk_cell BK293.out 2).trans rfl, (blk_cell BK293.out 3).trans rfl, (blk_cell BK293.out 4).trans rfl⟩ (fun hHeld => ?_)
             clear hK K
             refine norm_ (a' := ?_) ?_ ?_
             rotate_left
             ·show Act.put _ (some 74) _ = _
              simp only [Act.put, List.setIfInBounds_toArray, List.set_cons_zero, List.set_cons_succ, i64_w, i32_w]
              rfl
             refine pu 4 HT_ ?_
             refine pu 5 HT_ ?_
             refine pu 6 HT_ ?_
             exact norm_ (by simp only [putAll, Act.put, List.setIfInBounds_toArray, List.set_cons_zero, List.set_cons_succ]) (hCont (gb318) _ ⟨hHeld, (pl BK287), (pl BK293), (pl BK318), GW318.out, GE318.out, NB287_318.out, NB318_287.out, NB293_318.out, NB318_293.out, (bl HB)⟩)
           ·skip
            refine box_step ?hg (N := 15) ?hd (cs := #[.int .i64 0, .int .i64 0, .int .i64 0, .int .i64 0, .int .i64 0]) (t := 27) ?hr ?_; (case hd => rfl); (case hg => rfl); (case hr => first | (go_simp; done) | (go_simp; rfl))
            intro gb318 hg w56 hbox hb
            have n0_ := cb BK287 hb
            have n1_ := cb BK293 hb
            have n2_ := bs HB hb
            have n3_ := Aside0.mk hbox
            have n4_ := sz hg HB
            have n5_ := sz hg HB
            have n6_ := nl hg BK287
            have n7_ := ng hg BK287
            have n8_ := nl hg BK293
            have n9_ := ng hg BK293
            clear BK287
            clear BK293
            clear HB
            have BK287 := n0_
            have BK293 := n1_
            have HB := n2_
            have BK318 := n3_
            have GW318 := n4_
            have GE318 := n5_
            have NB287_318 := n6_
            have NB318_287 := n7_
            have NB293_318 := n8_
            have NB318_293 := n9_
            clear n0_ n1_ n2_ n3_ n4_ n5_ n6_ n7_ n8_ n9_
            clear hb hbox hg
            refine hK.out _ _ ⟨(blk_cell BK293.out 0).trans rfl, (blk_cell BK293.out 1).trans rfl, (blk_cell BK293.out 2).trans rfl, (blk_cell BK293.out 3).trans rfl, (blk_cell BK293.out 4).trans rfl⟩ (fun hHeld => ?_)
            clear hK K
            refine norm_ (a' := ?_) ?_ ?_
            rotate_left
            ·show Act.put _ (some 15) _ = _
             simp only [Act.put, List.setIfInBounds_toArray, List.set_cons_zero, List.set_cons_succ, i64_w, i32_w]
             rfl
            refine one_ (i := 2) (N := some 73) #[true, true, true, false, false, false, false, true, false, false] rfl rfl (one_of HT_.out (by kernel_rfl)) (by decide) (fun K hK => ?_)
            refine goes_ Try.func26 (by kernel_rfl) rfl #[.int .i64 t306] (by rfl) rfl rfl (by (try simp only [List.map_toArray, List.map_cons, List.map_nil]); first | done | rfl | (simp only [List.length_drop, List.length_take]; rfl)) ?_
            with_reducible refine (spec_PhaseFactor.calls t306 t307 t308 t309 t310 t311 _ A35.out).mono ?_
            rintro e w57 ⟨rfl, hb⟩
            refine ⟨_, rfl, ?_⟩
            have n0_ := cb BK287 hb
            have n1_ := cb BK293 hb
            have n2_ := cb BK318 hb
            have n3_ := bs HB hb
            clear BK287
            clear BK293
            clear BK318
            clear HB
            have BK287 := n0_
            have BK293 := n1_
            have BK318 := n2_
            have HB := n3_
            clear n0_ n1_ n2_ n3_
            (try clear hb)
            (try clear hb2)
            (try clear hk)
            (try clear hi)
            refine hK.out _ _ ⟨(blk_cell BK293.out 0).trans rfl, (blk_cell BK293.out 1).trans rfl, (blk_cell BK293.out 2).trans rfl, (blk_cell BK293.out 3).trans rfl, (blk_cell BK293.out 4).trans rfl⟩ (fun hHeld => ?_)
            clear hK K
            refine norm_ (a' := ?_) ?_ ?_
            rotate_left
            ·show Act.put _ (some 73) _ = _
             simp only [Act.put, List.setIfInBounds_toArray, List.set_cons_zero, List.set_cons_succ, i64_w, i32_w]
             rfl
            refine one_ (i := 3) (N := some 74) #[true, true, true, true, false, false, false, true, false, false] rfl rfl (one_of HT_.out (by kernel_rfl)) (by decide) (fun K hK => ?_)
            refine goes_ Try.func25 (by kernel_rfl) rfl #[.agg #[.int .i64 x294000_2, .int .i64 x294001_2, .int .i64 x294002_2, .int .i64 x294003_2, .int .i64 x294004_2], .agg #[.int .i64 t307, .int .i64 t308, .int .i64 t309, .int .i64 t310, .int .i64 t311]] (by rfl) rfl rfl (by (try simp only [List.map_toArray, List.map_cons, List.map_nil]); first | done | rfl | (simp only [List.length_drop, List.length_take]; rfl)) ?_
            with_reducible refine (spec_AddDOmega.calls k2 x294000_2 x294001_2 x294002_2 x294003_2 x294004_2 t307 t308 t309 t310 t311 t312 t313 t314 t315 t316 false _ A36.out).mono ?_
            rintro e w58 ⟨rfl, hb⟩
            refine ⟨_, rfl, ?_⟩
            have n0_ := cb BK287 hb
            have n1_ := cb BK293 hb
            have n2_ := cb BK318 hb
            have n3_ := bs HB hb
            clear BK287
            clear BK293
            clear BK318
            clear HB
            have BK287 := n0_
            have BK293 := n1_
            have BK318 := n2_
            have HB := n3_
            clear n0_ n1_ n2_ n3_
            (try clear hb)
            (try clear hb2)
            (try clear hk)
            (try clear hi)
            refine hK.out _ _ ⟨(blk_cell BK293.out 0).trans rfl, (blk_cell BK293.out 1).trans rfl, (blk_cell BK293.out 2).trans rfl, (blk_cell BK293.out 3).trans rfl, (blk_cell BK293.out 4).trans rfl⟩ (fun hHeld => ?_)
            clear hK K
            refine norm_ (a' := ?_) ?_ ?_
            rotate_left
            ·show Act.put _ (some 74) _ = _
             simp only [Act.put, List.setIfInBounds_toArray, List.set_cons_zero, List.set_cons_succ, i64_w, i32_w]
             rfl
            refine pu 4 HT_ ?_
            refine pu 5 HT_ ?_
            refine pu 6 HT_ ?_
            exact norm_ (by simp only [putAll, Act.put, List.setIfInBounds_toArray, List.set_cons_zero, List.set_cons_succ]) (hCont (gb318) _ ⟨hHeld, (pl BK287), (pl BK293), (pl BK318), GW318.out, GE318.out, NB287_318.out, NB318_287.out, NB293_318.out, NB318_293.out, (bl HB)⟩)
          rintro gb318 w59 ⟨hS_, h0_, h1_, h2_, h3_, h4_, h5_, h6_, h7_, h8_, h9_⟩
          have n0_ : Aside0 (w59.heap[gb287]? = some (.cells #[.int .i64 x288000_2, .int .i64 x288001_2, .int .i64 x288002_2, .int .i64 x288003_2, .int .i64 x288004_2] 27 (0, 0))) := ⟨h0_⟩
          have n1_ : Aside0 (w59.heap[gb293]? = some (.cells #[.int .i64 x294000_2, .int .i64 x294001_2, .int .i64 x294002_2, .int .i64 x294003_2, .int .i64 x294004_2] 27 (0, 0))) := ⟨h1_⟩
          have n2_ : Aside0 (w59.heap[gb318]? = some (.cells #[.int .i64 0, .int .i64 0, .int .i64 0, .int .i64 0, .int .i64 0] 27 (0, 0))) := ⟨h2_⟩
          have n3_ : Aside0 (w.heap.size ≤ gb318) := ⟨h3_⟩
          have n4_ : Aside0 (w.heap.size ≤ gb318) := ⟨h4_⟩
          have n5_ : Aside0 (gb287 ≠ gb318) := ⟨h5_⟩
          have n6_ : Aside0 (gb318 ≠ gb287) := ⟨h6_⟩
          have n7_ : Aside0 (gb293 ≠ gb318) := ⟨h7_⟩
          have n8_ : Aside0 (gb318 ≠ gb293) := ⟨h8_⟩
          have n9_ : Aside0 (Below w.heap.size w w59) := ⟨h9_⟩
          clear BK287
          clear BK293
          clear HB
          clear h0_ h1_ h2_ h3_ h4_ h5_ h6_ h7_ h8_ h9_
          have BK287 := n0_
          have BK293 := n1_
          have BK318 := n2_
          have GW318 := n3_
          have GE318 := n4_
          have NB287_318 := n5_
          have NB318_287 := n6_
          have NB293_318 := n7_
          have NB318_293 := n8_
          have HB := n9_
          clear n0_ n1_ n2_ n3_ n4_ n5_ n6_ n7_ n8_ n9_
          have hHeld : w59.cell? ⟨gb293, 0, none⟩ = some (.int .i64 x294000_2) ∧ w59.cell? ⟨gb293, 1, none⟩ = some (.int .i64 x294001_2) ∧ w59.cell? ⟨gb293, 2, none⟩ = some (.int .i64 x294002_2) ∧ w59.cell? ⟨gb293, 3, none⟩ = some (.int .i64 x294003_2) ∧ w59.cell? ⟨gb293, 4, none⟩ = some (.int .i64 x294004_2) := hS_
          refine norm_ (a' := ?_) ?_ ?_
          rotate_left
          ·simp only [putAll, Act.put, List.setIfInBounds_toArray, List.set_cons_zero, List.set_cons_succ]
           rfl
          refine one_ (i := 8) (N := none) #[true, true, true, true, true, true, true, true, true, false] rfl rfl (one_of HT_.out (by kernel_rfl)) (by decide) (fun K hK => ?_)
          have hs60 : w59.cell? ⟨gb318, 0, none⟩ = some (.int .i64 0) := (blk_cell BK318.out 0).trans rfl
          have hfs60 := blk_frozen BK318.out 0
          have hns60_0 := NB287_318.out
          have hns60_1 := NB293_318.out
          have hms60_0 := NB318_287.out
          have hms60_1 := NB318_293.out
          have hs61 : w59.cell? ⟨gb318, 1, none⟩ = some (.int .i64 0) := (blk_cell BK318.out 1).trans rfl
          have hfs61 := blk_frozen BK318.out 1
          have hns61_0 := NB287_318.out
          have hns61_1 := NB293_318.out
          have hms61_0 := NB318_287.out
          have hms61_1 := NB318_293.out
          have hs62 : w59.cell? ⟨gb318, 2, none⟩ = some (.int .i64 0) := (blk_cell BK318.out 2).trans rfl
          have hfs62 := blk_frozen BK318.out 2
          have hns62_0 := NB287_318.out
          have hns62_1 := NB293_318.out
          have hms62_0 := NB318_287.out
          have hms62_1 := NB318_293.out
          have hs63 : w59.cell? ⟨gb318, 3, none⟩ = some (.int .i64 0) := (blk_cell BK318.out 3).trans rfl
          have hfs63 := blk_frozen BK318.out 3
          have hns63_0 := NB287_318.out
          have hns63_1 := NB293_318.out
          have hms63_0 := NB318_287.out
          have hms63_1 := NB318_293.out
          have hs64 : w59.cell? ⟨gb318, 4, none⟩ = some (.int .i64 0) := (blk_cell BK318.out 4).trans rfl
          have hfs64 := blk_frozen BK318.out 4
          have hns64_0 := NB287_318.out
          have hns64_1 := NB293_318.out
          have hms64_0 := NB318_287.out
          have hms64_1 := NB318_293.out
          refine skip_ (w1 := ?_) (by rfl) rfl ?_ ?_
          rotate_left
          ·go_simp
           rfl
          refine hK.out _ _ ⟨((cell_far (p := ⟨gb318, _, none⟩) NB293_318.out _).trans (((cell_far (p := ⟨gb318, _, none⟩) NB293_318.out _).trans (((cell_far (p := ⟨gb318, _, none⟩) NB293_318.out _).trans (((cell_far (p := ⟨gb318, _, none⟩) NB293_318.out _).trans (((cell_far (p := ⟨gb318, _, none⟩) NB293_318.out _).trans (hHeld.1)))))))))), ((cell_far (p := ⟨gb318, _, none⟩) NB293_318.out _).trans (((cell_far (p := ⟨gb318, _, none⟩) NB293_318.out _).trans (((cell_far (p := ⟨gb318, _, none⟩) NB293_318.out _).trans (((cell_far (p := ⟨gb318, _, none⟩) NB293_318.out _).trans (((cell_far (p := ⟨gb318, _, none⟩) NB293_318.out _).trans (hHeld.2.1)))))))))), ((cell_far (p := ⟨gb318, _, none⟩) NB293_318.out _).trans (((cell_far (p := ⟨gb318, _, none⟩) NB293_318.out _).trans (((cell_far (p := ⟨gb318, _, none⟩) NB293_318.out _).trans (((cell_far (p := ⟨gb318, _, none⟩) NB293_318.out _).trans (((cell_far (p := ⟨gb318, _, none⟩) NB293_318.out _).trans (hHeld.2.2.1)))))))))), ((cell_far (p := ⟨gb318, _, none⟩) NB293_318.out _).trans (((cell_far (p := ⟨gb318, _, none⟩) NB293_318.out _).trans (((cell_far (p := ⟨gb318, _, none⟩) NB293_318.out _).trans (((cell_far (p := ⟨gb318, _, none⟩) NB293_318.out _).trans (((cell_far (p := ⟨gb318, _, none⟩) NB293_318.out _).trans (hHeld.2.2.2.1)))))))))), ((cell_far (p := ⟨gb318, _, none⟩) NB293_318.out _).trans (((cell_far (p := ⟨gb318, _, none⟩) NB293_318.out _).trans (((cell_far (p := ⟨gb318, _, none⟩) NB293_318.out _).trans (((cell_far (p := ⟨gb318, _, none⟩) NB293_318.out _).trans (((cell_far (p := ⟨gb318, _, none⟩) NB293_318.out _).trans (hHeld.2.2.2.2))))))))))⟩ (fun hHeld => ?_)
          clear hK K
          refine pu 9 HT_ ?_
          refine done_ (done_of HT_.out (by kernel_rfl)) ?_
          have hnb65 := NB287_293.out
          have hnc65 := NB293_287.out
          have hnb66 := NB287_318.out
          have hnc66 := NB318_287.out
          obtain ⟨hcz67_0, hcz67_1, hcz67_2, hcz67_3, hcz67_4, hfz67_0, hfz67_1, hfz67_2, hfz67_3, hfz67_4⟩ := cel5 BK287
          try go_wp2
          refine bodyPost_ret (results_ct rfl _ _ gb287 27 #[.int .i64 0, .int .i64 0, .int .i64 0, .int .i64 0, .int .i64 0] (0, 0) _ rfl (bp BK287) Try.underlying27 rfl (by kernel_rfl)) rfl ?_
          exact ⟨by first | rfl | (simp [errW_none, errW_some] <;> rfl) | (simp only [← hji29, ← hji31]; first | rfl | (simp [errW_none, errW_some] <;> rfl)) | (simp [*, errW_none, errW_some] <;> rfl), bl HB⟩
        ·rw [if_neg c34] at H
         have c34b0 : (t305 == a3) = false := beq_eq_false_iff_ne.mpr c34
         have c34b1 : (t305 != a3) = true := bne_iff_ne.mpr c34
         have H' := Aside0.mk H
         clear H
         go_wp2_with (first | ((with_reducible refine gate_callee (f := 24) rfl ?_); refine gL (some 64) Try.func24 #[.slice A0 l0.length c0, .int .i64 a1, .int .i64 a2, .int .i64 x12_2] ?_; (with_reducible refine (spec_PathEnd.calls k2 _ _ l0 a1 a2 x12_2 t305 t306 _ ?side1 ?side2 A33.out).mono ?_); (case side1 => repeat (first | exact (Kd.C_below HR0.out HB.out) | (with_reducible refine Kd.C_alloc ?_ _) | (with_reducible refine Kd.C_drewN ?_ _) | (with_reducible refine Kd.C_drew ?_))); (case side2 => exact HC0.out); rintro e w68 ⟨rfl, hb⟩; refine ⟨_, rfl, ?_⟩; replace BK287 := cb BK287 hb; replace BK293 := cb BK293 hb; replace HB := bs HB hb; (try clear hb); (try clear hb2); (try clear hk); (try clear hi)))
         go_roundg k2
         case measure => have := HJ5.out; have := HK2.out; omega
         case rel => exact ⟨(wrap64 (x12_2 + 1)), (x288000_2), (x288001_2), (x288002_2), (x288003_2), (x288004_2), (x294000_2), (x294001_2), (x294002_2), (x294003_2), (x294004_2), rs, H', ⟨by have := HJ5.out; have := HK2.out; omega⟩, ⟨pl BK287⟩, ⟨pl BK293⟩, ⟨bl HB⟩⟩
       ·rw [if_neg c32] at H
        have c32b0 : decide (x12_2 < (ji31)) = false := decide_eq_false c32
        clear c32
        replace H := Option.bind_eq_some_iff.mp H
        obtain ⟨⟨t294, t295, t296, t297, t298⟩, A690, H⟩ := H
        try dsimp only at H
        have A69 := Aside0.mk A690
        clear A690
        replace H := Option.bind_eq_some_iff.mp H
        obtain ⟨⟨t299, t300, t301, t302, t303, t304⟩, A700, H⟩ := H
        try dsimp only at H
        have A70 := Aside0.mk A700
        clear A700
        simp only [Option.some.injEq, Prod.mk.injEq] at H
        obtain ⟨rfl, rfl, rfl, rfl, rfl, rfl⟩ := H
        try go_wp2
        have n0_ := Aside0.mk (blk_drew BK287.out)
        have n1_ := Aside0.mk (blk_drew BK293.out)
        have n2_ := Aside0.mk (below_drew1 HB.out)
        clear BK287
        clear BK293
        clear HB
        have BK287 := n0_
        have BK293 := n1_
        have HB := n2_
        clear n0_ n1_ n2_
        refine start_ (n := 8) (S := fun w' => w'.cell? ⟨gb293, 0, none⟩ = some (.int .i64 x294000_2) ∧ w'.cell? ⟨gb293, 1, none⟩ = some (.int .i64 x294001_2) ∧ w'.cell? ⟨gb293, 2, none⟩ = some (.int .i64 x294002_2) ∧ w'.cell? ⟨gb293, 3, none⟩ = some (.int .i64 x294003_2) ∧ w'.cell? ⟨gb293, 4, none⟩ = some (.int .i64 x294004_2)) (ds := []) #[false, false, false, false, false, false, false, false] (by kernel_rfl) rfl rfl ⟨(blk_cell BK293.out 0).trans rfl, (blk_cell BK293.out 1).trans rfl, (blk_cell BK293.out 2).trans rfl, (blk_cell BK293.out 3).trans rfl, (blk_cell BK293.out 4).trans rfl⟩ (fun hHeld => ?_); refine with_tabW spec_PathSumAmplitude.tab14 spec_PathSumAmplitude.bits14 (fun HT_ HW_ => ?_)
        generalize wr.drew = w71 at BK287 BK293 HB hHeld ⊢
        refine pu 1 HT_ ?_
        refine take_ (i := 0) (N := some 81) (v := ?_) (a' := ?_) #[true, true, false, false, false, false, false, false] rfl rfl (take_ofW HT_.out HW_.out (by kernel_rfl)) (fun _ _ _ h => h) (Or.inl ⟨by rfl, ?_⟩) hHeld ?_ ?_
        rotate_left
        ·rintro w' ⟨s0, s1, s2, s3, s4⟩
         go_simp
         with_reducible rfl
        rotate_left
        ·simp only [Act.put, List.setIfInBounds_toArray, List.set_cons_zero, List.set_cons_succ, i64_w, i32_w]
         rfl
        refine one_ (i := 2) (N := some 83) #[true, true, true, false, false, false, false, false] rfl rfl (one_of HT_.out (by kernel_rfl)) (by decide) (fun K hK => ?_)
        refine goes_ Try.func28 (by kernel_rfl) rfl #[.int .i64 t288] (by rfl) rfl rfl (by (try simp only [List.map_toArray, List.map_cons, List.map_nil]); first | done | rfl | (simp only [List.length_drop, List.length_take]; rfl)) ?_
        with_reducible refine (spec_InvSqrt2Power.calls t288 t294 t295 t296 t297 t298 _ A69.out).mono ?_
        rintro e w72 ⟨rfl, hb⟩
        refine ⟨_, rfl, ?_⟩
        have n0_ := cb BK287 hb
        have n1_ := cb BK293 hb
        have n2_ := bs HB hb
        clear BK287
        clear BK293
        clear HB
        have BK287 := n0_
        have BK293 := n1_
        have HB := n2_
        clear n0_ n1_ n2_
        (try clear hb)
        (try clear hb2)
        (try clear hk)
        (try clear hi)
        refine hK.out _ _ ⟨(blk_cell BK293.out 0).trans rfl, (blk_cell BK293.out 1).trans rfl, (blk_cell BK293.out 2).trans rfl, (blk_cell BK293.out 3).trans rfl, (blk_cell BK293.out 4).trans rfl⟩ (fun hHeld => ?_)
        clear hK K
        refine norm_ (a' := ?_) ?_ ?_
        rotate_left
        ·show Act.put _ (some 83) _ = _
         simp only [Act.put, List.setIfInBounds_toArray, List.set_cons_zero, List.set_cons_succ, i64_w, i32_w]
         rfl
        refine one_ (i := 3) (N := some 84) #[true, true, true, true, false, false, false, false] rfl rfl (one_of HT_.out (by kernel_rfl)) (by decide) (fun K hK => ?_)
        refine goes_ Try.func27 (by kernel_rfl) rfl #[.agg #[.int .i64 x294000_2, .int .i64 x294001_2, .int .i64 x294002_2, .int .i64 x294003_2, .int .i64 x294004_2], .agg #[.int .i64 t294, .int .i64 t295, .int .i64 t296, .int .i64 t297, .int .i64 t298]] (by rfl) rfl rfl (by (try simp only [List.map_toArray, List.map_cons, List.map_nil]); first | done | rfl | (simp only [List.length_drop, List.length_take]; rfl)) ?_
        with_reducible refine (spec_MulDOmega.calls k2 x294000_2 x294001_2 x294002_2 x294003_2 x294004_2 t294 t295 t296 t297 t298 t299 t300 t301 t302 t303 t304 _ A70.out).mono ?_
        rintro e w73 ⟨rfl, hb⟩
        refine ⟨_, rfl, ?_⟩
        have n0_ := cb BK287 hb
        have n1_ := cb BK293 hb
        have n2_ := bs HB hb
        clear BK287
        clear BK293
        clear HB
        have BK287 := n0_
        have BK293 := n1_
        have HB := n2_
        clear n0_ n1_ n2_
        (try clear hb)
        (try clear hb2)
        (try clear hk)
        (try clear hi)
        refine hK.out _ _ ⟨(blk_cell BK293.out 0).trans rfl, (blk_cell BK293.out 1).trans rfl, (blk_cell BK293.out 2).trans rfl, (blk_cell BK293.out 3).trans rfl, (blk_cell BK293.out 4).trans rfl⟩ (fun hHeld => ?_)
        clear hK K
        refine norm_ (a' := ?_) ?_ ?_
        rotate_left
        ·show Act.put _ (some 84) _ = _
         simp only [Act.put, List.setIfInBounds_toArray, List.set_cons_zero, List.set_cons_succ, i64_w, i32_w]
         rfl
        refine pu 4 HT_ ?_
        refine pu 5 HT_ ?_
        refine one_ (i := 6) (N := none) #[true, true, true, true, true, true, true, false] rfl rfl (one_of HT_.out (by kernel_rfl)) (by decide) (fun K hK => ?_)
        have hs74 : w73.cell? ⟨gb287, 0, none⟩ = some (.int .i64 x288000_2) := (blk_cell BK287.out 0).trans rfl
        have hfs74 := blk_frozen BK287.out 0
        have hns74_1 := NB293_287.out
        have hms74_1 := NB287_293.out
        have hs75 : w73.cell? ⟨gb287, 1, none⟩ = some (.int .i64 x288001_2) := (blk_cell BK287.out 1).trans rfl
        have hfs75 := blk_frozen BK287.out 1
        have hns75_1 := NB293_287.out
        have hms75_1 := NB287_293.out
        have hs76 : w73.cell? ⟨gb287, 2, none⟩ = some (.int .i64 x288002_2) := (blk_cell BK287.out 2).trans rfl
        have hfs76 := blk_frozen BK287.out 2
        have hns76_1 := NB293_287.out
        have hms76_1 := NB287_293.out
        have hs77 : w73.cell? ⟨gb287, 3, none⟩ = some (.int .i64 x288003_2) := (blk_cell BK287.out 3).trans rfl
        have hfs77 := blk_frozen BK287.out 3
        have hns77_1 := NB293_287.out
        have hms77_1 := NB287_293.out
        have hs78 : w73.cell? ⟨gb287, 4, none⟩ = some (.int .i64 x288004_2) := (blk_cell BK287.out 4).trans rfl
        have hfs78 := blk_frozen BK287.out 4
        have hns78_1 := NB293_287.out
        have hms78_1 := NB287_293.out
        refine skip_ (w1 := ?_) (by rfl) rfl ?_ ?_
        rotate_left
        ·go_simp
         rfl
        refine hK.out _ _ ⟨((cell_far (p := ⟨gb287, _, none⟩) NB293_287.out _).trans (((cell_far (p := ⟨gb287, _, none⟩) NB293_287.out _).trans (((cell_far (p := ⟨gb287, _, none⟩) NB293_287.out _).trans (((cell_far (p := ⟨gb287, _, none⟩) NB293_287.out _).trans (((cell_far (p := ⟨gb287, _, none⟩) NB293_287.out _).trans (hHeld.1)))))))))), ((cell_far (p := ⟨gb287, _, none⟩) NB293_287.out _).trans (((cell_far (p := ⟨gb287, _, none⟩) NB293_287.out _).trans (((cell_far (p := ⟨gb287, _, none⟩) NB293_287.out _).trans (((cell_far (p := ⟨gb287, _, none⟩) NB293_287.out _).trans (((cell_far (p := ⟨gb287, _, none⟩) NB293_287.out _).trans (hHeld.2.1)))))))))), ((cell_far (p := ⟨gb287, _, none⟩) NB293_287.out _).trans (((cell_far (p := ⟨gb287, _, none⟩) NB293_287.out _).trans (((cell_far (p := ⟨gb287, _, none⟩) NB293_287.out _).trans (((cell_far (p := ⟨gb287, _, none⟩) NB293_287.out _).trans (((cell_far (p := ⟨gb287, _, none⟩) NB293_287.out _).trans (hHeld.2.2.1)))))))))), ((cell_far (p := ⟨gb287, _, none⟩) NB293_287.out _).trans (((cell_far (p := ⟨gb287, _, none⟩) NB293_287.out _).trans (((cell_far (p := ⟨gb287, _, none⟩) NB293_287.out _).trans (((cell_far (p := ⟨gb287, _, none⟩) NB293_287.out _).trans (((cell_far (p := ⟨gb287, _, none⟩) NB293_287.out _).trans (hHeld.2.2.2.1)))))))))), ((cell_far (p := ⟨gb287, _, none⟩) NB293_287.out _).trans (((cell_far (p := ⟨gb287, _, none⟩) NB293_287.out _).trans (((cell_far (p := ⟨gb287, _, none⟩) NB293_287.out _).trans (((cell_far (p := ⟨gb287, _, none⟩) NB293_287.out _).trans (((cell_far (p := ⟨gb287, _, none⟩) NB293_287.out _).trans (hHeld.2.2.2.2))))))))))⟩ (fun hHeld => ?_)
        clear hK K
        refine pu 7 HT_ ?_
        refine done_ (done_of HT_.out (by kernel_rfl)) ?_
        try go_wp2
        refine bodyPost_ret (results_ct rfl _ _ gb287 27 #[.int .i64 t299, .int .i64 t300, .int .i64 t301, .int .i64 t302, .int .i64 t303] (0, 0) _ rfl (bp BK287) Try.underlying27 rfl (by kernel_rfl)) rfl ?_
        exact ⟨by first | rfl | (simp [errW_none, errW_some] <;> rfl) | (simp only [← hji29, ← hji31]; first | rfl | (simp [errW_none, errW_some] <;> rfl)) | (simp [*, errW_none, errW_some] <;> rfl), bl HB⟩
      ·rw [if_neg c30] at H
       exact absurd H (by simp)
/-! ### laws_toGate: function 29 -/
def laws_toGate.f (a0_0 : Int) (a0_1 : Int) (a0_2 : Int) (a0_3 : Int) : Option (Int × Int × Int × Int) := some (a0_0, a0_1, a0_2, a0_3)
set_option maxHeartbeats 8000000 in
set_option maxRecDepth 100000 in
theorem laws_toGate.calls (a0_0 : Int) (a0_1 : Int) (a0_2 : Int) (a0_3 : Int) (r1 : Int) (r2 : Int) (r3 : Int) (r4 : Int) (w : World) (h : laws_toGate.f a0_0 a0_1 a0_2 a0_3 = some (r1, r2, r3, r4)) :
  Calls Try.prog 29 #[.agg #[.int .i64 a0_0, .int .i64 a0_1, .int .i64 a0_2, .int .i64 a0_3]] w fun e w' => e = .returned (.agg #[.int .i64 r1, .int .i64 r2, .int .i64 r3, .int .i64 r4]) ∧ Below w.heap.size w w' := by
 have hu64 := Try.underlying64
 have hu62 := Try.underlying62
 have HB := Aside0.mk (Below.refl w.heap.size w)
 have H := h
 clear h
 unfold laws_toGate.f at H
 simp only [Option.some.injEq, Prod.mk.injEq] at H
 obtain ⟨rfl, rfl, rfl, rfl⟩ := H
 go_enter Try.func29, Try.ntmps29
 go_wp2_with (first | ((with_reducible refine gate_dst (N := 1) rfl ?_); refine bx (N := 1) (cs := #[.int .i64 a0_0, .int .i64 a0_1, .int .i64 a0_2, .int .i64 a0_3]) (t := 64) ?_; intro gb319 hg w2 hbox hb; have BK319 := Aside0.mk hbox; have GW319 := sz hg HB; have GE319 := GW319; replace HB := bs HB hb; clear hb hbox hg) | ((with_reducible refine gate_dst (N := 2) rfl ?_); refine bx (N := 2) (cs := #[.int .i64 0, .int .i64 0, .int .i64 0, .int .i64 0]) (t := 62) ?_; intro gb320 hg w3 hbox hb; have BK320 := Aside0.mk hbox; have GW320 := sz hg HB; have GE320 := GW320; have NB319_320 := nl hg BK319; have NB320_319 := ng hg BK319; replace BK319 := cb BK319 hb; replace HB := bs HB hb; clear hb hbox hg) | ((with_reducible refine gate_dst (N := 3) rfl ?_); refine bx (N := 3) (cs := #[.int .i64 0, .int .i64 0, .int .i64 0, .int .i64 0]) (t := 62) ?_; intro gb321 hg w4 hbox hb; have BK321 := Aside0.mk hbox; have GW321 := sz hg HB; have GE321 := GW321; have NB319_321 := nl hg BK319; have NB321_319 := ng hg BK319; have NB320_321 := nl hg BK320; have NB321_320 := ng hg BK320; replace BK319 := cb BK319 hb; replace BK320 := cb BK320 hb; replace HB := bs HB hb; clear hb hbox hg; have hnb5 := NB319_320.out; have hnc5 := NB320_319.out; have hnb6 := NB319_321.out; have hnc6 := NB321_319.out; obtain ⟨hcz7_0, hcz7_1, hcz7_2, hcz7_3, hfz7_0, hfz7_1, hfz7_2, hfz7_3⟩ := cel4 BK319; have hnb8 := NB321_320.out; have hnc8 := NB320_321.out; obtain ⟨hcz9_0, hcz9_1, hcz9_2, hcz9_3, hfz9_0, hfz9_1, hfz9_2, hfz9_3⟩ := cel4 BK321; obtain ⟨hcz10_0, hcz10_1, hcz10_2, hcz10_3, hfz10_0, hfz10_1, hfz10_2, hfz10_3⟩ := cel4 BK320))
 refine bodyPost_ret (results_cell_row rfl _ _ gb320 62 #[.int .i64 a0_0, .int .i64 a0_1, .int .i64 a0_2, .int .i64 a0_3] (0, 0) _ rfl (bp BK320) Try.underlying62 rfl (by kernel_rfl)) rfl ?_
 exact ⟨er, bl HB⟩
/-! ### laws_toGateS: function 8 -/
def laws_toGateS.l0 : Nat → List (S64) → List (S62) → Int → Option ((List (S62)))
 | 0, _, _, _ => none
 | k + 1, x0, x3, x4 => if x4 < (x0.length : Int) then (if 0 ≤ x4 then ((laws_toGate.f ((rd_T64 x0 x4).f0) ((rd_T64 x0 x4).f1) ((rd_T64 x0 x4).f2) ((rd_T64 x0 x4).f3)).bind fun bt326 => (if x4 < (x3.length : Int) then (laws_toGateS.l0 k x0 (x3.set (x4 : Int).toNat (⟨bt326.1, bt326.2.1, bt326.2.2.1, bt326.2.2.2⟩ : S62)) (wrap64 (x4 + 1))) else (none))) else (none)) else (some x3)
def laws_toGateS.f (k : Nat) (l0 : List (S64)) : Option ((List (S62))) := if 0 ≤ (l0.length : Int) then (if ((l0.length : Int) : Int).toNat ≤ 8796093022208 then (laws_toGateS.l0 k l0 (List.replicate ((l0.length : Int) : Int).toNat z62) 0) else (none)) else (none)
set_option maxHeartbeats 8000000 in
set_option maxRecDepth 100000 in
theorem laws_toGateS.calls (k : Nat) (A0 : Option Addr) (c0 : Nat) (l0 : List (S64)) (r : List (S62)) (w : World) (hr0 : Kd.C k64 w A0 l0.length l0) (hc0 : l0.length ≤ c0) (h : laws_toGateS.f k l0 = some r) :
  Calls Try.prog 8 #[.slice A0 l0.length c0] w fun e w' => ∃ v0_ : Value, e = .returned (v0_) ∧ Kd.R k62 62 w' w.heap.size (fun _ => True) v0_ r ∧ Below w.heap.size w w' := by
 have hu64 := Try.underlying64
 have hu62 := Try.underlying62
 have HR0 := Aside0.mk hr0
 have HC0 := Aside0.mk hc0
 clear hr0 hc0
 have HB := Aside0.mk (Below.refl w.heap.size w)
 have H := h
 clear h
 unfold laws_toGateS.f at H
 by_cases c2 : 0 ≤ (l0.length : Int)
 ·rw [if_pos c2] at H
  have c2b0 := eq_true c2
  have c2b1 : decide (0 ≤ (l0.length : Int)) = true := decide_eq_true c2
  clear c2
  by_cases c3 : ((l0.length : Int) : Int).toNat ≤ 8796093022208
  ·rw [if_pos c3] at H
   have c3b0 := eq_true c3
   have c3b1 : decide (((l0.length : Int) : Int).toNat ≤ 8796093022208) = true := decide_eq_true c3
   clear c3
   obtain ⟨y322, hy322⟩ : ∃ y_ : List (S62), y_ = (List.replicate ((l0.length : Int) : Int).toNat z62) := ⟨_, rfl⟩
   replace H : (laws_toGateS.l0 k l0 y322 0) = some r := by first | (rw [hy322]; with_reducible exact H) | (have H2_ := (Option.bind_some _ _).symm.trans H; rw [hy322]; with_reducible exact H2_) | (have H2_ := (Option.bind_some _ _).symm.trans H; with_reducible exact H2_) | with_reducible exact H | (rw [hy322]; exact H) | exact H
   have Ny322 := Aside0.mk hy322
   clear hy322
   have H' := Aside0.mk H
   clear H
   go_enter Try.func8, Try.ntmps8
   go_wp2_with (first | ((with_reducible refine gate_dst (N := 7) rfl ?_); refine Kd.R_make k62 _ 62 rfl (N := 7) rfl 30 _ _ rfl (l0.length : Int) rfl rfl Try.underlying30 (.agg #[(.int .i64 0), (.int .i64 0), (.int .i64 0), (.int .i64 0)]) 32 info62 rfl (by decide) (by omega) z62 (ok := fun _ => True) (okp := fun _ => True) (k62_mkM _ _ _ z62 ) (fun _ hk => hk) trivial (of_decide_eq_true da) (Nat.le_trans (Nat.mul_le_mul_right _ (of_decide_eq_true da : (l0.length : Int).toNat ≤ 8796093022208)) (by omega)) (Below.refl _ _) (Nat.le_refl _) ?_; intro v323 w4 ho5 hb hg_ hnew_; clear hg_ hnew_; (first | rw [← Ny322.out] at ho5 | (simp only [Int.reduceToNat] at ho5; rw [← Ny322.out] at ho5)); have HO324 := Aside0.mk (Kd.R_lower ho5 (below_size (bl HB))); replace HB := bs HB hb; clear hb ho5))
   go_loopg [4] k (fun kq v4 w' => ∃ (x3_1 : List (S62)) (x4_1 : Int), v4 = .int .i64 x4_1 ∧ Aside0 (laws_toGateS.l0 kq l0 x3_1 x4_1 = some r) ∧ Aside0 (kq ≤ k) ∧ Aside0 (Kd.R k62 62 w' w.heap.size (fun _ => True) v323 x3_1) ∧ Aside0 (Below w.heap.size w w'))
   case atStart => exact ⟨(y322), (0), rs, H', ⟨Nat.le_refl _⟩, ⟨by (with_reducible repeat (first | apply Kd.R_alloc | apply Kd.R_drewN | apply Kd.R_drew)); exact HO324.out⟩, ⟨bl HB⟩⟩
   case round =>
    clear H'
    try clear c2
    try clear c2b0
    try clear c2b1
    try clear p2
    try clear c3
    try clear c3b0
    try clear c3b1
    obtain ⟨x3_1, x4_1, rfl, HA, HK1, HO_3, HB⟩ := hrel
    cases gk with
    | zero => exact absurd HA.out (by simp [laws_toGateS.l0])
    | succ k1 =>
     have H := HA.out
     clear HA
     simp only [laws_toGateS.l0] at H
     by_cases c6 : x4_1 < (l0.length : Int)
     ·rw [if_pos c6] at H
      have c6b0 : decide (x4_1 < (l0.length : Int)) = true := decide_eq_true c6
      clear c6
      by_cases c7 : 0 ≤ x4_1
      ·rw [if_pos c7] at H
       have c7b0 : decide (0 ≤ x4_1) = true := decide_eq_true c7
       clear c7
       replace H := Option.bind_eq_some_iff.mp H
       obtain ⟨⟨t326, t327, t328, t329⟩, A80, H⟩ := H
       try dsimp only at H
       have A8 := Aside0.mk A80
       clear A80
       by_cases c9 : x4_1 < (x3_1.length : Int)
       ·rw [if_pos c9] at H
        have c9b0 : decide (x4_1 < (x3_1.length : Int)) = true := decide_eq_true c9
        clear c9
        obtain ⟨y330, hy330⟩ : ∃ y_ : List (S62), y_ = (x3_1.set (x4_1 : Int).toNat (⟨t326, t327, t328, t329⟩ : S62)) := ⟨_, rfl⟩
        replace H : (laws_toGateS.l0 k1 l0 y330 (wrap64 (x4_1 + 1))) = some r := by first | (rw [hy330]; with_reducible exact H) | (have H2_ := (Option.bind_some _ _).symm.trans H; rw [hy330]; with_reducible exact H2_) | (have H2_ := (Option.bind_some _ _).symm.trans H; with_reducible exact H2_) | with_reducible exact H | (rw [hy330]; exact H) | exact H
        have Ny330 := Aside0.mk hy330
        clear hy330
        have H' := Aside0.mk H
        clear H
        have p325 : 0 ≤ (x4_1 : Int) := of_decide_eq_true da
        have q325 : x4_1 < (l0.length : Int) := of_decide_eq_true da
        obtain ⟨ad325, e325, hx325_0, hx325_1, hx325_2, hx325_3⟩ := at_T64 HR0.out x4_1 p325 q325
        cases e325
        replace hx325_0 := (HB.out.cell (World.block_lt_of_cell? w _ hx325_0)).trans hx325_0
        replace hx325_1 := (HB.out.cell (World.block_lt_of_cell? w _ hx325_1)).trans hx325_1
        replace hx325_2 := (HB.out.cell (World.block_lt_of_cell? w _ hx325_2)).trans hx325_2
        replace hx325_3 := (HB.out.cell (World.block_lt_of_cell? w _ hx325_3)).trans hx325_3
        replace p325 := eq_true p325
        replace q325 := eq_true q325
        go_wp2_with (first | ((with_reducible refine gate_callee (f := 29) rfl ?_); refine gL (some 20) Try.func29 #[.agg #[.int .i64 ((rd_T64 l0 x4_1).f0), .int .i64 ((rd_T64 l0 x4_1).f1), .int .i64 ((rd_T64 l0 x4_1).f2), .int .i64 ((rd_T64 l0 x4_1).f3)]] ?_; (with_reducible refine (laws_toGate.calls ((rd_T64 l0 x4_1).f0) ((rd_T64 l0 x4_1).f1) ((rd_T64 l0 x4_1).f2) ((rd_T64 l0 x4_1).f3) t326 t327 t328 t329 _ A8.out).mono ?_); rintro e w11 ⟨rfl, hb⟩; refine ⟨_, rfl, ?_⟩; replace HO_3 := Aside0.mk (Kd.R_below (by (with_reducible repeat (first | apply Kd.R_alloc | apply Kd.R_drewN | apply Kd.R_drew)); exact HO_3.out) hb); replace HB := bs HB hb; (try clear hb); (try clear hb2); (try clear hk); (try clear hi); have p10 : 0 ≤ (x4_1 : Int) := of_decide_eq_true da; have q10 : (x4_1 : Int) < ((x3_1.length : Int) : Int) := of_decide_eq_true da; obtain ⟨go10, co10, eo10, gb10, gl10, cl10, HG10⟩ := Kd.R_form HO_3.out (by omega); (first | cases eo10 | (injection eo10 with ea_ en_ ec_; (first | subst ea_ | (injection ea_ with ea_; subst ea_)); subst ec_; clear en_)); have GB10 := Aside0.mk gb10; have GG10 := Aside0.mk HG10; clear gb10 gl10 HG10; obtain ⟨ce10, hcl10, hM10, hcc10, hfr10⟩ := Kd.R_elem HO_3.out z62 (x4_1 : Int) p10 q10; obtain rfl := k62_openM hM10; have hx10_0 : w11.cell? ⟨go10, (x4_1 : Int).toNat * 4, none⟩ = some (.int .i64 ((rd_T62 x3_1 x4_1).f0)) := hcc10 0 _ rfl; have hx10_1 : w11.cell? ⟨go10, (x4_1 : Int).toNat * 4 + 1, none⟩ = some (.int .i64 ((rd_T62 x3_1 x4_1).f1)) := hcc10 1 _ rfl; have hx10_2 : w11.cell? ⟨go10, (x4_1 : Int).toNat * 4 + 2, none⟩ = some (.int .i64 ((rd_T62 x3_1 x4_1).f2)) := hcc10 2 _ rfl; have hx10_3 : w11.cell? ⟨go10, (x4_1 : Int).toNat * 4 + 3, none⟩ = some (.int .i64 ((rd_T62 x3_1 x4_1).f3)) := hcc10 3 _ rfl; have hf10_0 : w11.frozen? ⟨go10, (x4_1 : Int).toNat * 4, none⟩ = false := hfr10 0; have hf10_1 : w11.frozen? ⟨go10, (x4_1 : Int).toNat * 4 + 1, none⟩ = false := hfr10 1; have hf10_2 : w11.frozen? ⟨go10, (x4_1 : Int).toNat * 4 + 2, none⟩ = false := hfr10 2; have hf10_3 : w11.frozen? ⟨go10, (x4_1 : Int).toNat * 4 + 3, none⟩ = false := hfr10 3; clear hcl10 hcc10 hfr10 hM10; replace p10 := eq_true p10; replace q10 := eq_true q10; have HX12 := Aside0.mk (show Kd.R k62 62 w11 w.heap.size (fun _ => True) (.slice (some ⟨go10, 0, none⟩) x3_1.length co10) x3_1 from (by (with_reducible repeat (first | apply Kd.R_alloc | apply Kd.R_drewN | apply Kd.R_drew)); exact HO_3.out)); obtain ⟨ce12, hcl12, hM12, hcc12, hfr12⟩ := Kd.R_elem HX12.out z62 (x4_1 : Int) (of_decide_eq_true da) (by have h_ : (x4_1 : Int) < ((x3_1.length : Int) : Int) := of_decide_eq_true da; first | exact h_ | (have e_ := (Kd.R_reads' HO_3.out).1; omega) | simpa using h_); obtain rfl := k62_openM hM12; have HP12 := Kd.R_seg HX12.out (x4_1 : Int) (of_decide_eq_true da) (by have h_ : (x4_1 : Int) < ((x3_1.length : Int) : Int) := of_decide_eq_true da; first | exact h_ | (have e_ := (Kd.R_reads' HO_3.out).1; omega) | simpa using h_) (seg := [.int .i64 t326, .int .i64 t327, .int .i64 t328, .int .i64 t329]) (j := 0) hcl12 hcc12 (show 4 ≤ 4 from by decide) (x' := (⟨t326, t327, t328, t329⟩ : S62)) (k62_mkM _ _ _ (⟨t326, t327, t328, t329⟩ : S62) ) (fun _ hk => hk); have hx12_0 := hcc12 0 _ rfl; (try simp only [show (k62).sz = 4 from rfl, Nat.mul_one, Nat.add_zero] at hx12_0); have hf12_0 := hfr12 0; (try simp only [show (k62).sz = 4 from rfl, Nat.mul_one, Nat.add_zero] at hf12_0); have hx12_1 := hcc12 1 _ rfl; (try simp only [show (k62).sz = 4 from rfl, Nat.mul_one, Nat.add_zero] at hx12_1); have hf12_1 := hfr12 1; (try simp only [show (k62).sz = 4 from rfl, Nat.mul_one, Nat.add_zero] at hf12_1); have hx12_2 := hcc12 2 _ rfl; (try simp only [show (k62).sz = 4 from rfl, Nat.mul_one, Nat.add_zero] at hx12_2); have hf12_2 := hfr12 2; (try simp only [show (k62).sz = 4 from rfl, Nat.mul_one, Nat.add_zero] at hf12_2); have hx12_3 := hcc12 3 _ rfl; (try simp only [show (k62).sz = 4 from rfl, Nat.mul_one, Nat.add_zero] at hx12_3); have hf12_3 := hfr12 3; (try simp only [show (k62).sz = 4 from rfl, Nat.mul_one, Nat.add_zero] at hf12_3); clear hcl12 hcc12 hfr12 hM12) | ((with_reducible refine gate_store (t := 62) (p := 21) rfl ?_); refine store_event (t := 62) (p := 21) (v := ?vo_w13) (w1 := ((((w11.setCell ⟨go10, (x4_1 : Int).toNat * 4, none⟩ (.int .i64 t326)).setCell ⟨go10, (x4_1 : Int).toNat * 4 + 1, none⟩ (.int .i64 t327)).setCell ⟨go10, (x4_1 : Int).toNat * 4 + 2, none⟩ (.int .i64 t328)).setCell ⟨go10, (x4_1 : Int).toNat * 4 + 3, none⟩ (.int .i64 t329))) ?hg ?ho ?hn ?hr ?_; (case ho => rfl); (case hg => rfl); (case hn => rfl); (case hr => first | (go_simp; done) | (go_simp; rfl)); intro w13 hw; have hg : w11.grownBy w13 (some go10) := (by rw [hw]; exact HP12.2); have hp_ : Kd.R k62 62 w13 w.heap.size (fun _ => True) (.slice (some ⟨go10, 0, none⟩) x3_1.length co10) y330 := (by rw [hw, Ny330.out]; exact HP12.1); clear HP12; replace HO_3 := Aside0.mk (hp_); replace HB := Aside0.mk ((by rw [hw]; exact below_set (below_set (below_set (below_set (HB.out) GB10.out) GB10.out) GB10.out) GB10.out : Below w.heap.size w w13)); clear hg hw hp_))
        go_roundg k1
        case measure => have := HK1.out; omega
        case rel => exact ⟨(y330), (wrap64 (x4_1 + 1)), rs, H', ⟨by have := HK1.out; omega⟩, ⟨by (with_reducible repeat (first | apply Kd.R_alloc | apply Kd.R_drewN | apply Kd.R_drew)); exact HO_3.out⟩, ⟨bl HB⟩⟩
       ·rw [if_neg c9] at H
        exact absurd H (by simp)
      ·rw [if_neg c7] at H
       exact absurd H (by simp)
     ·rw [if_neg c6] at H
      have c6b0 : decide (x4_1 < (l0.length : Int)) = false := decide_eq_false c6
      clear c6
      obtain rfl := Option.some.inj H
      go_wp2
      go_ret
      exact ⟨_, er, by (with_reducible repeat (first | apply Kd.R_alloc | apply Kd.R_drewN | apply Kd.R_drew)); exact HO_3.out, bl HB⟩
  ·rw [if_neg c3] at H
   exact absurd H (by simp)
 ·rw [if_neg c2] at H
  exact absurd H (by simp)
/-! ### impl_HadamardCount: function 30 -/
def impl_HadamardCount.l0 : Nat → Int → List (S62) → Int → Int → Option (Int)
 | 0, _, _, _, _ => none
 | k + 1, x3, x6, x7, x8 => if x8 < x7 then (if 0 ≤ x8 then (if x8 < (x6.length : Int) then (if ((rd_T62 x6 x8).f0) = 4 then (impl_HadamardCount.l0 k (wrap64 (x3 + 1)) x6 x7 (wrap64 (x8 + 1))) else (impl_HadamardCount.l0 k x3 x6 x7 (wrap64 (x8 + 1)))) else (none)) else (none)) else (some x3)
def impl_HadamardCount.f (k : Nat) (l0 : List (S62)) : Option (Int) := impl_HadamardCount.l0 k 0 l0 (l0.length : Int) 0
set_option maxHeartbeats 8000000 in
set_option maxRecDepth 100000 in
theorem impl_HadamardCount.calls (k : Nat) (A0 : Option Addr) (c0 : Nat) (l0 : List (S62)) (r : Int) (w : World) (hr0 : Kd.C k62 w A0 l0.length l0) (hc0 : l0.length ≤ c0) (h : impl_HadamardCount.f k l0 = some r) :
  Calls Try.prog 30 #[.slice A0 l0.length c0] w fun e w' => e = .returned (.int .i64 r) ∧ Below w.heap.size w w' := by
 have hu62 := Try.underlying62
 have HR0 := Aside0.mk hr0
 have HC0 := Aside0.mk hc0
 clear hr0 hc0
 have HB := Aside0.mk (Below.refl w.heap.size w)
 have H := h
 clear h
 unfold impl_HadamardCount.f at H
 have H' := Aside0.mk H
 clear H
 go_enter Try.func30, Try.ntmps30
 go_wp2
 go_loopg [3, 8] k (fun kq v3 v8 w' => ∃ (x3_1 : Int) (x8_1 : Int), v3 = .int .i64 x3_1 ∧ v8 = .int .i64 x8_1 ∧ Aside0 (impl_HadamardCount.l0 kq x3_1 l0 (l0.length : Int) x8_1 = some r) ∧ Aside0 (kq ≤ k) ∧ Aside0 (Below w.heap.size w w'))
 case atStart => exact ⟨(0), (0), rs, rs, H', ⟨Nat.le_refl _⟩, ⟨bl HB⟩⟩
 case round =>
  clear H'
  obtain ⟨x3_1, x8_1, rfl, rfl, HA, HK1, HB⟩ := hrel
  cases gk with
  | zero => exact absurd HA.out (by simp [impl_HadamardCount.l0])
  | succ k1 =>
   have H := HA.out
   clear HA
   simp only [impl_HadamardCount.l0] at H
   by_cases c2 : x8_1 < (l0.length : Int)
   ·rw [if_pos c2] at H
    have c2b0 : decide (x8_1 < (l0.length : Int)) = true := decide_eq_true c2
    clear c2
    by_cases c3 : 0 ≤ x8_1
    ·rw [if_pos c3] at H
     have c3b0 : decide (0 ≤ x8_1) = true := decide_eq_true c3
     clear c3
     by_cases c4 : x8_1 < (l0.length : Int)
     ·rw [if_pos c4] at H
      have c4b0 : decide (x8_1 < (l0.length : Int)) = true := decide_eq_true c4
      clear c4
      by_cases c5 : ((rd_T62 l0 x8_1).f0) = 4
      ·rw [if_pos c5] at H
       have c5b0 : (((rd_T62 l0 x8_1).f0) == 4) = true := beq_iff_eq.mpr c5
       have c5b1 : (((rd_T62 l0 x8_1).f0) != 4) = false := bne_eq_false_iff_eq.mpr c5
       clear c5
       have H' := Aside0.mk H
       clear H
       have p331 : 0 ≤ (x8_1 : Int) := of_decide_eq_true da
       have q331 : x8_1 < (l0.length : Int) := of_decide_eq_true da
       obtain ⟨ad331, e331, hx331_0, hx331_1, hx331_2, hx331_3⟩ := at_T62 HR0.out x8_1 p331 q331
       cases e331
       replace hx331_0 := (HB.out.cell (World.block_lt_of_cell? w _ hx331_0)).trans hx331_0
       replace hx331_1 := (HB.out.cell (World.block_lt_of_cell? w _ hx331_1)).trans hx331_1
       replace hx331_2 := (HB.out.cell (World.block_lt_of_cell? w _ hx331_2)).trans hx331_2
       replace hx331_3 := (HB.out.cell (World.block_lt_of_cell? w _ hx331_3)).trans hx331_3
       replace p331 := eq_true p331
       replace q331 := eq_true q331
       go_wp2_with (first | ((with_reducible refine gate_dst (N := 5) rfl ?_); refine bx (N := 5) (cs := #[.int .i64 0, .int .i64 0, .int .i64 0, .int .i64 0]) (t := 62) ?_; intro gb332 hg w6 hbox hb; have BK332 := Aside0.mk hbox; have GW332 := sz hg HB; have GE332 := GW332; replace HB := bs HB hb; clear hb hbox hg; obtain ⟨hcz7_0, hcz7_1, hcz7_2, hcz7_3, hfz7_0, hfz7_1, hfz7_2, hfz7_3⟩ := cel4 BK332))
       go_roundg k1
       case measure => have := HK1.out; omega
       case rel => exact ⟨(wrap64 (x3_1 + 1)), (wrap64 (x8_1 + 1)), rs, rs, H', ⟨by have := HK1.out; omega⟩, ⟨bl HB⟩⟩
      ·rw [if_neg c5] at H
       have c5b0 : (((rd_T62 l0 x8_1).f0) == 4) = false := beq_eq_false_iff_ne.mpr c5
       have c5b1 : (((rd_T62 l0 x8_1).f0) != 4) = true := bne_iff_ne.mpr c5
       have H' := Aside0.mk H
       clear H
       have p331 : 0 ≤ (x8_1 : Int) := of_decide_eq_true da
       have q331 : x8_1 < (l0.length : Int) := of_decide_eq_true da
       obtain ⟨ad331, e331, hx331_0, hx331_1, hx331_2, hx331_3⟩ := at_T62 HR0.out x8_1 p331 q331
       cases e331
       replace hx331_0 := (HB.out.cell (World.block_lt_of_cell? w _ hx331_0)).trans hx331_0
       replace hx331_1 := (HB.out.cell (World.block_lt_of_cell? w _ hx331_1)).trans hx331_1
       replace hx331_2 := (HB.out.cell (World.block_lt_of_cell? w _ hx331_2)).trans hx331_2
       replace hx331_3 := (HB.out.cell (World.block_lt_of_cell? w _ hx331_3)).trans hx331_3
       replace p331 := eq_true p331
       replace q331 := eq_true q331
       go_wp2_with (first | ((with_reducible refine gate_dst (N := 5) rfl ?_); refine bx (N := 5) (cs := #[.int .i64 0, .int .i64 0, .int .i64 0, .int .i64 0]) (t := 62) ?_; intro gb332 hg w8 hbox hb; have BK332 := Aside0.mk hbox; have GW332 := sz hg HB; have GE332 := GW332; replace HB := bs HB hb; clear hb hbox hg; obtain ⟨hcz9_0, hcz9_1, hcz9_2, hcz9_3, hfz9_0, hfz9_1, hfz9_2, hfz9_3⟩ := cel4 BK332))
       go_roundg k1
       case measure => have := HK1.out; omega
       case rel => exact ⟨(x3_1), (wrap64 (x8_1 + 1)), rs, rs, H', ⟨by have := HK1.out; omega⟩, ⟨bl HB⟩⟩
     ·rw [if_neg c4] at H
      exact absurd H (by simp)
    ·rw [if_neg c3] at H
     exact absurd H (by simp)
   ·rw [if_neg c2] at H
    have c2b0 : decide (x8_1 < (l0.length : Int)) = false := decide_eq_false c2
    clear c2
    obtain rfl := Option.some.inj H
    go_wp2
    go_ret
    exact ⟨er, bl HB⟩
/-! ### impl_in: function 31 -/
def impl_in.f (a0 : Int) (a1 : Int) (a2 : Int) : Option (Bool) := if a1 ≤ a0 then (some (decide (a0 ≤ a2))) else (some false)
set_option maxHeartbeats 8000000 in
set_option maxRecDepth 100000 in
theorem impl_in.calls (a0 : Int) (a1 : Int) (a2 : Int) (r : Bool) (w : World) (h : impl_in.f a0 a1 a2 = some r) :
  Calls Try.prog 31 #[.int .i64 a0, .int .i64 a1, .int .i64 a2] w fun e w' => e = .returned (.bool r) ∧ Drawn0 w w' := by
 have H := h
 clear h
 unfold impl_in.f at H
 by_cases c4 : a1 ≤ a0
 ·rw [if_pos c4] at H
  have c4b0 : decide (a1 ≤ a0) = true := decide_eq_true c4
  clear c4
  obtain rfl := Option.some.inj H
  go_enter Try.func31, Try.ntmps31
  go_wp2
  go_ret
  exact ⟨rs, dr⟩
 ·rw [if_neg c4] at H
  have c4b0 : decide (a1 ≤ a0) = false := decide_eq_false c4
  clear c4
  obtain rfl := Option.some.inj H
  go_enter Try.func31, Try.ntmps31
  go_wp2
  go_ret
  exact ⟨rs, dr⟩
/-! ### impl_Arity: function 60 -/
def impl_Arity.f (a0 : Int) : Option (Int) := (impl_in.f a0 1 8).bind fun t333 => (if t333 = true then (some 1) else ((impl_in.f a0 9 11).bind fun t334 => (if t334 = true then (some 2) else (if a0 = 12 then (some 3) else (some 0)))))
set_option maxHeartbeats 8000000 in
set_option maxRecDepth 100000 in
theorem impl_Arity.calls (a0 : Int) (r : Int) (w : World) (h : impl_Arity.f a0 = some r) :
  Calls Try.prog 60 #[.int .i64 a0] w fun e w' => e = .returned (.int .i64 r) ∧ Drawn0 w w' := by
 have H := h
 clear h
 unfold impl_Arity.f at H
 replace H := Option.bind_eq_some_iff.mp H
 obtain ⟨t333, A20, H⟩ := H
 try dsimp only at H
 have A2 := Aside0.mk A20
 clear A20
 by_cases c3 : t333 = true
 ·subst c3
  rw [if_pos rfl] at H
  obtain rfl := Option.some.inj H
  go_enter Try.func60, Try.ntmps60
  go_wp2_with (first | ((with_reducible refine gate_callee (f := 31) rfl ?_); refine gL (some 5) Try.func31 #[.int .i64 a0, .int .i64 1, .int .i64 8] ?_; (with_reducible refine (impl_in.calls a0 1 8 true _ A2.out).mono ?_); rintro e w' ⟨rfl, ⟨nd, rfl⟩⟩; refine ⟨_, rfl, ?_⟩))
  go_ret
  exact ⟨rs, dr⟩
 ·replace c3 := Bool.eq_false_iff.mpr c3
  subst c3
  rw [nf] at H
  replace H := Option.bind_eq_some_iff.mp H
  obtain ⟨t334, A40, H⟩ := H
  try dsimp only at H
  have A4 := Aside0.mk A40
  clear A40
  by_cases c5 : t334 = true
  ·subst c5
   rw [if_pos rfl] at H
   obtain rfl := Option.some.inj H
   go_enter Try.func60, Try.ntmps60
   go_wp2_with (first | ((with_reducible refine gate_callee (f := 31) rfl ?_); refine gL (some 5) Try.func31 #[.int .i64 a0, .int .i64 1, .int .i64 8] ?_; (with_reducible refine (impl_in.calls a0 1 8 false _ A2.out).mono ?_); rintro e w' ⟨rfl, ⟨nd, rfl⟩⟩; refine ⟨_, rfl, ?_⟩) | ((with_reducible refine gate_callee (f := 31) rfl ?_); refine gL (some 8) Try.func31 #[.int .i64 a0, .int .i64 9, .int .i64 11] ?_; (with_reducible refine (impl_in.calls a0 9 11 true _ A4.out).mono ?_); rintro e w' ⟨rfl, ⟨nd, rfl⟩⟩; refine ⟨_, rfl, ?_⟩))
   go_ret
   exact ⟨rs, dr⟩
  ·replace c5 := Bool.eq_false_iff.mpr c5
   subst c5
   rw [nf] at H
   by_cases c6 : a0 = 12
   ·rw [if_pos c6] at H
    have c6b0 : (a0 == 12) = true := beq_iff_eq.mpr c6
    have c6b1 : (a0 != 12) = false := bne_eq_false_iff_eq.mpr c6
    clear c6
    obtain rfl := Option.some.inj H
    go_enter Try.func60, Try.ntmps60
    go_wp2_with (first | ((with_reducible refine gate_callee (f := 31) rfl ?_); refine gL (some 5) Try.func31 #[.int .i64 a0, .int .i64 1, .int .i64 8] ?_; (with_reducible refine (impl_in.calls a0 1 8 false _ A2.out).mono ?_); rintro e w' ⟨rfl, ⟨nd, rfl⟩⟩; refine ⟨_, rfl, ?_⟩) | ((with_reducible refine gate_callee (f := 31) rfl ?_); refine gL (some 8) Try.func31 #[.int .i64 a0, .int .i64 9, .int .i64 11] ?_; (with_reducible refine (impl_in.calls a0 9 11 false _ A4.out).mono ?_); rintro e w' ⟨rfl, ⟨nd, rfl⟩⟩; refine ⟨_, rfl, ?_⟩))
    go_ret
    exact ⟨rs, dr⟩
   ·rw [if_neg c6] at H
    have c6b0 : (a0 == 12) = false := beq_eq_false_iff_ne.mpr c6
    have c6b1 : (a0 != 12) = true := bne_iff_ne.mpr c6
    obtain rfl := Option.some.inj H
    go_enter Try.func60, Try.ntmps60
    go_wp2_with (first | ((with_reducible refine gate_callee (f := 31) rfl ?_); refine gL (some 5) Try.func31 #[.int .i64 a0, .int .i64 1, .int .i64 8] ?_; (with_reducible refine (impl_in.calls a0 1 8 false _ A2.out).mono ?_); rintro e w' ⟨rfl, ⟨nd, rfl⟩⟩; refine ⟨_, rfl, ?_⟩) | ((with_reducible refine gate_callee (f := 31) rfl ?_); refine gL (some 8) Try.func31 #[.int .i64 a0, .int .i64 9, .int .i64 11] ?_; (with_reducible refine (impl_in.calls a0 9 11 false _ A4.out).mono ?_); rintro e w' ⟨rfl, ⟨nd, rfl⟩⟩; refine ⟨_, rfl, ?_⟩))
    go_ret
    exact ⟨rs, dr⟩
/-! ### impl_IsValidGate: function 32 -/
-- GIVEN BY HAND
/-- The number of qubits of a kind. -/
def arI (k : Int) : Int := if 1 ≤ k ∧ k ≤ 8 then 1 else if 9 ≤ k ∧ k ≤ 11 then 2 else if k = 12 then 3 else 0
def ivOk (ar n : Int) (qs : List Int) (k : Nat) : Bool := if ar ≤ (k : Int) then qs.getD k 0 == 0 else decide (0 ≤ qs.getD k 0) && decide (qs.getD k 0 ≤ n - 1) && !(qs.take k).contains (qs.getD k 0)
def impl_IsValidGate.f (a0_0 a0_1 a0_2 a0_3 a1 : Int) : Option Bool :=
  some (decide (1 ≤ a1) && decide (a1 ≤ 4) && (arI a0_0 != 0) && ivOk (arI a0_0) a1 [a0_1, a0_2, a0_3] 0 && ivOk (arI a0_0) a1 [a0_1, a0_2, a0_3] 1 && ivOk (arI a0_0) a1 [a0_1, a0_2, a0_3] 2)
theorem impl_Arity.at (k : Int) : impl_Arity.f k = some (arI k) := by
  unfold impl_Arity.f impl_in.f arI
  by_cases h1 : 1 ≤ k <;> by_cases h2 : k ≤ 8 <;> by_cases h3 : 9 ≤ k <;> by_cases h4 : k ≤ 11 <;> by_cases h5 : k = 12 <;> simp [h1, h2, h3, h4, h5] <;> omega
theorem impl_in.at (x l h : Int) : impl_in.f x l h = some (decide (l ≤ x) && decide (x ≤ h)) := by
  unfold impl_in.f
  by_cases h1 : l ≤ x <;> simp [h1]
namespace IVG
open Go.Maps
theorem law3 : Keyed Try.prog 3 := int_keyed Try.underlying3
theorem zero4 (w : World) : (zeroValue 4).run Try.prog w = .ok (.bool false) w := by kernel_rfl
def seenD (l : List Int) : DataW Unit := l.foldl (fun D q => D.put (.int .i64 q) (.lit (.bool true))) (.map [])
theorem seen_snoc (l : List Int) (q : Int) : seenD (l ++ [q]) = (seenD l).put (.int .i64 q) (.lit (.bool true)) := by simp [seenD]
theorem seen_map : ∀ l : List Int, IsMap (seenD l) := by
  intro l
  suffices h : ∀ (l : List Int) (D : DataW Unit), IsMap D → IsMap (l.foldl (fun D q => D.put (.int .i64 q) (.lit (.bool true))) D) from h l _ isMap_empty
  intro l
  induction l with
  | nil => exact fun D h => h
  | cons x l ih => exact fun D h => ih _ (h.put _ _)
theorem seen_at (q : Int) : ∀ l : List Int, (seenD l).atKey (.int .i64 q) (.lit (.bool false)) = .lit (.bool (l.contains q)) := by
  intro l
  suffices h : ∀ n : Nat, ∀ l : List Int, l.length = n → (seenD l).atKey (.int .i64 q) (.lit (.bool false)) = .lit (.bool (l.contains q)) from h _ l rfl
  intro n
  induction n with
  | zero => intro l hl; obtain rfl := List.length_eq_zero_iff.1 hl; rfl
  | succ n ih =>
    intro l hl
    obtain ⟨l, x, rfl⟩ : ∃ l' x, l = l' ++ [x] := by
      rcases List.eq_nil_or_concat l with h | ⟨l', x, h⟩
      · subst h; simp at hl
      · exact ⟨l', x, by simpa using h⟩
    rw [seen_snoc]
    by_cases e : q = x
    · subst e
      rw [atKey_put_same (seen_map l) (by simp [WideAt.IsKeyLit])]
      simp
    · rw [atKey_put_other (by simpa using e), ih l (by simpa using hl)]
      simp [e]
theorem plain_bool_inv {P : Program} {e : TypeId} (he : P.underlying e = some .bool) {v : Value} {t : Bool} {ps : List MemPlace} (h : plainElem (H := Unit) P e v = some (.lit (.bool t), ps)) : v = .bool t := by
  unfold plainElem at h
  rw [he] at h
  cases v <;> simp at h
  obtain ⟨rfl, _⟩ := h
  rfl
/-- A look-up in a map of bools that the call made. -/
theorem lookup_bool {P : Program} (w : World) {ops : Array Oper} {rest : List Oper} {o : Oper} {a : Act} {Q : Exit → Act → World → Prop}
    (hg : o.guard = none) (m x : Operand) (t : TypeId) (hop : o.op = Op.lookup t m x false)
    (k e : TypeId) (K : Keyed P k) (ht : P.underlying t = some (.map k e)) (he : P.underlying e = some .bool) (hz : (zeroValue e).run P w = .ok (.bool false) w) (b n : Nat) (D : DataW Unit)
    (hm : a.eval m = .map (some b)) (hown : w.ownsMap P k (plainElem P e) b n D) (key : Value) (kl : Lit) (hx : a.eval x = key) (hkey : keyOf P k key = some kl) (r : Bool) (hat : D.atKey kl (.lit (.bool false)) = .lit (.bool r))
    (hK : wpList P ops Q rest (a.put o.dst (.bool r)) w) : wpList P ops Q (o :: rest) a w := by
  refine wpList_plain hg fun K' hK' => ?_
  obtain ⟨v, ps, hrun, hv⟩ := hown.lookup K ht hz (plainElem_bool he false) hkey
  rw [hat] at hv
  obtain rfl := plain_bool_inv he hv
  unfold Oper.wp
  simp [execOp, hop, hm, hx, hrun, Result.andThen]
  exact hK' _ _ hK
end IVG
theorem ivg_false {a b c d e f : Bool} (h : a = false ∨ b = false ∨ c = false ∨ d = false ∨ e = false ∨ f = false) : (a && b && c && d && e && f) = false := by
  rcases h with h | h | h | h | h | h <;> subst h <;> simp
theorem ivg_no {ar n : Int} {qs : List Int} {k : Nat} (hk : k < 3) (h : ivOk ar n qs k = false) : ivOk ar n qs 0 = false ∨ ivOk ar n qs 1 = false ∨ ivOk ar n qs 2 = false := by
  rcases (by omega : k = 0 ∨ k = 1 ∨ k = 2) with h0 | h0 | h0 <;> subst h0 <;> simp [h]
set_option maxHeartbeats 2000000 in
set_option maxRecDepth 100000 in
theorem impl_IsValidGate.calls (a0_0 : Int) (a0_1 : Int) (a0_2 : Int) (a0_3 : Int) (a1 : Int) (r : Bool) (w : World) (h : impl_IsValidGate.f a0_0 a0_1 a0_2 a0_3 a1 = some r) :
    Calls Try.prog 32 #[.agg #[.int .i64 a0_0, .int .i64 a0_1, .int .i64 a0_2, .int .i64 a0_3], .int .i64 a1] w fun e w' => e = .returned (.bool r) ∧ Below w.heap.size w w' := by
  have hu62 := Try.underlying62
  have hmm := @run_makeMap Try.prog
  obtain rfl := Option.some.inj h
  clear h
  have har : Aside0 (impl_Arity.f a0_0 = some (arI a0_0)) := ⟨impl_Arity.at _⟩
  by_cases hn : 1 ≤ a1 ∧ a1 ≤ 4
  · obtain ⟨hn1, hn4⟩ := hn
    have hin : Aside0 (impl_in.f a1 1 4 = some true) := ⟨by rw [impl_in.at]; simp [hn1, hn4]⟩
    by_cases ha : arI a0_0 = 0
    · have ha0 : ((arI a0_0) == 0) = true := by simpa using ha
      have hfin := Aside0.mk (show (decide (1 ≤ a1) && decide (a1 ≤ 4) && (arI a0_0 != 0) && ivOk (arI a0_0) a1 [a0_1, a0_2, a0_3] 0 && ivOk (arI a0_0) a1 [a0_1, a0_2, a0_3] 1 && ivOk (arI a0_0) a1 [a0_1, a0_2, a0_3] 2) = false from ivg_false (.inr (.inr (.inl (by simp [ha])))))
      rw [hfin.out]
      clear ha
      go_enter Try.func32, Try.ntmps32
      go_wp2_with (first | (go_at_call 31; refine (impl_in.calls _ _ _ _ _ hin.out).mono ?_; rintro e w' ⟨rfl, ⟨nd, rfl⟩⟩) | (go_at_call 60; refine (impl_Arity.calls _ _ _ har.out).mono ?_; rintro e w' ⟨rfl, ⟨nd, rfl⟩⟩))
      go_ret
      exact ⟨rfl, by repeat (first | exact Below.refl _ _ | apply below_alloc | apply pw_below_drewN | apply below_drew1)⟩
    · have ha0 : ((arI a0_0) == 0) = false := by simpa using ha
      have ha1 := Aside0.mk (show (arI a0_0 != 0) = true by simpa using ha)
      clear ha
      obtain ⟨qs, hqs⟩ : ∃ qs : List Int, Aside0 (qs = [a0_1, a0_2, a0_3]) := ⟨_, ⟨rfl⟩⟩
      rw [← hqs.out]
      go_enter Try.func32, Try.ntmps32
      go_wp2_with (first | (go_at_call 31; refine (impl_in.calls _ _ _ _ _ hin.out).mono ?_; rintro e w' ⟨rfl, ⟨nd, rfl⟩⟩) | (go_at_call 60; refine (impl_Arity.calls _ _ _ har.out).mono ?_; rintro e w' ⟨rfl, ⟨nd, rfl⟩⟩))
      go_loopw [28] (fun v28 wr => ∃ k : Nat, k ≤ 3 ∧ v28 = .int .i64 k ∧ Aside0 (∀ j, j < k → ivOk (arI a0_0) a1 qs j = true) ∧ wr.ownsMap Try.prog 3 (plainElem (H := Unit) Try.prog 4) (w.heap.size + 1 + 1) k (IVG.seenD (qs.take (min k (arI a0_0).toNat))) ∧ wr.cell? ⟨w.heap.size, 0, none⟩ = some (.int .i64 a0_0) ∧ Aside0 (∀ j, j < 3 → wr.cell? ⟨w.heap.size + 1, j, none⟩ = some (.int .i64 (qs.getD j 0))) ∧ Below w.heap.size w wr)
        (fun v28 _ => 3 - (intOf v28).toNat)
      case atStart =>
        refine ⟨0, by omega, rfl, ⟨fun j hj => by omega⟩, ?_, ?_, ⟨?_⟩, ?_⟩
        · generalize hW : World.alloc _ (.cells #[.int .i64 a0_1, .int .i64 a0_2, .int .i64 a0_3] 3) = W
          have hs : w.heap.size + 1 + 1 = W.heap.size := by rw [← hW]; simp
          rw [hs]
          simpa [IVG.seenD] using World.ownsMap_made W Try.prog 3 (plainElem (H := Unit) Try.prog 4)
        · go_simp
        · intro j hj
          rw [hqs.out]
          rcases (by omega : j = 0 ∨ j = 1 ∨ j = 2) with h0 | h0 | h0 <;> subst h0 <;> go_simp
        · repeat (first | exact Below.refl _ _ | apply below_alloc | apply pw_below_drewN | apply below_drew1)
      case round =>
        obtain ⟨k, hk, rfl, hG, hown, hkind, hA, hbw⟩ := hrel
        by_cases hlt : k < 3
        · have hcell := hA.out k hlt
          have hend : Aside0 (ivOk (arI a0_0) a1 qs k = false → (decide (1 ≤ a1) && decide (a1 ≤ 4) && (arI a0_0 != 0) && ivOk (arI a0_0) a1 qs 0 && ivOk (arI a0_0) a1 qs 1 && ivOk (arI a0_0) a1 qs 2) = false) := ⟨fun h0 => ivg_false (.inr (.inr (.inr (ivg_no hlt h0))))⟩
          have hnext : Aside0 (ivOk (arI a0_0) a1 qs k = true → ∀ j, j < k + 1 → ivOk (arI a0_0) a1 qs j = true) := ⟨fun h0 j hj => by rcases Nat.lt_succ_iff_lt_or_eq.1 hj with h1 | h1; exact hG.out j h1; rw [h1]; exact h0⟩
          obtain ⟨q, hq⟩ : ∃ q, Aside0 (qs.getD k 0 = q) := ⟨_, ⟨rfl⟩⟩
          rw [hq.out] at hcell
          by_cases hge : arI a0_0 ≤ (k : Int)
          · have hok : Aside0 (ivOk (arI a0_0) a1 qs k = (q == 0)) := ⟨by unfold ivOk; rw [if_pos hge, hq.out]⟩
            have hmin : Aside0 (min (k + 1) (arI a0_0).toNat = min k (arI a0_0).toNat) := ⟨by omega⟩
            by_cases hq0 : q = 0
            · have hq1 : (q != 0) = false := by simpa using hq0
              have hq2 := Aside0.mk hq0
              clear hq0
              go_wp2_with (first | (go_at_call 60; refine (impl_Arity.calls _ _ _ har.out).mono ?_; rintro e w' ⟨rfl, ⟨nd, rfl⟩⟩))
              go_roundw
              case rel => exact ⟨k + 1, by omega, by go_num, ⟨hnext.out (by rw [hok.out, hq2.out]; rfl)⟩, by rw [hmin.out]; exact (hown.mono (by omega)), by assumption, by exact hA, by repeat (first | exact hbw | apply below_alloc | apply pw_below_drewN | apply below_drew1)⟩
              case measure => simp [intOf]; omega
            · have hq1 : (q != 0) = true := by simpa using hq0
              have hf := Aside0.mk (hend.out (by rw [hok.out]; simpa using hq0))
              clear hq0
              go_wp2_with (first | (go_at_call 60; refine (impl_Arity.calls _ _ _ har.out).mono ?_; rintro e w' ⟨rfl, ⟨nd, rfl⟩⟩))
              go_ret
              exact ⟨by rw [hf.out]; rfl, by repeat (first | exact hbw | apply below_alloc | apply pw_below_drewN | apply below_drew1)⟩
          · have hok : Aside0 (ivOk (arI a0_0) a1 qs k = (decide (0 ≤ q) && decide (q ≤ a1 - 1) && !(qs.take k).contains q)) := ⟨by unfold ivOk; rw [if_neg hge, hq.out]⟩
            have hmin : Aside0 (min (k + 1) (arI a0_0).toNat = k + 1 ∧ min k (arI a0_0).toNat = k) := ⟨by omega⟩
            have hin2 : Aside0 (impl_in.f q 0 (a1 - 1) = some (decide (0 ≤ q) && decide (q ≤ a1 - 1))) := ⟨impl_in.at _ _ _⟩
            by_cases hr : 0 ≤ q ∧ q ≤ a1 - 1
            · have hin3 : Aside0 (impl_in.f q 0 (a1 - 1) = some true) := ⟨by rw [hin2.out]; simp [hr]⟩
              have hkey : keyOf Try.prog 3 (.int .i64 q) = some (.int .i64 q) := Go.Maps.keyOf_int_mk Try.underlying3 (WalkArith.wf_i64 (by omega))
              have hat := IVG.seen_at q (qs.take k)
              rw [hmin.out.2] at hown
              by_cases hs : (qs.take k).contains q = true
              · rw [hs] at hat
                have hf := Aside0.mk (hend.out (by rw [hok.out, hs]; simp))
                clear hs hr
                go_wp2_with (first | (go_at_call 60; refine (impl_Arity.calls _ _ _ har.out).mono ?_; rintro e w' ⟨rfl, ⟨nd, rfl⟩⟩) | (go_at_call 31; refine (impl_in.calls _ _ _ _ _ hin3.out).mono ?_; rintro e w' ⟨rfl, ⟨nd, rfl⟩⟩) | (at_lookup; refine gate_guard (by go_simp) ?_; refine IVG.lookup_bool _ rfl _ _ 91 rfl 3 4 IVG.law3 Try.underlying91 Try.underlying4 (IVG.zero4 _) (w.heap.size + 1 + 1) k _ rfl hown _ _ rfl hkey _ hat ?_))
                go_ret
                exact ⟨by rw [hf.out]; rfl, by repeat (first | exact hbw | apply below_alloc | apply pw_below_drewN | apply below_drew1)⟩
              · have hs' : (qs.take k).contains q = false := by simpa using hs
                rw [hs'] at hat
                have hf := Aside0.mk (hnext.out (by rw [hok.out, hs']; simp [hr]))
                clear hs hs' hr
                go_wp2_with (first | (go_at_call 60; refine (impl_Arity.calls _ _ _ har.out).mono ?_; rintro e w' ⟨rfl, ⟨nd, rfl⟩⟩) | (go_at_call 31; refine (impl_in.calls _ _ _ _ _ hin3.out).mono ?_; rintro e w' ⟨rfl, ⟨nd, rfl⟩⟩) | (at_lookup; refine gate_guard (by go_simp) ?_; refine IVG.lookup_bool _ rfl _ _ 91 rfl 3 4 IVG.law3 Try.underlying91 Try.underlying4 (IVG.zero4 _) (w.heap.size + 1 + 1) k _ rfl hown _ _ rfl hkey _ hat ?_) | (at_mapUpdate; refine wpList_mapUpdate_own _ rfl _ _ _ 91 rfl 3 4 IVG.law3 Try.underlying91 _ (w.heap.size + 1 + 1) k _ rfl hown (by unfold maxLen; omega) _ _ _ rfl rfl hkey _ [] (plainElem_bool Try.underlying4 _) ?_; intro w1 hown1 hgrow1))
                go_roundw
                case rel =>
                  refine ⟨k + 1, by omega, by go_num, ⟨hf.out⟩, ?_, ?_, ⟨fun j hj => ?_⟩, ?_⟩
                  · have e1 : qs.take (k + 1) = qs.take k ++ [q] := by
                      have hlen : k < qs.length := by rw [hqs.out]; simpa using hlt
                      rw [List.take_succ_eq_append_getElem hlen, ← hq.out]
                      simp [hlen]
                    rw [hmin.out.1, e1, IVG.seen_snoc]
                    exact hown1
                  · exact hgrow1.cell hkind (by simp; omega)
                  · exact hgrow1.cell (hA.out j hj) (by simp)
                  · exact (pw_below_drewN hbw _).grown hgrow1 (by have := hbw.size; simpa using this) (fun j hj => by cases hj; omega)
                case measure => simp [intOf]; omega
            · have hin3 : Aside0 (impl_in.f q 0 (a1 - 1) = some false) := ⟨by rw [hin2.out]; rcases (by omega : ¬ 0 ≤ q ∨ ¬ q ≤ a1 - 1) with h1 | h1 <;> simp [h1]⟩
              have hf := Aside0.mk (hend.out (by rw [hok.out]; rcases (by omega : ¬ 0 ≤ q ∨ ¬ q ≤ a1 - 1) with h1 | h1 <;> simp [h1]))
              clear hr
              go_wp2_with (first | (go_at_call 60; refine (impl_Arity.calls _ _ _ har.out).mono ?_; rintro e w' ⟨rfl, ⟨nd, rfl⟩⟩) | (go_at_call 31; refine (impl_in.calls _ _ _ _ _ hin3.out).mono ?_; rintro e w' ⟨rfl, ⟨nd, rfl⟩⟩))
              go_ret
              exact ⟨by rw [hf.out]; rfl, by repeat (first | exact hbw | apply below_alloc | apply pw_below_drewN | apply below_drew1)⟩
        · have hk3 : k = 3 := by omega
          have hf := Aside0.mk (show (decide (1 ≤ a1) && decide (a1 ≤ 4) && (arI a0_0 != 0) && ivOk (arI a0_0) a1 qs 0 && ivOk (arI a0_0) a1 qs 1 && ivOk (arI a0_0) a1 qs 2) = true by rw [ha1.out, hG.out 0 (by omega), hG.out 1 (by omega), hG.out 2 (by omega)]; simp [hn1, hn4])
          go_wp2
          go_ret
          exact ⟨by rw [hf.out]; rfl, by repeat (first | exact hbw | apply below_alloc | apply pw_below_drewN | apply below_drew1)⟩
  · have hin : Aside0 (impl_in.f a1 1 4 = some false) := ⟨by rw [impl_in.at]; rcases (by omega : ¬ 1 ≤ a1 ∨ ¬ a1 ≤ 4) with h1 | h1 <;> simp [h1]⟩
    have hf := Aside0.mk (show (decide (1 ≤ a1) && decide (a1 ≤ 4) && (arI a0_0 != 0) && ivOk (arI a0_0) a1 [a0_1, a0_2, a0_3] 0 && ivOk (arI a0_0) a1 [a0_1, a0_2, a0_3] 1 && ivOk (arI a0_0) a1 [a0_1, a0_2, a0_3] 2) = false by rcases (by omega : ¬ 1 ≤ a1 ∨ ¬ a1 ≤ 4) with h1 | h1 <;> simp [h1])
    rw [hf.out]
    clear hn
    go_enter Try.func32, Try.ntmps32
    go_wp2_with (first | (go_at_call 31; refine (impl_in.calls _ _ _ _ _ hin.out).mono ?_; rintro e w' ⟨rfl, ⟨nd, rfl⟩⟩))
    go_ret
    exact ⟨rfl, by repeat (first | exact Below.refl _ _ | apply below_alloc | apply pw_below_drewN | apply below_drew1)⟩
/-! ### impl_mod8: function 93 -/
def impl_mod8.f (a0 : Int) : Option (Int) := some (Int.tmod (wrap64 ((Int.tmod a0 8) + 8)) 8)
set_option maxHeartbeats 8000000 in
set_option maxRecDepth 100000 in
theorem impl_mod8.calls (a0 : Int) (r : Int) (w : World) (h : impl_mod8.f a0 = some r) :
  Calls Try.prog 93 #[.int .i64 a0] w fun e w' => e = .returned (.int .i64 r) ∧ Drawn0 w w' := by
 have H := h
 clear h
 unfold impl_mod8.f at H
 obtain rfl := Option.some.inj H
 go_enter Try.func93, Try.ntmps93
 go_wp2
 go_ret
 exact ⟨rs, dr⟩
end Go.Proofs.Ytmkpngbfbfpffaa.P
