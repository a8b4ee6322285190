/- Printed walks: each function's own reading as a Lean function, and the proof that a call of it answers so. -/
import Derived.Test.YtmkpngbfbfpffaaA1
namespace Go.Proofs.Ytmkpngbfbfpffaa.P
open Go.RowKit Go.Proofs.YtmkpngbfbfpffaaW.PrintWords Go.Proofs.YtmkpngbfbfpffaaW.PrintLast Go.Proofs.YtmkpngbfbfpffaaW.PrintMore Go.Proofs.YtmkpngbfbfpffaaW.Sq
attribute [local go_sem] max2_int min2_int max_two min_two max_three min_three max_four min_four   -- for this text's walks alone
set_option linter.unusedVariables false
set_option linter.unusedSimpArgs false
/-! ### spec_PathSumStep: function 53 -/
def spec_PathSumStep.j0 : Nat → Int → Int → Int → Bool → Int → Int → Int → Int → Option (Int × Int)
 | 0, _, _, _, _, _, _, _, _ => none
 | k + 1, x1, x2, x3, x21, x150000, x150001, x150002, x150003 => if x21 = true then (some (x1, x2)) else (if 0 ≤ (IntKind.u64.wrap (x150001)) then (if 0 ≤ (IntKind.u64.wrap (x150002)) then (if x150000 = 1 then (some (Go.bits .xor .i64 x1 (shl .i64 1 (IntKind.u64.wrap (x150001))), x2)) else (if x150000 = 2 then ((spec_l32Rest.f (wrap64 ((wrap64 (x2 + 2)) + (wrap64 (4 * (Go.bits .and .i64 (shr .i64 x1 (IntKind.u64.wrap (x150001))) 1)))))).bind fun t153 => (some (Go.bits .xor .i64 x1 (shl .i64 1 (IntKind.u64.wrap (x150001))), t153))) else (if x150000 = 4 then ((spec_l32Rest.f (wrap64 (x2 + (wrap64 ((wrap64 (4 * (Go.bits .and .i64 (shr .i64 x1 (IntKind.u64.wrap (x150001))) 1))) * x3))))).bind fun t154 => (some (Go.bits .or .i64 (Go.bits .andNot .i64 x1 (shl .i64 1 (IntKind.u64.wrap (x150001)))) (shl .i64 x3 (IntKind.u64.wrap (x150001))), t154))) else (if x150000 = 9 then (some (Go.bits .xor .i64 x1 (shl .i64 (Go.bits .and .i64 (shr .i64 x1 (IntKind.u64.wrap (x150001))) 1) (IntKind.u64.wrap (x150002))), x2)) else (if x150000 = 10 then ((spec_l32Rest.f (wrap64 (x2 + (wrap64 ((wrap64 (4 * (Go.bits .and .i64 (shr .i64 x1 (IntKind.u64.wrap (x150001))) 1))) * (Go.bits .and .i64 (shr .i64 x1 (IntKind.u64.wrap (x150002))) 1)))))).bind fun t155 => (some (x1, t155))) else (if x150000 = 11 then (some (Go.bits .xor .i64 (Go.bits .xor .i64 x1 (shl .i64 (Go.bits .xor .i64 (Go.bits .and .i64 (shr .i64 x1 (IntKind.u64.wrap (x150001))) 1) (Go.bits .and .i64 (shr .i64 x1 (IntKind.u64.wrap (x150002))) 1)) (IntKind.u64.wrap (x150001)))) (shl .i64 (Go.bits .xor .i64 (Go.bits .and .i64 (shr .i64 x1 (IntKind.u64.wrap (x150001))) 1) (Go.bits .and .i64 (shr .i64 x1 (IntKind.u64.wrap (x150002))) 1)) (IntKind.u64.wrap (x150002))), x2)) else (if x150000 = 12 then (if 0 ≤ (IntKind.u64.wrap (x150003)) then (some (Go.bits .xor .i64 x1 (shl .i64 (Go.bits .and .i64 (Go.bits .and .i64 (shr .i64 x1 (IntKind.u64.wrap (x150001))) 1) (Go.bits .and .i64 (shr .i64 x1 (IntKind.u64.wrap (x150002))) 1)) (IntKind.u64.wrap (x150003))), x2)) else (none)) else ((spec_RotationUnits.f x150000).bind fun t156 => ((spec_l32Rest.f (wrap64 (x2 + (wrap64 ((Go.bits .and .i64 (shr .i64 x1 (IntKind.u64.wrap (x150001))) 1) * t156))))).bind fun t157 => (some (x1, t157))))))))))) else (none)) else (none))
def spec_PathSumStep.f (k : Nat) (a0_0 : Int) (a0_1 : Int) (a0_2 : Int) (a0_3 : Int) (a1 : Int) (a2 : Int) (a3 : Int) : Option (Int × Int) := (spec_l32Rest.f a2).bind fun t150 => ((spec_IsValidGate.f k a0_0 a0_1 a0_2 a0_3 4).bind fun t151 => (if t151 = true then ((spec_l1In.f a3 0 1).bind fun t152 => (spec_PathSumStep.j0 k a1 t150 a3 (!t152) a0_0 a0_1 a0_2 a0_3)) else (spec_PathSumStep.j0 k a1 t150 a3 true a0_0 a0_1 a0_2 a0_3)))
set_option maxHeartbeats 8000000 in
set_option maxRecDepth 100000 in
theorem spec_PathSumStep.calls (k : Nat) (a0_0 : Int) (a0_1 : Int) (a0_2 : Int) (a0_3 : Int) (a1 : Int) (a2 : Int) (a3 : Int) (r1 : Int) (r2 : Int) (w : World) (h : spec_PathSumStep.f k a0_0 a0_1 a0_2 a0_3 a1 a2 a3 = some (r1, r2)) :
  Calls Try.prog 53 #[.agg #[.int .i64 a0_0, .int .i64 a0_1, .int .i64 a0_2, .int .i64 a0_3], .int .i64 a1, .int .i64 a2, .int .i64 a3] w fun e w' => e = .returned (.tuple #[.int .i64 r1, .int .i64 r2]) ∧ Below w.heap.size w w' := by
 have hu62 := Try.underlying62
 have HB := Aside0.mk (Below.refl w.heap.size w)
 have H := h
 clear h
 unfold spec_PathSumStep.f at H
 replace H := Option.bind_eq_some_iff.mp H
 obtain ⟨t150, A50, H⟩ := H
 try dsimp only at H
 have A5 := Aside0.mk A50
 clear A50
 have HC6 := Aside0.mk H
 clear H
 go_enter Try.func53, Try.ntmps53
 go_upto_region 2 with (first | ((with_reducible refine gate_dst (N := 4) rfl ?_); refine bx (N := 4) (cs := #[.int .i64 a0_0, .int .i64 a0_1, .int .i64 a0_2, .int .i64 a0_3]) (t := 62) ?_; intro gb149 hg w7 hbox hb; have BK149 := Aside0.mk hbox; have GW149 := sz hg HB; have GE149 := GW149; replace HB := bs HB hb; clear hb hbox hg) | (go_at_call 88; (with_reducible refine (spec_l32Rest.calls a2 t150 _ A5.out).mono ?_); rintro e w' ⟨rfl, ⟨nd, rfl⟩⟩; (try first | exact ⟨rfl, _, World.drewN_drewN _ _ _⟩ | exact ⟨rfl, _, Eq.trans (World.drewN_drewN _ _ _) (congrArg (World.drewN _) (Nat.add_assoc _ _ _))⟩)))
 repeat (go_quiet (first | ((with_reducible refine gate_dst (N := 4) rfl ?_); refine bx (N := 4) (cs := #[.int .i64 a0_0, .int .i64 a0_1, .int .i64 a0_2, .int .i64 a0_3]) (t := 62) ?_; intro gb149 hg w7 hbox hb; have BK149 := Aside0.mk hbox; have GW149 := sz hg HB; have GE149 := GW149; replace HB := bs HB hb; clear hb hbox hg) | (go_at_call 88; (with_reducible refine (spec_l32Rest.calls a2 t150 _ A5.out).mono ?_); rintro e w' ⟨rfl, ⟨nd, rfl⟩⟩; (try first | exact ⟨rfl, _, World.drewN_drewN _ _ _⟩ | exact ⟨rfl, _, Eq.trans (World.drewN_drewN _ _ _) (congrArg (World.drewN _) (Nat.add_assoc _ _ _))⟩))); go_upto_region 2 with (first | ((with_reducible refine gate_dst (N := 4) rfl ?_); refine bx (N := 4) (cs := #[.int .i64 a0_0, .int .i64 a0_1, .int .i64 a0_2, .int .i64 a0_3]) (t := 62) ?_; intro gb149 hg w7 hbox hb; have BK149 := Aside0.mk hbox; have GW149 := sz hg HB; have GE149 := GW149; replace HB := bs HB hb; clear hb hbox hg) | (go_at_call 88; (with_reducible refine (spec_l32Rest.calls a2 t150 _ A5.out).mono ?_); rintro e w' ⟨rfl, ⟨nd, rfl⟩⟩; (try first | exact ⟨rfl, _, World.drewN_drewN _ _ _⟩ | exact ⟨rfl, _, Eq.trans (World.drewN_drewN _ _ _) (congrArg (World.drewN _) (Nat.add_assoc _ _ _))⟩))))
 (try simp only [Act.put, List.setIfInBounds_toArray, List.set_cons_zero, List.set_cons_succ])
 go_cut [21] (fun v21 wc => ∃ (kq : Nat) (x21_5 : Bool), v21 = .bool x21_5 ∧ Aside0 (spec_PathSumStep.j0 kq a1 t150 a3 x21_5 a0_0 a0_1 a0_2 a0_3 = some (r1, r2)) ∧ Aside0 (kq ≤ k) ∧ Aside0 (wc.heap[gb149]? = some (.cells #[.int .i64 a0_0, .int .i64 a0_1, .int .i64 a0_2, .int .i64 a0_3] 62 (0, 0))) ∧ Aside0 (Below w.heap.size w wc))
 case first =>
  have H := HC6.out
  clear HC6
  replace H := Option.bind_eq_some_iff.mp H
  obtain ⟨t151, A80, H⟩ := H
  try dsimp only at H
  have A8 := Aside0.mk A80
  clear A80
  by_cases c9 : t151 = true
  ·subst c9
   rw [if_pos rfl] at H
   replace H := Option.bind_eq_some_iff.mp H
   obtain ⟨t152, A100, H⟩ := H
   try dsimp only at H
   have A10 := Aside0.mk A100
   clear A100
   have H' := Aside0.mk H
   clear H
   obtain ⟨hcz11_0, hcz11_1, hcz11_2, hcz11_3, hfz11_0, hfz11_1, hfz11_2, hfz11_3⟩ := cel4 BK149
   go_wp2_with (first | (go_at_call 52; (with_reducible refine (spec_IsValidGate.calls k a0_0 a0_1 a0_2 a0_3 4 true _ A8.out).mono ?_); rintro e w12 ⟨rfl, hb⟩; replace BK149 := cb BK149 hb; replace HB := bs HB hb; (try clear hb); (try clear hb2); (try clear hk); (try clear hi)) | (go_at_call 22; (with_reducible refine (spec_l1In.calls a3 0 1 t152 _ A10.out).mono ?_); rintro e w' ⟨rfl, ⟨nd, rfl⟩⟩; (try first | exact ⟨rfl, _, World.drewN_drewN _ _ _⟩ | exact ⟨rfl, _, Eq.trans (World.drewN_drewN _ _ _) (congrArg (World.drewN _) (Nat.add_assoc _ _ _))⟩)))
   repeat (go_quiet (first | (go_at_call 52; (with_reducible refine (spec_IsValidGate.calls k a0_0 a0_1 a0_2 a0_3 4 true _ A8.out).mono ?_); rintro e w12 ⟨rfl, hb⟩; replace BK149 := cb BK149 hb; replace HB := bs HB hb; (try clear hb); (try clear hb2); (try clear hk); (try clear hi)) | (go_at_call 22; (with_reducible refine (spec_l1In.calls a3 0 1 t152 _ A10.out).mono ?_); rintro e w' ⟨rfl, ⟨nd, rfl⟩⟩; (try first | exact ⟨rfl, _, World.drewN_drewN _ _ _⟩ | exact ⟨rfl, _, Eq.trans (World.drewN_drewN _ _ _) (congrArg (World.drewN _) (Nat.add_assoc _ _ _))⟩))); try go_wp2_with (first | (go_at_call 52; (with_reducible refine (spec_IsValidGate.calls k a0_0 a0_1 a0_2 a0_3 4 true _ A8.out).mono ?_); rintro e w12 ⟨rfl, hb⟩; replace BK149 := cb BK149 hb; replace HB := bs HB hb; (try clear hb); (try clear hb2); (try clear hk); (try clear hi)) | (go_at_call 22; (with_reducible refine (spec_l1In.calls a3 0 1 t152 _ A10.out).mono ?_); rintro e w' ⟨rfl, ⟨nd, rfl⟩⟩; (try first | exact ⟨rfl, _, World.drewN_drewN _ _ _⟩ | exact ⟨rfl, _, Eq.trans (World.drewN_drewN _ _ _) (congrArg (World.drewN _) (Nat.add_assoc _ _ _))⟩))))
   go_meet
   case rel => exact ⟨_, (!t152), rs, H', ⟨by first | omega | exact Nat.le_refl _⟩, ⟨pl BK149⟩, ⟨bl HB⟩⟩
  ·replace c9 := Bool.eq_false_iff.mpr c9
   subst c9
   rw [nf] at H
   have H' := Aside0.mk H
   clear H
   obtain ⟨hcz13_0, hcz13_1, hcz13_2, hcz13_3, hfz13_0, hfz13_1, hfz13_2, hfz13_3⟩ := cel4 BK149
   go_wp2_with (first | (go_at_call 52; (with_reducible refine (spec_IsValidGate.calls k a0_0 a0_1 a0_2 a0_3 4 false _ A8.out).mono ?_); rintro e w14 ⟨rfl, hb⟩; replace BK149 := cb BK149 hb; replace HB := bs HB hb; (try clear hb); (try clear hb2); (try clear hk); (try clear hi)))
   repeat (go_quiet (first | (go_at_call 52; (with_reducible refine (spec_IsValidGate.calls k a0_0 a0_1 a0_2 a0_3 4 false _ A8.out).mono ?_); rintro e w14 ⟨rfl, hb⟩; replace BK149 := cb BK149 hb; replace HB := bs HB hb; (try clear hb); (try clear hb2); (try clear hk); (try clear hi))); try go_wp2_with (first | (go_at_call 52; (with_reducible refine (spec_IsValidGate.calls k a0_0 a0_1 a0_2 a0_3 4 false _ A8.out).mono ?_); rintro e w14 ⟨rfl, hb⟩; replace BK149 := cb BK149 hb; replace HB := bs HB hb; (try clear hb); (try clear hb2); (try clear hk); (try clear hi))))
   go_meet
   case rel => exact ⟨_, (true), rs, H', ⟨by first | omega | exact Nat.le_refl _⟩, ⟨pl BK149⟩, ⟨bl HB⟩⟩
 case rest =>
  clear HC6
  try clear p2
  try clear c5
  try clear c9
  try clear hcz11_0
  try clear hcz11_1
  try clear hcz11_2
  try clear hcz11_3
  try clear hcz13_0
  try clear hcz13_1
  try clear hcz13_2
  try clear hcz13_3
  try clear hfz11_0
  try clear hfz11_1
  try clear hfz11_2
  try clear hfz11_3
  try clear hfz13_0
  try clear hfz13_1
  try clear hfz13_2
  try clear hfz13_3
  obtain ⟨kq, x21_5, rfl, HA, HJ5, BK149, HB⟩ := hcut
  cases kq with
  | zero => exact absurd HA.out (by simp [spec_PathSumStep.j0])
  | succ kj5 =>
   have H := HA.out
   clear HA
   simp only [spec_PathSumStep.j0] at H
   by_cases c15 : x21_5 = true
   ·subst c15
    rw [if_pos rfl] at H
    simp only [Option.some.injEq, Prod.mk.injEq] at H
    obtain ⟨rfl, rfl⟩ := H
    go_wp2
    repeat (go_quiet (fail); try go_wp2)
    go_ret2
    exact ⟨er, bl HB⟩
   ·replace c15 := Bool.eq_false_iff.mpr c15
    subst c15
    rw [nf] at H
    obtain ⟨ji16, hji16⟩ : ∃ j_ : Int, (IntKind.u64.wrap (a0_1)) = j_ := ⟨_, rfl⟩
    replace H : (if 0 ≤ (ji16) then (if 0 ≤ (IntKind.u64.wrap (a0_2)) then (if a0_0 = 1 then (some (Go.bits .xor .i64 a1 (shl .i64 1 (ji16)), t150)) else (if a0_0 = 2 then ((spec_l32Rest.f (wrap64 ((wrap64 (t150 + 2)) + (wrap64 (4 * (Go.bits .and .i64 (shr .i64 a1 (ji16)) 1)))))).bind fun t153 => (some (Go.bits .xor .i64 a1 (shl .i64 1 (ji16)), t153))) else (if a0_0 = 4 then ((spec_l32Rest.f (wrap64 (t150 + (wrap64 ((wrap64 (4 * (Go.bits .and .i64 (shr .i64 a1 (ji16)) 1))) * a3))))).bind fun t154 => (some (Go.bits .or .i64 (Go.bits .andNot .i64 a1 (shl .i64 1 (ji16))) (shl .i64 a3 (ji16)), t154))) else (if a0_0 = 9 then (some (Go.bits .xor .i64 a1 (shl .i64 (Go.bits .and .i64 (shr .i64 a1 (ji16)) 1) (IntKind.u64.wrap (a0_2))), t150)) else (if a0_0 = 10 then ((spec_l32Rest.f (wrap64 (t150 + (wrap64 ((wrap64 (4 * (Go.bits .and .i64 (shr .i64 a1 (ji16)) 1))) * (Go.bits .and .i64 (shr .i64 a1 (IntKind.u64.wrap (a0_2))) 1)))))).bind fun t155 => (some (a1, t155))) else (if a0_0 = 11 then (some (Go.bits .xor .i64 (Go.bits .xor .i64 a1 (shl .i64 (Go.bits .xor .i64 (Go.bits .and .i64 (shr .i64 a1 (ji16)) 1) (Go.bits .and .i64 (shr .i64 a1 (IntKind.u64.wrap (a0_2))) 1)) (ji16))) (shl .i64 (Go.bits .xor .i64 (Go.bits .and .i64 (shr .i64 a1 (ji16)) 1) (Go.bits .and .i64 (shr .i64 a1 (IntKind.u64.wrap (a0_2))) 1)) (IntKind.u64.wrap (a0_2))), t150)) else (if a0_0 = 12 then (if 0 ≤ (IntKind.u64.wrap (a0_3)) then (some (Go.bits .xor .i64 a1 (shl .i64 (Go.bits .and .i64 (Go.bits .and .i64 (shr .i64 a1 (ji16)) 1) (Go.bits .and .i64 (shr .i64 a1 (IntKind.u64.wrap (a0_2))) 1)) (IntKind.u64.wrap (a0_3))), t150)) else (none)) else ((spec_RotationUnits.f a0_0).bind fun t156 => ((spec_l32Rest.f (wrap64 (t150 + (wrap64 ((Go.bits .and .i64 (shr .i64 a1 (ji16)) 1) * t156))))).bind fun t157 => (some (a1, t157))))))))))) else (none)) else (none)) = some (r1, r2) := by first | (rw [hji16] at H; exact H) | (simp only [hji16] at H ⊢; exact H) | exact H
    by_cases c17 : 0 ≤ (ji16)
    ·rw [if_pos c17] at H
     have c17b0 := eq_true c17
     have c17b1 : decide (0 ≤ (ji16)) = true := decide_eq_true c17
     clear c17
     obtain ⟨ji18, hji18⟩ : ∃ j_ : Int, (shr .i64 a1 (ji16)) = j_ := ⟨_, rfl⟩
     replace H : (if 0 ≤ (IntKind.u64.wrap (a0_2)) then (if a0_0 = 1 then (some (Go.bits .xor .i64 a1 (shl .i64 1 (ji16)), t150)) else (if a0_0 = 2 then ((spec_l32Rest.f (wrap64 ((wrap64 (t150 + 2)) + (wrap64 (4 * (Go.bits .and .i64 (ji18) 1)))))).bind fun t153 => (some (Go.bits .xor .i64 a1 (shl .i64 1 (ji16)), t153))) else (if a0_0 = 4 then ((spec_l32Rest.f (wrap64 (t150 + (wrap64 ((wrap64 (4 * (Go.bits .and .i64 (ji18) 1))) * a3))))).bind fun t154 => (some (Go.bits .or .i64 (Go.bits .andNot .i64 a1 (shl .i64 1 (ji16))) (shl .i64 a3 (ji16)), t154))) else (if a0_0 = 9 then (some (Go.bits .xor .i64 a1 (shl .i64 (Go.bits .and .i64 (ji18) 1) (IntKind.u64.wrap (a0_2))), t150)) else (if a0_0 = 10 then ((spec_l32Rest.f (wrap64 (t150 + (wrap64 ((wrap64 (4 * (Go.bits .and .i64 (ji18) 1))) * (Go.bits .and .i64 (shr .i64 a1 (IntKind.u64.wrap (a0_2))) 1)))))).bind fun t155 => (some (a1, t155))) else (if a0_0 = 11 then (some (Go.bits .xor .i64 (Go.bits .xor .i64 a1 (shl .i64 (Go.bits .xor .i64 (Go.bits .and .i64 (ji18) 1) (Go.bits .and .i64 (shr .i64 a1 (IntKind.u64.wrap (a0_2))) 1)) (ji16))) (shl .i64 (Go.bits .xor .i64 (Go.bits .and .i64 (ji18) 1) (Go.bits .and .i64 (shr .i64 a1 (IntKind.u64.wrap (a0_2))) 1)) (IntKind.u64.wrap (a0_2))), t150)) else (if a0_0 = 12 then (if 0 ≤ (IntKind.u64.wrap (a0_3)) then (some (Go.bits .xor .i64 a1 (shl .i64 (Go.bits .and .i64 (Go.bits .and .i64 (ji18) 1) (Go.bits .and .i64 (shr .i64 a1 (IntKind.u64.wrap (a0_2))) 1)) (IntKind.u64.wrap (a0_3))), t150)) else (none)) else ((spec_RotationUnits.f a0_0).bind fun t156 => ((spec_l32Rest.f (wrap64 (t150 + (wrap64 ((Go.bits .and .i64 (ji18) 1) * t156))))).bind fun t157 => (some (a1, t157))))))))))) else (none)) = some (r1, r2) := by first | (rw [hji18] at H; exact H) | (simp only [hji18] at H ⊢; exact H) | exact H
     have hji18_ : (a1 / 2 ^ min (ji16).toNat 64) = ji18 := hji18
     have hji18z : (ji16) ≤ 64 → (a1 / 2 ^ (ji16).toNat) = ji18 := shr_small hji18
     obtain ⟨ji19, hji19⟩ : ∃ j_ : Int, (IntKind.u64.wrap (a0_2)) = j_ := ⟨_, rfl⟩
     replace H : (if 0 ≤ (ji19) then (if a0_0 = 1 then (some (Go.bits .xor .i64 a1 (shl .i64 1 (ji16)), t150)) else (if a0_0 = 2 then ((spec_l32Rest.f (wrap64 ((wrap64 (t150 + 2)) + (wrap64 (4 * (Go.bits .and .i64 (ji18) 1)))))).bind fun t153 => (some (Go.bits .xor .i64 a1 (shl .i64 1 (ji16)), t153))) else (if a0_0 = 4 then ((spec_l32Rest.f (wrap64 (t150 + (wrap64 ((wrap64 (4 * (Go.bits .and .i64 (ji18) 1))) * a3))))).bind fun t154 => (some (Go.bits .or .i64 (Go.bits .andNot .i64 a1 (shl .i64 1 (ji16))) (shl .i64 a3 (ji16)), t154))) else (if a0_0 = 9 then (some (Go.bits .xor .i64 a1 (shl .i64 (Go.bits .and .i64 (ji18) 1) (ji19)), t150)) else (if a0_0 = 10 then ((spec_l32Rest.f (wrap64 (t150 + (wrap64 ((wrap64 (4 * (Go.bits .and .i64 (ji18) 1))) * (Go.bits .and .i64 (shr .i64 a1 (ji19)) 1)))))).bind fun t155 => (some (a1, t155))) else (if a0_0 = 11 then (some (Go.bits .xor .i64 (Go.bits .xor .i64 a1 (shl .i64 (Go.bits .xor .i64 (Go.bits .and .i64 (ji18) 1) (Go.bits .and .i64 (shr .i64 a1 (ji19)) 1)) (ji16))) (shl .i64 (Go.bits .xor .i64 (Go.bits .and .i64 (ji18) 1) (Go.bits .and .i64 (shr .i64 a1 (ji19)) 1)) (ji19)), t150)) else (if a0_0 = 12 then (if 0 ≤ (IntKind.u64.wrap (a0_3)) then (some (Go.bits .xor .i64 a1 (shl .i64 (Go.bits .and .i64 (Go.bits .and .i64 (ji18) 1) (Go.bits .and .i64 (shr .i64 a1 (ji19)) 1)) (IntKind.u64.wrap (a0_3))), t150)) else (none)) else ((spec_RotationUnits.f a0_0).bind fun t156 => ((spec_l32Rest.f (wrap64 (t150 + (wrap64 ((Go.bits .and .i64 (ji18) 1) * t156))))).bind fun t157 => (some (a1, t157))))))))))) else (none)) = some (r1, r2) := by first | (rw [hji19] at H; exact H) | (simp only [hji19] at H ⊢; exact H) | exact H
     by_cases c20 : 0 ≤ (ji19)
     ·rw [if_pos c20] at H
      have c20b0 := eq_true c20
      have c20b1 : decide (0 ≤ (ji19)) = true := decide_eq_true c20
      clear c20
      obtain ⟨ji21, hji21⟩ : ∃ j_ : Int, (shr .i64 a1 (ji19)) = j_ := ⟨_, rfl⟩
      replace H : (if a0_0 = 1 then (some (Go.bits .xor .i64 a1 (shl .i64 1 (ji16)), t150)) else (if a0_0 = 2 then ((spec_l32Rest.f (wrap64 ((wrap64 (t150 + 2)) + (wrap64 (4 * (Go.bits .and .i64 (ji18) 1)))))).bind fun t153 => (some (Go.bits .xor .i64 a1 (shl .i64 1 (ji16)), t153))) else (if a0_0 = 4 then ((spec_l32Rest.f (wrap64 (t150 + (wrap64 ((wrap64 (4 * (Go.bits .and .i64 (ji18) 1))) * a3))))).bind fun t154 => (some (Go.bits .or .i64 (Go.bits .andNot .i64 a1 (shl .i64 1 (ji16))) (shl .i64 a3 (ji16)), t154))) else (if a0_0 = 9 then (some (Go.bits .xor .i64 a1 (shl .i64 (Go.bits .and .i64 (ji18) 1) (ji19)), t150)) else (if a0_0 = 10 then ((spec_l32Rest.f (wrap64 (t150 + (wrap64 ((wrap64 (4 * (Go.bits .and .i64 (ji18) 1))) * (Go.bits .and .i64 (ji21) 1)))))).bind fun t155 => (some (a1, t155))) else (if a0_0 = 11 then (some (Go.bits .xor .i64 (Go.bits .xor .i64 a1 (shl .i64 (Go.bits .xor .i64 (Go.bits .and .i64 (ji18) 1) (Go.bits .and .i64 (ji21) 1)) (ji16))) (shl .i64 (Go.bits .xor .i64 (Go.bits .and .i64 (ji18) 1) (Go.bits .and .i64 (ji21) 1)) (ji19)), t150)) else (if a0_0 = 12 then (if 0 ≤ (IntKind.u64.wrap (a0_3)) then (some (Go.bits .xor .i64 a1 (shl .i64 (Go.bits .and .i64 (Go.bits .and .i64 (ji18) 1) (Go.bits .and .i64 (ji21) 1)) (IntKind.u64.wrap (a0_3))), t150)) else (none)) else ((spec_RotationUnits.f a0_0).bind fun t156 => ((spec_l32Rest.f (wrap64 (t150 + (wrap64 ((Go.bits .and .i64 (ji18) 1) * t156))))).bind fun t157 => (some (a1, t157))))))))))) = some (r1, r2) := by first | (rw [hji21] at H; exact H) | (simp only [hji21] at H ⊢; exact H) | exact H
      have hji21_ : (a1 / 2 ^ min (ji19).toNat 64) = ji21 := hji21
      have hji21z : (ji19) ≤ 64 → (a1 / 2 ^ (ji19).toNat) = ji21 := shr_small hji21
      by_cases c22 : a0_0 = 1
      ·rw [if_pos c22] at H
       have c22b0 : (a0_0 == 1) = true := beq_iff_eq.mpr c22
       have c22b1 : (a0_0 != 1) = false := bne_eq_false_iff_eq.mpr c22
       clear c22
       have c23b0 := eq_true (of_decide_eq_true da : 0 ≤ (ji16))
       obtain ⟨ji24, hji24⟩ : ∃ j_ : Int, (shl .i64 1 (ji16)) = j_ := ⟨_, rfl⟩
       replace H : (some (Go.bits .xor .i64 a1 (ji24), t150)) = some (r1, r2) := by first | (rw [hji24] at H; exact H) | (simp only [hji24] at H ⊢; exact H) | exact H
       have hji24_ : (IntKind.i64.wrap (1 * 2 ^ min (ji16).toNat 64)) = ji24 := hji24
       have hji24z : (ji16) ≤ 64 → (IntKind.i64.wrap (1 * 2 ^ (ji16).toNat)) = ji24 := shl_small hji24
       have hji24u : (IntKind.i64.wrap (2 ^ min (ji16).toNat 64)) = ji24 := by have h_ := hji24_; rw [Int.one_mul] at h_; exact h_
       have hji24v : (ji16) ≤ 64 → (IntKind.i64.wrap (2 ^ (ji16).toNat)) = ji24 := fun hle_ => by have h_ := hji24z hle_; rw [Int.one_mul] at h_; exact h_
       have hji24y : (wrap64 (1 * 2 ^ min (ji16).toNat 64)) = ji24 := (i64_w _).symm.trans hji24_
       have hji24x : (ji16) ≤ 64 → (wrap64 (1 * 2 ^ (ji16).toNat)) = ji24 := fun h_ => (i64_w _).symm.trans (hji24z h_)
       simp only [Option.some.injEq, Prod.mk.injEq] at H
       obtain ⟨rfl, rfl⟩ := H
       obtain ⟨hcz25_0, hcz25_1, hcz25_2, hcz25_3, hfz25_0, hfz25_1, hfz25_2, hfz25_3⟩ := cel4 BK149
       go_wp2
       repeat (go_quiet (fail); try go_wp2)
       go_ret2
       exact ⟨by first | rfl | (simp [errW_none, errW_some] <;> rfl) | (simp only [← hji16, ← hji18, ← hji19, ← hji21, ← hji24]; first | rfl | (simp [errW_none, errW_some] <;> rfl)) | (simp [*, errW_none, errW_some] <;> rfl), bl HB⟩
      ·rw [if_neg c22] at H
       have c22b0 : (a0_0 == 1) = false := beq_eq_false_iff_ne.mpr c22
       have c22b1 : (a0_0 != 1) = true := bne_iff_ne.mpr c22
       by_cases c26 : a0_0 = 2
       ·rw [if_pos c26] at H
        have c26b0 : (a0_0 == 2) = true := beq_iff_eq.mpr c26
        have c26b1 : (a0_0 != 2) = false := bne_eq_false_iff_eq.mpr c26
        clear c26
        have c27b0 := eq_true (of_decide_eq_true da : 0 ≤ (ji16))
        obtain ⟨ji28, hji28⟩ : ∃ j_ : Int, (shl .i64 1 (ji16)) = j_ := ⟨_, rfl⟩
        replace H : ((spec_l32Rest.f (wrap64 ((wrap64 (t150 + 2)) + (wrap64 (4 * (Go.bits .and .i64 (ji18) 1)))))).bind fun t153 => (some (Go.bits .xor .i64 a1 (ji28), t153))) = some (r1, r2) := by first | (rw [hji28] at H; exact H) | (simp only [hji28] at H ⊢; exact H) | exact H
        have hji28_ : (IntKind.i64.wrap (1 * 2 ^ min (ji16).toNat 64)) = ji28 := hji28
        have hji28z : (ji16) ≤ 64 → (IntKind.i64.wrap (1 * 2 ^ (ji16).toNat)) = ji28 := shl_small hji28
        have hji28u : (IntKind.i64.wrap (2 ^ min (ji16).toNat 64)) = ji28 := by have h_ := hji28_; rw [Int.one_mul] at h_; exact h_
        have hji28v : (ji16) ≤ 64 → (IntKind.i64.wrap (2 ^ (ji16).toNat)) = ji28 := fun hle_ => by have h_ := hji28z hle_; rw [Int.one_mul] at h_; exact h_
        have hji28y : (wrap64 (1 * 2 ^ min (ji16).toNat 64)) = ji28 := (i64_w _).symm.trans hji28_
        have hji28x : (ji16) ≤ 64 → (wrap64 (1 * 2 ^ (ji16).toNat)) = ji28 := fun h_ => (i64_w _).symm.trans (hji28z h_)
        replace H := Option.bind_eq_some_iff.mp H
        obtain ⟨t153, A290, H⟩ := H
        try dsimp only at H
        have A29 := Aside0.mk A290
        clear A290
        simp only [Option.some.injEq, Prod.mk.injEq] at H
        obtain ⟨rfl, rfl⟩ := H
        obtain ⟨hcz30_0, hcz30_1, hcz30_2, hcz30_3, hfz30_0, hfz30_1, hfz30_2, hfz30_3⟩ := cel4 BK149
        go_wp2_with (first | (go_at_call 88; (with_reducible refine (spec_l32Rest.calls (wrap64 ((wrap64 (t150 + 2)) + (wrap64 (4 * (Go.bits .and .i64 (ji18) 1))))) t153 _ A29.out).mono ?_); rintro e w' ⟨rfl, ⟨nd, rfl⟩⟩; (try first | exact ⟨rfl, _, World.drewN_drewN _ _ _⟩ | exact ⟨rfl, _, Eq.trans (World.drewN_drewN _ _ _) (congrArg (World.drewN _) (Nat.add_assoc _ _ _))⟩)))
        repeat (go_quiet (first | (go_at_call 88; (with_reducible refine (spec_l32Rest.calls (wrap64 ((wrap64 (t150 + 2)) + (wrap64 (4 * (Go.bits .and .i64 (ji18) 1))))) t153 _ A29.out).mono ?_); rintro e w' ⟨rfl, ⟨nd, rfl⟩⟩; (try first | exact ⟨rfl, _, World.drewN_drewN _ _ _⟩ | exact ⟨rfl, _, Eq.trans (World.drewN_drewN _ _ _) (congrArg (World.drewN _) (Nat.add_assoc _ _ _))⟩))); try go_wp2_with (first | (go_at_call 88; (with_reducible refine (spec_l32Rest.calls (wrap64 ((wrap64 (t150 + 2)) + (wrap64 (4 * (Go.bits .and .i64 (ji18) 1))))) t153 _ A29.out).mono ?_); rintro e w' ⟨rfl, ⟨nd, rfl⟩⟩; (try first | exact ⟨rfl, _, World.drewN_drewN _ _ _⟩ | exact ⟨rfl, _, Eq.trans (World.drewN_drewN _ _ _) (congrArg (World.drewN _) (Nat.add_assoc _ _ _))⟩))))
        go_ret2
        exact ⟨by first | rfl | (simp [errW_none, errW_some] <;> rfl) | (simp only [← hji16, ← hji18, ← hji19, ← hji21, ← hji28]; first | rfl | (simp [errW_none, errW_some] <;> rfl)) | (simp [*, errW_none, errW_some] <;> rfl), bl HB⟩
       ·rw [if_neg c26] at H
        have c26b0 : (a0_0 == 2) = false := beq_eq_false_iff_ne.mpr c26
        have c26b1 : (a0_0 != 2) = true := bne_iff_ne.mpr c26
        by_cases c31 : a0_0 = 4
        ·rw [if_pos c31] at H
         have c31b0 : (a0_0 == 4) = true := beq_iff_eq.mpr c31
         have c31b1 : (a0_0 != 4) = false := bne_eq_false_iff_eq.mpr c31
         clear c31
         have c32b0 := eq_true (of_decide_eq_true da : 0 ≤ (ji16))
         obtain ⟨ji33, hji33⟩ : ∃ j_ : Int, (shl .i64 1 (ji16)) = j_ := ⟨_, rfl⟩
         replace H : ((spec_l32Rest.f (wrap64 (t150 + (wrap64 ((wrap64 (4 * (Go.bits .and .i64 (ji18) 1))) * a3))))).bind fun t154 => (some (Go.bits .or .i64 (Go.bits .andNot .i64 a1 (ji33)) (shl .i64 a3 (ji16)), t154))) = some (r1, r2) := by first | (rw [hji33] at H; exact H) | (simp only [hji33] at H ⊢; exact H) | exact H
         have hji33_ : (IntKind.i64.wrap (1 * 2 ^ min (ji16).toNat 64)) = ji33 := hji33
         have hji33z : (ji16) ≤ 64 → (IntKind.i64.wrap (1 * 2 ^ (ji16).toNat)) = ji33 := shl_small hji33
         have hji33u : (IntKind.i64.wrap (2 ^ min (ji16).toNat 64)) = ji33 := by have h_ := hji33_; rw [Int.one_mul] at h_; exact h_
         have hji33v : (ji16) ≤ 64 → (IntKind.i64.wrap (2 ^ (ji16).toNat)) = ji33 := fun hle_ => by have h_ := hji33z hle_; rw [Int.one_mul] at h_; exact h_
         have hji33y : (wrap64 (1 * 2 ^ min (ji16).toNat 64)) = ji33 := (i64_w _).symm.trans hji33_
         have hji33x : (ji16) ≤ 64 → (wrap64 (1 * 2 ^ (ji16).toNat)) = ji33 := fun h_ => (i64_w _).symm.trans (hji33z h_)
         have c34b0 := eq_true (of_decide_eq_true da : 0 ≤ (ji16))
         obtain ⟨ji35, hji35⟩ : ∃ j_ : Int, (shl .i64 a3 (ji16)) = j_ := ⟨_, rfl⟩
         replace H : ((spec_l32Rest.f (wrap64 (t150 + (wrap64 ((wrap64 (4 * (Go.bits .and .i64 (ji18) 1))) * a3))))).bind fun t154 => (some (Go.bits .or .i64 (Go.bits .andNot .i64 a1 (ji33)) (ji35), t154))) = some (r1, r2) := by first | (rw [hji35] at H; exact H) | (simp only [hji35] at H ⊢; exact H) | exact H
         have hji35_ : (IntKind.i64.wrap (a3 * 2 ^ min (ji16).toNat 64)) = ji35 := hji35
         have hji35z : (ji16) ≤ 64 → (IntKind.i64.wrap (a3 * 2 ^ (ji16).toNat)) = ji35 := shl_small hji35
         have hji35y : (wrap64 (a3 * 2 ^ min (ji16).toNat 64)) = ji35 := (i64_w _).symm.trans hji35_
         have hji35x : (ji16) ≤ 64 → (wrap64 (a3 * 2 ^ (ji16).toNat)) = ji35 := fun h_ => (i64_w _).symm.trans (hji35z h_)
         replace H := Option.bind_eq_some_iff.mp H
         obtain ⟨t154, A360, H⟩ := H
         try dsimp only at H
         have A36 := Aside0.mk A360
         clear A360
         simp only [Option.some.injEq, Prod.mk.injEq] at H
         obtain ⟨rfl, rfl⟩ := H
         obtain ⟨hcz37_0, hcz37_1, hcz37_2, hcz37_3, hfz37_0, hfz37_1, hfz37_2, hfz37_3⟩ := cel4 BK149
         go_wp2_with (first | (go_at_call 88; (with_reducible refine (spec_l32Rest.calls (wrap64 (t150 + (wrap64 ((wrap64 (4 * (Go.bits .and .i64 (ji18) 1))) * a3)))) t154 _ A36.out).mono ?_); rintro e w' ⟨rfl, ⟨nd, rfl⟩⟩; (try first | exact ⟨rfl, _, World.drewN_drewN _ _ _⟩ | exact ⟨rfl, _, Eq.trans (World.drewN_drewN _ _ _) (congrArg (World.drewN _) (Nat.add_assoc _ _ _))⟩)))
         repeat (go_quiet (first | (go_at_call 88; (with_reducible refine (spec_l32Rest.calls (wrap64 (t150 + (wrap64 ((wrap64 (4 * (Go.bits .and .i64 (ji18) 1))) * a3)))) t154 _ A36.out).mono ?_); rintro e w' ⟨rfl, ⟨nd, rfl⟩⟩; (try first | exact ⟨rfl, _, World.drewN_drewN _ _ _⟩ | exact ⟨rfl, _, Eq.trans (World.drewN_drewN _ _ _) (congrArg (World.drewN _) (Nat.add_assoc _ _ _))⟩))); try go_wp2_with (first | (go_at_call 88; (with_reducible refine (spec_l32Rest.calls (wrap64 (t150 + (wrap64 ((wrap64 (4 * (Go.bits .and .i64 (ji18) 1))) * a3)))) t154 _ A36.out).mono ?_); rintro e w' ⟨rfl, ⟨nd, rfl⟩⟩; (try first | exact ⟨rfl, _, World.drewN_drewN _ _ _⟩ | exact ⟨rfl, _, Eq.trans (World.drewN_drewN _ _ _) (congrArg (World.drewN _) (Nat.add_assoc _ _ _))⟩))))
         go_ret2
         exact ⟨by first | rfl | (simp [errW_none, errW_some] <;> rfl) | (simp only [← hji16, ← hji18, ← hji19, ← hji21, ← hji33, ← hji35]; first | rfl | (simp [errW_none, errW_some] <;> rfl)) | (simp [*, errW_none, errW_some] <;> rfl), bl HB⟩
        ·rw [if_neg c31] at H
         have c31b0 : (a0_0 == 4) = false := beq_eq_false_iff_ne.mpr c31
         have c31b1 : (a0_0 != 4) = true := bne_iff_ne.mpr c31
         by_cases c38 : a0_0 = 9
         ·rw [if_pos c38] at H
          have c38b0 : (a0_0 == 9) = true := beq_iff_eq.mpr c38
          have c38b1 : (a0_0 != 9) = false := bne_eq_false_iff_eq.mpr c38
          clear c38
          have c39b0 := eq_true (of_decide_eq_true da : 0 ≤ (ji19))
          obtain ⟨ji40, hji40⟩ : ∃ j_ : Int, (shl .i64 (Go.bits .and .i64 (ji18) 1) (ji19)) = j_ := ⟨_, rfl⟩
          replace H : (some (Go.bits .xor .i64 a1 (ji40), t150)) = some (r1, r2) := by first | (rw [hji40] at H; exact H) | (simp only [hji40] at H ⊢; exact H) | exact H
          have hji40_ : (IntKind.i64.wrap ((Go.bits .and .i64 (ji18) 1) * 2 ^ min (ji19).toNat 64)) = ji40 := hji40
          have hji40z : (ji19) ≤ 64 → (IntKind.i64.wrap ((Go.bits .and .i64 (ji18) 1) * 2 ^ (ji19).toNat)) = ji40 := shl_small hji40
          have hji40y : (wrap64 ((Go.bits .and .i64 (ji18) 1) * 2 ^ min (ji19).toNat 64)) = ji40 := (i64_w _).symm.trans hji40_
          have hji40x : (ji19) ≤ 64 → (wrap64 ((Go.bits .and .i64 (ji18) 1) * 2 ^ (ji19).toNat)) = ji40 := fun h_ => (i64_w _).symm.trans (hji40z h_)
          simp only [Option.some.injEq, Prod.mk.injEq] at H
          obtain ⟨rfl, rfl⟩ := H
          obtain ⟨hcz41_0, hcz41_1, hcz41_2, hcz41_3, hfz41_0, hfz41_1, hfz41_2, hfz41_3⟩ := cel4 BK149
          go_wp2
          repeat (go_quiet (fail); try go_wp2)
          go_ret2
          exact ⟨by first | rfl | (simp [errW_none, errW_some] <;> rfl) | (simp only [← hji16, ← hji18, ← hji19, ← hji21, ← hji40]; first | rfl | (simp [errW_none, errW_some] <;> rfl)) | (simp [*, errW_none, errW_some] <;> rfl), bl HB⟩
         ·rw [if_neg c38] at H
          have c38b0 : (a0_0 == 9) = false := beq_eq_false_iff_ne.mpr c38
          have c38b1 : (a0_0 != 9) = true := bne_iff_ne.mpr c38
          by_cases c42 : a0_0 = 10
          ·rw [if_pos c42] at H
           have c42b0 : (a0_0 == 10) = true := beq_iff_eq.mpr c42
           have c42b1 : (a0_0 != 10) = false := bne_eq_false_iff_eq.mpr c42
           clear c42
           replace H := Option.bind_eq_some_iff.mp H
           obtain ⟨t155, A430, H⟩ := H
           try dsimp only at H
           have A43 := Aside0.mk A430
           clear A430
           simp only [Option.some.injEq, Prod.mk.injEq] at H
           obtain ⟨rfl, rfl⟩ := H
           obtain ⟨hcz44_0, hcz44_1, hcz44_2, hcz44_3, hfz44_0, hfz44_1, hfz44_2, hfz44_3⟩ := cel4 BK149
           go_wp2_with (first | (go_at_call 88; (with_reducible refine (spec_l32Rest.calls (wrap64 (t150 + (wrap64 ((wrap64 (4 * (Go.bits .and .i64 (ji18) 1))) * (Go.bits .and .i64 (ji21) 1))))) t155 _ A43.out).mono ?_); rintro e w' ⟨rfl, ⟨nd, rfl⟩⟩; (try first | exact ⟨rfl, _, World.drewN_drewN _ _ _⟩ | exact ⟨rfl, _, Eq.trans (World.drewN_drewN _ _ _) (congrArg (World.drewN _) (Nat.add_assoc _ _ _))⟩)))
           repeat (go_quiet (first | (go_at_call 88; (with_reducible refine (spec_l32Rest.calls (wrap64 (t150 + (wrap64 ((wrap64 (4 * (Go.bits .and .i64 (ji18) 1))) * (Go.bits .and .i64 (ji21) 1))))) t155 _ A43.out).mono ?_); rintro e w' ⟨rfl, ⟨nd, rfl⟩⟩; (try first | exact ⟨rfl, _, World.drewN_drewN _ _ _⟩ | exact ⟨rfl, _, Eq.trans (World.drewN_drewN _ _ _) (congrArg (World.drewN _) (Nat.add_assoc _ _ _))⟩))); try go_wp2_with (first | (go_at_call 88; (with_reducible refine (spec_l32Rest.calls (wrap64 (t150 + (wrap64 ((wrap64 (4 * (Go.bits .and .i64 (ji18) 1))) * (Go.bits .and .i64 (ji21) 1))))) t155 _ A43.out).mono ?_); rintro e w' ⟨rfl, ⟨nd, rfl⟩⟩; (try first | exact ⟨rfl, _, World.drewN_drewN _ _ _⟩ | exact ⟨rfl, _, Eq.trans (World.drewN_drewN _ _ _) (congrArg (World.drewN _) (Nat.add_assoc _ _ _))⟩))))
           go_ret2
           exact ⟨by first | rfl | (simp [errW_none, errW_some] <;> rfl) | (simp only [← hji16, ← hji18, ← hji19, ← hji21]; first | rfl | (simp [errW_none, errW_some] <;> rfl)) | (simp [*, errW_none, errW_some] <;> rfl), bl HB⟩
          ·rw [if_neg c42] at H
           have c42b0 : (a0_0 == 10) = false := beq_eq_false_iff_ne.mpr c42
           have c42b1 : (a0_0 != 10) = true := bne_iff_ne.mpr c42
           by_cases c45 : a0_0 = 11
           ·rw [if_pos c45] at H
            have c45b0 : (a0_0 == 11) = true := beq_iff_eq.mpr c45
            have c45b1 : (a0_0 != 11) = false := bne_eq_false_iff_eq.mpr c45
            clear c45
            have c46b0 := eq_true (of_decide_eq_true da : 0 ≤ (ji16))
            obtain ⟨ji47, hji47⟩ : ∃ j_ : Int, (shl .i64 (Go.bits .xor .i64 (Go.bits .and .i64 (ji18) 1) (Go.bits .and .i64 (ji21) 1)) (ji16)) = j_ := ⟨_, rfl⟩
            replace H : (some (Go.bits .xor .i64 (Go.bits .xor .i64 a1 (ji47)) (shl .i64 (Go.bits .xor .i64 (Go.bits .and .i64 (ji18) 1) (Go.bits .and .i64 (ji21) 1)) (ji19)), t150)) = some (r1, r2) := by first | (rw [hji47] at H; exact H) | (simp only [hji47] at H ⊢; exact H) | exact H
            have hji47_ : (IntKind.i64.wrap ((Go.bits .xor .i64 (Go.bits .and .i64 (ji18) 1) (Go.bits .and .i64 (ji21) 1)) * 2 ^ min (ji16).toNat 64)) = ji47 := hji47
            have hji47z : (ji16) ≤ 64 → (IntKind.i64.wrap ((Go.bits .xor .i64 (Go.bits .and .i64 (ji18) 1) (Go.bits .and .i64 (ji21) 1)) * 2 ^ (ji16).toNat)) = ji47 := shl_small hji47
            have hji47y : (wrap64 ((Go.bits .xor .i64 (Go.bits .and .i64 (ji18) 1) (Go.bits .and .i64 (ji21) 1)) * 2 ^ min (ji16).toNat 64)) = ji47 := (i64_w _).symm.trans hji47_
            have hji47x : (ji16) ≤ 64 → (wrap64 ((Go.bits .xor .i64 (Go.bits .and .i64 (ji18) 1) (Go.bits .and .i64 (ji21) 1)) * 2 ^ (ji16).toNat)) = ji47 := fun h_ => (i64_w _).symm.trans (hji47z h_)
            have c48b0 := eq_true (of_decide_eq_true da : 0 ≤ (ji19))
            obtain ⟨ji49, hji49⟩ : ∃ j_ : Int, (shl .i64 (Go.bits .xor .i64 (Go.bits .and .i64 (ji18) 1) (Go.bits .and .i64 (ji21) 1)) (ji19)) = j_ := ⟨_, rfl⟩
            replace H : (some (Go.bits .xor .i64 (Go.bits .xor .i64 a1 (ji47)) (ji49), t150)) = some (r1, r2) := by first | (rw [hji49] at H; exact H) | (simp only [hji49] at H ⊢; exact H) | exact H
            have hji49_ : (IntKind.i64.wrap ((Go.bits .xor .i64 (Go.bits .and .i64 (ji18) 1) (Go.bits .and .i64 (ji21) 1)) * 2 ^ min (ji19).toNat 64)) = ji49 := hji49
            have hji49z : (ji19) ≤ 64 → (IntKind.i64.wrap ((Go.bits .xor .i64 (Go.bits .and .i64 (ji18) 1) (Go.bits .and .i64 (ji21) 1)) * 2 ^ (ji19).toNat)) = ji49 := shl_small hji49
            have hji49y : (wrap64 ((Go.bits .xor .i64 (Go.bits .and .i64 (ji18) 1) (Go.bits .and .i64 (ji21) 1)) * 2 ^ min (ji19).toNat 64)) = ji49 := (i64_w _).symm.trans hji49_
            have hji49x : (ji19) ≤ 64 → (wrap64 ((Go.bits .xor .i64 (Go.bits .and .i64 (ji18) 1) (Go.bits .and .i64 (ji21) 1)) * 2 ^ (ji19).toNat)) = ji49 := fun h_ => (i64_w _).symm.trans (hji49z h_)
            simp only [Option.some.injEq, Prod.mk.injEq] at H
            obtain ⟨rfl, rfl⟩ := H
            obtain ⟨hcz50_0, hcz50_1, hcz50_2, hcz50_3, hfz50_0, hfz50_1, hfz50_2, hfz50_3⟩ := cel4 BK149
            go_wp2
            repeat (go_quiet (fail); try go_wp2)
            go_ret2
            exact ⟨by first | rfl | (simp [errW_none, errW_some] <;> rfl) | (simp only [← hji16, ← hji18, ← hji19, ← hji21, ← hji47, ← hji49]; first | rfl | (simp [errW_none, errW_some] <;> rfl)) | (simp [*, errW_none, errW_some] <;> rfl), bl HB⟩
           ·rw [if_neg c45] at H
            have c45b0 : (a0_0 == 11) = false := beq_eq_false_iff_ne.mpr c45
            have c45b1 : (a0_0 != 11) = true := bne_iff_ne.mpr c45
            by_cases c51 : a0_0 = 12
            ·rw [if_pos c51] at H
             have c51b0 : (a0_0 == 12) = true := beq_iff_eq.mpr c51
             have c51b1 : (a0_0 != 12) = false := bne_eq_false_iff_eq.mpr c51
             clear c51
             obtain ⟨ji52, hji52⟩ : ∃ j_ : Int, (IntKind.u64.wrap (a0_3)) = j_ := ⟨_, rfl⟩
             replace H : (if 0 ≤ (ji52) then (some (Go.bits .xor .i64 a1 (shl .i64 (Go.bits .and .i64 (Go.bits .and .i64 (ji18) 1) (Go.bits .and .i64 (ji21) 1)) (ji52)), t150)) else (none)) = some (r1, r2) := by first | (rw [hji52] at H; exact H) | (simp only [hji52] at H ⊢; exact H) | exact H
             by_cases c53 : 0 ≤ (ji52)
             ·rw [if_pos c53] at H
              have c53b0 := eq_true c53
              have c53b1 : decide (0 ≤ (ji52)) = true := decide_eq_true c53
              clear c53
              obtain ⟨ji54, hji54⟩ : ∃ j_ : Int, (shl .i64 (Go.bits .and .i64 (Go.bits .and .i64 (ji18) 1) (Go.bits .and .i64 (ji21) 1)) (ji52)) = j_ := ⟨_, rfl⟩
              replace H : (some (Go.bits .xor .i64 a1 (ji54), t150)) = some (r1, r2) := by first | (rw [hji54] at H; exact H) | (simp only [hji54] at H ⊢; exact H) | exact H
              have hji54_ : (IntKind.i64.wrap ((Go.bits .and .i64 (Go.bits .and .i64 (ji18) 1) (Go.bits .and .i64 (ji21) 1)) * 2 ^ min (ji52).toNat 64)) = ji54 := hji54
              have hji54z : (ji52) ≤ 64 → (IntKind.i64.wrap ((Go.bits .and .i64 (Go.bits .and .i64 (ji18) 1) (Go.bits .and .i64 (ji21) 1)) * 2 ^ (ji52).toNat)) = ji54 := shl_small hji54
              have hji54y : (wrap64 ((Go.bits .and .i64 (Go.bits .and .i64 (ji18) 1) (Go.bits .and .i64 (ji21) 1)) * 2 ^ min (ji52).toNat 64)) = ji54 := (i64_w _).symm.trans hji54_
              have hji54x : (ji52) ≤ 64 → (wrap64 ((Go.bits .and .i64 (Go.bits .and .i64 (ji18) 1) (Go.bits .and .i64 (ji21) 1)) * 2 ^ (ji52).toNat)) = ji54 := fun h_ => (i64_w _).symm.trans (hji54z h_)
              simp only [Option.some.injEq, Prod.mk.injEq] at H
              obtain ⟨rfl, rfl⟩ := H
              obtain ⟨hcz55_0, hcz55_1, hcz55_2, hcz55_3, hfz55_0, hfz55_1, hfz55_2, hfz55_3⟩ := cel4 BK149
              go_wp2
              repeat (go_quiet (fail); try go_wp2)
              go_ret2
              exact ⟨by first | rfl | (simp [errW_none, errW_some] <;> rfl) | (simp only [← hji16, ← hji18, ← hji19, ← hji21, ← hji52, ← hji54]; first | rfl | (simp [errW_none, errW_some] <;> rfl)) | (simp [*, errW_none, errW_some] <;> rfl), bl HB⟩
             ·rw [if_neg c53] at H
              exact absurd H (by simp)
            ·rw [if_neg c51] at H
             have c51b0 : (a0_0 == 12) = false := beq_eq_false_iff_ne.mpr c51
             have c51b1 : (a0_0 != 12) = true := bne_iff_ne.mpr c51
             replace H := Option.bind_eq_some_iff.mp H
             obtain ⟨t156, A560, H⟩ := H
             try dsimp only at H
             have A56 := Aside0.mk A560
             clear A560
             replace H := Option.bind_eq_some_iff.mp H
             obtain ⟨t157, A570, H⟩ := H
             try dsimp only at H
             have A57 := Aside0.mk A570
             clear A570
             simp only [Option.some.injEq, Prod.mk.injEq] at H
             obtain ⟨rfl, rfl⟩ := H
             obtain ⟨hcz58_0, hcz58_1, hcz58_2, hcz58_3, hfz58_0, hfz58_1, hfz58_2, hfz58_3⟩ := cel4 BK149
             go_wp2_with (first | (go_at_call 89; (with_reducible refine (spec_RotationUnits.calls a0_0 t156 _ A56.out).mono ?_); rintro e w' ⟨rfl, ⟨nd, rfl⟩⟩; (try first | exact ⟨rfl, _, World.drewN_drewN _ _ _⟩ | exact ⟨rfl, _, Eq.trans (World.drewN_drewN _ _ _) (congrArg (World.drewN _) (Nat.add_assoc _ _ _))⟩)) | (go_at_call 88; (with_reducible refine (spec_l32Rest.calls (wrap64 (t150 + (wrap64 ((Go.bits .and .i64 (ji18) 1) * t156)))) t157 _ A57.out).mono ?_); rintro e w' ⟨rfl, ⟨nd, rfl⟩⟩; (try first | exact ⟨rfl, _, World.drewN_drewN _ _ _⟩ | exact ⟨rfl, _, Eq.trans (World.drewN_drewN _ _ _) (congrArg (World.drewN _) (Nat.add_assoc _ _ _))⟩)))
             repeat (go_quiet (first | (go_at_call 89; (with_reducible refine (spec_RotationUnits.calls a0_0 t156 _ A56.out).mono ?_); rintro e w' ⟨rfl, ⟨nd, rfl⟩⟩; (try first | exact ⟨rfl, _, World.drewN_drewN _ _ _⟩ | exact ⟨rfl, _, Eq.trans (World.drewN_drewN _ _ _) (congrArg (World.drewN _) (Nat.add_assoc _ _ _))⟩)) | (go_at_call 88; (with_reducible refine (spec_l32Rest.calls (wrap64 (t150 + (wrap64 ((Go.bits .and .i64 (ji18) 1) * t156)))) t157 _ A57.out).mono ?_); rintro e w' ⟨rfl, ⟨nd, rfl⟩⟩; (try first | exact ⟨rfl, _, World.drewN_drewN _ _ _⟩ | exact ⟨rfl, _, Eq.trans (World.drewN_drewN _ _ _) (congrArg (World.drewN _) (Nat.add_assoc _ _ _))⟩))); try go_wp2_with (first | (go_at_call 89; (with_reducible refine (spec_RotationUnits.calls a0_0 t156 _ A56.out).mono ?_); rintro e w' ⟨rfl, ⟨nd, rfl⟩⟩; (try first | exact ⟨rfl, _, World.drewN_drewN _ _ _⟩ | exact ⟨rfl, _, Eq.trans (World.drewN_drewN _ _ _) (congrArg (World.drewN _) (Nat.add_assoc _ _ _))⟩)) | (go_at_call 88; (with_reducible refine (spec_l32Rest.calls (wrap64 (t150 + (wrap64 ((Go.bits .and .i64 (ji18) 1) * t156)))) t157 _ A57.out).mono ?_); rintro e w' ⟨rfl, ⟨nd, rfl⟩⟩; (try first | exact ⟨rfl, _, World.drewN_drewN _ _ _⟩ | exact ⟨rfl, _, Eq.trans (World.drewN_drewN _ _ _) (congrArg (World.drewN _) (Nat.add_assoc _ _ _))⟩))))
             go_ret2
             exact ⟨by first | rfl | (simp [errW_none, errW_some] <;> rfl) | (simp only [← hji16, ← hji18, ← hji19, ← hji21]; first | rfl | (simp [errW_none, errW_some] <;> rfl)) | (simp [*, errW_none, errW_some] <;> rfl), bl HB⟩
     ·rw [if_neg c20] at H
      exact absurd H (by simp)
    ·rw [if_neg c17] at H
     exact absurd H (by simp)
/-! ### spec_PathEnd: function 24 -/
mutual
def spec_PathEnd.j0 : Nat → List (S62) → Int → Int → Bool → Option (Int × Int)
 | 0, _, _, _, _ => none
 | k + 1, x0, x2, x3, x22 => if x22 = true then (some (x2, 0)) else (spec_PathEnd.l0 k x0 x3 x2 0 0 0)
def spec_PathEnd.l0 : Nat → List (S62) → Int → Int → Int → Int → Int → Option (Int × Int)
 | 0, _, _, _, _, _, _ => none
 | k + 1, x0, x3, x10, x11, x12, x13 => if x13 < (x0.length : Int) then (if 0 ≤ x13 then (if ((rd_T62 x0 x13).f0) = 4 then (if x12 < 62 then (if 0 ≤ (IntKind.u64.wrap (x12)) then ((spec_PathSumStep.f k ((rd_T62 x0 x13).f0) ((rd_T62 x0 x13).f1) ((rd_T62 x0 x13).f2) ((rd_T62 x0 x13).f3) x10 x11 (Go.bits .and .i64 (shr .i64 x3 (IntKind.u64.wrap (x12))) 1)).bind fun bt161 => (spec_PathEnd.l0 k x0 x3 bt161.1 bt161.2 (wrap64 (x12 + 1)) (wrap64 (x13 + 1)))) else (none)) else ((spec_PathSumStep.f k ((rd_T62 x0 x13).f0) ((rd_T62 x0 x13).f1) ((rd_T62 x0 x13).f2) ((rd_T62 x0 x13).f3) x10 x11 0).bind fun bt164 => (spec_PathEnd.l0 k x0 x3 bt164.1 bt164.2 (wrap64 (x12 + 1)) (wrap64 (x13 + 1))))) else ((spec_PathSumStep.f k ((rd_T62 x0 x13).f0) ((rd_T62 x0 x13).f1) ((rd_T62 x0 x13).f2) ((rd_T62 x0 x13).f3) x10 x11 0).bind fun bt167 => (spec_PathEnd.l0 k x0 x3 bt167.1 bt167.2 x12 (wrap64 (x13 + 1))))) else (none)) else (some (x10, x11))
end
def spec_PathEnd.f (k : Nat) (l0 : List (S62)) (a1 : Int) (a2 : Int) (a3 : Int) : Option (Int × Int) := (spec_l44Right.f k l0 a1).bind fun t158 => (if t158 = true then (spec_PathEnd.j0 k l0 a2 a3 (decide (a3 < 0))) else (spec_PathEnd.j0 k l0 a2 a3 true))
set_option maxHeartbeats 8000000 in
set_option maxRecDepth 100000 in
theorem spec_PathEnd.calls (k : Nat) (A0 : Option Addr) (c0 : Nat) (l0 : List (S62)) (a1 : Int) (a2 : Int) (a3 : Int) (r1 : Int) (r2 : Int) (w : World) (hr0 : Kd.C k62 w A0 l0.length l0) (hc0 : l0.length ≤ c0) (h : spec_PathEnd.f k l0 a1 a2 a3 = some (r1, r2)) :
  Calls Try.prog 24 #[.slice A0 l0.length c0, .int .i64 a1, .int .i64 a2, .int .i64 a3] w fun e w' => e = .returned (.tuple #[.int .i64 r1, .int .i64 r2]) ∧ Below w.heap.size w w' := by
 have hu62 := Try.underlying62
 have HR0 := Aside0.mk hr0
 have HC0 := Aside0.mk hc0
 clear hr0 hc0
 have HB := Aside0.mk (Below.refl w.heap.size w)
 have H := h
 clear h
 unfold spec_PathEnd.f at H
 have HC5 := Aside0.mk H
 clear H
 go_enter Try.func24, Try.ntmps24
 go_upto_region 1 with (fail)
 go_cut [22] (fun v22 wc => ∃ (kq : Nat) (x22_4 : Bool), v22 = .bool x22_4 ∧ Aside0 (spec_PathEnd.j0 kq l0 a2 a3 x22_4 = some (r1, r2)) ∧ Aside0 (kq ≤ k) ∧ Aside0 (Below w.heap.size w wc))
 case first =>
  have H := HC5.out
  clear HC5
  replace H := Option.bind_eq_some_iff.mp H
  obtain ⟨t158, A60, H⟩ := H
  try dsimp only at H
  have A6 := Aside0.mk A60
  clear A60
  by_cases c7 : t158 = true
  ·subst c7
   rw [if_pos rfl] at H
   have H' := Aside0.mk H
   clear H
   go_wp2_with (first | ((with_reducible refine gate_callee (f := 23) rfl ?_); refine gL (some 17) Try.func23 #[.slice A0 l0.length c0, .int .i64 a1] ?_; (with_reducible refine (spec_l44Right.calls k _ _ l0 a1 true _ ?side1 ?side2 A6.out).mono ?_); (case side1 => repeat (first | exact (Kd.C_below HR0.out HB.out) | (with_reducible refine Kd.C_alloc ?_ _) | (with_reducible refine Kd.C_drewN ?_ _) | (with_reducible refine Kd.C_drew ?_))); (case side2 => exact HC0.out); rintro e w8 ⟨rfl, hb⟩; refine ⟨_, rfl, ?_⟩; replace HB := bs HB hb; (try clear hb); (try clear hb2); (try clear hk); (try clear hi)))
   go_meet
   case rel => exact ⟨_, (decide (a3 < 0)), rs, H', ⟨by first | omega | exact Nat.le_refl _⟩, ⟨bl HB⟩⟩
  ·replace c7 := Bool.eq_false_iff.mpr c7
   subst c7
   rw [nf] at H
   have H' := Aside0.mk H
   clear H
   go_wp2_with (first | ((with_reducible refine gate_callee (f := 23) rfl ?_); refine gL (some 17) Try.func23 #[.slice A0 l0.length c0, .int .i64 a1] ?_; (with_reducible refine (spec_l44Right.calls k _ _ l0 a1 false _ ?side1 ?side2 A6.out).mono ?_); (case side1 => repeat (first | exact (Kd.C_below HR0.out HB.out) | (with_reducible refine Kd.C_alloc ?_ _) | (with_reducible refine Kd.C_drewN ?_ _) | (with_reducible refine Kd.C_drew ?_))); (case side2 => exact HC0.out); rintro e w9 ⟨rfl, hb⟩; refine ⟨_, rfl, ?_⟩; replace HB := bs HB hb; (try clear hb); (try clear hb2); (try clear hk); (try clear hi)))
   go_meet
   case rel => exact ⟨_, (true), rs, H', ⟨by first | omega | exact Nat.le_refl _⟩, ⟨bl HB⟩⟩
 case rest =>
  clear HC5
  try clear c2
  try clear p2
  try clear c7
  obtain ⟨kq, x22_4, rfl, HA, HJ4, HB⟩ := hcut
  cases kq with
  | zero => exact absurd HA.out (by simp [spec_PathEnd.j0])
  | succ kj4 =>
   have H := HA.out
   clear HA
   simp only [spec_PathEnd.j0] at H
   by_cases c10 : x22_4 = true
   ·subst c10
    rw [if_pos rfl] at H
    simp only [Option.some.injEq, Prod.mk.injEq] at H
    obtain ⟨rfl, rfl⟩ := H
    go_wp2
    go_ret2
    exact ⟨er, bl HB⟩
   ·replace c10 := Bool.eq_false_iff.mpr c10
    subst c10
    rw [nf] at H
    have H' := Aside0.mk H
    clear H
    go_wp2
    go_loopg [10, 11, 12, 13] kj4 (fun kq v10 v11 v12 v13 w' => ∃ (x10_2 : Int) (x11_2 : Int) (x12_2 : Int) (x13_2 : Int), v10 = .int .i64 x10_2 ∧ v11 = .int .i64 x11_2 ∧ v12 = .int .i64 x12_2 ∧ v13 = .int .i64 x13_2 ∧ Aside0 (spec_PathEnd.l0 kq l0 a3 x10_2 x11_2 x12_2 x13_2 = some (r1, r2)) ∧ Aside0 (kq ≤ kj4) ∧ Aside0 (Below w.heap.size w w'))
    case atStart => exact ⟨(a2), (0), (0), (0), rs, rs, rs, rs, H', ⟨Nat.le_refl _⟩, ⟨bl HB⟩⟩
    case round =>
     clear H'
     try clear c1
     try clear c2
     try clear p2
     try clear c7
     try clear c10
     try clear p2
     obtain ⟨x10_2, x11_2, x12_2, x13_2, rfl, rfl, rfl, rfl, HA, HK2, HB⟩ := hrel
     cases gk with
     | zero => exact absurd HA.out (by simp [spec_PathEnd.l0])
     | succ k2 =>
      have H := HA.out
      clear HA
      simp only [spec_PathEnd.l0] at H
      by_cases c11 : x13_2 < (l0.length : Int)
      ·rw [if_pos c11] at H
       have c11b0 : decide (x13_2 < (l0.length : Int)) = true := decide_eq_true c11
       clear c11
       by_cases c12 : 0 ≤ x13_2
       ·rw [if_pos c12] at H
        have c12b0 : decide (0 ≤ x13_2) = true := decide_eq_true c12
        clear c12
        by_cases c13 : ((rd_T62 l0 x13_2).f0) = 4
        ·rw [if_pos c13] at H
         have c13b0 : (((rd_T62 l0 x13_2).f0) == 4) = true := beq_iff_eq.mpr c13
         have c13b1 : (((rd_T62 l0 x13_2).f0) != 4) = false := bne_eq_false_iff_eq.mpr c13
         clear c13
         by_cases c14 : x12_2 < 62
         ·rw [if_pos c14] at H
          have c14b0 : decide (x12_2 < 62) = true := decide_eq_true c14
          clear c14
          obtain ⟨ji15, hji15⟩ : ∃ j_ : Int, (IntKind.u64.wrap (x12_2)) = j_ := ⟨_, rfl⟩
          replace H : (if 0 ≤ (ji15) then ((spec_PathSumStep.f k2 ((rd_T62 l0 x13_2).f0) ((rd_T62 l0 x13_2).f1) ((rd_T62 l0 x13_2).f2) ((rd_T62 l0 x13_2).f3) x10_2 x11_2 (Go.bits .and .i64 (shr .i64 a3 (ji15)) 1)).bind fun bt161 => (spec_PathEnd.l0 k2 l0 a3 bt161.1 bt161.2 (wrap64 (x12_2 + 1)) (wrap64 (x13_2 + 1)))) else (none)) = some (r1, r2) := by first | (rw [hji15] at H; exact H) | (simp only [hji15] at H ⊢; exact H) | exact H
          by_cases c16 : 0 ≤ (ji15)
          ·rw [if_pos c16] at H
           have c16b0 := eq_true c16
           have c16b1 : decide (0 ≤ (ji15)) = true := decide_eq_true c16
           clear c16
           obtain ⟨ji17, hji17⟩ : ∃ j_ : Int, (shr .i64 a3 (ji15)) = j_ := ⟨_, rfl⟩
           replace H : ((spec_PathSumStep.f k2 ((rd_T62 l0 x13_2).f0) ((rd_T62 l0 x13_2).f1) ((rd_T62 l0 x13_2).f2) ((rd_T62 l0 x13_2).f3) x10_2 x11_2 (Go.bits .and .i64 (ji17) 1)).bind fun bt161 => (spec_PathEnd.l0 k2 l0 a3 bt161.1 bt161.2 (wrap64 (x12_2 + 1)) (wrap64 (x13_2 + 1)))) = some (r1, r2) := by first | (rw [hji17] at H; exact H) | (simp only [hji17] at H ⊢; exact H) | exact H
           have hji17_ : (a3 / 2 ^ min (ji15).toNat 64) = ji17 := hji17
           have hji17z : (ji15) ≤ 64 → (a3 / 2 ^ (ji15).toNat) = ji17 := shr_small hji17
           replace H := Option.bind_eq_some_iff.mp H
           obtain ⟨⟨t161, t162⟩, A180, H⟩ := H
           try dsimp only at H
           have A18 := Aside0.mk A180
           clear A180
           have H' := Aside0.mk H
           clear H
           have p159 : 0 ≤ (x13_2 : Int) := of_decide_eq_true da
           have q159 : x13_2 < (l0.length : Int) := of_decide_eq_true da
           obtain ⟨ad159, e159, hx159_0, hx159_1, hx159_2, hx159_3⟩ := at_T62 HR0.out x13_2 p159 q159
           cases e159
           replace hx159_0 := (HB.out.cell (World.block_lt_of_cell? w _ hx159_0)).trans hx159_0
           replace hx159_1 := (HB.out.cell (World.block_lt_of_cell? w _ hx159_1)).trans hx159_1
           replace hx159_2 := (HB.out.cell (World.block_lt_of_cell? w _ hx159_2)).trans hx159_2
           replace hx159_3 := (HB.out.cell (World.block_lt_of_cell? w _ hx159_3)).trans hx159_3
           replace p159 := eq_true p159
           replace q159 := eq_true q159
           have p160 : 0 ≤ (x13_2 : Int) := of_decide_eq_true da
           have q160 : x13_2 < (l0.length : Int) := of_decide_eq_true da
           obtain ⟨ad160, e160, hx160_0, hx160_1, hx160_2, hx160_3⟩ := at_T62 HR0.out x13_2 p160 q160
           obtain rfl : ad159 = ad160 := (by injection e160)
           replace hx160_0 := (HB.out.cell (World.block_lt_of_cell? w _ hx160_0)).trans hx160_0
           replace hx160_1 := (HB.out.cell (World.block_lt_of_cell? w _ hx160_1)).trans hx160_1
           replace hx160_2 := (HB.out.cell (World.block_lt_of_cell? w _ hx160_2)).trans hx160_2
           replace hx160_3 := (HB.out.cell (World.block_lt_of_cell? w _ hx160_3)).trans hx160_3
           replace p160 := eq_true p160
           replace q160 := eq_true q160
           go_wp2_with (first | ((with_reducible refine gate_callee (f := 53) rfl ?_); refine goesL_ (some 54) rfl rfl Try.func53 (by kernel_rfl) rfl #[.agg #[.int .i64 ((rd_T62 l0 x13_2).f0), .int .i64 ((rd_T62 l0 x13_2).f1), .int .i64 ((rd_T62 l0 x13_2).f2), .int .i64 ((rd_T62 l0 x13_2).f3)], .int .i64 x10_2, .int .i64 x11_2, .int .i64 (Go.bits .and .i64 (ji17) 1)] rfl (by (try simp only [List.map_toArray, List.map_cons, List.map_nil]); first | done | (simp only [hji17]; rfl) | rfl | (simp only [List.length_drop, List.length_take]; rfl)) ?_; (with_reducible refine (spec_PathSumStep.calls k2 ((rd_T62 l0 x13_2).f0) ((rd_T62 l0 x13_2).f1) ((rd_T62 l0 x13_2).f2) ((rd_T62 l0 x13_2).f3) x10_2 x11_2 (Go.bits .and .i64 (ji17) 1) t161 t162 _ A18.out).mono ?_); rintro e w19 ⟨rfl, hb⟩; refine ⟨_, rfl, ?_⟩; replace HB := bs HB hb; (try clear hb); (try clear hb2); (try clear hk); (try clear hi)))
           go_roundg k2
           case measure => have := HJ4.out; have := HK2.out; omega
           case rel => exact ⟨(t161), (t162), (wrap64 (x12_2 + 1)), (wrap64 (x13_2 + 1)), rs, rs, rs, rs, H', ⟨by have := HJ4.out; have := HK2.out; omega⟩, ⟨bl HB⟩⟩
          ·rw [if_neg c16] at H
           exact absurd H (by simp)
         ·rw [if_neg c14] at H
          have c14b0 : decide (x12_2 < 62) = false := decide_eq_false c14
          clear c14
          replace H := Option.bind_eq_some_iff.mp H
          obtain ⟨⟨t164, t165⟩, A200, H⟩ := H
          try dsimp only at H
          have A20 := Aside0.mk A200
          clear A200
          have H' := Aside0.mk H
          clear H
          have p159 : 0 ≤ (x13_2 : Int) := of_decide_eq_true da
          have q159 : x13_2 < (l0.length : Int) := of_decide_eq_true da
          obtain ⟨ad159, e159, hx159_0, hx159_1, hx159_2, hx159_3⟩ := at_T62 HR0.out x13_2 p159 q159
          cases e159
          replace hx159_0 := (HB.out.cell (World.block_lt_of_cell? w _ hx159_0)).trans hx159_0
          replace hx159_1 := (HB.out.cell (World.block_lt_of_cell? w _ hx159_1)).trans hx159_1
          replace hx159_2 := (HB.out.cell (World.block_lt_of_cell? w _ hx159_2)).trans hx159_2
          replace hx159_3 := (HB.out.cell (World.block_lt_of_cell? w _ hx159_3)).trans hx159_3
          replace p159 := eq_true p159
          replace q159 := eq_true q159
          have p163 : 0 ≤ (x13_2 : Int) := of_decide_eq_true da
          have q163 : x13_2 < (l0.length : Int) := of_decide_eq_true da
          obtain ⟨ad163, e163, hx163_0, hx163_1, hx163_2, hx163_3⟩ := at_T62 HR0.out x13_2 p163 q163
          obtain rfl : ad159 = ad163 := (by injection e163)
          replace hx163_0 := (HB.out.cell (World.block_lt_of_cell? w _ hx163_0)).trans hx163_0
          replace hx163_1 := (HB.out.cell (World.block_lt_of_cell? w _ hx163_1)).trans hx163_1
          replace hx163_2 := (HB.out.cell (World.block_lt_of_cell? w _ hx163_2)).trans hx163_2
          replace hx163_3 := (HB.out.cell (World.block_lt_of_cell? w _ hx163_3)).trans hx163_3
          replace p163 := eq_true p163
          replace q163 := eq_true q163
          go_wp2_with (first | ((with_reducible refine gate_callee (f := 53) rfl ?_); refine gL (some 54) Try.func53 #[.agg #[.int .i64 ((rd_T62 l0 x13_2).f0), .int .i64 ((rd_T62 l0 x13_2).f1), .int .i64 ((rd_T62 l0 x13_2).f2), .int .i64 ((rd_T62 l0 x13_2).f3)], .int .i64 x10_2, .int .i64 x11_2, .int .i64 0] ?_; (with_reducible refine (spec_PathSumStep.calls k2 ((rd_T62 l0 x13_2).f0) ((rd_T62 l0 x13_2).f1) ((rd_T62 l0 x13_2).f2) ((rd_T62 l0 x13_2).f3) x10_2 x11_2 0 t164 t165 _ A20.out).mono ?_); rintro e w21 ⟨rfl, hb⟩; refine ⟨_, rfl, ?_⟩; replace HB := bs HB hb; (try clear hb); (try clear hb2); (try clear hk); (try clear hi)))
          go_roundg k2
          case measure => have := HJ4.out; have := HK2.out; omega
          case rel => exact ⟨(t164), (t165), (wrap64 (x12_2 + 1)), (wrap64 (x13_2 + 1)), rs, rs, rs, rs, H', ⟨by have := HJ4.out; have := HK2.out; omega⟩, ⟨bl HB⟩⟩
        ·rw [if_neg c13] at H
         have c13b0 : (((rd_T62 l0 x13_2).f0) == 4) = false := beq_eq_false_iff_ne.mpr c13
         have c13b1 : (((rd_T62 l0 x13_2).f0) != 4) = true := bne_iff_ne.mpr c13
         replace H := Option.bind_eq_some_iff.mp H
         obtain ⟨⟨t167, t168⟩, A220, H⟩ := H
         try dsimp only at H
         have A22 := Aside0.mk A220
         clear A220
         have H' := Aside0.mk H
         clear H
         have p159 : 0 ≤ (x13_2 : Int) := of_decide_eq_true da
         have q159 : x13_2 < (l0.length : Int) := of_decide_eq_true da
         obtain ⟨ad159, e159, hx159_0, hx159_1, hx159_2, hx159_3⟩ := at_T62 HR0.out x13_2 p159 q159
         cases e159
         replace hx159_0 := (HB.out.cell (World.block_lt_of_cell? w _ hx159_0)).trans hx159_0
         replace hx159_1 := (HB.out.cell (World.block_lt_of_cell? w _ hx159_1)).trans hx159_1
         replace hx159_2 := (HB.out.cell (World.block_lt_of_cell? w _ hx159_2)).trans hx159_2
         replace hx159_3 := (HB.out.cell (World.block_lt_of_cell? w _ hx159_3)).trans hx159_3
         replace p159 := eq_true p159
         replace q159 := eq_true q159
         have p166 : 0 ≤ (x13_2 : Int) := of_decide_eq_true da
         have q166 : x13_2 < (l0.length : Int) := of_decide_eq_true da
         obtain ⟨ad166, e166, hx166_0, hx166_1, hx166_2, hx166_3⟩ := at_T62 HR0.out x13_2 p166 q166
         obtain rfl : ad159 = ad166 := (by injection e166)
         replace hx166_0 := (HB.out.cell (World.block_lt_of_cell? w _ hx166_0)).trans hx166_0
         replace hx166_1 := (HB.out.cell (World.block_lt_of_cell? w _ hx166_1)).trans hx166_1
         replace hx166_2 := (HB.out.cell (World.block_lt_of_cell? w _ hx166_2)).trans hx166_2
         replace hx166_3 := (HB.out.cell (World.block_lt_of_cell? w _ hx166_3)).trans hx166_3
         replace p166 := eq_true p166
         replace q166 := eq_true q166
         go_wp2_with (first | ((with_reducible refine gate_callee (f := 53) rfl ?_); refine gL (some 54) Try.func53 #[.agg #[.int .i64 ((rd_T62 l0 x13_2).f0), .int .i64 ((rd_T62 l0 x13_2).f1), .int .i64 ((rd_T62 l0 x13_2).f2), .int .i64 ((rd_T62 l0 x13_2).f3)], .int .i64 x10_2, .int .i64 x11_2, .int .i64 0] ?_; (with_reducible refine (spec_PathSumStep.calls k2 ((rd_T62 l0 x13_2).f0) ((rd_T62 l0 x13_2).f1) ((rd_T62 l0 x13_2).f2) ((rd_T62 l0 x13_2).f3) x10_2 x11_2 0 t167 t168 _ A22.out).mono ?_); rintro e w23 ⟨rfl, hb⟩; refine ⟨_, rfl, ?_⟩; replace HB := bs HB hb; (try clear hb); (try clear hb2); (try clear hk); (try clear hi)))
         go_roundg k2
         case measure => have := HJ4.out; have := HK2.out; omega
         case rel => exact ⟨(t167), (t168), (x12_2), (wrap64 (x13_2 + 1)), rs, rs, rs, rs, H', ⟨by have := HJ4.out; have := HK2.out; omega⟩, ⟨bl HB⟩⟩
       ·rw [if_neg c12] at H
        exact absurd H (by simp)
      ·rw [if_neg c11] at H
       have c11b0 : decide (x13_2 < (l0.length : Int)) = false := decide_eq_false c11
       clear c11
       simp only [Option.some.injEq, Prod.mk.injEq] at H
       obtain ⟨rfl, rfl⟩ := H
       go_wp2
       go_ret2
       exact ⟨er, bl HB⟩
/-! ### spec_l2Near: function 107 -/
def spec_l2Near.f (a0 : Int) : Option (Bool) := (spec_l1In.f a0 (-1073741824) 1073741824).bind fun t169 => (some t169)
set_option maxHeartbeats 8000000 in
set_option maxRecDepth 100000 in
theorem spec_l2Near.calls (a0 : Int) (r : Bool) (w : World) (h : spec_l2Near.f a0 = some r) :
  Calls Try.prog 107 #[.int .i64 a0] w fun e w' => e = .returned (.bool r) ∧ Drawn0 w w' := by
 have H := h
 clear h
 unfold spec_l2Near.f at H
 replace H := Option.bind_eq_some_iff.mp H
 obtain ⟨t169, A20, H⟩ := H
 try dsimp only at H
 have A2 := Aside0.mk A20
 clear A20
 obtain rfl := Option.some.inj H
 go_enter Try.func107, Try.ntmps107
 go_wp2_with (first | ((with_reducible refine gate_callee (f := 22) rfl ?_); refine gL (some 4) Try.func22 #[.int .i64 a0, .int .i64 (-1073741824), .int .i64 1073741824] ?_; (with_reducible refine (spec_l1In.calls a0 (-1073741824) 1073741824 t169 _ A2.out).mono ?_); rintro e w' ⟨rfl, ⟨nd, rfl⟩⟩; refine ⟨_, rfl, ?_⟩))
 go_ret
 exact ⟨rs, dr⟩
/-! ### spec_IsValidZOmega: function 91 -/
def spec_IsValidZOmega.f (a0_0 : Int) (a0_1 : Int) (a0_2 : Int) (a0_3 : Int) : Option (Bool) := (spec_l2Near.f a0_0).bind fun t171 => (if t171 = true then ((spec_l2Near.f a0_1).bind fun t172 => (if t172 = true then ((spec_l2Near.f a0_2).bind fun t173 => (if t173 = true then ((spec_l2Near.f a0_3).bind fun t174 => (some t174)) else (some false))) else (some false))) else (some false))
set_option maxHeartbeats 8000000 in
set_option maxRecDepth 100000 in
theorem spec_IsValidZOmega.calls (a0_0 : Int) (a0_1 : Int) (a0_2 : Int) (a0_3 : Int) (r : Bool) (w : World) (h : spec_IsValidZOmega.f a0_0 a0_1 a0_2 a0_3 = some r) :
  Calls Try.prog 91 #[.agg #[.int .i64 a0_0, .int .i64 a0_1, .int .i64 a0_2, .int .i64 a0_3]] w fun e w' => e = .returned (.bool r) ∧ Below w.heap.size w w' := by
 have hu25 := Try.underlying25
 have HB := Aside0.mk (Below.refl w.heap.size w)
 have H := h
 clear h
 unfold spec_IsValidZOmega.f at H
 replace H := Option.bind_eq_some_iff.mp H
 obtain ⟨t171, A20, H⟩ := H
 try dsimp only at H
 have A2 := Aside0.mk A20
 clear A20
 by_cases c3 : t171 = true
 ·subst c3
  rw [if_pos rfl] at H
  replace H := Option.bind_eq_some_iff.mp H
  obtain ⟨t172, A40, H⟩ := H
  try dsimp only at H
  have A4 := Aside0.mk A40
  clear A40
  by_cases c5 : t172 = true
  ·subst c5
   rw [if_pos rfl] at H
   replace H := Option.bind_eq_some_iff.mp H
   obtain ⟨t173, A60, H⟩ := H
   try dsimp only at H
   have A6 := Aside0.mk A60
   clear A60
   by_cases c7 : t173 = true
   ·subst c7
    rw [if_pos rfl] at H
    replace H := Option.bind_eq_some_iff.mp H
    obtain ⟨t174, A80, H⟩ := H
    try dsimp only at H
    have A8 := Aside0.mk A80
    clear A80
    obtain rfl := Option.some.inj H
    go_enter Try.func91, Try.ntmps91
    go_wp2_with (first | ((with_reducible refine gate_dst (N := 1) rfl ?_); refine bx (N := 1) (cs := #[.int .i64 a0_0, .int .i64 a0_1, .int .i64 a0_2, .int .i64 a0_3]) (t := 25) ?_; intro gb170 hg w9 hbox hb; have BK170 := Aside0.mk hbox; have GW170 := sz hg HB; have GE170 := GW170; replace HB := bs HB hb; clear hb hbox hg; obtain ⟨hcz10_0, hcz10_1, hcz10_2, hcz10_3, hfz10_0, hfz10_1, hfz10_2, hfz10_3⟩ := cel4 BK170) | ((with_reducible refine gate_callee (f := 107) rfl ?_); refine gL (some 5) Try.func107 #[.int .i64 a0_0] ?_; (with_reducible refine (spec_l2Near.calls a0_0 true _ A2.out).mono ?_); rintro e w' ⟨rfl, ⟨nd, rfl⟩⟩; refine ⟨_, rfl, ?_⟩) | (go_at_call 107; (with_reducible refine (spec_l2Near.calls a0_1 true _ A4.out).mono ?_); rintro e w' ⟨rfl, ⟨nd, rfl⟩⟩) | (go_at_call 107; (with_reducible refine (spec_l2Near.calls a0_2 true _ A6.out).mono ?_); rintro e w' ⟨rfl, ⟨nd, rfl⟩⟩) | (go_at_call 107; (with_reducible refine (spec_l2Near.calls a0_3 t174 _ A8.out).mono ?_); rintro e w' ⟨rfl, ⟨nd, rfl⟩⟩))
    go_ret
    exact ⟨er, bl HB⟩
   ·replace c7 := Bool.eq_false_iff.mpr c7
    subst c7
    rw [nf] at H
    obtain rfl := Option.some.inj H
    go_enter Try.func91, Try.ntmps91
    go_wp2_with (first | ((with_reducible refine gate_dst (N := 1) rfl ?_); refine bx (N := 1) (cs := #[.int .i64 a0_0, .int .i64 a0_1, .int .i64 a0_2, .int .i64 a0_3]) (t := 25) ?_; intro gb170 hg w11 hbox hb; have BK170 := Aside0.mk hbox; have GW170 := sz hg HB; have GE170 := GW170; replace HB := bs HB hb; clear hb hbox hg; obtain ⟨hcz12_0, hcz12_1, hcz12_2, hcz12_3, hfz12_0, hfz12_1, hfz12_2, hfz12_3⟩ := cel4 BK170) | ((with_reducible refine gate_callee (f := 107) rfl ?_); refine gL (some 5) Try.func107 #[.int .i64 a0_0] ?_; (with_reducible refine (spec_l2Near.calls a0_0 true _ A2.out).mono ?_); rintro e w' ⟨rfl, ⟨nd, rfl⟩⟩; refine ⟨_, rfl, ?_⟩) | (go_at_call 107; (with_reducible refine (spec_l2Near.calls a0_1 true _ A4.out).mono ?_); rintro e w' ⟨rfl, ⟨nd, rfl⟩⟩) | (go_at_call 107; (with_reducible refine (spec_l2Near.calls a0_2 false _ A6.out).mono ?_); rintro e w' ⟨rfl, ⟨nd, rfl⟩⟩))
    go_ret
    exact ⟨er, bl HB⟩
  ·replace c5 := Bool.eq_false_iff.mpr c5
   subst c5
   rw [nf] at H
   obtain rfl := Option.some.inj H
   go_enter Try.func91, Try.ntmps91
   go_wp2_with (first | ((with_reducible refine gate_dst (N := 1) rfl ?_); refine bx (N := 1) (cs := #[.int .i64 a0_0, .int .i64 a0_1, .int .i64 a0_2, .int .i64 a0_3]) (t := 25) ?_; intro gb170 hg w13 hbox hb; have BK170 := Aside0.mk hbox; have GW170 := sz hg HB; have GE170 := GW170; replace HB := bs HB hb; clear hb hbox hg; obtain ⟨hcz14_0, hcz14_1, hcz14_2, hcz14_3, hfz14_0, hfz14_1, hfz14_2, hfz14_3⟩ := cel4 BK170) | ((with_reducible refine gate_callee (f := 107) rfl ?_); refine gL (some 5) Try.func107 #[.int .i64 a0_0] ?_; (with_reducible refine (spec_l2Near.calls a0_0 true _ A2.out).mono ?_); rintro e w' ⟨rfl, ⟨nd, rfl⟩⟩; refine ⟨_, rfl, ?_⟩) | (go_at_call 107; (with_reducible refine (spec_l2Near.calls a0_1 false _ A4.out).mono ?_); rintro e w' ⟨rfl, ⟨nd, rfl⟩⟩))
   go_ret
   exact ⟨er, bl HB⟩
 ·replace c3 := Bool.eq_false_iff.mpr c3
  subst c3
  rw [nf] at H
  obtain rfl := Option.some.inj H
  go_enter Try.func91, Try.ntmps91
  go_wp2_with (first | ((with_reducible refine gate_dst (N := 1) rfl ?_); refine bx (N := 1) (cs := #[.int .i64 a0_0, .int .i64 a0_1, .int .i64 a0_2, .int .i64 a0_3]) (t := 25) ?_; intro gb170 hg w15 hbox hb; have BK170 := Aside0.mk hbox; have GW170 := sz hg HB; have GE170 := GW170; replace HB := bs HB hb; clear hb hbox hg; obtain ⟨hcz16_0, hcz16_1, hcz16_2, hcz16_3, hfz16_0, hfz16_1, hfz16_2, hfz16_3⟩ := cel4 BK170) | ((with_reducible refine gate_callee (f := 107) rfl ?_); refine gL (some 5) Try.func107 #[.int .i64 a0_0] ?_; (with_reducible refine (spec_l2Near.calls a0_0 false _ A2.out).mono ?_); rintro e w' ⟨rfl, ⟨nd, rfl⟩⟩; refine ⟨_, rfl, ?_⟩))
  go_ret
  exact ⟨er, bl HB⟩
/-! ### spec_DivSqrt2: function 90 -/
def spec_DivSqrt2.f (a0_0 : Int) (a0_1 : Int) (a0_2 : Int) (a0_3 : Int) : Option (Int × Int × Int × Int × Bool) := (spec_IsValidZOmega.f a0_0 a0_1 a0_2 a0_3).bind fun t177 => (if t177 = true then (if (Int.tmod (wrap64 (a0_1 - a0_3)) 2) = 0 then (if (Int.tmod (wrap64 (a0_0 + a0_2)) 2) = 0 then (if (Int.tmod (wrap64 (a0_1 + a0_3)) 2) = 0 then (if (Int.tmod (wrap64 (a0_2 - a0_0)) 2) = 0 then (some (wrap64 (Int.tdiv (wrap64 (a0_1 - a0_3)) 2), wrap64 (Int.tdiv (wrap64 (a0_0 + a0_2)) 2), wrap64 (Int.tdiv (wrap64 (a0_1 + a0_3)) 2), wrap64 (Int.tdiv (wrap64 (a0_2 - a0_0)) 2), true)) else (some (0, 0, 0, 0, false))) else (some (0, 0, 0, 0, false))) else (some (0, 0, 0, 0, false))) else (some (0, 0, 0, 0, false))) else (some (0, 0, 0, 0, false)))
set_option maxHeartbeats 8000000 in
set_option maxRecDepth 100000 in
theorem spec_DivSqrt2.calls (a0_0 : Int) (a0_1 : Int) (a0_2 : Int) (a0_3 : Int) (r1 : Int) (r2 : Int) (r3 : Int) (r4 : Int) (r5 : Bool) (w : World) (h : spec_DivSqrt2.f a0_0 a0_1 a0_2 a0_3 = some (r1, r2, r3, r4, r5)) :
  Calls Try.prog 90 #[.agg #[.int .i64 a0_0, .int .i64 a0_1, .int .i64 a0_2, .int .i64 a0_3]] w fun e w' => e = .returned (.tuple #[.agg #[.int .i64 r1, .int .i64 r2, .int .i64 r3, .int .i64 r4], .bool r5]) ∧ Below w.heap.size w w' := by
 have hu25 := Try.underlying25
 have HB := Aside0.mk (Below.refl w.heap.size w)
 have H := h
 clear h
 unfold spec_DivSqrt2.f at H
 replace H := Option.bind_eq_some_iff.mp H
 obtain ⟨t177, A20, H⟩ := H
 try dsimp only at H
 have A2 := Aside0.mk A20
 clear A20
 by_cases c3 : t177 = true
 ·subst c3
  rw [if_pos rfl] at H
  by_cases c4 : (Int.tmod (wrap64 (a0_1 - a0_3)) 2) = 0
  ·rw [if_pos c4] at H
   have c4b0 : ((Int.tmod (wrap64 (a0_1 - a0_3)) 2) == 0) = true := beq_iff_eq.mpr c4
   have c4b1 : ((Int.tmod (wrap64 (a0_1 - a0_3)) 2) != 0) = false := bne_eq_false_iff_eq.mpr c4
   clear c4
   by_cases c5 : (Int.tmod (wrap64 (a0_0 + a0_2)) 2) = 0
   ·rw [if_pos c5] at H
    have c5b0 : ((Int.tmod (wrap64 (a0_0 + a0_2)) 2) == 0) = true := beq_iff_eq.mpr c5
    have c5b1 : ((Int.tmod (wrap64 (a0_0 + a0_2)) 2) != 0) = false := bne_eq_false_iff_eq.mpr c5
    clear c5
    by_cases c6 : (Int.tmod (wrap64 (a0_1 + a0_3)) 2) = 0
    ·rw [if_pos c6] at H
     have c6b0 : ((Int.tmod (wrap64 (a0_1 + a0_3)) 2) == 0) = true := beq_iff_eq.mpr c6
     have c6b1 : ((Int.tmod (wrap64 (a0_1 + a0_3)) 2) != 0) = false := bne_eq_false_iff_eq.mpr c6
     clear c6
     by_cases c7 : (Int.tmod (wrap64 (a0_2 - a0_0)) 2) = 0
     ·rw [if_pos c7] at H
      have c7b0 : ((Int.tmod (wrap64 (a0_2 - a0_0)) 2) == 0) = true := beq_iff_eq.mpr c7
      have c7b1 : ((Int.tmod (wrap64 (a0_2 - a0_0)) 2) != 0) = false := bne_eq_false_iff_eq.mpr c7
      clear c7
      simp only [Option.some.injEq, Prod.mk.injEq] at H
      obtain ⟨rfl, rfl, rfl, rfl, rfl⟩ := H
      go_enter Try.func90, Try.ntmps90
      go_wp2_with (first | ((with_reducible refine gate_dst (N := 1) rfl ?_); refine bx (N := 1) (cs := #[.int .i64 a0_0, .int .i64 a0_1, .int .i64 a0_2, .int .i64 a0_3]) (t := 25) ?_; intro gb175 hg w8 hbox hb; have BK175 := Aside0.mk hbox; have GW175 := sz hg HB; have GE175 := GW175; replace HB := bs HB hb; clear hb hbox hg) | ((with_reducible refine gate_dst (N := 2) rfl ?_); refine bx (N := 2) (cs := #[.int .i64 0, .int .i64 0, .int .i64 0, .int .i64 0]) (t := 25) ?_; intro gb176 hg w9 hbox hb; have BK176 := Aside0.mk hbox; have GW176 := sz hg HB; have GE176 := GW176; have NB175_176 := nl hg BK175; have NB176_175 := ng hg BK175; replace BK175 := cb BK175 hb; replace HB := bs HB hb; clear hb hbox hg; have hnb10 := NB175_176.out; have hnc10 := NB176_175.out; obtain ⟨hcz11_0, hcz11_1, hcz11_2, hcz11_3, hfz11_0, hfz11_1, hfz11_2, hfz11_3⟩ := cel4 BK175) | ((with_reducible refine gate_callee (f := 91) rfl ?_); refine gL (some 6) Try.func91 #[.agg #[.int .i64 a0_0, .int .i64 a0_1, .int .i64 a0_2, .int .i64 a0_3]] ?_; (with_reducible refine (spec_IsValidZOmega.calls a0_0 a0_1 a0_2 a0_3 true _ A2.out).mono ?_); rintro e w12 ⟨rfl, hb⟩; refine ⟨_, rfl, ?_⟩; replace BK175 := cb BK175 hb; replace BK176 := cb BK176 hb; replace HB := bs HB hb; (try clear hb); (try clear hb2); (try clear hk); (try clear hi); obtain ⟨hcz13_0, hcz13_1, hcz13_2, hcz13_3, hfz13_0, hfz13_1, hfz13_2, hfz13_3⟩ := cel4 BK175) | ((with_reducible refine gate_dst (N := 4) rfl ?_); refine bx (N := 4) (cs := #[.int .i64 0, .int .i64 0, .int .i64 0, .int .i64 0]) (t := 25) ?_; intro gb178 hg w14 hbox hb; have BK178 := Aside0.mk hbox; have GW178 := sz hg HB; have GE178 := GW178; have NB175_178 := nl hg BK175; have NB178_175 := ng hg BK175; have NB176_178 := nl hg BK176; have NB178_176 := ng hg BK176; replace BK175 := cb BK175 hb; replace BK176 := cb BK176 hb; replace HB := bs HB hb; clear hb hbox hg; have hnb15 := NB178_175.out; have hnc15 := NB175_178.out; have hnb16 := NB178_176.out; have hnc16 := NB176_178.out; obtain ⟨hcz17_0, hcz17_1, hcz17_2, hcz17_3, hfz17_0, hfz17_1, hfz17_2, hfz17_3⟩ := cel4 BK178; obtain ⟨hcz18_0, hcz18_1, hcz18_2, hcz18_3, hfz18_0, hfz18_1, hfz18_2, hfz18_3⟩ := cel4 BK176))
      refine bodyPost_ret (results_ct rfl _ _ gb176 25 #[.int .i64 (wrap64 (Int.tdiv (wrap64 (a0_1 - a0_3)) 2)), .int .i64 (wrap64 (Int.tdiv (wrap64 (a0_0 + a0_2)) 2)), .int .i64 (wrap64 (Int.tdiv (wrap64 (a0_1 + a0_3)) 2)), .int .i64 (wrap64 (Int.tdiv (wrap64 (a0_2 - a0_0)) 2))] (0, 0) _ rfl (bp BK176) Try.underlying25 rfl (by kernel_rfl)) rfl ?_
      exact ⟨er, bl HB⟩
     ·rw [if_neg c7] at H
      have c7b0 : ((Int.tmod (wrap64 (a0_2 - a0_0)) 2) == 0) = false := beq_eq_false_iff_ne.mpr c7
      have c7b1 : ((Int.tmod (wrap64 (a0_2 - a0_0)) 2) != 0) = true := bne_iff_ne.mpr c7
      simp only [Option.some.injEq, Prod.mk.injEq] at H
      obtain ⟨rfl, rfl, rfl, rfl, rfl⟩ := H
      go_enter Try.func90, Try.ntmps90
      go_wp2_with (first | ((with_reducible refine gate_dst (N := 1) rfl ?_); refine bx (N := 1) (cs := #[.int .i64 a0_0, .int .i64 a0_1, .int .i64 a0_2, .int .i64 a0_3]) (t := 25) ?_; intro gb175 hg w19 hbox hb; have BK175 := Aside0.mk hbox; have GW175 := sz hg HB; have GE175 := GW175; replace HB := bs HB hb; clear hb hbox hg) | ((with_reducible refine gate_dst (N := 2) rfl ?_); refine bx (N := 2) (cs := #[.int .i64 0, .int .i64 0, .int .i64 0, .int .i64 0]) (t := 25) ?_; intro gb176 hg w20 hbox hb; have BK176 := Aside0.mk hbox; have GW176 := sz hg HB; have GE176 := GW176; have NB175_176 := nl hg BK175; have NB176_175 := ng hg BK175; replace BK175 := cb BK175 hb; replace HB := bs HB hb; clear hb hbox hg; have hnb21 := NB175_176.out; have hnc21 := NB176_175.out; obtain ⟨hcz22_0, hcz22_1, hcz22_2, hcz22_3, hfz22_0, hfz22_1, hfz22_2, hfz22_3⟩ := cel4 BK175) | ((with_reducible refine gate_callee (f := 91) rfl ?_); refine gL (some 6) Try.func91 #[.agg #[.int .i64 a0_0, .int .i64 a0_1, .int .i64 a0_2, .int .i64 a0_3]] ?_; (with_reducible refine (spec_IsValidZOmega.calls a0_0 a0_1 a0_2 a0_3 true _ A2.out).mono ?_); rintro e w23 ⟨rfl, hb⟩; refine ⟨_, rfl, ?_⟩; replace BK175 := cb BK175 hb; replace BK176 := cb BK176 hb; replace HB := bs HB hb; (try clear hb); (try clear hb2); (try clear hk); (try clear hi); obtain ⟨hcz24_0, hcz24_1, hcz24_2, hcz24_3, hfz24_0, hfz24_1, hfz24_2, hfz24_3⟩ := cel4 BK175) | ((with_reducible refine gate_dst (N := 4) rfl ?_); refine bx (N := 4) (cs := #[.int .i64 0, .int .i64 0, .int .i64 0, .int .i64 0]) (t := 25) ?_; intro gb178 hg w25 hbox hb; have BK178 := Aside0.mk hbox; have GW178 := sz hg HB; have GE178 := GW178; have NB175_178 := nl hg BK175; have NB178_175 := ng hg BK175; have NB176_178 := nl hg BK176; have NB178_176 := ng hg BK176; replace BK175 := cb BK175 hb; replace BK176 := cb BK176 hb; replace HB := bs HB hb; clear hb hbox hg; have hnb26 := NB178_175.out; have hnc26 := NB175_178.out; have hnb27 := NB178_176.out; have hnc27 := NB176_178.out; obtain ⟨hcz28_0, hcz28_1, hcz28_2, hcz28_3, hfz28_0, hfz28_1, hfz28_2, hfz28_3⟩ := cel4 BK178; obtain ⟨hcz29_0, hcz29_1, hcz29_2, hcz29_3, hfz29_0, hfz29_1, hfz29_2, hfz29_3⟩ := cel4 BK176))
      refine bodyPost_ret (results_ct rfl _ _ gb176 25 #[.int .i64 0, .int .i64 0, .int .i64 0, .int .i64 0] (0, 0) _ rfl (bp BK176) Try.underlying25 rfl (by kernel_rfl)) rfl ?_
      exact ⟨er, bl HB⟩
    ·rw [if_neg c6] at H
     have c6b0 : ((Int.tmod (wrap64 (a0_1 + a0_3)) 2) == 0) = false := beq_eq_false_iff_ne.mpr c6
     have c6b1 : ((Int.tmod (wrap64 (a0_1 + a0_3)) 2) != 0) = true := bne_iff_ne.mpr c6
     simp only [Option.some.injEq, Prod.mk.injEq] at H
     obtain ⟨rfl, rfl, rfl, rfl, rfl⟩ := H
     go_enter Try.func90, Try.ntmps90
     go_wp2_with (first | ((with_reducible refine gate_dst (N := 1) rfl ?_); refine bx (N := 1) (cs := #[.int .i64 a0_0, .int .i64 a0_1, .int .i64 a0_2, .int .i64 a0_3]) (t := 25) ?_; intro gb175 hg w30 hbox hb; have BK175 := Aside0.mk hbox; have GW175 := sz hg HB; have GE175 := GW175; replace HB := bs HB hb; clear hb hbox hg) | ((with_reducible refine gate_dst (N := 2) rfl ?_); refine bx (N := 2) (cs := #[.int .i64 0, .int .i64 0, .int .i64 0, .int .i64 0]) (t := 25) ?_; intro gb176 hg w31 hbox hb; have BK176 := Aside0.mk hbox; have GW176 := sz hg HB; have GE176 := GW176; have NB175_176 := nl hg BK175; have NB176_175 := ng hg BK175; replace BK175 := cb BK175 hb; replace HB := bs HB hb; clear hb hbox hg; have hnb32 := NB175_176.out; have hnc32 := NB176_175.out; obtain ⟨hcz33_0, hcz33_1, hcz33_2, hcz33_3, hfz33_0, hfz33_1, hfz33_2, hfz33_3⟩ := cel4 BK175) | ((with_reducible refine gate_callee (f := 91) rfl ?_); refine gL (some 6) Try.func91 #[.agg #[.int .i64 a0_0, .int .i64 a0_1, .int .i64 a0_2, .int .i64 a0_3]] ?_; (with_reducible refine (spec_IsValidZOmega.calls a0_0 a0_1 a0_2 a0_3 true _ A2.out).mono ?_); rintro e w34 ⟨rfl, hb⟩; refine ⟨_, rfl, ?_⟩; replace BK175 := cb BK175 hb; replace BK176 := cb BK176 hb; replace HB := bs HB hb; (try clear hb); (try clear hb2); (try clear hk); (try clear hi); obtain ⟨hcz35_0, hcz35_1, hcz35_2, hcz35_3, hfz35_0, hfz35_1, hfz35_2, hfz35_3⟩ := cel4 BK175) | ((with_reducible refine gate_dst (N := 4) rfl ?_); refine bx (N := 4) (cs := #[.int .i64 0, .int .i64 0, .int .i64 0, .int .i64 0]) (t := 25) ?_; intro gb178 hg w36 hbox hb; have BK178 := Aside0.mk hbox; have GW178 := sz hg HB; have GE178 := GW178; have NB175_178 := nl hg BK175; have NB178_175 := ng hg BK175; have NB176_178 := nl hg BK176; have NB178_176 := ng hg BK176; replace BK175 := cb BK175 hb; replace BK176 := cb BK176 hb; replace HB := bs HB hb; clear hb hbox hg; have hnb37 := NB178_175.out; have hnc37 := NB175_178.out; have hnb38 := NB178_176.out; have hnc38 := NB176_178.out; obtain ⟨hcz39_0, hcz39_1, hcz39_2, hcz39_3, hfz39_0, hfz39_1, hfz39_2, hfz39_3⟩ := cel4 BK178; obtain ⟨hcz40_0, hcz40_1, hcz40_2, hcz40_3, hfz40_0, hfz40_1, hfz40_2, hfz40_3⟩ := cel4 BK176))
     refine bodyPost_ret (results_ct rfl _ _ gb176 25 #[.int .i64 0, .int .i64 0, .int .i64 0, .int .i64 0] (0, 0) _ rfl (bp BK176) Try.underlying25 rfl (by kernel_rfl)) rfl ?_
     exact ⟨er, bl HB⟩
   ·rw [if_neg c5] at H
    have c5b0 : ((Int.tmod (wrap64 (a0_0 + a0_2)) 2) == 0) = false := beq_eq_false_iff_ne.mpr c5
    have c5b1 : ((Int.tmod (wrap64 (a0_0 + a0_2)) 2) != 0) = true := bne_iff_ne.mpr c5
    simp only [Option.some.injEq, Prod.mk.injEq] at H
    obtain ⟨rfl, rfl, rfl, rfl, rfl⟩ := H
    go_enter Try.func90, Try.ntmps90
    go_wp2_with (first | ((with_reducible refine gate_dst (N := 1) rfl ?_); refine bx (N := 1) (cs := #[.int .i64 a0_0, .int .i64 a0_1, .int .i64 a0_2, .int .i64 a0_3]) (t := 25) ?_; intro gb175 hg w41 hbox hb; have BK175 := Aside0.mk hbox; have GW175 := sz hg HB; have GE175 := GW175; replace HB := bs HB hb; clear hb hbox hg) | ((with_reducible refine gate_dst (N := 2) rfl ?_); refine bx (N := 2) (cs := #[.int .i64 0, .int .i64 0, .int .i64 0, .int .i64 0]) (t := 25) ?_; intro gb176 hg w42 hbox hb; have BK176 := Aside0.mk hbox; have GW176 := sz hg HB; have GE176 := GW176; have NB175_176 := nl hg BK175; have NB176_175 := ng hg BK175; replace BK175 := cb BK175 hb; replace HB := bs HB hb; clear hb hbox hg; have hnb43 := NB175_176.out; have hnc43 := NB176_175.out; obtain ⟨hcz44_0, hcz44_1, hcz44_2, hcz44_3, hfz44_0, hfz44_1, hfz44_2, hfz44_3⟩ := cel4 BK175) | ((with_reducible refine gate_callee (f := 91) rfl ?_); refine gL (some 6) Try.func91 #[.agg #[.int .i64 a0_0, .int .i64 a0_1, .int .i64 a0_2, .int .i64 a0_3]] ?_; (with_reducible refine (spec_IsValidZOmega.calls a0_0 a0_1 a0_2 a0_3 true _ A2.out).mono ?_); rintro e w45 ⟨rfl, hb⟩; refine ⟨_, rfl, ?_⟩; replace BK175 := cb BK175 hb; replace BK176 := cb BK176 hb; replace HB := bs HB hb; (try clear hb); (try clear hb2); (try clear hk); (try clear hi); obtain ⟨hcz46_0, hcz46_1, hcz46_2, hcz46_3, hfz46_0, hfz46_1, hfz46_2, hfz46_3⟩ := cel4 BK175) | ((with_reducible refine gate_dst (N := 4) rfl ?_); refine bx (N := 4) (cs := #[.int .i64 0, .int .i64 0, .int .i64 0, .int .i64 0]) (t := 25) ?_; intro gb178 hg w47 hbox hb; have BK178 := Aside0.mk hbox; have GW178 := sz hg HB; have GE178 := GW178; have NB175_178 := nl hg BK175; have NB178_175 := ng hg BK175; have NB176_178 := nl hg BK176; have NB178_176 := ng hg BK176; replace BK175 := cb BK175 hb; replace BK176 := cb BK176 hb; replace HB := bs HB hb; clear hb hbox hg; have hnb48 := NB178_175.out; have hnc48 := NB175_178.out; have hnb49 := NB178_176.out; have hnc49 := NB176_178.out; obtain ⟨hcz50_0, hcz50_1, hcz50_2, hcz50_3, hfz50_0, hfz50_1, hfz50_2, hfz50_3⟩ := cel4 BK178; obtain ⟨hcz51_0, hcz51_1, hcz51_2, hcz51_3, hfz51_0, hfz51_1, hfz51_2, hfz51_3⟩ := cel4 BK176))
    refine bodyPost_ret (results_ct rfl _ _ gb176 25 #[.int .i64 0, .int .i64 0, .int .i64 0, .int .i64 0] (0, 0) _ rfl (bp BK176) Try.underlying25 rfl (by kernel_rfl)) rfl ?_
    exact ⟨er, bl HB⟩
  ·rw [if_neg c4] at H
   have c4b0 : ((Int.tmod (wrap64 (a0_1 - a0_3)) 2) == 0) = false := beq_eq_false_iff_ne.mpr c4
   have c4b1 : ((Int.tmod (wrap64 (a0_1 - a0_3)) 2) != 0) = true := bne_iff_ne.mpr c4
   simp only [Option.some.injEq, Prod.mk.injEq] at H
   obtain ⟨rfl, rfl, rfl, rfl, rfl⟩ := H
   go_enter Try.func90, Try.ntmps90
   go_wp2_with (first | ((with_reducible refine gate_dst (N := 1) rfl ?_); refine bx (N := 1) (cs := #[.int .i64 a0_0, .int .i64 a0_1, .int .i64 a0_2, .int .i64 a0_3]) (t := 25) ?_; intro gb175 hg w52 hbox hb; have BK175 := Aside0.mk hbox; have GW175 := sz hg HB; have GE175 := GW175; replace HB := bs HB hb; clear hb hbox hg) | ((with_reducible refine gate_dst (N := 2) rfl ?_); refine bx (N := 2) (cs := #[.int .i64 0, .int .i64 0, .int .i64 0, .int .i64 0]) (t := 25) ?_; intro gb176 hg w53 hbox hb; have BK176 := Aside0.mk hbox; have GW176 := sz hg HB; have GE176 := GW176; have NB175_176 := nl hg BK175; have NB176_175 := ng hg BK175; replace BK175 := cb BK175 hb; replace HB := bs HB hb; clear hb hbox hg; have hnb54 := NB175_176.out; have hnc54 := NB176_175.out; obtain ⟨hcz55_0, hcz55_1, hcz55_2, hcz55_3, hfz55_0, hfz55_1, hfz55_2, hfz55_3⟩ := cel4 BK175) | ((with_reducible refine gate_callee (f := 91) rfl ?_); refine gL (some 6) Try.func91 #[.agg #[.int .i64 a0_0, .int .i64 a0_1, .int .i64 a0_2, .int .i64 a0_3]] ?_; (with_reducible refine (spec_IsValidZOmega.calls a0_0 a0_1 a0_2 a0_3 true _ A2.out).mono ?_); rintro e w56 ⟨rfl, hb⟩; refine ⟨_, rfl, ?_⟩; replace BK175 := cb BK175 hb; replace BK176 := cb BK176 hb; replace HB := bs HB hb; (try clear hb); (try clear hb2); (try clear hk); (try clear hi); obtain ⟨hcz57_0, hcz57_1, hcz57_2, hcz57_3, hfz57_0, hfz57_1, hfz57_2, hfz57_3⟩ := cel4 BK175) | ((with_reducible refine gate_dst (N := 4) rfl ?_); refine bx (N := 4) (cs := #[.int .i64 0, .int .i64 0, .int .i64 0, .int .i64 0]) (t := 25) ?_; intro gb178 hg w58 hbox hb; have BK178 := Aside0.mk hbox; have GW178 := sz hg HB; have GE178 := GW178; have NB175_178 := nl hg BK175; have NB178_175 := ng hg BK175; have NB176_178 := nl hg BK176; have NB178_176 := ng hg BK176; replace BK175 := cb BK175 hb; replace BK176 := cb BK176 hb; replace HB := bs HB hb; clear hb hbox hg; have hnb59 := NB178_175.out; have hnc59 := NB175_178.out; have hnb60 := NB178_176.out; have hnc60 := NB176_178.out; obtain ⟨hcz61_0, hcz61_1, hcz61_2, hcz61_3, hfz61_0, hfz61_1, hfz61_2, hfz61_3⟩ := cel4 BK178; obtain ⟨hcz62_0, hcz62_1, hcz62_2, hcz62_3, hfz62_0, hfz62_1, hfz62_2, hfz62_3⟩ := cel4 BK176))
   refine bodyPost_ret (results_ct rfl _ _ gb176 25 #[.int .i64 0, .int .i64 0, .int .i64 0, .int .i64 0] (0, 0) _ rfl (bp BK176) Try.underlying25 rfl (by kernel_rfl)) rfl ?_
   exact ⟨er, bl HB⟩
 ·replace c3 := Bool.eq_false_iff.mpr c3
  subst c3
  rw [nf] at H
  simp only [Option.some.injEq, Prod.mk.injEq] at H
  obtain ⟨rfl, rfl, rfl, rfl, rfl⟩ := H
  go_enter Try.func90, Try.ntmps90
  go_wp2_with (first | ((with_reducible refine gate_dst (N := 1) rfl ?_); refine bx (N := 1) (cs := #[.int .i64 a0_0, .int .i64 a0_1, .int .i64 a0_2, .int .i64 a0_3]) (t := 25) ?_; intro gb175 hg w63 hbox hb; have BK175 := Aside0.mk hbox; have GW175 := sz hg HB; have GE175 := GW175; replace HB := bs HB hb; clear hb hbox hg) | ((with_reducible refine gate_dst (N := 2) rfl ?_); refine bx (N := 2) (cs := #[.int .i64 0, .int .i64 0, .int .i64 0, .int .i64 0]) (t := 25) ?_; intro gb176 hg w64 hbox hb; have BK176 := Aside0.mk hbox; have GW176 := sz hg HB; have GE176 := GW176; have NB175_176 := nl hg BK175; have NB176_175 := ng hg BK175; replace BK175 := cb BK175 hb; replace HB := bs HB hb; clear hb hbox hg; have hnb65 := NB175_176.out; have hnc65 := NB176_175.out; obtain ⟨hcz66_0, hcz66_1, hcz66_2, hcz66_3, hfz66_0, hfz66_1, hfz66_2, hfz66_3⟩ := cel4 BK175) | ((with_reducible refine gate_callee (f := 91) rfl ?_); refine gL (some 6) Try.func91 #[.agg #[.int .i64 a0_0, .int .i64 a0_1, .int .i64 a0_2, .int .i64 a0_3]] ?_; (with_reducible refine (spec_IsValidZOmega.calls a0_0 a0_1 a0_2 a0_3 false _ A2.out).mono ?_); rintro e w67 ⟨rfl, hb⟩; refine ⟨_, rfl, ?_⟩; replace BK175 := cb BK175 hb; replace BK176 := cb BK176 hb; replace HB := bs HB hb; (try clear hb); (try clear hb2); (try clear hk); (try clear hi); obtain ⟨hcz68_0, hcz68_1, hcz68_2, hcz68_3, hfz68_0, hfz68_1, hfz68_2, hfz68_3⟩ := cel4 BK176))
  refine bodyPost_ret (results_ct rfl _ _ gb176 25 #[.int .i64 0, .int .i64 0, .int .i64 0, .int .i64 0] (0, 0) _ rfl (bp BK176) Try.underlying25 rfl (by kernel_rfl)) rfl ?_
  exact ⟨er, bl HB⟩
/-! ### spec_IsValidDOmega: function 54 -/
def spec_IsValidDOmega.f (a0_0 : Int) (a0_1 : Int) (a0_2 : Int) (a0_3 : Int) (a0_4 : Int) : Option (Bool) := (spec_DivSqrt2.f a0_0 a0_1 a0_2 a0_3).bind fun bt180 => ((spec_IsValidZOmega.f a0_0 a0_1 a0_2 a0_3).bind fun t186 => (if t186 = true then ((spec_l1In.f a0_4 0 60).bind fun t187 => (if t187 = true then (if bt180.2.2.2.2 = true then (some (a0_4 == 0)) else (some true)) else (some false))) else (some false)))
set_option maxHeartbeats 8000000 in
set_option maxRecDepth 100000 in
theorem spec_IsValidDOmega.calls (a0_0 : Int) (a0_1 : Int) (a0_2 : Int) (a0_3 : Int) (a0_4 : Int) (r : Bool) (w : World) (h : spec_IsValidDOmega.f a0_0 a0_1 a0_2 a0_3 a0_4 = some r) :
  Calls Try.prog 54 #[.agg #[.int .i64 a0_0, .int .i64 a0_1, .int .i64 a0_2, .int .i64 a0_3, .int .i64 a0_4]] w fun e w' => e = .returned (.bool r) ∧ Below w.heap.size w w' := by
 have hu27 := Try.underlying27
 have hu25 := Try.underlying25
 have HB := Aside0.mk (Below.refl w.heap.size w)
 have H := h
 clear h
 unfold spec_IsValidDOmega.f at H
 replace H := Option.bind_eq_some_iff.mp H
 obtain ⟨⟨t180, t181, t182, t183, t184⟩, A20, H⟩ := H
 try dsimp only at H
 have A2 := Aside0.mk A20
 clear A20
 replace H := Option.bind_eq_some_iff.mp H
 obtain ⟨t186, A30, H⟩ := H
 try dsimp only at H
 have A3 := Aside0.mk A30
 clear A30
 by_cases c4 : t186 = true
 ·subst c4
  rw [if_pos rfl] at H
  replace H := Option.bind_eq_some_iff.mp H
  obtain ⟨t187, A50, H⟩ := H
  try dsimp only at H
  have A5 := Aside0.mk A50
  clear A50
  by_cases c6 : t187 = true
  ·subst c6
   rw [if_pos rfl] at H
   by_cases c7 : t184 = true
   ·subst c7
    rw [if_pos rfl] at H
    obtain rfl := Option.some.inj H
    go_enter Try.func54, Try.ntmps54
    go_wp2_with (first | ((with_reducible refine gate_dst (N := 1) rfl ?_); refine bx (N := 1) (cs := #[.int .i64 a0_0, .int .i64 a0_1, .int .i64 a0_2, .int .i64 a0_3, .int .i64 a0_4]) (t := 27) ?_; intro gb179 hg w8 hbox hb; have BK179 := Aside0.mk hbox; have GW179 := sz hg HB; have GE179 := GW179; replace HB := bs HB hb; clear hb hbox hg; obtain ⟨hcz9_0, hcz9_1, hcz9_2, hcz9_3, hcz9_4, hfz9_0, hfz9_1, hfz9_2, hfz9_3, hfz9_4⟩ := cel5 BK179) | ((with_reducible refine gate_callee (f := 90) rfl ?_); refine gL (some 8) Try.func90 #[.agg #[.int .i64 a0_0, .int .i64 a0_1, .int .i64 a0_2, .int .i64 a0_3]] ?_; (with_reducible refine (spec_DivSqrt2.calls a0_0 a0_1 a0_2 a0_3 t180 t181 t182 t183 true _ A2.out).mono ?_); rintro e w10 ⟨rfl, hb⟩; refine ⟨_, rfl, ?_⟩; replace BK179 := cb BK179 hb; replace HB := bs HB hb; (try clear hb); (try clear hb2); (try clear hk); (try clear hi)) | ((with_reducible refine gate_dst (N := 3) rfl ?_); refine bx (N := 3) (cs := #[.int .i64 0, .int .i64 0, .int .i64 0, .int .i64 0]) (t := 25) ?_; intro gb185 hg w11 hbox hb; have BK185 := Aside0.mk hbox; have GW185 := sz hg HB; have GE185 := GW185; have NB179_185 := nl hg BK179; have NB185_179 := ng hg BK179; replace BK179 := cb BK179 hb; replace HB := bs HB hb; clear hb hbox hg; have hnb12 := NB185_179.out; have hnc12 := NB179_185.out; obtain ⟨hcz13_0, hcz13_1, hcz13_2, hcz13_3, hfz13_0, hfz13_1, hfz13_2, hfz13_3⟩ := cel4 BK185; obtain ⟨hcz14_0, hcz14_1, hcz14_2, hcz14_3, hcz14_4, hfz14_0, hfz14_1, hfz14_2, hfz14_3, hfz14_4⟩ := cel5 BK179) | ((with_reducible refine gate_callee (f := 91) rfl ?_); refine gL (some 13) Try.func91 #[.agg #[.int .i64 a0_0, .int .i64 a0_1, .int .i64 a0_2, .int .i64 a0_3]] ?_; (with_reducible refine (spec_IsValidZOmega.calls a0_0 a0_1 a0_2 a0_3 true _ A3.out).mono ?_); rintro e w15 ⟨rfl, hb⟩; refine ⟨_, rfl, ?_⟩; replace BK179 := cp BK179 hb; replace BK185 := cp BK185 hb; replace HB := bs HB hb; (try clear hb); (try clear hb2); (try clear hk); (try clear hi); obtain ⟨hcz16_0, hcz16_1, hcz16_2, hcz16_3, hcz16_4, hfz16_0, hfz16_1, hfz16_2, hfz16_3, hfz16_4⟩ := cel5 BK179) | (go_at_call 22; (with_reducible refine (spec_l1In.calls a0_4 0 60 true _ A5.out).mono ?_); rintro e w' ⟨rfl, ⟨nd, rfl⟩⟩))
    go_ret
    exact ⟨er, bl HB⟩
   ·replace c7 := Bool.eq_false_iff.mpr c7
    subst c7
    rw [nf] at H
    obtain rfl := Option.some.inj H
    go_enter Try.func54, Try.ntmps54
    go_wp2_with (first | ((with_reducible refine gate_dst (N := 1) rfl ?_); refine bx (N := 1) (cs := #[.int .i64 a0_0, .int .i64 a0_1, .int .i64 a0_2, .int .i64 a0_3, .int .i64 a0_4]) (t := 27) ?_; intro gb179 hg w17 hbox hb; have BK179 := Aside0.mk hbox; have GW179 := sz hg HB; have GE179 := GW179; replace HB := bs HB hb; clear hb hbox hg; obtain ⟨hcz18_0, hcz18_1, hcz18_2, hcz18_3, hcz18_4, hfz18_0, hfz18_1, hfz18_2, hfz18_3, hfz18_4⟩ := cel5 BK179) | ((with_reducible refine gate_callee (f := 90) rfl ?_); refine gL (some 8) Try.func90 #[.agg #[.int .i64 a0_0, .int .i64 a0_1, .int .i64 a0_2, .int .i64 a0_3]] ?_; (with_reducible refine (spec_DivSqrt2.calls a0_0 a0_1 a0_2 a0_3 t180 t181 t182 t183 false _ A2.out).mono ?_); rintro e w19 ⟨rfl, hb⟩; refine ⟨_, rfl, ?_⟩; replace BK179 := cb BK179 hb; replace HB := bs HB hb; (try clear hb); (try clear hb2); (try clear hk); (try clear hi)) | ((with_reducible refine gate_dst (N := 3) rfl ?_); refine bx (N := 3) (cs := #[.int .i64 0, .int .i64 0, .int .i64 0, .int .i64 0]) (t := 25) ?_; intro gb185 hg w20 hbox hb; have BK185 := Aside0.mk hbox; have GW185 := sz hg HB; have GE185 := GW185; have NB179_185 := nl hg BK179; have NB185_179 := ng hg BK179; replace BK179 := cb BK179 hb; replace HB := bs HB hb; clear hb hbox hg; have hnb21 := NB185_179.out; have hnc21 := NB179_185.out; obtain ⟨hcz22_0, hcz22_1, hcz22_2, hcz22_3, hfz22_0, hfz22_1, hfz22_2, hfz22_3⟩ := cel4 BK185; obtain ⟨hcz23_0, hcz23_1, hcz23_2, hcz23_3, hcz23_4, hfz23_0, hfz23_1, hfz23_2, hfz23_3, hfz23_4⟩ := cel5 BK179) | ((with_reducible refine gate_callee (f := 91) rfl ?_); refine gL (some 13) Try.func91 #[.agg #[.int .i64 a0_0, .int .i64 a0_1, .int .i64 a0_2, .int .i64 a0_3]] ?_; (with_reducible refine (spec_IsValidZOmega.calls a0_0 a0_1 a0_2 a0_3 true _ A3.out).mono ?_); rintro e w24 ⟨rfl, hb⟩; refine ⟨_, rfl, ?_⟩; replace BK179 := cp BK179 hb; replace BK185 := cp BK185 hb; replace HB := bs HB hb; (try clear hb); (try clear hb2); (try clear hk); (try clear hi); obtain ⟨hcz25_0, hcz25_1, hcz25_2, hcz25_3, hcz25_4, hfz25_0, hfz25_1, hfz25_2, hfz25_3, hfz25_4⟩ := cel5 BK179) | (go_at_call 22; (with_reducible refine (spec_l1In.calls a0_4 0 60 true _ A5.out).mono ?_); rintro e w' ⟨rfl, ⟨nd, rfl⟩⟩))
    go_ret
    exact ⟨er, bl HB⟩
  ·replace c6 := Bool.eq_false_iff.mpr c6
   subst c6
   rw [nf] at H
   obtain rfl := Option.some.inj H
   go_enter Try.func54, Try.ntmps54
   go_wp2_with (first | ((with_reducible refine gate_dst (N := 1) rfl ?_); refine bx (N := 1) (cs := #[.int .i64 a0_0, .int .i64 a0_1, .int .i64 a0_2, .int .i64 a0_3, .int .i64 a0_4]) (t := 27) ?_; intro gb179 hg w26 hbox hb; have BK179 := Aside0.mk hbox; have GW179 := sz hg HB; have GE179 := GW179; replace HB := bs HB hb; clear hb hbox hg; obtain ⟨hcz27_0, hcz27_1, hcz27_2, hcz27_3, hcz27_4, hfz27_0, hfz27_1, hfz27_2, hfz27_3, hfz27_4⟩ := cel5 BK179) | ((with_reducible refine gate_callee (f := 90) rfl ?_); refine gL (some 8) Try.func90 #[.agg #[.int .i64 a0_0, .int .i64 a0_1, .int .i64 a0_2, .int .i64 a0_3]] ?_; (with_reducible refine (spec_DivSqrt2.calls a0_0 a0_1 a0_2 a0_3 t180 t181 t182 t183 t184 _ A2.out).mono ?_); rintro e w28 ⟨rfl, hb⟩; refine ⟨_, rfl, ?_⟩; replace BK179 := cb BK179 hb; replace HB := bs HB hb; (try clear hb); (try clear hb2); (try clear hk); (try clear hi)) | ((with_reducible refine gate_dst (N := 3) rfl ?_); refine bx (N := 3) (cs := #[.int .i64 0, .int .i64 0, .int .i64 0, .int .i64 0]) (t := 25) ?_; intro gb185 hg w29 hbox hb; have BK185 := Aside0.mk hbox; have GW185 := sz hg HB; have GE185 := GW185; have NB179_185 := nl hg BK179; have NB185_179 := ng hg BK179; replace BK179 := cb BK179 hb; replace HB := bs HB hb; clear hb hbox hg; have hnb30 := NB185_179.out; have hnc30 := NB179_185.out; obtain ⟨hcz31_0, hcz31_1, hcz31_2, hcz31_3, hfz31_0, hfz31_1, hfz31_2, hfz31_3⟩ := cel4 BK185; obtain ⟨hcz32_0, hcz32_1, hcz32_2, hcz32_3, hcz32_4, hfz32_0, hfz32_1, hfz32_2, hfz32_3, hfz32_4⟩ := cel5 BK179) | ((with_reducible refine gate_callee (f := 91) rfl ?_); refine gL (some 13) Try.func91 #[.agg #[.int .i64 a0_0, .int .i64 a0_1, .int .i64 a0_2, .int .i64 a0_3]] ?_; (with_reducible refine (spec_IsValidZOmega.calls a0_0 a0_1 a0_2 a0_3 true _ A3.out).mono ?_); rintro e w33 ⟨rfl, hb⟩; refine ⟨_, rfl, ?_⟩; replace BK179 := cp BK179 hb; replace BK185 := cp BK185 hb; replace HB := bs HB hb; (try clear hb); (try clear hb2); (try clear hk); (try clear hi); obtain ⟨hcz34_0, hcz34_1, hcz34_2, hcz34_3, hcz34_4, hfz34_0, hfz34_1, hfz34_2, hfz34_3, hfz34_4⟩ := cel5 BK179) | (go_at_call 22; (with_reducible refine (spec_l1In.calls a0_4 0 60 false _ A5.out).mono ?_); rintro e w' ⟨rfl, ⟨nd, rfl⟩⟩))
   go_ret
   exact ⟨er, bl HB⟩
 ·replace c4 := Bool.eq_false_iff.mpr c4
  subst c4
  rw [nf] at H
  obtain rfl := Option.some.inj H
  go_enter Try.func54, Try.ntmps54
  go_wp2_with (first | ((with_reducible refine gate_dst (N := 1) rfl ?_); refine bx (N := 1) (cs := #[.int .i64 a0_0, .int .i64 a0_1, .int .i64 a0_2, .int .i64 a0_3, .int .i64 a0_4]) (t := 27) ?_; intro gb179 hg w35 hbox hb; have BK179 := Aside0.mk hbox; have GW179 := sz hg HB; have GE179 := GW179; replace HB := bs HB hb; clear hb hbox hg; obtain ⟨hcz36_0, hcz36_1, hcz36_2, hcz36_3, hcz36_4, hfz36_0, hfz36_1, hfz36_2, hfz36_3, hfz36_4⟩ := cel5 BK179) | ((with_reducible refine gate_callee (f := 90) rfl ?_); refine gL (some 8) Try.func90 #[.agg #[.int .i64 a0_0, .int .i64 a0_1, .int .i64 a0_2, .int .i64 a0_3]] ?_; (with_reducible refine (spec_DivSqrt2.calls a0_0 a0_1 a0_2 a0_3 t180 t181 t182 t183 t184 _ A2.out).mono ?_); rintro e w37 ⟨rfl, hb⟩; refine ⟨_, rfl, ?_⟩; replace BK179 := cb BK179 hb; replace HB := bs HB hb; (try clear hb); (try clear hb2); (try clear hk); (try clear hi)) | ((with_reducible refine gate_dst (N := 3) rfl ?_); refine bx (N := 3) (cs := #[.int .i64 0, .int .i64 0, .int .i64 0, .int .i64 0]) (t := 25) ?_; intro gb185 hg w38 hbox hb; have BK185 := Aside0.mk hbox; have GW185 := sz hg HB; have GE185 := GW185; have NB179_185 := nl hg BK179; have NB185_179 := ng hg BK179; replace BK179 := cb BK179 hb; replace HB := bs HB hb; clear hb hbox hg; have hnb39 := NB185_179.out; have hnc39 := NB179_185.out; obtain ⟨hcz40_0, hcz40_1, hcz40_2, hcz40_3, hfz40_0, hfz40_1, hfz40_2, hfz40_3⟩ := cel4 BK185; obtain ⟨hcz41_0, hcz41_1, hcz41_2, hcz41_3, hcz41_4, hfz41_0, hfz41_1, hfz41_2, hfz41_3, hfz41_4⟩ := cel5 BK179) | ((with_reducible refine gate_callee (f := 91) rfl ?_); refine gL (some 13) Try.func91 #[.agg #[.int .i64 a0_0, .int .i64 a0_1, .int .i64 a0_2, .int .i64 a0_3]] ?_; (with_reducible refine (spec_IsValidZOmega.calls a0_0 a0_1 a0_2 a0_3 false _ A3.out).mono ?_); rintro e w42 ⟨rfl, hb⟩; refine ⟨_, rfl, ?_⟩; replace BK179 := cp BK179 hb; replace BK185 := cp BK185 hb; replace HB := bs HB hb; (try clear hb); (try clear hb2); (try clear hk); (try clear hi)))
  go_ret
  exact ⟨er, bl HB⟩
/-! ### spec_l1Max: function 55 -/
def spec_l1Max.f (a0 : Int) (a1 : Int) : Option (Int) := if a0 > a1 then (some a0) else (some a1)
set_option maxHeartbeats 8000000 in
set_option maxRecDepth 100000 in
theorem spec_l1Max.calls (a0 : Int) (a1 : Int) (r : Int) (w : World) (h : spec_l1Max.f a0 a1 = some r) :
  Calls Try.prog 55 #[.int .i64 a0, .int .i64 a1] w fun e w' => e = .returned (.int .i64 r) ∧ Drawn0 w w' := by
 have H := h
 clear h
 unfold spec_l1Max.f at H
 by_cases c3 : a0 > a1
 ·rw [if_pos c3] at H
  have c3b0 : decide (a1 < a0) = true := decide_eq_true c3
  clear c3
  obtain rfl := Option.some.inj H
  go_enter Try.func55, Try.ntmps55
  go_wp2
  go_ret
  exact ⟨rs, dr⟩
 ·rw [if_neg c3] at H
  have c3b0 : decide (a1 < a0) = false := decide_eq_false c3
  clear c3
  obtain rfl := Option.some.inj H
  go_enter Try.func55, Try.ntmps55
  go_wp2
  go_ret
  exact ⟨rs, dr⟩
/-! ### spec_l2If: function 92 -/
def spec_l2If.f (a0_0 : Int) (a0_1 : Int) (a0_2 : Int) (a0_3 : Int) : Option (Int × Int × Int × Int × Bool) := (spec_IsValidZOmega.f a0_0 a0_1 a0_2 a0_3).bind fun t190 => (if t190 = true then (some (a0_0, a0_1, a0_2, a0_3, true)) else (some (0, 0, 0, 0, false)))
set_option maxHeartbeats 8000000 in
set_option maxRecDepth 100000 in
theorem spec_l2If.calls (a0_0 : Int) (a0_1 : Int) (a0_2 : Int) (a0_3 : Int) (r1 : Int) (r2 : Int) (r3 : Int) (r4 : Int) (r5 : Bool) (w : World) (h : spec_l2If.f a0_0 a0_1 a0_2 a0_3 = some (r1, r2, r3, r4, r5)) :
  Calls Try.prog 92 #[.agg #[.int .i64 a0_0, .int .i64 a0_1, .int .i64 a0_2, .int .i64 a0_3]] w fun e w' => e = .returned (.tuple #[.agg #[.int .i64 r1, .int .i64 r2, .int .i64 r3, .int .i64 r4], .bool r5]) ∧ Below w.heap.size w w' := by
 have hu25 := Try.underlying25
 have HB := Aside0.mk (Below.refl w.heap.size w)
 have H := h
 clear h
 unfold spec_l2If.f at H
 replace H := Option.bind_eq_some_iff.mp H
 obtain ⟨t190, A20, H⟩ := H
 try dsimp only at H
 have A2 := Aside0.mk A20
 clear A20
 by_cases c3 : t190 = true
 ·subst c3
  rw [if_pos rfl] at H
  simp only [Option.some.injEq, Prod.mk.injEq] at H
  obtain ⟨rfl, rfl, rfl, rfl, rfl⟩ := H
  go_enter Try.func92, Try.ntmps92
  go_wp2_with (first | ((with_reducible refine gate_dst (N := 1) rfl ?_); refine bx (N := 1) (cs := #[.int .i64 a0_0, .int .i64 a0_1, .int .i64 a0_2, .int .i64 a0_3]) (t := 25) ?_; intro gb188 hg w4 hbox hb; have BK188 := Aside0.mk hbox; have GW188 := sz hg HB; have GE188 := GW188; replace HB := bs HB hb; clear hb hbox hg) | ((with_reducible refine gate_dst (N := 2) rfl ?_); refine bx (N := 2) (cs := #[.int .i64 0, .int .i64 0, .int .i64 0, .int .i64 0]) (t := 25) ?_; intro gb189 hg w5 hbox hb; have BK189 := Aside0.mk hbox; have GW189 := sz hg HB; have GE189 := GW189; have NB188_189 := nl hg BK188; have NB189_188 := ng hg BK188; replace BK188 := cb BK188 hb; replace HB := bs HB hb; clear hb hbox hg; have hnb6 := NB188_189.out; have hnc6 := NB189_188.out; obtain ⟨hcz7_0, hcz7_1, hcz7_2, hcz7_3, hfz7_0, hfz7_1, hfz7_2, hfz7_3⟩ := cel4 BK188) | ((with_reducible refine gate_callee (f := 91) rfl ?_); refine gL (some 5) Try.func91 #[.agg #[.int .i64 a0_0, .int .i64 a0_1, .int .i64 a0_2, .int .i64 a0_3]] ?_; (with_reducible refine (spec_IsValidZOmega.calls a0_0 a0_1 a0_2 a0_3 true _ A2.out).mono ?_); rintro e w8 ⟨rfl, hb⟩; refine ⟨_, rfl, ?_⟩; replace BK188 := cb BK188 hb; replace BK189 := cb BK189 hb; replace HB := bs HB hb; (try clear hb); (try clear hb2); (try clear hk); (try clear hi); obtain ⟨hcz9_0, hcz9_1, hcz9_2, hcz9_3, hfz9_0, hfz9_1, hfz9_2, hfz9_3⟩ := cel4 BK188; obtain ⟨hcz10_0, hcz10_1, hcz10_2, hcz10_3, hfz10_0, hfz10_1, hfz10_2, hfz10_3⟩ := cel4 BK189))
  refine bodyPost_ret (results_ct rfl _ _ gb189 25 #[.int .i64 a0_0, .int .i64 a0_1, .int .i64 a0_2, .int .i64 a0_3] (0, 0) _ rfl (bp BK189) Try.underlying25 rfl (by kernel_rfl)) rfl ?_
  exact ⟨er, bl HB⟩
 ·replace c3 := Bool.eq_false_iff.mpr c3
  subst c3
  rw [nf] at H
  simp only [Option.some.injEq, Prod.mk.injEq] at H
  obtain ⟨rfl, rfl, rfl, rfl, rfl⟩ := H
  go_enter Try.func92, Try.ntmps92
  go_wp2_with (first | ((with_reducible refine gate_dst (N := 1) rfl ?_); refine bx (N := 1) (cs := #[.int .i64 a0_0, .int .i64 a0_1, .int .i64 a0_2, .int .i64 a0_3]) (t := 25) ?_; intro gb188 hg w11 hbox hb; have BK188 := Aside0.mk hbox; have GW188 := sz hg HB; have GE188 := GW188; replace HB := bs HB hb; clear hb hbox hg) | ((with_reducible refine gate_dst (N := 2) rfl ?_); refine bx (N := 2) (cs := #[.int .i64 0, .int .i64 0, .int .i64 0, .int .i64 0]) (t := 25) ?_; intro gb189 hg w12 hbox hb; have BK189 := Aside0.mk hbox; have GW189 := sz hg HB; have GE189 := GW189; have NB188_189 := nl hg BK188; have NB189_188 := ng hg BK188; replace BK188 := cb BK188 hb; replace HB := bs HB hb; clear hb hbox hg; have hnb13 := NB188_189.out; have hnc13 := NB189_188.out; obtain ⟨hcz14_0, hcz14_1, hcz14_2, hcz14_3, hfz14_0, hfz14_1, hfz14_2, hfz14_3⟩ := cel4 BK188) | ((with_reducible refine gate_callee (f := 91) rfl ?_); refine gL (some 5) Try.func91 #[.agg #[.int .i64 a0_0, .int .i64 a0_1, .int .i64 a0_2, .int .i64 a0_3]] ?_; (with_reducible refine (spec_IsValidZOmega.calls a0_0 a0_1 a0_2 a0_3 false _ A2.out).mono ?_); rintro e w15 ⟨rfl, hb⟩; refine ⟨_, rfl, ?_⟩; replace BK188 := cb BK188 hb; replace BK189 := cb BK189 hb; replace HB := bs HB hb; (try clear hb); (try clear hb2); (try clear hk); (try clear hi); obtain ⟨hcz16_0, hcz16_1, hcz16_2, hcz16_3, hfz16_0, hfz16_1, hfz16_2, hfz16_3⟩ := cel4 BK189))
  refine bodyPost_ret (results_ct rfl _ _ gb189 25 #[.int .i64 0, .int .i64 0, .int .i64 0, .int .i64 0] (0, 0) _ rfl (bp BK189) Try.underlying25 rfl (by kernel_rfl)) rfl ?_
  exact ⟨er, bl HB⟩
/-! ### spec_MulZOmega: function 59 -/
def spec_MulZOmega.f (a0_0 : Int) (a0_1 : Int) (a0_2 : Int) (a0_3 : Int) (a1_0 : Int) (a1_1 : Int) (a1_2 : Int) (a1_3 : Int) : Option (Int × Int × Int × Int × Bool) := (spec_IsValidZOmega.f a0_0 a0_1 a0_2 a0_3).bind fun t194 => (if t194 = true then ((spec_IsValidZOmega.f a1_0 a1_1 a1_2 a1_3).bind fun t195 => (if t195 = true then ((spec_l2If.f (wrap64 ((wrap64 ((wrap64 ((wrap64 (a0_0 * a1_0)) - (wrap64 (a0_1 * a1_3)))) - (wrap64 (a0_2 * a1_2)))) - (wrap64 (a0_3 * a1_1)))) (wrap64 ((wrap64 ((wrap64 ((wrap64 (a0_0 * a1_1)) + (wrap64 (a0_1 * a1_0)))) - (wrap64 (a0_2 * a1_3)))) - (wrap64 (a0_3 * a1_2)))) (wrap64 ((wrap64 ((wrap64 ((wrap64 (a0_0 * a1_2)) + (wrap64 (a0_1 * a1_1)))) + (wrap64 (a0_2 * a1_0)))) - (wrap64 (a0_3 * a1_3)))) (wrap64 ((wrap64 ((wrap64 ((wrap64 (a0_0 * a1_3)) + (wrap64 (a0_1 * a1_2)))) + (wrap64 (a0_2 * a1_1)))) + (wrap64 (a0_3 * a1_0))))).bind fun bt196 => (some (bt196.1, bt196.2.1, bt196.2.2.1, bt196.2.2.2.1, bt196.2.2.2.2))) else (some (0, 0, 0, 0, false)))) else (some (0, 0, 0, 0, false)))
set_option maxHeartbeats 8000000 in
set_option maxRecDepth 100000 in
theorem spec_MulZOmega.calls (a0_0 : Int) (a0_1 : Int) (a0_2 : Int) (a0_3 : Int) (a1_0 : Int) (a1_1 : Int) (a1_2 : Int) (a1_3 : Int) (r1 : Int) (r2 : Int) (r3 : Int) (r4 : Int) (r5 : Bool) (w : World) (h : spec_MulZOmega.f a0_0 a0_1 a0_2 a0_3 a1_0 a1_1 a1_2 a1_3 = some (r1, r2, r3, r4, r5)) :
  Calls Try.prog 59 #[.agg #[.int .i64 a0_0, .int .i64 a0_1, .int .i64 a0_2, .int .i64 a0_3], .agg #[.int .i64 a1_0, .int .i64 a1_1, .int .i64 a1_2, .int .i64 a1_3]] w fun e w' => e = .returned (.tuple #[.agg #[.int .i64 r1, .int .i64 r2, .int .i64 r3, .int .i64 r4], .bool r5]) ∧ Below w.heap.size w w' := by
 have hu25 := Try.underlying25
 have HB := Aside0.mk (Below.refl w.heap.size w)
 have H := h
 clear h
 unfold spec_MulZOmega.f at H
 replace H := Option.bind_eq_some_iff.mp H
 obtain ⟨t194, A30, H⟩ := H
 try dsimp only at H
 have A3 := Aside0.mk A30
 clear A30
 by_cases c4 : t194 = true
 ·subst c4
  rw [if_pos rfl] at H
  replace H := Option.bind_eq_some_iff.mp H
  obtain ⟨t195, A50, H⟩ := H
  try dsimp only at H
  have A5 := Aside0.mk A50
  clear A50
  by_cases c6 : t195 = true
  ·subst c6
   rw [if_pos rfl] at H
   replace H := Option.bind_eq_some_iff.mp H
   obtain ⟨⟨t196, t197, t198, t199, t200⟩, A70, H⟩ := H
   try dsimp only at H
   have A7 := Aside0.mk A70
   clear A70
   simp only [Option.some.injEq, Prod.mk.injEq] at H
   obtain ⟨rfl, rfl, rfl, rfl, rfl⟩ := H
   go_enter Try.func59, Try.ntmps59
   go_wp2_with (first | ((with_reducible refine gate_dst (N := 2) rfl ?_); refine bx (N := 2) (cs := #[.int .i64 a0_0, .int .i64 a0_1, .int .i64 a0_2, .int .i64 a0_3]) (t := 25) ?_; intro gb191 hg w8 hbox hb; have BK191 := Aside0.mk hbox; have GW191 := sz hg HB; have GE191 := GW191; replace HB := bs HB hb; clear hb hbox hg) | ((with_reducible refine gate_dst (N := 3) rfl ?_); refine bx (N := 3) (cs := #[.int .i64 a1_0, .int .i64 a1_1, .int .i64 a1_2, .int .i64 a1_3]) (t := 25) ?_; intro gb192 hg w9 hbox hb; have BK192 := Aside0.mk hbox; have GW192 := sz hg HB; have GE192 := GW192; have NB191_192 := nl hg BK191; have NB192_191 := ng hg BK191; replace BK191 := cb BK191 hb; replace HB := bs HB hb; clear hb hbox hg) | ((with_reducible refine gate_dst (N := 4) rfl ?_); refine bx (N := 4) (cs := #[.int .i64 0, .int .i64 0, .int .i64 0, .int .i64 0]) (t := 25) ?_; intro gb193 hg w10 hbox hb; have BK193 := Aside0.mk hbox; have GW193 := sz hg HB; have GE193 := GW193; have NB191_193 := nl hg BK191; have NB193_191 := ng hg BK191; have NB192_193 := nl hg BK192; have NB193_192 := ng hg BK192; replace BK191 := cb BK191 hb; replace BK192 := cb BK192 hb; replace HB := bs HB hb; clear hb hbox hg; have hnb11 := NB191_192.out; have hnc11 := NB192_191.out; have hnb12 := NB191_193.out; have hnc12 := NB193_191.out; obtain ⟨hcz13_0, hcz13_1, hcz13_2, hcz13_3, hfz13_0, hfz13_1, hfz13_2, hfz13_3⟩ := cel4 BK191) | ((with_reducible refine gate_callee (f := 91) rfl ?_); refine gL (some 7) Try.func91 #[.agg #[.int .i64 a0_0, .int .i64 a0_1, .int .i64 a0_2, .int .i64 a0_3]] ?_; (with_reducible refine (spec_IsValidZOmega.calls a0_0 a0_1 a0_2 a0_3 true _ A3.out).mono ?_); rintro e w14 ⟨rfl, hb⟩; refine ⟨_, rfl, ?_⟩; replace BK191 := cb BK191 hb; replace BK192 := cb BK192 hb; replace BK193 := cb BK193 hb; replace HB := bs HB hb; (try clear hb); (try clear hb2); (try clear hk); (try clear hi); have hnb15 := NB192_193.out; have hnc15 := NB193_192.out; obtain ⟨hcz16_0, hcz16_1, hcz16_2, hcz16_3, hfz16_0, hfz16_1, hfz16_2, hfz16_3⟩ := cel4 BK192) | (go_at_call 91; (with_reducible refine (spec_IsValidZOmega.calls a1_0 a1_1 a1_2 a1_3 true _ A5.out).mono ?_); rintro e w17 ⟨rfl, hb⟩; replace BK191 := cb BK191 hb; replace BK192 := cb BK192 hb; replace BK193 := cb BK193 hb; replace HB := bs HB hb; (try clear hb); (try clear hb2); (try clear hk); (try clear hi); obtain ⟨hcz18_0, hcz18_1, hcz18_2, hcz18_3, hfz18_0, hfz18_1, hfz18_2, hfz18_3⟩ := cel4 BK191; obtain ⟨hcz19_0, hcz19_1, hcz19_2, hcz19_3, hfz19_0, hfz19_1, hfz19_2, hfz19_3⟩ := cel4 BK192) | ((with_reducible refine gate_callee (f := 92) rfl ?_); refine gL (some 108) Try.func92 #[.agg #[.int .i64 (wrap64 ((wrap64 ((wrap64 ((wrap64 (a0_0 * a1_0)) - (wrap64 (a0_1 * a1_3)))) - (wrap64 (a0_2 * a1_2)))) - (wrap64 (a0_3 * a1_1)))), .int .i64 (wrap64 ((wrap64 ((wrap64 ((wrap64 (a0_0 * a1_1)) + (wrap64 (a0_1 * a1_0)))) - (wrap64 (a0_2 * a1_3)))) - (wrap64 (a0_3 * a1_2)))), .int .i64 (wrap64 ((wrap64 ((wrap64 ((wrap64 (a0_0 * a1_2)) + (wrap64 (a0_1 * a1_1)))) + (wrap64 (a0_2 * a1_0)))) - (wrap64 (a0_3 * a1_3)))), .int .i64 (wrap64 ((wrap64 ((wrap64 ((wrap64 (a0_0 * a1_3)) + (wrap64 (a0_1 * a1_2)))) + (wrap64 (a0_2 * a1_1)))) + (wrap64 (a0_3 * a1_0))))]] ?_; (with_reducible refine (spec_l2If.calls (wrap64 ((wrap64 ((wrap64 ((wrap64 (a0_0 * a1_0)) - (wrap64 (a0_1 * a1_3)))) - (wrap64 (a0_2 * a1_2)))) - (wrap64 (a0_3 * a1_1)))) (wrap64 ((wrap64 ((wrap64 ((wrap64 (a0_0 * a1_1)) + (wrap64 (a0_1 * a1_0)))) - (wrap64 (a0_2 * a1_3)))) - (wrap64 (a0_3 * a1_2)))) (wrap64 ((wrap64 ((wrap64 ((wrap64 (a0_0 * a1_2)) + (wrap64 (a0_1 * a1_1)))) + (wrap64 (a0_2 * a1_0)))) - (wrap64 (a0_3 * a1_3)))) (wrap64 ((wrap64 ((wrap64 ((wrap64 (a0_0 * a1_3)) + (wrap64 (a0_1 * a1_2)))) + (wrap64 (a0_2 * a1_1)))) + (wrap64 (a0_3 * a1_0)))) t196 t197 t198 t199 t200 _ A7.out).mono ?_); rintro e w20 ⟨rfl, hb⟩; refine ⟨_, rfl, ?_⟩; replace BK191 := cb BK191 hb; replace BK192 := cb BK192 hb; replace BK193 := cb BK193 hb; replace HB := bs HB hb; (try clear hb); (try clear hb2); (try clear hk); (try clear hi); obtain ⟨hcz21_0, hcz21_1, hcz21_2, hcz21_3, hfz21_0, hfz21_1, hfz21_2, hfz21_3⟩ := cel4 BK193))
   refine bodyPost_ret (results_ct rfl _ _ gb193 25 #[.int .i64 t196, .int .i64 t197, .int .i64 t198, .int .i64 t199] (0, 0) _ rfl (bp BK193) Try.underlying25 rfl (by kernel_rfl)) rfl ?_
   exact ⟨er, bl HB⟩
  ·replace c6 := Bool.eq_false_iff.mpr c6
   subst c6
   rw [nf] at H
   simp only [Option.some.injEq, Prod.mk.injEq] at H
   obtain ⟨rfl, rfl, rfl, rfl, rfl⟩ := H
   go_enter Try.func59, Try.ntmps59
   go_wp2_with (first | ((with_reducible refine gate_dst (N := 2) rfl ?_); refine bx (N := 2) (cs := #[.int .i64 a0_0, .int .i64 a0_1, .int .i64 a0_2, .int .i64 a0_3]) (t := 25) ?_; intro gb191 hg w22 hbox hb; have BK191 := Aside0.mk hbox; have GW191 := sz hg HB; have GE191 := GW191; replace HB := bs HB hb; clear hb hbox hg) | ((with_reducible refine gate_dst (N := 3) rfl ?_); refine bx (N := 3) (cs := #[.int .i64 a1_0, .int .i64 a1_1, .int .i64 a1_2, .int .i64 a1_3]) (t := 25) ?_; intro gb192 hg w23 hbox hb; have BK192 := Aside0.mk hbox; have GW192 := sz hg HB; have GE192 := GW192; have NB191_192 := nl hg BK191; have NB192_191 := ng hg BK191; replace BK191 := cb BK191 hb; replace HB := bs HB hb; clear hb hbox hg) | ((with_reducible refine gate_dst (N := 4) rfl ?_); refine bx (N := 4) (cs := #[.int .i64 0, .int .i64 0, .int .i64 0, .int .i64 0]) (t := 25) ?_; intro gb193 hg w24 hbox hb; have BK193 := Aside0.mk hbox; have GW193 := sz hg HB; have GE193 := GW193; have NB191_193 := nl hg BK191; have NB193_191 := ng hg BK191; have NB192_193 := nl hg BK192; have NB193_192 := ng hg BK192; replace BK191 := cb BK191 hb; replace BK192 := cb BK192 hb; replace HB := bs HB hb; clear hb hbox hg; have hnb25 := NB191_192.out; have hnc25 := NB192_191.out; have hnb26 := NB191_193.out; have hnc26 := NB193_191.out; obtain ⟨hcz27_0, hcz27_1, hcz27_2, hcz27_3, hfz27_0, hfz27_1, hfz27_2, hfz27_3⟩ := cel4 BK191) | ((with_reducible refine gate_callee (f := 91) rfl ?_); refine gL (some 7) Try.func91 #[.agg #[.int .i64 a0_0, .int .i64 a0_1, .int .i64 a0_2, .int .i64 a0_3]] ?_; (with_reducible refine (spec_IsValidZOmega.calls a0_0 a0_1 a0_2 a0_3 true _ A3.out).mono ?_); rintro e w28 ⟨rfl, hb⟩; refine ⟨_, rfl, ?_⟩; replace BK191 := cb BK191 hb; replace BK192 := cb BK192 hb; replace BK193 := cb BK193 hb; replace HB := bs HB hb; (try clear hb); (try clear hb2); (try clear hk); (try clear hi); have hnb29 := NB192_193.out; have hnc29 := NB193_192.out; obtain ⟨hcz30_0, hcz30_1, hcz30_2, hcz30_3, hfz30_0, hfz30_1, hfz30_2, hfz30_3⟩ := cel4 BK192) | (go_at_call 91; (with_reducible refine (spec_IsValidZOmega.calls a1_0 a1_1 a1_2 a1_3 false _ A5.out).mono ?_); rintro e w31 ⟨rfl, hb⟩; replace BK191 := cb BK191 hb; replace BK192 := cb BK192 hb; replace BK193 := cb BK193 hb; replace HB := bs HB hb; (try clear hb); (try clear hb2); (try clear hk); (try clear hi); obtain ⟨hcz32_0, hcz32_1, hcz32_2, hcz32_3, hfz32_0, hfz32_1, hfz32_2, hfz32_3⟩ := cel4 BK193))
   refine bodyPost_ret (results_ct rfl _ _ gb193 25 #[.int .i64 0, .int .i64 0, .int .i64 0, .int .i64 0] (0, 0) _ rfl (bp BK193) Try.underlying25 rfl (by kernel_rfl)) rfl ?_
   exact ⟨er, bl HB⟩
 ·replace c4 := Bool.eq_false_iff.mpr c4
  subst c4
  rw [nf] at H
  simp only [Option.some.injEq, Prod.mk.injEq] at H
  obtain ⟨rfl, rfl, rfl, rfl, rfl⟩ := H
  go_enter Try.func59, Try.ntmps59
  go_wp2_with (first | ((with_reducible refine gate_dst (N := 2) rfl ?_); refine bx (N := 2) (cs := #[.int .i64 a0_0, .int .i64 a0_1, .int .i64 a0_2, .int .i64 a0_3]) (t := 25) ?_; intro gb191 hg w33 hbox hb; have BK191 := Aside0.mk hbox; have GW191 := sz hg HB; have GE191 := GW191; replace HB := bs HB hb; clear hb hbox hg) | ((with_reducible refine gate_dst (N := 3) rfl ?_); refine bx (N := 3) (cs := #[.int .i64 a1_0, .int .i64 a1_1, .int .i64 a1_2, .int .i64 a1_3]) (t := 25) ?_; intro gb192 hg w34 hbox hb; have BK192 := Aside0.mk hbox; have GW192 := sz hg HB; have GE192 := GW192; have NB191_192 := nl hg BK191; have NB192_191 := ng hg BK191; replace BK191 := cb BK191 hb; replace HB := bs HB hb; clear hb hbox hg) | ((with_reducible refine gate_dst (N := 4) rfl ?_); refine bx (N := 4) (cs := #[.int .i64 0, .int .i64 0, .int .i64 0, .int .i64 0]) (t := 25) ?_; intro gb193 hg w35 hbox hb; have BK193 := Aside0.mk hbox; have GW193 := sz hg HB; have GE193 := GW193; have NB191_193 := nl hg BK191; have NB193_191 := ng hg BK191; have NB192_193 := nl hg BK192; have NB193_192 := ng hg BK192; replace BK191 := cb BK191 hb; replace BK192 := cb BK192 hb; replace HB := bs HB hb; clear hb hbox hg; have hnb36 := NB191_192.out; have hnc36 := NB192_191.out; have hnb37 := NB191_193.out; have hnc37 := NB193_191.out; obtain ⟨hcz38_0, hcz38_1, hcz38_2, hcz38_3, hfz38_0, hfz38_1, hfz38_2, hfz38_3⟩ := cel4 BK191) | ((with_reducible refine gate_callee (f := 91) rfl ?_); refine gL (some 7) Try.func91 #[.agg #[.int .i64 a0_0, .int .i64 a0_1, .int .i64 a0_2, .int .i64 a0_3]] ?_; (with_reducible refine (spec_IsValidZOmega.calls a0_0 a0_1 a0_2 a0_3 false _ A3.out).mono ?_); rintro e w39 ⟨rfl, hb⟩; refine ⟨_, rfl, ?_⟩; replace BK191 := cb BK191 hb; replace BK192 := cb BK192 hb; replace BK193 := cb BK193 hb; replace HB := bs HB hb; (try clear hb); (try clear hb2); (try clear hk); (try clear hi); have hnb40 := NB193_192.out; have hnc40 := NB192_193.out; obtain ⟨hcz41_0, hcz41_1, hcz41_2, hcz41_3, hfz41_0, hfz41_1, hfz41_2, hfz41_3⟩ := cel4 BK193))
  refine bodyPost_ret (results_ct rfl _ _ gb193 25 #[.int .i64 0, .int .i64 0, .int .i64 0, .int .i64 0] (0, 0) _ rfl (bp BK193) Try.underlying25 rfl (by kernel_rfl)) rfl ?_
  exact ⟨er, bl HB⟩
/-! ### spec_l3Up: function 56 -/
def spec_l3Up.l0 : Nat → Int → Int → Int → Int → Int → Int → Option (Int × Int × Int × Int × Bool)
 | 0, _, _, _, _, _, _ => none
 | k + 1, x1, x6, x202000, x202001, x202002, x202003 => if x6 < x1 then ((spec_MulZOmega.f x202000 x202001 x202002 x202003 0 1 0 (-1)).bind fun bt203 => (if bt203.2.2.2.2 = true then (spec_l3Up.l0 k x1 (wrap64 (x6 + 1)) bt203.1 bt203.2.1 bt203.2.2.1 bt203.2.2.2.1) else (some (0, 0, 0, 0, false)))) else (some (x202000, x202001, x202002, x202003, true))
def spec_l3Up.f (k : Nat) (a0_0 : Int) (a0_1 : Int) (a0_2 : Int) (a0_3 : Int) (a1 : Int) : Option (Int × Int × Int × Int × Bool) := spec_l3Up.l0 k a1 0 a0_0 a0_1 a0_2 a0_3
set_option maxHeartbeats 8000000 in
set_option maxRecDepth 100000 in
theorem spec_l3Up.calls (k : Nat) (a0_0 : Int) (a0_1 : Int) (a0_2 : Int) (a0_3 : Int) (a1 : Int) (r1 : Int) (r2 : Int) (r3 : Int) (r4 : Int) (r5 : Bool) (w : World) (h : spec_l3Up.f k a0_0 a0_1 a0_2 a0_3 a1 = some (r1, r2, r3, r4, r5)) :
  Calls Try.prog 56 #[.agg #[.int .i64 a0_0, .int .i64 a0_1, .int .i64 a0_2, .int .i64 a0_3], .int .i64 a1] w fun e w' => e = .returned (.tuple #[.agg #[.int .i64 r1, .int .i64 r2, .int .i64 r3, .int .i64 r4], .bool r5]) ∧ Below w.heap.size w w' := by
 have hu25 := Try.underlying25
 have HB := Aside0.mk (Below.refl w.heap.size w)
 have H := h
 clear h
 unfold spec_l3Up.f at H
 have H' := Aside0.mk H
 clear H
 go_enter Try.func56, Try.ntmps56
 go_wp2_with (first | ((with_reducible refine gate_dst (N := 2) rfl ?_); refine bx (N := 2) (cs := #[.int .i64 a0_0, .int .i64 a0_1, .int .i64 a0_2, .int .i64 a0_3]) (t := 25) ?_; intro gb201 hg w3 hbox hb; have BK201 := Aside0.mk hbox; have GW201 := sz hg HB; have GE201 := GW201; replace HB := bs HB hb; clear hb hbox hg) | ((with_reducible refine gate_dst (N := 4) rfl ?_); refine bx (N := 4) (cs := #[.int .i64 0, .int .i64 0, .int .i64 0, .int .i64 0]) (t := 25) ?_; intro gb202 hg w4 hbox hb; have BK202 := Aside0.mk hbox; have GW202 := sz hg HB; have GE202 := GW202; have NB201_202 := nl hg BK201; have NB202_201 := ng hg BK201; replace BK201 := cb BK201 hb; replace HB := bs HB hb; clear hb hbox hg))
 go_loopg [6] k (fun kq v6 w' => ∃ (x6_1 : Int) (x202000_1 : Int) (x202001_1 : Int) (x202002_1 : Int) (x202003_1 : Int) (x203000_1 : Int) (x203001_1 : Int) (x203002_1 : Int) (x203003_1 : Int), v6 = .int .i64 x6_1 ∧ Aside0 (spec_l3Up.l0 kq a1 x6_1 x202000_1 x202001_1 x202002_1 x202003_1 = some (r1, r2, r3, r4, r5)) ∧ Aside0 (kq ≤ k) ∧ Aside0 (w'.heap[gb201]? = some (.cells #[.int .i64 x202000_1, .int .i64 x202001_1, .int .i64 x202002_1, .int .i64 x202003_1] 25 (0, 0))) ∧ Aside0 (w'.heap[gb202]? = some (.cells #[.int .i64 x203000_1, .int .i64 x203001_1, .int .i64 x203002_1, .int .i64 x203003_1] 25 (0, 0))) ∧ Aside0 (Below w.heap.size w w'))
 case atStart => exact ⟨(0), (a0_0), (a0_1), (a0_2), (a0_3), (0), (0), (0), (0), rs, H', ⟨Nat.le_refl _⟩, ⟨pl BK201⟩, ⟨pl BK202⟩, ⟨bl HB⟩⟩
 case round =>
  clear H'
  try clear p2
  obtain ⟨x6_1, x202000_1, x202001_1, x202002_1, x202003_1, x203000_1, x203001_1, x203002_1, x203003_1, rfl, HA, HK1, BK201, BK202, HB⟩ := hrel
  cases gk with
  | zero => exact absurd HA.out (by simp [spec_l3Up.l0])
  | succ k1 =>
   have H := HA.out
   clear HA
   simp only [spec_l3Up.l0] at H
   by_cases c5 : x6_1 < a1
   ·rw [if_pos c5] at H
    have c5b0 : decide (x6_1 < a1) = true := decide_eq_true c5
    clear c5
    replace H := Option.bind_eq_some_iff.mp H
    obtain ⟨⟨t203, t204, t205, t206, t207⟩, A60, H⟩ := H
    try dsimp only at H
    have A6 := Aside0.mk A60
    clear A60
    by_cases c7 : t207 = true
    ·subst c7
     rw [if_pos rfl] at H
     have H' := Aside0.mk H
     clear H
     have hnb8 := NB201_202.out
     have hnc8 := NB202_201.out
     obtain ⟨hcz9_0, hcz9_1, hcz9_2, hcz9_3, hfz9_0, hfz9_1, hfz9_2, hfz9_3⟩ := cel4 BK201
     go_wp2_with (first | ((with_reducible refine gate_callee (f := 59) rfl ?_); refine gL (some 17) Try.func59 #[.agg #[.int .i64 x202000_1, .int .i64 x202001_1, .int .i64 x202002_1, .int .i64 x202003_1], .agg #[.int .i64 0, .int .i64 1, .int .i64 0, .int .i64 (-1)]] ?_; (with_reducible refine (spec_MulZOmega.calls x202000_1 x202001_1 x202002_1 x202003_1 0 1 0 (-1) t203 t204 t205 t206 true _ A6.out).mono ?_); rintro e w10 ⟨rfl, hb⟩; refine ⟨_, rfl, ?_⟩; replace BK201 := cb BK201 hb; replace BK202 := cb BK202 hb; replace HB := bs HB hb; (try clear hb); (try clear hb2); (try clear hk); (try clear hi)) | ((with_reducible refine gate_dst (N := 7) rfl ?_); refine bx (N := 7) (cs := #[.int .i64 0, .int .i64 0, .int .i64 0, .int .i64 0]) (t := 25) ?_; intro gb208 hg w11 hbox hb; have BK208 := Aside0.mk hbox; have GW208 := sz hg HB; have GE208 := GW208; have NB201_208 := nl hg BK201; have NB208_201 := ng hg BK201; have NB202_208 := nl hg BK202; have NB208_202 := ng hg BK202; replace BK201 := cb BK201 hb; replace BK202 := cb BK202 hb; replace HB := bs HB hb; clear hb hbox hg; have hnb12 := NB208_201.out; have hnc12 := NB201_208.out; have hnb13 := NB208_202.out; have hnc13 := NB202_208.out; obtain ⟨hcz14_0, hcz14_1, hcz14_2, hcz14_3, hfz14_0, hfz14_1, hfz14_2, hfz14_3⟩ := cel4 BK208; obtain ⟨hcz15_0, hcz15_1, hcz15_2, hcz15_3, hfz15_0, hfz15_1, hfz15_2, hfz15_3⟩ := cel4 BK201))
     go_roundg k1
     case measure => have := HK1.out; omega
     case rel => exact ⟨(wrap64 (x6_1 + 1)), (t203), (t204), (t205), (t206), (x203000_1), (x203001_1), (x203002_1), (x203003_1), rs, H', ⟨by have := HK1.out; omega⟩, ⟨bp BK201⟩, ⟨bp BK202⟩, ⟨bl HB⟩⟩
    ·replace c7 := Bool.eq_false_iff.mpr c7
     subst c7
     rw [nf] at H
     simp only [Option.some.injEq, Prod.mk.injEq] at H
     obtain ⟨rfl, rfl, rfl, rfl, rfl⟩ := H
     have hnb16 := NB201_202.out
     have hnc16 := NB202_201.out
     obtain ⟨hcz17_0, hcz17_1, hcz17_2, hcz17_3, hfz17_0, hfz17_1, hfz17_2, hfz17_3⟩ := cel4 BK201
     go_wp2_with (first | ((with_reducible refine gate_callee (f := 59) rfl ?_); refine gL (some 17) Try.func59 #[.agg #[.int .i64 x202000_1, .int .i64 x202001_1, .int .i64 x202002_1, .int .i64 x202003_1], .agg #[.int .i64 0, .int .i64 1, .int .i64 0, .int .i64 (-1)]] ?_; (with_reducible refine (spec_MulZOmega.calls x202000_1 x202001_1 x202002_1 x202003_1 0 1 0 (-1) t203 t204 t205 t206 false _ A6.out).mono ?_); rintro e w18 ⟨rfl, hb⟩; refine ⟨_, rfl, ?_⟩; replace BK201 := cb BK201 hb; replace BK202 := cb BK202 hb; replace HB := bs HB hb; (try clear hb); (try clear hb2); (try clear hk); (try clear hi)) | ((with_reducible refine gate_dst (N := 7) rfl ?_); refine bx (N := 7) (cs := #[.int .i64 0, .int .i64 0, .int .i64 0, .int .i64 0]) (t := 25) ?_; intro gb208 hg w19 hbox hb; have BK208 := Aside0.mk hbox; have GW208 := sz hg HB; have GE208 := GW208; have NB201_208 := nl hg BK201; have NB208_201 := ng hg BK201; have NB202_208 := nl hg BK202; have NB208_202 := ng hg BK202; replace BK201 := cb BK201 hb; replace BK202 := cb BK202 hb; replace HB := bs HB hb; clear hb hbox hg; have hnb20 := NB208_201.out; have hnc20 := NB201_208.out; have hnb21 := NB208_202.out; have hnc21 := NB202_208.out; obtain ⟨hcz22_0, hcz22_1, hcz22_2, hcz22_3, hfz22_0, hfz22_1, hfz22_2, hfz22_3⟩ := cel4 BK208; obtain ⟨hcz23_0, hcz23_1, hcz23_2, hcz23_3, hfz23_0, hfz23_1, hfz23_2, hfz23_3⟩ := cel4 BK202))
     refine bodyPost_ret (results_ct rfl _ _ gb202 25 #[.int .i64 0, .int .i64 0, .int .i64 0, .int .i64 0] (0, 0) _ rfl (bp BK202) Try.underlying25 rfl (by kernel_rfl)) rfl ?_
     exact ⟨er, bl HB⟩
   ·rw [if_neg c5] at H
    have c5b0 : decide (x6_1 < a1) = false := decide_eq_false c5
    clear c5
    simp only [Option.some.injEq, Prod.mk.injEq] at H
    obtain ⟨rfl, rfl, rfl, rfl, rfl⟩ := H
    have hnb24 := NB201_202.out
    have hnc24 := NB202_201.out
    obtain ⟨hcz25_0, hcz25_1, hcz25_2, hcz25_3, hfz25_0, hfz25_1, hfz25_2, hfz25_3⟩ := cel4 BK201
    obtain ⟨hcz26_0, hcz26_1, hcz26_2, hcz26_3, hfz26_0, hfz26_1, hfz26_2, hfz26_3⟩ := cel4 BK202
    go_wp2
    refine bodyPost_ret (results_ct rfl _ _ gb202 25 #[.int .i64 x202000_1, .int .i64 x202001_1, .int .i64 x202002_1, .int .i64 x202003_1] (0, 0) _ rfl (bp BK202) Try.underlying25 rfl (by kernel_rfl)) rfl ?_
    exact ⟨er, bl HB⟩
/-! ### spec_AddZOmega: function 57 -/
def spec_AddZOmega.f (a0_0 : Int) (a0_1 : Int) (a0_2 : Int) (a0_3 : Int) (a1_0 : Int) (a1_1 : Int) (a1_2 : Int) (a1_3 : Int) : Option (Int × Int × Int × Int × Bool) := (spec_IsValidZOmega.f a0_0 a0_1 a0_2 a0_3).bind fun t212 => (if t212 = true then ((spec_IsValidZOmega.f a1_0 a1_1 a1_2 a1_3).bind fun t213 => (if t213 = true then ((spec_l2If.f (wrap64 (a0_0 + a1_0)) (wrap64 (a0_1 + a1_1)) (wrap64 (a0_2 + a1_2)) (wrap64 (a0_3 + a1_3))).bind fun bt214 => (some (bt214.1, bt214.2.1, bt214.2.2.1, bt214.2.2.2.1, bt214.2.2.2.2))) else (some (0, 0, 0, 0, false)))) else (some (0, 0, 0, 0, false)))
set_option maxHeartbeats 8000000 in
set_option maxRecDepth 100000 in
theorem spec_AddZOmega.calls (a0_0 : Int) (a0_1 : Int) (a0_2 : Int) (a0_3 : Int) (a1_0 : Int) (a1_1 : Int) (a1_2 : Int) (a1_3 : Int) (r1 : Int) (r2 : Int) (r3 : Int) (r4 : Int) (r5 : Bool) (w : World) (h : spec_AddZOmega.f a0_0 a0_1 a0_2 a0_3 a1_0 a1_1 a1_2 a1_3 = some (r1, r2, r3, r4, r5)) :
  Calls Try.prog 57 #[.agg #[.int .i64 a0_0, .int .i64 a0_1, .int .i64 a0_2, .int .i64 a0_3], .agg #[.int .i64 a1_0, .int .i64 a1_1, .int .i64 a1_2, .int .i64 a1_3]] w fun e w' => e = .returned (.tuple #[.agg #[.int .i64 r1, .int .i64 r2, .int .i64 r3, .int .i64 r4], .bool r5]) ∧ Below w.heap.size w w' := by
 have hu25 := Try.underlying25
 have HB := Aside0.mk (Below.refl w.heap.size w)
 have H := h
 clear h
 unfold spec_AddZOmega.f at H
 replace H := Option.bind_eq_some_iff.mp H
 obtain ⟨t212, A30, H⟩ := H
 try dsimp only at H
 have A3 := Aside0.mk A30
 clear A30
 by_cases c4 : t212 = true
 ·subst c4
  rw [if_pos rfl] at H
  replace H := Option.bind_eq_some_iff.mp H
  obtain ⟨t213, A50, H⟩ := H
  try dsimp only at H
  have A5 := Aside0.mk A50
  clear A50
  by_cases c6 : t213 = true
  ·subst c6
   rw [if_pos rfl] at H
   replace H := Option.bind_eq_some_iff.mp H
   obtain ⟨⟨t214, t215, t216, t217, t218⟩, A70, H⟩ := H
   try dsimp only at H
   have A7 := Aside0.mk A70
   clear A70
   simp only [Option.some.injEq, Prod.mk.injEq] at H
   obtain ⟨rfl, rfl, rfl, rfl, rfl⟩ := H
   go_enter Try.func57, Try.ntmps57
   go_wp2_with (first | ((with_reducible refine gate_dst (N := 2) rfl ?_); refine bx (N := 2) (cs := #[.int .i64 a0_0, .int .i64 a0_1, .int .i64 a0_2, .int .i64 a0_3]) (t := 25) ?_; intro gb209 hg w8 hbox hb; have BK209 := Aside0.mk hbox; have GW209 := sz hg HB; have GE209 := GW209; replace HB := bs HB hb; clear hb hbox hg) | ((with_reducible refine gate_dst (N := 3) rfl ?_); refine bx (N := 3) (cs := #[.int .i64 a1_0, .int .i64 a1_1, .int .i64 a1_2, .int .i64 a1_3]) (t := 25) ?_; intro gb210 hg w9 hbox hb; have BK210 := Aside0.mk hbox; have GW210 := sz hg HB; have GE210 := GW210; have NB209_210 := nl hg BK209; have NB210_209 := ng hg BK209; replace BK209 := cb BK209 hb; replace HB := bs HB hb; clear hb hbox hg) | ((with_reducible refine gate_dst (N := 4) rfl ?_); refine bx (N := 4) (cs := #[.int .i64 0, .int .i64 0, .int .i64 0, .int .i64 0]) (t := 25) ?_; intro gb211 hg w10 hbox hb; have BK211 := Aside0.mk hbox; have GW211 := sz hg HB; have GE211 := GW211; have NB209_211 := nl hg BK209; have NB211_209 := ng hg BK209; have NB210_211 := nl hg BK210; have NB211_210 := ng hg BK210; replace BK209 := cb BK209 hb; replace BK210 := cb BK210 hb; replace HB := bs HB hb; clear hb hbox hg; have hnb11 := NB209_210.out; have hnc11 := NB210_209.out; have hnb12 := NB209_211.out; have hnc12 := NB211_209.out; obtain ⟨hcz13_0, hcz13_1, hcz13_2, hcz13_3, hfz13_0, hfz13_1, hfz13_2, hfz13_3⟩ := cel4 BK209) | ((with_reducible refine gate_callee (f := 91) rfl ?_); refine gL (some 7) Try.func91 #[.agg #[.int .i64 a0_0, .int .i64 a0_1, .int .i64 a0_2, .int .i64 a0_3]] ?_; (with_reducible refine (spec_IsValidZOmega.calls a0_0 a0_1 a0_2 a0_3 true _ A3.out).mono ?_); rintro e w14 ⟨rfl, hb⟩; refine ⟨_, rfl, ?_⟩; replace BK209 := cb BK209 hb; replace BK210 := cb BK210 hb; replace BK211 := cb BK211 hb; replace HB := bs HB hb; (try clear hb); (try clear hb2); (try clear hk); (try clear hi); have hnb15 := NB210_211.out; have hnc15 := NB211_210.out; obtain ⟨hcz16_0, hcz16_1, hcz16_2, hcz16_3, hfz16_0, hfz16_1, hfz16_2, hfz16_3⟩ := cel4 BK210) | (go_at_call 91; (with_reducible refine (spec_IsValidZOmega.calls a1_0 a1_1 a1_2 a1_3 true _ A5.out).mono ?_); rintro e w17 ⟨rfl, hb⟩; replace BK209 := cb BK209 hb; replace BK210 := cb BK210 hb; replace BK211 := cb BK211 hb; replace HB := bs HB hb; (try clear hb); (try clear hb2); (try clear hk); (try clear hi); obtain ⟨hcz18_0, hcz18_1, hcz18_2, hcz18_3, hfz18_0, hfz18_1, hfz18_2, hfz18_3⟩ := cel4 BK209; obtain ⟨hcz19_0, hcz19_1, hcz19_2, hcz19_3, hfz19_0, hfz19_1, hfz19_2, hfz19_3⟩ := cel4 BK210) | ((with_reducible refine gate_callee (f := 92) rfl ?_); refine gL (some 36) Try.func92 #[.agg #[.int .i64 (wrap64 (a0_0 + a1_0)), .int .i64 (wrap64 (a0_1 + a1_1)), .int .i64 (wrap64 (a0_2 + a1_2)), .int .i64 (wrap64 (a0_3 + a1_3))]] ?_; (with_reducible refine (spec_l2If.calls (wrap64 (a0_0 + a1_0)) (wrap64 (a0_1 + a1_1)) (wrap64 (a0_2 + a1_2)) (wrap64 (a0_3 + a1_3)) t214 t215 t216 t217 t218 _ A7.out).mono ?_); rintro e w20 ⟨rfl, hb⟩; refine ⟨_, rfl, ?_⟩; replace BK209 := cb BK209 hb; replace BK210 := cb BK210 hb; replace BK211 := cb BK211 hb; replace HB := bs HB hb; (try clear hb); (try clear hb2); (try clear hk); (try clear hi); obtain ⟨hcz21_0, hcz21_1, hcz21_2, hcz21_3, hfz21_0, hfz21_1, hfz21_2, hfz21_3⟩ := cel4 BK211))
   refine bodyPost_ret (results_ct rfl _ _ gb211 25 #[.int .i64 t214, .int .i64 t215, .int .i64 t216, .int .i64 t217] (0, 0) _ rfl (bp BK211) Try.underlying25 rfl (by kernel_rfl)) rfl ?_
   exact ⟨er, bl HB⟩
  ·replace c6 := Bool.eq_false_iff.mpr c6
   subst c6
   rw [nf] at H
   simp only [Option.some.injEq, Prod.mk.injEq] at H
   obtain ⟨rfl, rfl, rfl, rfl, rfl⟩ := H
   go_enter Try.func57, Try.ntmps57
   go_wp2_with (first | ((with_reducible refine gate_dst (N := 2) rfl ?_); refine bx (N := 2) (cs := #[.int .i64 a0_0, .int .i64 a0_1, .int .i64 a0_2, .int .i64 a0_3]) (t := 25) ?_; intro gb209 hg w22 hbox hb; have BK209 := Aside0.mk hbox; have GW209 := sz hg HB; have GE209 := GW209; replace HB := bs HB hb; clear hb hbox hg) | ((with_reducible refine gate_dst (N := 3) rfl ?_); refine bx (N := 3) (cs := #[.int .i64 a1_0, .int .i64 a1_1, .int .i64 a1_2, .int .i64 a1_3]) (t := 25) ?_; intro gb210 hg w23 hbox hb; have BK210 := Aside0.mk hbox; have GW210 := sz hg HB; have GE210 := GW210; have NB209_210 := nl hg BK209; have NB210_209 := ng hg BK209; replace BK209 := cb BK209 hb; replace HB := bs HB hb; clear hb hbox hg) | ((with_reducible refine gate_dst (N := 4) rfl ?_); refine bx (N := 4) (cs := #[.int .i64 0, .int .i64 0, .int .i64 0, .int .i64 0]) (t := 25) ?_; intro gb211 hg w24 hbox hb; have BK211 := Aside0.mk hbox; have GW211 := sz hg HB; have GE211 := GW211; have NB209_211 := nl hg BK209; have NB211_209 := ng hg BK209; have NB210_211 := nl hg BK210; have NB211_210 := ng hg BK210; replace BK209 := cb BK209 hb; replace BK210 := cb BK210 hb; replace HB := bs HB hb; clear hb hbox hg; have hnb25 := NB209_210.out; have hnc25 := NB210_209.out; have hnb26 := NB209_211.out; have hnc26 := NB211_209.out; obtain ⟨hcz27_0, hcz27_1, hcz27_2, hcz27_3, hfz27_0, hfz27_1, hfz27_2, hfz27_3⟩ := cel4 BK209) | ((with_reducible refine gate_callee (f := 91) rfl ?_); refine gL (some 7) Try.func91 #[.agg #[.int .i64 a0_0, .int .i64 a0_1, .int .i64 a0_2, .int .i64 a0_3]] ?_; (with_reducible refine (spec_IsValidZOmega.calls a0_0 a0_1 a0_2 a0_3 true _ A3.out).mono ?_); rintro e w28 ⟨rfl, hb⟩; refine ⟨_, rfl, ?_⟩; replace BK209 := cb BK209 hb; replace BK210 := cb BK210 hb; replace BK211 := cb BK211 hb; replace HB := bs HB hb; (try clear hb); (try clear hb2); (try clear hk); (try clear hi); have hnb29 := NB210_211.out; have hnc29 := NB211_210.out; obtain ⟨hcz30_0, hcz30_1, hcz30_2, hcz30_3, hfz30_0, hfz30_1, hfz30_2, hfz30_3⟩ := cel4 BK210) | (go_at_call 91; (with_reducible refine (spec_IsValidZOmega.calls a1_0 a1_1 a1_2 a1_3 false _ A5.out).mono ?_); rintro e w31 ⟨rfl, hb⟩; replace BK209 := cb BK209 hb; replace BK210 := cb BK210 hb; replace BK211 := cb BK211 hb; replace HB := bs HB hb; (try clear hb); (try clear hb2); (try clear hk); (try clear hi); obtain ⟨hcz32_0, hcz32_1, hcz32_2, hcz32_3, hfz32_0, hfz32_1, hfz32_2, hfz32_3⟩ := cel4 BK211))
   refine bodyPost_ret (results_ct rfl _ _ gb211 25 #[.int .i64 0, .int .i64 0, .int .i64 0, .int .i64 0] (0, 0) _ rfl (bp BK211) Try.underlying25 rfl (by kernel_rfl)) rfl ?_
   exact ⟨er, bl HB⟩
 ·replace c4 := Bool.eq_false_iff.mpr c4
  subst c4
  rw [nf] at H
  simp only [Option.some.injEq, Prod.mk.injEq] at H
  obtain ⟨rfl, rfl, rfl, rfl, rfl⟩ := H
  go_enter Try.func57, Try.ntmps57
  go_wp2_with (first | ((with_reducible refine gate_dst (N := 2) rfl ?_); refine bx (N := 2) (cs := #[.int .i64 a0_0, .int .i64 a0_1, .int .i64 a0_2, .int .i64 a0_3]) (t := 25) ?_; intro gb209 hg w33 hbox hb; have BK209 := Aside0.mk hbox; have GW209 := sz hg HB; have GE209 := GW209; replace HB := bs HB hb; clear hb hbox hg) | ((with_reducible refine gate_dst (N := 3) rfl ?_); refine bx (N := 3) (cs := #[.int .i64 a1_0, .int .i64 a1_1, .int .i64 a1_2, .int .i64 a1_3]) (t := 25) ?_; intro gb210 hg w34 hbox hb; have BK210 := Aside0.mk hbox; have GW210 := sz hg HB; have GE210 := GW210; have NB209_210 := nl hg BK209; have NB210_209 := ng hg BK209; replace BK209 := cb BK209 hb; replace HB := bs HB hb; clear hb hbox hg) | ((with_reducible refine gate_dst (N := 4) rfl ?_); refine bx (N := 4) (cs := #[.int .i64 0, .int .i64 0, .int .i64 0, .int .i64 0]) (t := 25) ?_; intro gb211 hg w35 hbox hb; have BK211 := Aside0.mk hbox; have GW211 := sz hg HB; have GE211 := GW211; have NB209_211 := nl hg BK209; have NB211_209 := ng hg BK209; have NB210_211 := nl hg BK210; have NB211_210 := ng hg BK210; replace BK209 := cb BK209 hb; replace BK210 := cb BK210 hb; replace HB := bs HB hb; clear hb hbox hg; have hnb36 := NB209_210.out; have hnc36 := NB210_209.out; have hnb37 := NB209_211.out; have hnc37 := NB211_209.out; obtain ⟨hcz38_0, hcz38_1, hcz38_2, hcz38_3, hfz38_0, hfz38_1, hfz38_2, hfz38_3⟩ := cel4 BK209) | ((with_reducible refine gate_callee (f := 91) rfl ?_); refine gL (some 7) Try.func91 #[.agg #[.int .i64 a0_0, .int .i64 a0_1, .int .i64 a0_2, .int .i64 a0_3]] ?_; (with_reducible refine (spec_IsValidZOmega.calls a0_0 a0_1 a0_2 a0_3 false _ A3.out).mono ?_); rintro e w39 ⟨rfl, hb⟩; refine ⟨_, rfl, ?_⟩; replace BK209 := cb BK209 hb; replace BK210 := cb BK210 hb; replace BK211 := cb BK211 hb; replace HB := bs HB hb; (try clear hb); (try clear hb2); (try clear hk); (try clear hi); have hnb40 := NB211_210.out; have hnc40 := NB210_211.out; obtain ⟨hcz41_0, hcz41_1, hcz41_2, hcz41_3, hfz41_0, hfz41_1, hfz41_2, hfz41_3⟩ := cel4 BK211))
  refine bodyPost_ret (results_ct rfl _ _ gb211 25 #[.int .i64 0, .int .i64 0, .int .i64 0, .int .i64 0] (0, 0) _ rfl (bp BK211) Try.underlying25 rfl (by kernel_rfl)) rfl ?_
  exact ⟨er, bl HB⟩
/-! ### spec_NewDOmega: function 58 -/
mutual
def spec_NewDOmega.j0 : Nat → Int → Bool → Int → Int → Int → Int → Option (Int × Int × Int × Int × Int × Bool)
 | 0, _, _, _, _, _, _ => none
 | k + 1, x1, x15, x220000, x220001, x220002, x220003 => if x15 = true then (some (0, 0, 0, 0, 0, false)) else (spec_NewDOmega.l0 k x1 x220000 x220001 x220002 x220003)
def spec_NewDOmega.l0 : Nat → Int → Int → Int → Int → Int → Option (Int × Int × Int × Int × Int × Bool)
 | 0, _, _, _, _, _ => none
 | k + 1, x1, x220000, x220001, x220002, x220003 => if x1 > 0 then ((spec_DivSqrt2.f x220000 x220001 x220002 x220003).bind fun bt223 => (if bt223.2.2.2.2 = true then (spec_NewDOmega.l0 k (wrap64 (x1 - 1)) bt223.1 bt223.2.1 bt223.2.2.1 bt223.2.2.2.1) else (if x1 > 60 then (some (0, 0, 0, 0, 0, false)) else (some (x220000, x220001, x220002, x220003, x1, true))))) else (if x1 > 60 then (some (0, 0, 0, 0, 0, false)) else (some (x220000, x220001, x220002, x220003, x1, true)))
end
def spec_NewDOmega.f (k : Nat) (a0_0 : Int) (a0_1 : Int) (a0_2 : Int) (a0_3 : Int) (a1 : Int) : Option (Int × Int × Int × Int × Int × Bool) := (spec_IsValidZOmega.f a0_0 a0_1 a0_2 a0_3).bind fun t221 => (if t221 = true then ((spec_l1In.f a1 0 120).bind fun t222 => (spec_NewDOmega.j0 k a1 (!t222) a0_0 a0_1 a0_2 a0_3)) else (spec_NewDOmega.j0 k a1 true a0_0 a0_1 a0_2 a0_3))
set_option maxHeartbeats 8000000 in
set_option maxRecDepth 100000 in
theorem spec_NewDOmega.calls (k : Nat) (a0_0 : Int) (a0_1 : Int) (a0_2 : Int) (a0_3 : Int) (a1 : Int) (r1 : Int) (r2 : Int) (r3 : Int) (r4 : Int) (r5 : Int) (r6 : Bool) (w : World) (h : spec_NewDOmega.f k a0_0 a0_1 a0_2 a0_3 a1 = some (r1, r2, r3, r4, r5, r6)) :
  Calls Try.prog 58 #[.agg #[.int .i64 a0_0, .int .i64 a0_1, .int .i64 a0_2, .int .i64 a0_3], .int .i64 a1] w fun e w' => e = .returned (.tuple #[.agg #[.int .i64 r1, .int .i64 r2, .int .i64 r3, .int .i64 r4, .int .i64 r5], .bool r6]) ∧ Below w.heap.size w w' := by
 have hu25 := Try.underlying25
 have hu27 := Try.underlying27
 have HB := Aside0.mk (Below.refl w.heap.size w)
 have H := h
 clear h
 unfold spec_NewDOmega.f at H
 have HC3 := Aside0.mk H
 clear H
 go_enter Try.func58, Try.ntmps58
 go_upto_region 1 with (first | ((with_reducible refine gate_dst (N := 2) rfl ?_); refine bx (N := 2) (cs := #[.int .i64 a0_0, .int .i64 a0_1, .int .i64 a0_2, .int .i64 a0_3]) (t := 25) ?_; intro gb219 hg w4 hbox hb; have BK219 := Aside0.mk hbox; have GW219 := sz hg HB; have GE219 := GW219; replace HB := bs HB hb; clear hb hbox hg) | ((with_reducible refine gate_dst (N := 4) rfl ?_); refine bx (N := 4) (cs := #[.int .i64 0, .int .i64 0, .int .i64 0, .int .i64 0, .int .i64 0]) (t := 27) ?_; intro gb220 hg w5 hbox hb; have BK220 := Aside0.mk hbox; have GW220 := sz hg HB; have GE220 := GW220; have NB219_220 := nl hg BK219; have NB220_219 := ng hg BK219; replace BK219 := cb BK219 hb; replace HB := bs HB hb; clear hb hbox hg))
 (try simp only [Act.put, List.setIfInBounds_toArray, List.set_cons_zero, List.set_cons_succ])
 go_cut [15] (fun v15 wc => ∃ (kq : Nat) (x15_2 : Bool), v15 = .bool x15_2 ∧ Aside0 (spec_NewDOmega.j0 kq a1 x15_2 a0_0 a0_1 a0_2 a0_3 = some (r1, r2, r3, r4, r5, r6)) ∧ Aside0 (kq ≤ k) ∧ Aside0 (wc.heap[gb219]? = some (.cells #[.int .i64 a0_0, .int .i64 a0_1, .int .i64 a0_2, .int .i64 a0_3] 25 (0, 0))) ∧ Aside0 (wc.heap[gb220]? = some (.cells #[.int .i64 0, .int .i64 0, .int .i64 0, .int .i64 0, .int .i64 0] 27 (0, 0))) ∧ Aside0 (Below w.heap.size w wc))
 case first =>
  have H := HC3.out
  clear HC3
  replace H := Option.bind_eq_some_iff.mp H
  obtain ⟨t221, A60, H⟩ := H
  try dsimp only at H
  have A6 := Aside0.mk A60
  clear A60
  by_cases c7 : t221 = true
  ·subst c7
   rw [if_pos rfl] at H
   replace H := Option.bind_eq_some_iff.mp H
   obtain ⟨t222, A80, H⟩ := H
   try dsimp only at H
   have A8 := Aside0.mk A80
   clear A80
   have H' := Aside0.mk H
   clear H
   have hnb9 := NB219_220.out
   have hnc9 := NB220_219.out
   obtain ⟨hcz10_0, hcz10_1, hcz10_2, hcz10_3, hfz10_0, hfz10_1, hfz10_2, hfz10_3⟩ := cel4 BK219
   go_wp2_with (first | ((with_reducible refine gate_callee (f := 91) rfl ?_); refine gL (some 9) Try.func91 #[.agg #[.int .i64 a0_0, .int .i64 a0_1, .int .i64 a0_2, .int .i64 a0_3]] ?_; (with_reducible refine (spec_IsValidZOmega.calls a0_0 a0_1 a0_2 a0_3 true _ A6.out).mono ?_); rintro e w11 ⟨rfl, hb⟩; refine ⟨_, rfl, ?_⟩; replace BK219 := cb BK219 hb; replace BK220 := cb BK220 hb; replace HB := bs HB hb; (try clear hb); (try clear hb2); (try clear hk); (try clear hi)) | (go_at_call 22; (with_reducible refine (spec_l1In.calls a1 0 120 t222 _ A8.out).mono ?_); rintro e w' ⟨rfl, ⟨nd, rfl⟩⟩))
   go_meet
   case rel => exact ⟨_, (!t222), rs, H', ⟨by first | omega | exact Nat.le_refl _⟩, ⟨pl BK219⟩, ⟨pl BK220⟩, ⟨bl HB⟩⟩
  ·replace c7 := Bool.eq_false_iff.mpr c7
   subst c7
   rw [nf] at H
   have H' := Aside0.mk H
   clear H
   have hnb12 := NB219_220.out
   have hnc12 := NB220_219.out
   obtain ⟨hcz13_0, hcz13_1, hcz13_2, hcz13_3, hfz13_0, hfz13_1, hfz13_2, hfz13_3⟩ := cel4 BK219
   go_wp2_with (first | ((with_reducible refine gate_callee (f := 91) rfl ?_); refine gL (some 9) Try.func91 #[.agg #[.int .i64 a0_0, .int .i64 a0_1, .int .i64 a0_2, .int .i64 a0_3]] ?_; (with_reducible refine (spec_IsValidZOmega.calls a0_0 a0_1 a0_2 a0_3 false _ A6.out).mono ?_); rintro e w14 ⟨rfl, hb⟩; refine ⟨_, rfl, ?_⟩; replace BK219 := cb BK219 hb; replace BK220 := cb BK220 hb; replace HB := bs HB hb; (try clear hb); (try clear hb2); (try clear hk); (try clear hi)))
   go_meet
   case rel => exact ⟨_, (true), rs, H', ⟨by first | omega | exact Nat.le_refl _⟩, ⟨pl BK219⟩, ⟨pl BK220⟩, ⟨bl HB⟩⟩
 case rest =>
  clear HC3
  try clear c1
  try clear p2
  try clear c5
  try clear c7
  try clear c9
  try clear c12
  try clear hcz10_0
  try clear hcz10_1
  try clear hcz10_2
  try clear hcz10_3
  try clear hcz13_0
  try clear hcz13_1
  try clear hcz13_2
  try clear hcz13_3
  try clear hfz10_0
  try clear hfz10_1
  try clear hfz10_2
  try clear hfz10_3
  try clear hfz13_0
  try clear hfz13_1
  try clear hfz13_2
  try clear hfz13_3
  obtain ⟨kq, x15_2, rfl, HA, HJ2, BK219, BK220, HB⟩ := hcut
  cases kq with
  | zero => exact absurd HA.out (by simp [spec_NewDOmega.j0])
  | succ kj2 =>
   have H := HA.out
   clear HA
   simp only [spec_NewDOmega.j0] at H
   by_cases c15 : x15_2 = true
   ·subst c15
    rw [if_pos rfl] at H
    simp only [Option.some.injEq, Prod.mk.injEq] at H
    obtain ⟨rfl, rfl, rfl, rfl, rfl, rfl⟩ := H
    have hnb16 := NB220_219.out
    have hnc16 := NB219_220.out
    obtain ⟨hcz17_0, hcz17_1, hcz17_2, hcz17_3, hcz17_4, hfz17_0, hfz17_1, hfz17_2, hfz17_3, hfz17_4⟩ := cel5 BK220
    go_wp2
    refine bodyPost_ret (results_ct rfl _ _ gb220 27 #[.int .i64 0, .int .i64 0, .int .i64 0, .int .i64 0, .int .i64 0] (0, 0) _ rfl (bp BK220) Try.underlying27 rfl (by kernel_rfl)) rfl ?_
    exact ⟨er, bl HB⟩
   ·replace c15 := Bool.eq_false_iff.mpr c15
    subst c15
    rw [nf] at H
    have H' := Aside0.mk H
    clear H
    go_wp2
    go_loopg [1] kj2 (fun kq v1 w' => ∃ (x1_2 : Int) (x220000_2 : Int) (x220001_2 : Int) (x220002_2 : Int) (x220003_2 : Int), v1 = .int .i64 x1_2 ∧ Aside0 (spec_NewDOmega.l0 kq x1_2 x220000_2 x220001_2 x220002_2 x220003_2 = some (r1, r2, r3, r4, r5, r6)) ∧ Aside0 (kq ≤ kj2) ∧ Aside0 (w'.heap[gb219]? = some (.cells #[.int .i64 x220000_2, .int .i64 x220001_2, .int .i64 x220002_2, .int .i64 x220003_2] 25 (0, 0))) ∧ Aside0 (w'.heap[gb220]? = some (.cells #[.int .i64 0, .int .i64 0, .int .i64 0, .int .i64 0, .int .i64 0] 27 (0, 0))) ∧ Aside0 (Below w.heap.size w w'))
    case atStart => exact ⟨(a1), (a0_0), (a0_1), (a0_2), (a0_3), rs, H', ⟨Nat.le_refl _⟩, ⟨pl BK219⟩, ⟨pl BK220⟩, ⟨bl HB⟩⟩
    case round =>
     clear H'
     try clear c1
     try clear p2
     try clear c5
     try clear c7
     try clear c9
     try clear c12
     try clear c15
     try clear c16
     try clear hcz10_0
     try clear hcz10_1
     try clear hcz10_2
     try clear hcz10_3
     try clear hcz13_0
     try clear hcz13_1
     try clear hcz13_2
     try clear hcz13_3
     try clear hcz17_0
     try clear hcz17_1
     try clear hcz17_2
     try clear hcz17_3
     try clear hcz17_4
     try clear hfz10_0
     try clear hfz10_1
     try clear hfz10_2
     try clear hfz10_3
     try clear hfz13_0
     try clear hfz13_1
     try clear hfz13_2
     try clear hfz13_3
     try clear hfz17_0
     try clear hfz17_1
     try clear hfz17_2
     try clear hfz17_3
     try clear hfz17_4
     try clear p2
     obtain ⟨x1_2, x220000_2, x220001_2, x220002_2, x220003_2, rfl, HA, HK2, BK219, BK220, HB⟩ := hrel
     cases gk with
     | zero => exact absurd HA.out (by simp [spec_NewDOmega.l0])
     | succ k2 =>
      have H := HA.out
      clear HA
      simp only [spec_NewDOmega.l0] at H
      by_cases c18 : x1_2 > 0
      ·rw [if_pos c18] at H
       have c18b0 : decide (0 < x1_2) = true := decide_eq_true c18
       clear c18
       replace H := Option.bind_eq_some_iff.mp H
       obtain ⟨⟨t223, t224, t225, t226, t227⟩, A190, H⟩ := H
       try dsimp only at H
       have A19 := Aside0.mk A190
       clear A190
       by_cases c20 : t227 = true
       ·subst c20
        rw [if_pos rfl] at H
        have H' := Aside0.mk H
        clear H
        have hnb21 := NB219_220.out
        have hnc21 := NB220_219.out
        obtain ⟨hcz22_0, hcz22_1, hcz22_2, hcz22_3, hfz22_0, hfz22_1, hfz22_2, hfz22_3⟩ := cel4 BK219
        go_wp2_with (first | ((with_reducible refine gate_callee (f := 90) rfl ?_); refine gL (some 21) Try.func90 #[.agg #[.int .i64 x220000_2, .int .i64 x220001_2, .int .i64 x220002_2, .int .i64 x220003_2]] ?_; (with_reducible refine (spec_DivSqrt2.calls x220000_2 x220001_2 x220002_2 x220003_2 t223 t224 t225 t226 true _ A19.out).mono ?_); rintro e w23 ⟨rfl, hb⟩; refine ⟨_, rfl, ?_⟩; replace BK219 := cb BK219 hb; replace BK220 := cb BK220 hb; replace HB := bs HB hb; (try clear hb); (try clear hb2); (try clear hk); (try clear hi)) | ((with_reducible refine gate_dst (N := 6) rfl ?_); refine bx (N := 6) (cs := #[.int .i64 0, .int .i64 0, .int .i64 0, .int .i64 0]) (t := 25) ?_; intro gb228 hg w24 hbox hb; have BK228 := Aside0.mk hbox; have GW228 := sz hg HB; have GE228 := GW228; have NB219_228 := nl hg BK219; have NB228_219 := ng hg BK219; have NB220_228 := nl hg BK220; have NB228_220 := ng hg BK220; replace BK219 := cb BK219 hb; replace BK220 := cb BK220 hb; replace HB := bs HB hb; clear hb hbox hg; have hnb25 := NB228_219.out; have hnc25 := NB219_228.out; have hnb26 := NB228_220.out; have hnc26 := NB220_228.out; obtain ⟨hcz27_0, hcz27_1, hcz27_2, hcz27_3, hfz27_0, hfz27_1, hfz27_2, hfz27_3⟩ := cel4 BK228; obtain ⟨hcz28_0, hcz28_1, hcz28_2, hcz28_3, hfz28_0, hfz28_1, hfz28_2, hfz28_3⟩ := cel4 BK219))
        go_roundg k2
        case measure => have := HJ2.out; have := HK2.out; omega
        case rel => exact ⟨(wrap64 (x1_2 - 1)), (t223), (t224), (t225), (t226), rs, H', ⟨by have := HJ2.out; have := HK2.out; omega⟩, ⟨bp BK219⟩, ⟨bp BK220⟩, ⟨bl HB⟩⟩
       ·replace c20 := Bool.eq_false_iff.mpr c20
        subst c20
        rw [nf] at H
        by_cases c29 : x1_2 > 60
        ·rw [if_pos c29] at H
         have c29b0 : decide (60 < x1_2) = true := decide_eq_true c29
         clear c29
         simp only [Option.some.injEq, Prod.mk.injEq] at H
         obtain ⟨rfl, rfl, rfl, rfl, rfl, rfl⟩ := H
         have hnb30 := NB219_220.out
         have hnc30 := NB220_219.out
         obtain ⟨hcz31_0, hcz31_1, hcz31_2, hcz31_3, hfz31_0, hfz31_1, hfz31_2, hfz31_3⟩ := cel4 BK219
         go_wp2_with (first | ((with_reducible refine gate_callee (f := 90) rfl ?_); refine gL (some 21) Try.func90 #[.agg #[.int .i64 x220000_2, .int .i64 x220001_2, .int .i64 x220002_2, .int .i64 x220003_2]] ?_; (with_reducible refine (spec_DivSqrt2.calls x220000_2 x220001_2 x220002_2 x220003_2 t223 t224 t225 t226 false _ A19.out).mono ?_); rintro e w32 ⟨rfl, hb⟩; refine ⟨_, rfl, ?_⟩; replace BK219 := cb BK219 hb; replace BK220 := cb BK220 hb; replace HB := bs HB hb; (try clear hb); (try clear hb2); (try clear hk); (try clear hi)) | ((with_reducible refine gate_dst (N := 6) rfl ?_); refine bx (N := 6) (cs := #[.int .i64 0, .int .i64 0, .int .i64 0, .int .i64 0]) (t := 25) ?_; intro gb228 hg w33 hbox hb; have BK228 := Aside0.mk hbox; have GW228 := sz hg HB; have GE228 := GW228; have NB219_228 := nl hg BK219; have NB228_219 := ng hg BK219; have NB220_228 := nl hg BK220; have NB228_220 := ng hg BK220; replace BK219 := cb BK219 hb; replace BK220 := cb BK220 hb; replace HB := bs HB hb; clear hb hbox hg; have hnb34 := NB228_219.out; have hnc34 := NB219_228.out; have hnb35 := NB228_220.out; have hnc35 := NB220_228.out; obtain ⟨hcz36_0, hcz36_1, hcz36_2, hcz36_3, hfz36_0, hfz36_1, hfz36_2, hfz36_3⟩ := cel4 BK228; obtain ⟨hcz37_0, hcz37_1, hcz37_2, hcz37_3, hcz37_4, hfz37_0, hfz37_1, hfz37_2, hfz37_3, hfz37_4⟩ := cel5 BK220))
         refine bodyPost_ret (results_ct rfl _ _ gb220 27 #[.int .i64 0, .int .i64 0, .int .i64 0, .int .i64 0, .int .i64 0] (0, 0) _ rfl (bp BK220) Try.underlying27 rfl (by kernel_rfl)) rfl ?_
         exact ⟨er, bl HB⟩
        ·rw [if_neg c29] at H
         have c29b0 : decide (60 < x1_2) = false := decide_eq_false c29
         clear c29
         simp only [Option.some.injEq, Prod.mk.injEq] at H
         obtain ⟨rfl, rfl, rfl, rfl, rfl, rfl⟩ := H
         have hnb38 := NB219_220.out
         have hnc38 := NB220_219.out
         obtain ⟨hcz39_0, hcz39_1, hcz39_2, hcz39_3, hfz39_0, hfz39_1, hfz39_2, hfz39_3⟩ := cel4 BK219
         go_wp2_with (first | ((with_reducible refine gate_callee (f := 90) rfl ?_); refine gL (some 21) Try.func90 #[.agg #[.int .i64 x220000_2, .int .i64 x220001_2, .int .i64 x220002_2, .int .i64 x220003_2]] ?_; (with_reducible refine (spec_DivSqrt2.calls x220000_2 x220001_2 x220002_2 x220003_2 t223 t224 t225 t226 false _ A19.out).mono ?_); rintro e w40 ⟨rfl, hb⟩; refine ⟨_, rfl, ?_⟩; replace BK219 := cb BK219 hb; replace BK220 := cb BK220 hb; replace HB := bs HB hb; (try clear hb); (try clear hb2); (try clear hk); (try clear hi)) | ((with_reducible refine gate_dst (N := 6) rfl ?_); refine bx (N := 6) (cs := #[.int .i64 0, .int .i64 0, .int .i64 0, .int .i64 0]) (t := 25) ?_; intro gb228 hg w41 hbox hb; have BK228 := Aside0.mk hbox; have GW228 := sz hg HB; have GE228 := GW228; have NB219_228 := nl hg BK219; have NB228_219 := ng hg BK219; have NB220_228 := nl hg BK220; have NB228_220 := ng hg BK220; replace BK219 := cb BK219 hb; replace BK220 := cb BK220 hb; replace HB := bs HB hb; clear hb hbox hg; have hnb42 := NB228_219.out; have hnc42 := NB219_228.out; have hnb43 := NB228_220.out; have hnc43 := NB220_228.out; obtain ⟨hcz44_0, hcz44_1, hcz44_2, hcz44_3, hfz44_0, hfz44_1, hfz44_2, hfz44_3⟩ := cel4 BK228; obtain ⟨hcz45_0, hcz45_1, hcz45_2, hcz45_3, hfz45_0, hfz45_1, hfz45_2, hfz45_3⟩ := cel4 BK219; obtain ⟨hcz46_0, hcz46_1, hcz46_2, hcz46_3, hcz46_4, hfz46_0, hfz46_1, hfz46_2, hfz46_3, hfz46_4⟩ := cel5 BK220))
         refine bodyPost_ret (results_ct rfl _ _ gb220 27 #[.int .i64 x220000_2, .int .i64 x220001_2, .int .i64 x220002_2, .int .i64 x220003_2, .int .i64 x1_2] (0, 0) _ rfl (bp BK220) Try.underlying27 rfl (by kernel_rfl)) rfl ?_
         exact ⟨er, bl HB⟩
      ·rw [if_neg c18] at H
       have c18b0 : decide (0 < x1_2) = false := decide_eq_false c18
       clear c18
       by_cases c47 : x1_2 > 60
       ·rw [if_pos c47] at H
        have c47b0 : decide (60 < x1_2) = true := decide_eq_true c47
        clear c47
        simp only [Option.some.injEq, Prod.mk.injEq] at H
        obtain ⟨rfl, rfl, rfl, rfl, rfl, rfl⟩ := H
        have hnb48 := NB220_219.out
        have hnc48 := NB219_220.out
        obtain ⟨hcz49_0, hcz49_1, hcz49_2, hcz49_3, hcz49_4, hfz49_0, hfz49_1, hfz49_2, hfz49_3, hfz49_4⟩ := cel5 BK220
        go_wp2
        refine bodyPost_ret (results_ct rfl _ _ gb220 27 #[.int .i64 0, .int .i64 0, .int .i64 0, .int .i64 0, .int .i64 0] (0, 0) _ rfl (bp BK220) Try.underlying27 rfl (by kernel_rfl)) rfl ?_
        exact ⟨er, bl HB⟩
       ·rw [if_neg c47] at H
        have c47b0 : decide (60 < x1_2) = false := decide_eq_false c47
        clear c47
        simp only [Option.some.injEq, Prod.mk.injEq] at H
        obtain ⟨rfl, rfl, rfl, rfl, rfl, rfl⟩ := H
        have hnb50 := NB219_220.out
        have hnc50 := NB220_219.out
        obtain ⟨hcz51_0, hcz51_1, hcz51_2, hcz51_3, hfz51_0, hfz51_1, hfz51_2, hfz51_3⟩ := cel4 BK219
        obtain ⟨hcz52_0, hcz52_1, hcz52_2, hcz52_3, hcz52_4, hfz52_0, hfz52_1, hfz52_2, hfz52_3, hfz52_4⟩ := cel5 BK220
        go_wp2
        refine bodyPost_ret (results_ct rfl _ _ gb220 27 #[.int .i64 x220000_2, .int .i64 x220001_2, .int .i64 x220002_2, .int .i64 x220003_2, .int .i64 x1_2] (0, 0) _ rfl (bp BK220) Try.underlying27 rfl (by kernel_rfl)) rfl ?_
        exact ⟨er, bl HB⟩
end Go.Proofs.Ytmkpngbfbfpffaa.P
