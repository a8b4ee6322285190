/- Printed walks: each function's own reading as a Lean function, and the proof that a call of it answers so. -/
import Derived.Test.YtmkpngbfbfpffaaA4
namespace Go.Proofs.Ytmkpngbfbfpffaa.P
open Go.RowKit Go.Proofs.YtmkpngbfbfpffaaW.PrintWords Go.Proofs.YtmkpngbfbfpffaaW.PrintLast Go.Proofs.YtmkpngbfbfpffaaW.PrintMore Go.Proofs.YtmkpngbfbfpffaaW.Sq
attribute [local go_sem] max2_int min2_int max_two min_two max_three min_three max_four min_four   -- for this text's walks alone
set_option linter.unusedVariables false
set_option linter.unusedSimpArgs false
/-! ### impl_moved: function 94 -/
def impl_moved.f (a0_0 : Int) (a0_1 : Int) (a0_2 : Int) (a0_3 : Int) (a1 : Int) : Option (Int × Int) := if 0 ≤ a0_1 then (if 0 ≤ a0_2 then (if 0 ≤ a0_3 then (if a0_0 = 1 then (some (Go.bits .xor .i64 a1 (shl .i64 1 a0_1), 0)) else (if a0_0 = 2 then (some (Go.bits .xor .i64 a1 (shl .i64 1 a0_1), wrap64 (2 + (wrap64 (4 * (Go.bits .and .i64 (shr .i64 a1 a0_1) 1)))))) else (if a0_0 = 3 then (some (a1, wrap64 (4 * (Go.bits .and .i64 (shr .i64 a1 a0_1) 1)))) else (if a0_0 = 5 then (some (a1, wrap64 (2 * (Go.bits .and .i64 (shr .i64 a1 a0_1) 1)))) else (if a0_0 = 6 then (some (a1, wrap64 (6 * (Go.bits .and .i64 (shr .i64 a1 a0_1) 1)))) else (if a0_0 = 7 then (some (a1, Go.bits .and .i64 (shr .i64 a1 a0_1) 1)) else (if a0_0 = 8 then (some (a1, wrap64 (7 * (Go.bits .and .i64 (shr .i64 a1 a0_1) 1)))) else (if a0_0 = 9 then (some (Go.bits .xor .i64 a1 (shl .i64 (Go.bits .and .i64 (shr .i64 a1 a0_1) 1) a0_2), 0)) else (if a0_0 = 10 then (some (a1, wrap64 ((wrap64 (4 * (Go.bits .and .i64 (shr .i64 a1 a0_1) 1))) * (Go.bits .and .i64 (shr .i64 a1 a0_2) 1)))) else (if a0_0 = 11 then (if (Go.bits .and .i64 (shr .i64 a1 a0_1) 1) = (Go.bits .and .i64 (shr .i64 a1 a0_2) 1) then (some (a1, 0)) else (some (Go.bits .xor .i64 (Go.bits .xor .i64 a1 (shl .i64 1 a0_1)) (shl .i64 1 a0_2), 0))) else (some (Go.bits .xor .i64 a1 (shl .i64 (wrap64 ((Go.bits .and .i64 (shr .i64 a1 a0_1) 1) * (Go.bits .and .i64 (shr .i64 a1 a0_2) 1))) a0_3), 0)))))))))))) else (none)) else (none)) else (none)
set_option maxHeartbeats 8000000 in
set_option maxRecDepth 100000 in
theorem impl_moved.calls (a0_0 : Int) (a0_1 : Int) (a0_2 : Int) (a0_3 : Int) (a1 : Int) (r1 : Int) (r2 : Int) (w : World) (h : impl_moved.f a0_0 a0_1 a0_2 a0_3 a1 = some (r1, r2)) :
  Calls Try.prog 94 #[.agg #[.int .i64 a0_0, .int .i64 a0_1, .int .i64 a0_2, .int .i64 a0_3], .int .i64 a1] w fun e w' => e = .returned (.tuple #[.int .i64 r1, .int .i64 r2]) ∧ Below w.heap.size w w' := by
 have hu62 := Try.underlying62
 have HB := Aside0.mk (Below.refl w.heap.size w)
 have H := h
 clear h
 unfold impl_moved.f at H
 by_cases c3 : 0 ≤ a0_1
 ·rw [if_pos c3] at H
  have c3b0 := eq_true c3
  have c3b1 : decide (0 ≤ a0_1) = true := decide_eq_true c3
  clear c3
  obtain ⟨ji4, hji4⟩ : ∃ j_ : Int, (shr .i64 a1 a0_1) = j_ := ⟨_, rfl⟩
  replace H : (if 0 ≤ a0_2 then (if 0 ≤ a0_3 then (if a0_0 = 1 then (some (Go.bits .xor .i64 a1 (shl .i64 1 a0_1), 0)) else (if a0_0 = 2 then (some (Go.bits .xor .i64 a1 (shl .i64 1 a0_1), wrap64 (2 + (wrap64 (4 * (Go.bits .and .i64 (ji4) 1)))))) else (if a0_0 = 3 then (some (a1, wrap64 (4 * (Go.bits .and .i64 (ji4) 1)))) else (if a0_0 = 5 then (some (a1, wrap64 (2 * (Go.bits .and .i64 (ji4) 1)))) else (if a0_0 = 6 then (some (a1, wrap64 (6 * (Go.bits .and .i64 (ji4) 1)))) else (if a0_0 = 7 then (some (a1, Go.bits .and .i64 (ji4) 1)) else (if a0_0 = 8 then (some (a1, wrap64 (7 * (Go.bits .and .i64 (ji4) 1)))) else (if a0_0 = 9 then (some (Go.bits .xor .i64 a1 (shl .i64 (Go.bits .and .i64 (ji4) 1) a0_2), 0)) else (if a0_0 = 10 then (some (a1, wrap64 ((wrap64 (4 * (Go.bits .and .i64 (ji4) 1))) * (Go.bits .and .i64 (shr .i64 a1 a0_2) 1)))) else (if a0_0 = 11 then (if (Go.bits .and .i64 (ji4) 1) = (Go.bits .and .i64 (shr .i64 a1 a0_2) 1) then (some (a1, 0)) else (some (Go.bits .xor .i64 (Go.bits .xor .i64 a1 (shl .i64 1 a0_1)) (shl .i64 1 a0_2), 0))) else (some (Go.bits .xor .i64 a1 (shl .i64 (wrap64 ((Go.bits .and .i64 (ji4) 1) * (Go.bits .and .i64 (shr .i64 a1 a0_2) 1))) a0_3), 0)))))))))))) else (none)) else (none)) = some (r1, r2) := by first | (rw [hji4] at H; exact H) | (simp only [hji4] at H ⊢; exact H) | exact H
  have hji4_ : (a1 / 2 ^ min a0_1.toNat 64) = ji4 := hji4
  have hji4z : a0_1 ≤ 64 → (a1 / 2 ^ a0_1.toNat) = ji4 := shr_small hji4
  by_cases c5 : 0 ≤ a0_2
  ·rw [if_pos c5] at H
   have c5b0 := eq_true c5
   have c5b1 : decide (0 ≤ a0_2) = true := decide_eq_true c5
   clear c5
   obtain ⟨ji6, hji6⟩ : ∃ j_ : Int, (shr .i64 a1 a0_2) = j_ := ⟨_, rfl⟩
   replace H : (if 0 ≤ a0_3 then (if a0_0 = 1 then (some (Go.bits .xor .i64 a1 (shl .i64 1 a0_1), 0)) else (if a0_0 = 2 then (some (Go.bits .xor .i64 a1 (shl .i64 1 a0_1), wrap64 (2 + (wrap64 (4 * (Go.bits .and .i64 (ji4) 1)))))) else (if a0_0 = 3 then (some (a1, wrap64 (4 * (Go.bits .and .i64 (ji4) 1)))) else (if a0_0 = 5 then (some (a1, wrap64 (2 * (Go.bits .and .i64 (ji4) 1)))) else (if a0_0 = 6 then (some (a1, wrap64 (6 * (Go.bits .and .i64 (ji4) 1)))) else (if a0_0 = 7 then (some (a1, Go.bits .and .i64 (ji4) 1)) else (if a0_0 = 8 then (some (a1, wrap64 (7 * (Go.bits .and .i64 (ji4) 1)))) else (if a0_0 = 9 then (some (Go.bits .xor .i64 a1 (shl .i64 (Go.bits .and .i64 (ji4) 1) a0_2), 0)) else (if a0_0 = 10 then (some (a1, wrap64 ((wrap64 (4 * (Go.bits .and .i64 (ji4) 1))) * (Go.bits .and .i64 (ji6) 1)))) else (if a0_0 = 11 then (if (Go.bits .and .i64 (ji4) 1) = (Go.bits .and .i64 (ji6) 1) then (some (a1, 0)) else (some (Go.bits .xor .i64 (Go.bits .xor .i64 a1 (shl .i64 1 a0_1)) (shl .i64 1 a0_2), 0))) else (some (Go.bits .xor .i64 a1 (shl .i64 (wrap64 ((Go.bits .and .i64 (ji4) 1) * (Go.bits .and .i64 (ji6) 1))) a0_3), 0)))))))))))) else (none)) = some (r1, r2) := by first | (rw [hji6] at H; exact H) | (simp only [hji6] at H ⊢; exact H) | exact H
   have hji6_ : (a1 / 2 ^ min a0_2.toNat 64) = ji6 := hji6
   have hji6z : a0_2 ≤ 64 → (a1 / 2 ^ a0_2.toNat) = ji6 := shr_small hji6
   by_cases c7 : 0 ≤ a0_3
   ·rw [if_pos c7] at H
    have c7b0 := eq_true c7
    have c7b1 : decide (0 ≤ a0_3) = true := decide_eq_true c7
    clear c7
    obtain ⟨ji8, hji8⟩ : ∃ j_ : Int, (shr .i64 a1 a0_3) = j_ := ⟨_, rfl⟩
    replace H : (if a0_0 = 1 then (some (Go.bits .xor .i64 a1 (shl .i64 1 a0_1), 0)) else (if a0_0 = 2 then (some (Go.bits .xor .i64 a1 (shl .i64 1 a0_1), wrap64 (2 + (wrap64 (4 * (Go.bits .and .i64 (ji4) 1)))))) else (if a0_0 = 3 then (some (a1, wrap64 (4 * (Go.bits .and .i64 (ji4) 1)))) else (if a0_0 = 5 then (some (a1, wrap64 (2 * (Go.bits .and .i64 (ji4) 1)))) else (if a0_0 = 6 then (some (a1, wrap64 (6 * (Go.bits .and .i64 (ji4) 1)))) else (if a0_0 = 7 then (some (a1, Go.bits .and .i64 (ji4) 1)) else (if a0_0 = 8 then (some (a1, wrap64 (7 * (Go.bits .and .i64 (ji4) 1)))) else (if a0_0 = 9 then (some (Go.bits .xor .i64 a1 (shl .i64 (Go.bits .and .i64 (ji4) 1) a0_2), 0)) else (if a0_0 = 10 then (some (a1, wrap64 ((wrap64 (4 * (Go.bits .and .i64 (ji4) 1))) * (Go.bits .and .i64 (ji6) 1)))) else (if a0_0 = 11 then (if (Go.bits .and .i64 (ji4) 1) = (Go.bits .and .i64 (ji6) 1) then (some (a1, 0)) else (some (Go.bits .xor .i64 (Go.bits .xor .i64 a1 (shl .i64 1 a0_1)) (shl .i64 1 a0_2), 0))) else (some (Go.bits .xor .i64 a1 (shl .i64 (wrap64 ((Go.bits .and .i64 (ji4) 1) * (Go.bits .and .i64 (ji6) 1))) a0_3), 0)))))))))))) = some (r1, r2) := by first | (rw [hji8] at H; exact H) | (simp only [hji8] at H ⊢; exact H) | exact H
    have hji8_ : (a1 / 2 ^ min a0_3.toNat 64) = ji8 := hji8
    have hji8z : a0_3 ≤ 64 → (a1 / 2 ^ a0_3.toNat) = ji8 := shr_small hji8
    by_cases c9 : a0_0 = 1
    ·rw [if_pos c9] at H
     have c9b0 : (a0_0 == 1) = true := beq_iff_eq.mpr c9
     have c9b1 : (a0_0 != 1) = false := bne_eq_false_iff_eq.mpr c9
     clear c9
     have c10b0 := eq_true (of_decide_eq_true da : 0 ≤ a0_1)
     obtain ⟨ji11, hji11⟩ : ∃ j_ : Int, (shl .i64 1 a0_1) = j_ := ⟨_, rfl⟩
     replace H : (some (Go.bits .xor .i64 a1 (ji11), 0)) = some (r1, r2) := by first | (rw [hji11] at H; exact H) | (simp only [hji11] at H ⊢; exact H) | exact H
     have hji11_ : (IntKind.i64.wrap (1 * 2 ^ min a0_1.toNat 64)) = ji11 := hji11
     have hji11z : a0_1 ≤ 64 → (IntKind.i64.wrap (1 * 2 ^ a0_1.toNat)) = ji11 := shl_small hji11
     have hji11u : (IntKind.i64.wrap (2 ^ min a0_1.toNat 64)) = ji11 := by have h_ := hji11_; rw [Int.one_mul] at h_; exact h_
     have hji11v : a0_1 ≤ 64 → (IntKind.i64.wrap (2 ^ a0_1.toNat)) = ji11 := fun hle_ => by have h_ := hji11z hle_; rw [Int.one_mul] at h_; exact h_
     have hji11y : (wrap64 (1 * 2 ^ min a0_1.toNat 64)) = ji11 := (i64_w _).symm.trans hji11_
     have hji11x : a0_1 ≤ 64 → (wrap64 (1 * 2 ^ a0_1.toNat)) = ji11 := fun h_ => (i64_w _).symm.trans (hji11z h_)
     simp only [Option.some.injEq, Prod.mk.injEq] at H
     obtain ⟨rfl, rfl⟩ := H
     go_enter Try.func94, Try.ntmps94
     go_wp2_with (first | ((with_reducible refine gate_dst (N := 2) rfl ?_); refine bx (N := 2) (cs := #[.int .i64 a0_0, .int .i64 a0_1, .int .i64 a0_2, .int .i64 a0_3]) (t := 62) ?_; intro gb335 hg w12 hbox hb; have BK335 := Aside0.mk hbox; have GW335 := sz hg HB; have GE335 := GW335; replace HB := bs HB hb; clear hb hbox hg; obtain ⟨hcz13_0, hcz13_1, hcz13_2, hcz13_3, hfz13_0, hfz13_1, hfz13_2, hfz13_3⟩ := cel4 BK335))
     repeat (go_quiet (first | ((with_reducible refine gate_dst (N := 2) rfl ?_); refine bx (N := 2) (cs := #[.int .i64 a0_0, .int .i64 a0_1, .int .i64 a0_2, .int .i64 a0_3]) (t := 62) ?_; intro gb335 hg w12 hbox hb; have BK335 := Aside0.mk hbox; have GW335 := sz hg HB; have GE335 := GW335; replace HB := bs HB hb; clear hb hbox hg; obtain ⟨hcz13_0, hcz13_1, hcz13_2, hcz13_3, hfz13_0, hfz13_1, hfz13_2, hfz13_3⟩ := cel4 BK335)); try go_wp2_with (first | ((with_reducible refine gate_dst (N := 2) rfl ?_); refine bx (N := 2) (cs := #[.int .i64 a0_0, .int .i64 a0_1, .int .i64 a0_2, .int .i64 a0_3]) (t := 62) ?_; intro gb335 hg w12 hbox hb; have BK335 := Aside0.mk hbox; have GW335 := sz hg HB; have GE335 := GW335; replace HB := bs HB hb; clear hb hbox hg; obtain ⟨hcz13_0, hcz13_1, hcz13_2, hcz13_3, hfz13_0, hfz13_1, hfz13_2, hfz13_3⟩ := cel4 BK335)))
     go_ret2
     exact ⟨by first | rfl | (simp [errW_none, errW_some] <;> rfl) | (simp only [← hji4, ← hji6, ← hji8, ← hji11]; first | rfl | (simp [errW_none, errW_some] <;> rfl)) | (simp [*, errW_none, errW_some] <;> rfl), bl HB⟩
    ·rw [if_neg c9] at H
     have c9b0 : (a0_0 == 1) = false := beq_eq_false_iff_ne.mpr c9
     have c9b1 : (a0_0 != 1) = true := bne_iff_ne.mpr c9
     by_cases c14 : a0_0 = 2
     ·rw [if_pos c14] at H
      have c14b0 : (a0_0 == 2) = true := beq_iff_eq.mpr c14
      have c14b1 : (a0_0 != 2) = false := bne_eq_false_iff_eq.mpr c14
      clear c14
      have c15b0 := eq_true (of_decide_eq_true da : 0 ≤ a0_1)
      obtain ⟨ji16, hji16⟩ : ∃ j_ : Int, (shl .i64 1 a0_1) = j_ := ⟨_, rfl⟩
      replace H : (some (Go.bits .xor .i64 a1 (ji16), wrap64 (2 + (wrap64 (4 * (Go.bits .and .i64 (ji4) 1)))))) = some (r1, r2) := by first | (rw [hji16] at H; exact H) | (simp only [hji16] at H ⊢; exact H) | exact H
      have hji16_ : (IntKind.i64.wrap (1 * 2 ^ min a0_1.toNat 64)) = ji16 := hji16
      have hji16z : a0_1 ≤ 64 → (IntKind.i64.wrap (1 * 2 ^ a0_1.toNat)) = ji16 := shl_small hji16
      have hji16u : (IntKind.i64.wrap (2 ^ min a0_1.toNat 64)) = ji16 := by have h_ := hji16_; rw [Int.one_mul] at h_; exact h_
      have hji16v : a0_1 ≤ 64 → (IntKind.i64.wrap (2 ^ a0_1.toNat)) = ji16 := fun hle_ => by have h_ := hji16z hle_; rw [Int.one_mul] at h_; exact h_
      have hji16y : (wrap64 (1 * 2 ^ min a0_1.toNat 64)) = ji16 := (i64_w _).symm.trans hji16_
      have hji16x : a0_1 ≤ 64 → (wrap64 (1 * 2 ^ a0_1.toNat)) = ji16 := fun h_ => (i64_w _).symm.trans (hji16z h_)
      simp only [Option.some.injEq, Prod.mk.injEq] at H
      obtain ⟨rfl, rfl⟩ := H
      go_enter Try.func94, Try.ntmps94
      go_wp2_with (first | ((with_reducible refine gate_dst (N := 2) rfl ?_); refine bx (N := 2) (cs := #[.int .i64 a0_0, .int .i64 a0_1, .int .i64 a0_2, .int .i64 a0_3]) (t := 62) ?_; intro gb335 hg w17 hbox hb; have BK335 := Aside0.mk hbox; have GW335 := sz hg HB; have GE335 := GW335; replace HB := bs HB hb; clear hb hbox hg; obtain ⟨hcz18_0, hcz18_1, hcz18_2, hcz18_3, hfz18_0, hfz18_1, hfz18_2, hfz18_3⟩ := cel4 BK335))
      repeat (go_quiet (first | ((with_reducible refine gate_dst (N := 2) rfl ?_); refine bx (N := 2) (cs := #[.int .i64 a0_0, .int .i64 a0_1, .int .i64 a0_2, .int .i64 a0_3]) (t := 62) ?_; intro gb335 hg w17 hbox hb; have BK335 := Aside0.mk hbox; have GW335 := sz hg HB; have GE335 := GW335; replace HB := bs HB hb; clear hb hbox hg; obtain ⟨hcz18_0, hcz18_1, hcz18_2, hcz18_3, hfz18_0, hfz18_1, hfz18_2, hfz18_3⟩ := cel4 BK335)); try go_wp2_with (first | ((with_reducible refine gate_dst (N := 2) rfl ?_); refine bx (N := 2) (cs := #[.int .i64 a0_0, .int .i64 a0_1, .int .i64 a0_2, .int .i64 a0_3]) (t := 62) ?_; intro gb335 hg w17 hbox hb; have BK335 := Aside0.mk hbox; have GW335 := sz hg HB; have GE335 := GW335; replace HB := bs HB hb; clear hb hbox hg; obtain ⟨hcz18_0, hcz18_1, hcz18_2, hcz18_3, hfz18_0, hfz18_1, hfz18_2, hfz18_3⟩ := cel4 BK335)))
      go_ret2
      exact ⟨by first | rfl | (simp [errW_none, errW_some] <;> rfl) | (simp only [← hji4, ← hji6, ← hji8, ← hji16]; first | rfl | (simp [errW_none, errW_some] <;> rfl)) | (simp [*, errW_none, errW_some] <;> rfl), bl HB⟩
     ·rw [if_neg c14] at H
      have c14b0 : (a0_0 == 2) = false := beq_eq_false_iff_ne.mpr c14
      have c14b1 : (a0_0 != 2) = true := bne_iff_ne.mpr c14
      by_cases c19 : a0_0 = 3
      ·rw [if_pos c19] at H
       have c19b0 : (a0_0 == 3) = true := beq_iff_eq.mpr c19
       have c19b1 : (a0_0 != 3) = false := bne_eq_false_iff_eq.mpr c19
       clear c19
       simp only [Option.some.injEq, Prod.mk.injEq] at H
       obtain ⟨rfl, rfl⟩ := H
       go_enter Try.func94, Try.ntmps94
       go_wp2_with (first | ((with_reducible refine gate_dst (N := 2) rfl ?_); refine bx (N := 2) (cs := #[.int .i64 a0_0, .int .i64 a0_1, .int .i64 a0_2, .int .i64 a0_3]) (t := 62) ?_; intro gb335 hg w20 hbox hb; have BK335 := Aside0.mk hbox; have GW335 := sz hg HB; have GE335 := GW335; replace HB := bs HB hb; clear hb hbox hg; obtain ⟨hcz21_0, hcz21_1, hcz21_2, hcz21_3, hfz21_0, hfz21_1, hfz21_2, hfz21_3⟩ := cel4 BK335))
       repeat (go_quiet (first | ((with_reducible refine gate_dst (N := 2) rfl ?_); refine bx (N := 2) (cs := #[.int .i64 a0_0, .int .i64 a0_1, .int .i64 a0_2, .int .i64 a0_3]) (t := 62) ?_; intro gb335 hg w20 hbox hb; have BK335 := Aside0.mk hbox; have GW335 := sz hg HB; have GE335 := GW335; replace HB := bs HB hb; clear hb hbox hg; obtain ⟨hcz21_0, hcz21_1, hcz21_2, hcz21_3, hfz21_0, hfz21_1, hfz21_2, hfz21_3⟩ := cel4 BK335)); try go_wp2_with (first | ((with_reducible refine gate_dst (N := 2) rfl ?_); refine bx (N := 2) (cs := #[.int .i64 a0_0, .int .i64 a0_1, .int .i64 a0_2, .int .i64 a0_3]) (t := 62) ?_; intro gb335 hg w20 hbox hb; have BK335 := Aside0.mk hbox; have GW335 := sz hg HB; have GE335 := GW335; replace HB := bs HB hb; clear hb hbox hg; obtain ⟨hcz21_0, hcz21_1, hcz21_2, hcz21_3, hfz21_0, hfz21_1, hfz21_2, hfz21_3⟩ := cel4 BK335)))
       go_ret2
       exact ⟨by first | rfl | (simp [errW_none, errW_some] <;> rfl) | (simp only [← hji4, ← hji6, ← hji8]; first | rfl | (simp [errW_none, errW_some] <;> rfl)) | (simp [*, errW_none, errW_some] <;> rfl), bl HB⟩
      ·rw [if_neg c19] at H
       have c19b0 : (a0_0 == 3) = false := beq_eq_false_iff_ne.mpr c19
       have c19b1 : (a0_0 != 3) = true := bne_iff_ne.mpr c19
       by_cases c22 : a0_0 = 5
       ·rw [if_pos c22] at H
        have c22b0 : (a0_0 == 5) = true := beq_iff_eq.mpr c22
        have c22b1 : (a0_0 != 5) = false := bne_eq_false_iff_eq.mpr c22
        clear c22
        simp only [Option.some.injEq, Prod.mk.injEq] at H
        obtain ⟨rfl, rfl⟩ := H
        go_enter Try.func94, Try.ntmps94
        go_wp2_with (first | ((with_reducible refine gate_dst (N := 2) rfl ?_); refine bx (N := 2) (cs := #[.int .i64 a0_0, .int .i64 a0_1, .int .i64 a0_2, .int .i64 a0_3]) (t := 62) ?_; intro gb335 hg w23 hbox hb; have BK335 := Aside0.mk hbox; have GW335 := sz hg HB; have GE335 := GW335; replace HB := bs HB hb; clear hb hbox hg; obtain ⟨hcz24_0, hcz24_1, hcz24_2, hcz24_3, hfz24_0, hfz24_1, hfz24_2, hfz24_3⟩ := cel4 BK335))
        repeat (go_quiet (first | ((with_reducible refine gate_dst (N := 2) rfl ?_); refine bx (N := 2) (cs := #[.int .i64 a0_0, .int .i64 a0_1, .int .i64 a0_2, .int .i64 a0_3]) (t := 62) ?_; intro gb335 hg w23 hbox hb; have BK335 := Aside0.mk hbox; have GW335 := sz hg HB; have GE335 := GW335; replace HB := bs HB hb; clear hb hbox hg; obtain ⟨hcz24_0, hcz24_1, hcz24_2, hcz24_3, hfz24_0, hfz24_1, hfz24_2, hfz24_3⟩ := cel4 BK335)); try go_wp2_with (first | ((with_reducible refine gate_dst (N := 2) rfl ?_); refine bx (N := 2) (cs := #[.int .i64 a0_0, .int .i64 a0_1, .int .i64 a0_2, .int .i64 a0_3]) (t := 62) ?_; intro gb335 hg w23 hbox hb; have BK335 := Aside0.mk hbox; have GW335 := sz hg HB; have GE335 := GW335; replace HB := bs HB hb; clear hb hbox hg; obtain ⟨hcz24_0, hcz24_1, hcz24_2, hcz24_3, hfz24_0, hfz24_1, hfz24_2, hfz24_3⟩ := cel4 BK335)))
        go_ret2
        exact ⟨by first | rfl | (simp [errW_none, errW_some] <;> rfl) | (simp only [← hji4, ← hji6, ← hji8]; first | rfl | (simp [errW_none, errW_some] <;> rfl)) | (simp [*, errW_none, errW_some] <;> rfl), bl HB⟩
       ·rw [if_neg c22] at H
        have c22b0 : (a0_0 == 5) = false := beq_eq_false_iff_ne.mpr c22
        have c22b1 : (a0_0 != 5) = true := bne_iff_ne.mpr c22
        by_cases c25 : a0_0 = 6
        ·rw [if_pos c25] at H
         have c25b0 : (a0_0 == 6) = true := beq_iff_eq.mpr c25
         have c25b1 : (a0_0 != 6) = false := bne_eq_false_iff_eq.mpr c25
         clear c25
         simp only [Option.some.injEq, Prod.mk.injEq] at H
         obtain ⟨rfl, rfl⟩ := H
         go_enter Try.func94, Try.ntmps94
         go_wp2_with (first | ((with_reducible refine gate_dst (N := 2) rfl ?_); refine bx (N := 2) (cs := #[.int .i64 a0_0, .int .i64 a0_1, .int .i64 a0_2, .int .i64 a0_3]) (t := 62) ?_; intro gb335 hg w26 hbox hb; have BK335 := Aside0.mk hbox; have GW335 := sz hg HB; have GE335 := GW335; replace HB := bs HB hb; clear hb hbox hg; obtain ⟨hcz27_0, hcz27_1, hcz27_2, hcz27_3, hfz27_0, hfz27_1, hfz27_2, hfz27_3⟩ := cel4 BK335))
         repeat (go_quiet (first | ((with_reducible refine gate_dst (N := 2) rfl ?_); refine bx (N := 2) (cs := #[.int .i64 a0_0, .int .i64 a0_1, .int .i64 a0_2, .int .i64 a0_3]) (t := 62) ?_; intro gb335 hg w26 hbox hb; have BK335 := Aside0.mk hbox; have GW335 := sz hg HB; have GE335 := GW335; replace HB := bs HB hb; clear hb hbox hg; obtain ⟨hcz27_0, hcz27_1, hcz27_2, hcz27_3, hfz27_0, hfz27_1, hfz27_2, hfz27_3⟩ := cel4 BK335)); try go_wp2_with (first | ((with_reducible refine gate_dst (N := 2) rfl ?_); refine bx (N := 2) (cs := #[.int .i64 a0_0, .int .i64 a0_1, .int .i64 a0_2, .int .i64 a0_3]) (t := 62) ?_; intro gb335 hg w26 hbox hb; have BK335 := Aside0.mk hbox; have GW335 := sz hg HB; have GE335 := GW335; replace HB := bs HB hb; clear hb hbox hg; obtain ⟨hcz27_0, hcz27_1, hcz27_2, hcz27_3, hfz27_0, hfz27_1, hfz27_2, hfz27_3⟩ := cel4 BK335)))
         go_ret2
         exact ⟨by first | rfl | (simp [errW_none, errW_some] <;> rfl) | (simp only [← hji4, ← hji6, ← hji8]; first | rfl | (simp [errW_none, errW_some] <;> rfl)) | (simp [*, errW_none, errW_some] <;> rfl), bl HB⟩
        ·rw [if_neg c25] at H
         have c25b0 : (a0_0 == 6) = false := beq_eq_false_iff_ne.mpr c25
         have c25b1 : (a0_0 != 6) = true := bne_iff_ne.mpr c25
         by_cases c28 : a0_0 = 7
         ·rw [if_pos c28] at H
          have c28b0 : (a0_0 == 7) = true := beq_iff_eq.mpr c28
          have c28b1 : (a0_0 != 7) = false := bne_eq_false_iff_eq.mpr c28
          clear c28
          simp only [Option.some.injEq, Prod.mk.injEq] at H
          obtain ⟨rfl, rfl⟩ := H
          go_enter Try.func94, Try.ntmps94
          go_wp2_with (first | ((with_reducible refine gate_dst (N := 2) rfl ?_); refine bx (N := 2) (cs := #[.int .i64 a0_0, .int .i64 a0_1, .int .i64 a0_2, .int .i64 a0_3]) (t := 62) ?_; intro gb335 hg w29 hbox hb; have BK335 := Aside0.mk hbox; have GW335 := sz hg HB; have GE335 := GW335; replace HB := bs HB hb; clear hb hbox hg; obtain ⟨hcz30_0, hcz30_1, hcz30_2, hcz30_3, hfz30_0, hfz30_1, hfz30_2, hfz30_3⟩ := cel4 BK335))
          repeat (go_quiet (first | ((with_reducible refine gate_dst (N := 2) rfl ?_); refine bx (N := 2) (cs := #[.int .i64 a0_0, .int .i64 a0_1, .int .i64 a0_2, .int .i64 a0_3]) (t := 62) ?_; intro gb335 hg w29 hbox hb; have BK335 := Aside0.mk hbox; have GW335 := sz hg HB; have GE335 := GW335; replace HB := bs HB hb; clear hb hbox hg; obtain ⟨hcz30_0, hcz30_1, hcz30_2, hcz30_3, hfz30_0, hfz30_1, hfz30_2, hfz30_3⟩ := cel4 BK335)); try go_wp2_with (first | ((with_reducible refine gate_dst (N := 2) rfl ?_); refine bx (N := 2) (cs := #[.int .i64 a0_0, .int .i64 a0_1, .int .i64 a0_2, .int .i64 a0_3]) (t := 62) ?_; intro gb335 hg w29 hbox hb; have BK335 := Aside0.mk hbox; have GW335 := sz hg HB; have GE335 := GW335; replace HB := bs HB hb; clear hb hbox hg; obtain ⟨hcz30_0, hcz30_1, hcz30_2, hcz30_3, hfz30_0, hfz30_1, hfz30_2, hfz30_3⟩ := cel4 BK335)))
          go_ret2
          exact ⟨by first | rfl | (simp [errW_none, errW_some] <;> rfl) | (simp only [← hji4, ← hji6, ← hji8]; first | rfl | (simp [errW_none, errW_some] <;> rfl)) | (simp [*, errW_none, errW_some] <;> rfl), bl HB⟩
         ·rw [if_neg c28] at H
          have c28b0 : (a0_0 == 7) = false := beq_eq_false_iff_ne.mpr c28
          have c28b1 : (a0_0 != 7) = true := bne_iff_ne.mpr c28
          by_cases c31 : a0_0 = 8
          ·rw [if_pos c31] at H
           have c31b0 : (a0_0 == 8) = true := beq_iff_eq.mpr c31
           have c31b1 : (a0_0 != 8) = false := bne_eq_false_iff_eq.mpr c31
           clear c31
           simp only [Option.some.injEq, Prod.mk.injEq] at H
           obtain ⟨rfl, rfl⟩ := H
           go_enter Try.func94, Try.ntmps94
           go_wp2_with (first | ((with_reducible refine gate_dst (N := 2) rfl ?_); refine bx (N := 2) (cs := #[.int .i64 a0_0, .int .i64 a0_1, .int .i64 a0_2, .int .i64 a0_3]) (t := 62) ?_; intro gb335 hg w32 hbox hb; have BK335 := Aside0.mk hbox; have GW335 := sz hg HB; have GE335 := GW335; replace HB := bs HB hb; clear hb hbox hg; obtain ⟨hcz33_0, hcz33_1, hcz33_2, hcz33_3, hfz33_0, hfz33_1, hfz33_2, hfz33_3⟩ := cel4 BK335))
           repeat (go_quiet (first | ((with_reducible refine gate_dst (N := 2) rfl ?_); refine bx (N := 2) (cs := #[.int .i64 a0_0, .int .i64 a0_1, .int .i64 a0_2, .int .i64 a0_3]) (t := 62) ?_; intro gb335 hg w32 hbox hb; have BK335 := Aside0.mk hbox; have GW335 := sz hg HB; have GE335 := GW335; replace HB := bs HB hb; clear hb hbox hg; obtain ⟨hcz33_0, hcz33_1, hcz33_2, hcz33_3, hfz33_0, hfz33_1, hfz33_2, hfz33_3⟩ := cel4 BK335)); try go_wp2_with (first | ((with_reducible refine gate_dst (N := 2) rfl ?_); refine bx (N := 2) (cs := #[.int .i64 a0_0, .int .i64 a0_1, .int .i64 a0_2, .int .i64 a0_3]) (t := 62) ?_; intro gb335 hg w32 hbox hb; have BK335 := Aside0.mk hbox; have GW335 := sz hg HB; have GE335 := GW335; replace HB := bs HB hb; clear hb hbox hg; obtain ⟨hcz33_0, hcz33_1, hcz33_2, hcz33_3, hfz33_0, hfz33_1, hfz33_2, hfz33_3⟩ := cel4 BK335)))
           go_ret2
           exact ⟨by first | rfl | (simp [errW_none, errW_some] <;> rfl) | (simp only [← hji4, ← hji6, ← hji8]; first | rfl | (simp [errW_none, errW_some] <;> rfl)) | (simp [*, errW_none, errW_some] <;> rfl), bl HB⟩
          ·rw [if_neg c31] at H
           have c31b0 : (a0_0 == 8) = false := beq_eq_false_iff_ne.mpr c31
           have c31b1 : (a0_0 != 8) = true := bne_iff_ne.mpr c31
           by_cases c34 : a0_0 = 9
           ·rw [if_pos c34] at H
            have c34b0 : (a0_0 == 9) = true := beq_iff_eq.mpr c34
            have c34b1 : (a0_0 != 9) = false := bne_eq_false_iff_eq.mpr c34
            clear c34
            have c35b0 := eq_true (of_decide_eq_true da : 0 ≤ a0_2)
            obtain ⟨ji36, hji36⟩ : ∃ j_ : Int, (shl .i64 (Go.bits .and .i64 (ji4) 1) a0_2) = j_ := ⟨_, rfl⟩
            replace H : (some (Go.bits .xor .i64 a1 (ji36), 0)) = some (r1, r2) := by first | (rw [hji36] at H; exact H) | (simp only [hji36] at H ⊢; exact H) | exact H
            have hji36_ : (IntKind.i64.wrap ((Go.bits .and .i64 (ji4) 1) * 2 ^ min a0_2.toNat 64)) = ji36 := hji36
            have hji36z : a0_2 ≤ 64 → (IntKind.i64.wrap ((Go.bits .and .i64 (ji4) 1) * 2 ^ a0_2.toNat)) = ji36 := shl_small hji36
            have hji36y : (wrap64 ((Go.bits .and .i64 (ji4) 1) * 2 ^ min a0_2.toNat 64)) = ji36 := (i64_w _).symm.trans hji36_
            have hji36x : a0_2 ≤ 64 → (wrap64 ((Go.bits .and .i64 (ji4) 1) * 2 ^ a0_2.toNat)) = ji36 := fun h_ => (i64_w _).symm.trans (hji36z h_)
            simp only [Option.some.injEq, Prod.mk.injEq] at H
            obtain ⟨rfl, rfl⟩ := H
            go_enter Try.func94, Try.ntmps94
            go_wp2_with (first | ((with_reducible refine gate_dst (N := 2) rfl ?_); refine bx (N := 2) (cs := #[.int .i64 a0_0, .int .i64 a0_1, .int .i64 a0_2, .int .i64 a0_3]) (t := 62) ?_; intro gb335 hg w37 hbox hb; have BK335 := Aside0.mk hbox; have GW335 := sz hg HB; have GE335 := GW335; replace HB := bs HB hb; clear hb hbox hg; obtain ⟨hcz38_0, hcz38_1, hcz38_2, hcz38_3, hfz38_0, hfz38_1, hfz38_2, hfz38_3⟩ := cel4 BK335))
            repeat (go_quiet (first | ((with_reducible refine gate_dst (N := 2) rfl ?_); refine bx (N := 2) (cs := #[.int .i64 a0_0, .int .i64 a0_1, .int .i64 a0_2, .int .i64 a0_3]) (t := 62) ?_; intro gb335 hg w37 hbox hb; have BK335 := Aside0.mk hbox; have GW335 := sz hg HB; have GE335 := GW335; replace HB := bs HB hb; clear hb hbox hg; obtain ⟨hcz38_0, hcz38_1, hcz38_2, hcz38_3, hfz38_0, hfz38_1, hfz38_2, hfz38_3⟩ := cel4 BK335)); try go_wp2_with (first | ((with_reducible refine gate_dst (N := 2) rfl ?_); refine bx (N := 2) (cs := #[.int .i64 a0_0, .int .i64 a0_1, .int .i64 a0_2, .int .i64 a0_3]) (t := 62) ?_; intro gb335 hg w37 hbox hb; have BK335 := Aside0.mk hbox; have GW335 := sz hg HB; have GE335 := GW335; replace HB := bs HB hb; clear hb hbox hg; obtain ⟨hcz38_0, hcz38_1, hcz38_2, hcz38_3, hfz38_0, hfz38_1, hfz38_2, hfz38_3⟩ := cel4 BK335)))
            go_ret2
            exact ⟨by first | rfl | (simp [errW_none, errW_some] <;> rfl) | (simp only [← hji4, ← hji6, ← hji8, ← hji36]; first | rfl | (simp [errW_none, errW_some] <;> rfl)) | (simp [*, errW_none, errW_some] <;> rfl), bl HB⟩
           ·rw [if_neg c34] at H
            have c34b0 : (a0_0 == 9) = false := beq_eq_false_iff_ne.mpr c34
            have c34b1 : (a0_0 != 9) = true := bne_iff_ne.mpr c34
            by_cases c39 : a0_0 = 10
            ·rw [if_pos c39] at H
             have c39b0 : (a0_0 == 10) = true := beq_iff_eq.mpr c39
             have c39b1 : (a0_0 != 10) = false := bne_eq_false_iff_eq.mpr c39
             clear c39
             simp only [Option.some.injEq, Prod.mk.injEq] at H
             obtain ⟨rfl, rfl⟩ := H
             go_enter Try.func94, Try.ntmps94
             go_wp2_with (first | ((with_reducible refine gate_dst (N := 2) rfl ?_); refine bx (N := 2) (cs := #[.int .i64 a0_0, .int .i64 a0_1, .int .i64 a0_2, .int .i64 a0_3]) (t := 62) ?_; intro gb335 hg w40 hbox hb; have BK335 := Aside0.mk hbox; have GW335 := sz hg HB; have GE335 := GW335; replace HB := bs HB hb; clear hb hbox hg; obtain ⟨hcz41_0, hcz41_1, hcz41_2, hcz41_3, hfz41_0, hfz41_1, hfz41_2, hfz41_3⟩ := cel4 BK335))
             repeat (go_quiet (first | ((with_reducible refine gate_dst (N := 2) rfl ?_); refine bx (N := 2) (cs := #[.int .i64 a0_0, .int .i64 a0_1, .int .i64 a0_2, .int .i64 a0_3]) (t := 62) ?_; intro gb335 hg w40 hbox hb; have BK335 := Aside0.mk hbox; have GW335 := sz hg HB; have GE335 := GW335; replace HB := bs HB hb; clear hb hbox hg; obtain ⟨hcz41_0, hcz41_1, hcz41_2, hcz41_3, hfz41_0, hfz41_1, hfz41_2, hfz41_3⟩ := cel4 BK335)); try go_wp2_with (first | ((with_reducible refine gate_dst (N := 2) rfl ?_); refine bx (N := 2) (cs := #[.int .i64 a0_0, .int .i64 a0_1, .int .i64 a0_2, .int .i64 a0_3]) (t := 62) ?_; intro gb335 hg w40 hbox hb; have BK335 := Aside0.mk hbox; have GW335 := sz hg HB; have GE335 := GW335; replace HB := bs HB hb; clear hb hbox hg; obtain ⟨hcz41_0, hcz41_1, hcz41_2, hcz41_3, hfz41_0, hfz41_1, hfz41_2, hfz41_3⟩ := cel4 BK335)))
             go_ret2
             exact ⟨by first | rfl | (simp [errW_none, errW_some] <;> rfl) | (simp only [← hji4, ← hji6, ← hji8]; first | rfl | (simp [errW_none, errW_some] <;> rfl)) | (simp [*, errW_none, errW_some] <;> rfl), bl HB⟩
            ·rw [if_neg c39] at H
             have c39b0 : (a0_0 == 10) = false := beq_eq_false_iff_ne.mpr c39
             have c39b1 : (a0_0 != 10) = true := bne_iff_ne.mpr c39
             by_cases c42 : a0_0 = 11
             ·rw [if_pos c42] at H
              have c42b0 : (a0_0 == 11) = true := beq_iff_eq.mpr c42
              have c42b1 : (a0_0 != 11) = false := bne_eq_false_iff_eq.mpr c42
              clear c42
              by_cases c43 : (Go.bits .and .i64 (ji4) 1) = (Go.bits .and .i64 (ji6) 1)
              ·rw [if_pos c43] at H
               have c43b0 : ((Go.bits .and .i64 (ji4) 1) == (Go.bits .and .i64 (ji6) 1)) = true := beq_iff_eq.mpr c43
               have c43b1 : ((Go.bits .and .i64 (ji4) 1) != (Go.bits .and .i64 (ji6) 1)) = false := bne_eq_false_iff_eq.mpr c43
               clear c43
               simp only [Option.some.injEq, Prod.mk.injEq] at H
               obtain ⟨rfl, rfl⟩ := H
               go_enter Try.func94, Try.ntmps94
               go_wp2_with (first | ((with_reducible refine gate_dst (N := 2) rfl ?_); refine bx (N := 2) (cs := #[.int .i64 a0_0, .int .i64 a0_1, .int .i64 a0_2, .int .i64 a0_3]) (t := 62) ?_; intro gb335 hg w44 hbox hb; have BK335 := Aside0.mk hbox; have GW335 := sz hg HB; have GE335 := GW335; replace HB := bs HB hb; clear hb hbox hg; obtain ⟨hcz45_0, hcz45_1, hcz45_2, hcz45_3, hfz45_0, hfz45_1, hfz45_2, hfz45_3⟩ := cel4 BK335))
               repeat (go_quiet (first | ((with_reducible refine gate_dst (N := 2) rfl ?_); refine bx (N := 2) (cs := #[.int .i64 a0_0, .int .i64 a0_1, .int .i64 a0_2, .int .i64 a0_3]) (t := 62) ?_; intro gb335 hg w44 hbox hb; have BK335 := Aside0.mk hbox; have GW335 := sz hg HB; have GE335 := GW335; replace HB := bs HB hb; clear hb hbox hg; obtain ⟨hcz45_0, hcz45_1, hcz45_2, hcz45_3, hfz45_0, hfz45_1, hfz45_2, hfz45_3⟩ := cel4 BK335)); try go_wp2_with (first | ((with_reducible refine gate_dst (N := 2) rfl ?_); refine bx (N := 2) (cs := #[.int .i64 a0_0, .int .i64 a0_1, .int .i64 a0_2, .int .i64 a0_3]) (t := 62) ?_; intro gb335 hg w44 hbox hb; have BK335 := Aside0.mk hbox; have GW335 := sz hg HB; have GE335 := GW335; replace HB := bs HB hb; clear hb hbox hg; obtain ⟨hcz45_0, hcz45_1, hcz45_2, hcz45_3, hfz45_0, hfz45_1, hfz45_2, hfz45_3⟩ := cel4 BK335)))
               go_ret2
               exact ⟨by first | rfl | (simp [errW_none, errW_some] <;> rfl) | (simp only [← hji4, ← hji6, ← hji8]; first | rfl | (simp [errW_none, errW_some] <;> rfl)) | (simp [*, errW_none, errW_some] <;> rfl), bl HB⟩
              ·rw [if_neg c43] at H
               have c43b0 : ((Go.bits .and .i64 (ji4) 1) == (Go.bits .and .i64 (ji6) 1)) = false := beq_eq_false_iff_ne.mpr c43
               have c43b1 : ((Go.bits .and .i64 (ji4) 1) != (Go.bits .and .i64 (ji6) 1)) = true := bne_iff_ne.mpr c43
               have c46b0 := eq_true (of_decide_eq_true da : 0 ≤ a0_1)
               obtain ⟨ji47, hji47⟩ : ∃ j_ : Int, (shl .i64 1 a0_1) = j_ := ⟨_, rfl⟩
               replace H : (some (Go.bits .xor .i64 (Go.bits .xor .i64 a1 (ji47)) (shl .i64 1 a0_2), 0)) = some (r1, r2) := by first | (rw [hji47] at H; exact H) | (simp only [hji47] at H ⊢; exact H) | exact H
               have hji47_ : (IntKind.i64.wrap (1 * 2 ^ min a0_1.toNat 64)) = ji47 := hji47
               have hji47z : a0_1 ≤ 64 → (IntKind.i64.wrap (1 * 2 ^ a0_1.toNat)) = ji47 := shl_small hji47
               have hji47u : (IntKind.i64.wrap (2 ^ min a0_1.toNat 64)) = ji47 := by have h_ := hji47_; rw [Int.one_mul] at h_; exact h_
               have hji47v : a0_1 ≤ 64 → (IntKind.i64.wrap (2 ^ a0_1.toNat)) = ji47 := fun hle_ => by have h_ := hji47z hle_; rw [Int.one_mul] at h_; exact h_
               have hji47y : (wrap64 (1 * 2 ^ min a0_1.toNat 64)) = ji47 := (i64_w _).symm.trans hji47_
               have hji47x : a0_1 ≤ 64 → (wrap64 (1 * 2 ^ a0_1.toNat)) = ji47 := fun h_ => (i64_w _).symm.trans (hji47z h_)
               have c48b0 := eq_true (of_decide_eq_true da : 0 ≤ a0_2)
               obtain ⟨ji49, hji49⟩ : ∃ j_ : Int, (shl .i64 1 a0_2) = j_ := ⟨_, rfl⟩
               replace H : (some (Go.bits .xor .i64 (Go.bits .xor .i64 a1 (ji47)) (ji49), 0)) = some (r1, r2) := by first | (rw [hji49] at H; exact H) | (simp only [hji49] at H ⊢; exact H) | exact H
               have hji49_ : (IntKind.i64.wrap (1 * 2 ^ min a0_2.toNat 64)) = ji49 := hji49
               have hji49z : a0_2 ≤ 64 → (IntKind.i64.wrap (1 * 2 ^ a0_2.toNat)) = ji49 := shl_small hji49
               have hji49u : (IntKind.i64.wrap (2 ^ min a0_2.toNat 64)) = ji49 := by have h_ := hji49_; rw [Int.one_mul] at h_; exact h_
               have hji49v : a0_2 ≤ 64 → (IntKind.i64.wrap (2 ^ a0_2.toNat)) = ji49 := fun hle_ => by have h_ := hji49z hle_; rw [Int.one_mul] at h_; exact h_
               have hji49y : (wrap64 (1 * 2 ^ min a0_2.toNat 64)) = ji49 := (i64_w _).symm.trans hji49_
               have hji49x : a0_2 ≤ 64 → (wrap64 (1 * 2 ^ a0_2.toNat)) = ji49 := fun h_ => (i64_w _).symm.trans (hji49z h_)
               simp only [Option.some.injEq, Prod.mk.injEq] at H
               obtain ⟨rfl, rfl⟩ := H
               go_enter Try.func94, Try.ntmps94
               go_wp2_with (first | ((with_reducible refine gate_dst (N := 2) rfl ?_); refine bx (N := 2) (cs := #[.int .i64 a0_0, .int .i64 a0_1, .int .i64 a0_2, .int .i64 a0_3]) (t := 62) ?_; intro gb335 hg w50 hbox hb; have BK335 := Aside0.mk hbox; have GW335 := sz hg HB; have GE335 := GW335; replace HB := bs HB hb; clear hb hbox hg; obtain ⟨hcz51_0, hcz51_1, hcz51_2, hcz51_3, hfz51_0, hfz51_1, hfz51_2, hfz51_3⟩ := cel4 BK335))
               repeat (go_quiet (first | ((with_reducible refine gate_dst (N := 2) rfl ?_); refine bx (N := 2) (cs := #[.int .i64 a0_0, .int .i64 a0_1, .int .i64 a0_2, .int .i64 a0_3]) (t := 62) ?_; intro gb335 hg w50 hbox hb; have BK335 := Aside0.mk hbox; have GW335 := sz hg HB; have GE335 := GW335; replace HB := bs HB hb; clear hb hbox hg; obtain ⟨hcz51_0, hcz51_1, hcz51_2, hcz51_3, hfz51_0, hfz51_1, hfz51_2, hfz51_3⟩ := cel4 BK335)); try go_wp2_with (first | ((with_reducible refine gate_dst (N := 2) rfl ?_); refine bx (N := 2) (cs := #[.int .i64 a0_0, .int .i64 a0_1, .int .i64 a0_2, .int .i64 a0_3]) (t := 62) ?_; intro gb335 hg w50 hbox hb; have BK335 := Aside0.mk hbox; have GW335 := sz hg HB; have GE335 := GW335; replace HB := bs HB hb; clear hb hbox hg; obtain ⟨hcz51_0, hcz51_1, hcz51_2, hcz51_3, hfz51_0, hfz51_1, hfz51_2, hfz51_3⟩ := cel4 BK335)))
               go_ret2
               exact ⟨by first | rfl | (simp [errW_none, errW_some] <;> rfl) | (simp only [← hji4, ← hji6, ← hji8, ← hji47, ← hji49]; first | rfl | (simp [errW_none, errW_some] <;> rfl)) | (simp [*, errW_none, errW_some] <;> rfl), bl HB⟩
             ·rw [if_neg c42] at H
              have c42b0 : (a0_0 == 11) = false := beq_eq_false_iff_ne.mpr c42
              have c42b1 : (a0_0 != 11) = true := bne_iff_ne.mpr c42
              have c52b0 := eq_true (of_decide_eq_true da : 0 ≤ a0_3)
              obtain ⟨ji53, hji53⟩ : ∃ j_ : Int, (shl .i64 (wrap64 ((Go.bits .and .i64 (ji4) 1) * (Go.bits .and .i64 (ji6) 1))) a0_3) = j_ := ⟨_, rfl⟩
              replace H : (some (Go.bits .xor .i64 a1 (ji53), 0)) = some (r1, r2) := by first | (rw [hji53] at H; exact H) | (simp only [hji53] at H ⊢; exact H) | exact H
              have hji53_ : (IntKind.i64.wrap ((wrap64 ((Go.bits .and .i64 (ji4) 1) * (Go.bits .and .i64 (ji6) 1))) * 2 ^ min a0_3.toNat 64)) = ji53 := hji53
              have hji53z : a0_3 ≤ 64 → (IntKind.i64.wrap ((wrap64 ((Go.bits .and .i64 (ji4) 1) * (Go.bits .and .i64 (ji6) 1))) * 2 ^ a0_3.toNat)) = ji53 := shl_small hji53
              have hji53y : (wrap64 ((wrap64 ((Go.bits .and .i64 (ji4) 1) * (Go.bits .and .i64 (ji6) 1))) * 2 ^ min a0_3.toNat 64)) = ji53 := (i64_w _).symm.trans hji53_
              have hji53x : a0_3 ≤ 64 → (wrap64 ((wrap64 ((Go.bits .and .i64 (ji4) 1) * (Go.bits .and .i64 (ji6) 1))) * 2 ^ a0_3.toNat)) = ji53 := fun h_ => (i64_w _).symm.trans (hji53z h_)
              simp only [Option.some.injEq, Prod.mk.injEq] at H
              obtain ⟨rfl, rfl⟩ := H
              go_enter Try.func94, Try.ntmps94
              go_wp2_with (first | ((with_reducible refine gate_dst (N := 2) rfl ?_); refine bx (N := 2) (cs := #[.int .i64 a0_0, .int .i64 a0_1, .int .i64 a0_2, .int .i64 a0_3]) (t := 62) ?_; intro gb335 hg w54 hbox hb; have BK335 := Aside0.mk hbox; have GW335 := sz hg HB; have GE335 := GW335; replace HB := bs HB hb; clear hb hbox hg; obtain ⟨hcz55_0, hcz55_1, hcz55_2, hcz55_3, hfz55_0, hfz55_1, hfz55_2, hfz55_3⟩ := cel4 BK335))
              repeat (go_quiet (first | ((with_reducible refine gate_dst (N := 2) rfl ?_); refine bx (N := 2) (cs := #[.int .i64 a0_0, .int .i64 a0_1, .int .i64 a0_2, .int .i64 a0_3]) (t := 62) ?_; intro gb335 hg w54 hbox hb; have BK335 := Aside0.mk hbox; have GW335 := sz hg HB; have GE335 := GW335; replace HB := bs HB hb; clear hb hbox hg; obtain ⟨hcz55_0, hcz55_1, hcz55_2, hcz55_3, hfz55_0, hfz55_1, hfz55_2, hfz55_3⟩ := cel4 BK335)); try go_wp2_with (first | ((with_reducible refine gate_dst (N := 2) rfl ?_); refine bx (N := 2) (cs := #[.int .i64 a0_0, .int .i64 a0_1, .int .i64 a0_2, .int .i64 a0_3]) (t := 62) ?_; intro gb335 hg w54 hbox hb; have BK335 := Aside0.mk hbox; have GW335 := sz hg HB; have GE335 := GW335; replace HB := bs HB hb; clear hb hbox hg; obtain ⟨hcz55_0, hcz55_1, hcz55_2, hcz55_3, hfz55_0, hfz55_1, hfz55_2, hfz55_3⟩ := cel4 BK335)))
              go_ret2
              exact ⟨by first | rfl | (simp [errW_none, errW_some] <;> rfl) | (simp only [← hji4, ← hji6, ← hji8, ← hji53]; first | rfl | (simp [errW_none, errW_some] <;> rfl)) | (simp [*, errW_none, errW_some] <;> rfl), bl HB⟩
   ·rw [if_neg c7] at H
    exact absurd H (by simp)
  ·rw [if_neg c5] at H
   exact absurd H (by simp)
 ·rw [if_neg c3] at H
  exact absurd H (by simp)
/-! ### impl_PathSumStep: function 61 -/
mutual
def impl_PathSumStep.j0 : Nat → Int → Int → Int → Bool → Int → Int → Int → Int → Option (Int × Int)
 | 0, _, _, _, _, _, _, _, _ => none
 | k + 1, x1, x2, x3, x19, x337000, x337001, x337002, x337003 => if x19 = true then ((impl_mod8.f x2).bind fun t339 => (some (x1, t339))) else (if x337000 = 4 then (if 0 ≤ x337001 then (if (Go.bits .and .i64 (shr .i64 x1 x337001) 1) = 1 then (impl_PathSumStep.j1 k x1 x2 x3 (x3 == 1) x337000 x337001 x337002 x337003) else (impl_PathSumStep.j1 k x1 x2 x3 false x337000 x337001 x337002 x337003)) else (none)) else ((impl_moved.f x337000 x337001 x337002 x337003 x1).bind fun bt342 => ((impl_mod8.f (wrap64 (x2 + bt342.2))).bind fun t344 => (some (bt342.1, t344)))))
def impl_PathSumStep.j1 : Nat → Int → Int → Int → Bool → Int → Int → Int → Int → Option (Int × Int)
 | 0, _, _, _, _, _, _, _, _ => none
 | k + 1, x1, x2, x3, x35, x337000, x337001, x337002, x337003 => if x35 = true then (if 0 ≤ x337001 then ((impl_mod8.f (wrap64 (x2 + 4))).bind fun t340 => (some (Go.bits .or .i64 (Go.bits .andNot .i64 x1 (shl .i64 1 x337001)) (shl .i64 x3 x337001), t340))) else (none)) else (if 0 ≤ x337001 then ((impl_mod8.f x2).bind fun t341 => (some (Go.bits .or .i64 (Go.bits .andNot .i64 x1 (shl .i64 1 x337001)) (shl .i64 x3 x337001), t341))) else (none))
end
def impl_PathSumStep.f (k : Nat) (a0_0 : Int) (a0_1 : Int) (a0_2 : Int) (a0_3 : Int) (a1 : Int) (a2 : Int) (a3 : Int) : Option (Int × Int) := (impl_IsValidGate.f a0_0 a0_1 a0_2 a0_3 4).bind fun t337 => (if t337 = true then ((impl_in.f a3 0 1).bind fun t338 => (impl_PathSumStep.j0 k a1 a2 a3 (!t338) a0_0 a0_1 a0_2 a0_3)) else (impl_PathSumStep.j0 k a1 a2 a3 true a0_0 a0_1 a0_2 a0_3))
set_option maxHeartbeats 8000000 in
set_option maxRecDepth 100000 in
theorem impl_PathSumStep.calls (k : Nat) (a0_0 : Int) (a0_1 : Int) (a0_2 : Int) (a0_3 : Int) (a1 : Int) (a2 : Int) (a3 : Int) (r1 : Int) (r2 : Int) (w : World) (h : impl_PathSumStep.f k a0_0 a0_1 a0_2 a0_3 a1 a2 a3 = some (r1, r2)) :
  Calls Try.prog 61 #[.agg #[.int .i64 a0_0, .int .i64 a0_1, .int .i64 a0_2, .int .i64 a0_3], .int .i64 a1, .int .i64 a2, .int .i64 a3] w fun e w' => e = .returned (.tuple #[.int .i64 r1, .int .i64 r2]) ∧ Below w.heap.size w w' := by
 have hu62 := Try.underlying62
 have HB := Aside0.mk (Below.refl w.heap.size w)
 have H := h
 clear h
 unfold impl_PathSumStep.f at H
 have HC5 := Aside0.mk H
 clear H
 go_enter Try.func61, Try.ntmps61
 go_upto_region 1 with (first | ((with_reducible refine gate_dst (N := 4) rfl ?_); refine bx (N := 4) (cs := #[.int .i64 a0_0, .int .i64 a0_1, .int .i64 a0_2, .int .i64 a0_3]) (t := 62) ?_; intro gb336 hg w6 hbox hb; have BK336 := Aside0.mk hbox; have GW336 := sz hg HB; have GE336 := GW336; replace HB := bs HB hb; clear hb hbox hg))
 repeat (go_quiet (first | ((with_reducible refine gate_dst (N := 4) rfl ?_); refine bx (N := 4) (cs := #[.int .i64 a0_0, .int .i64 a0_1, .int .i64 a0_2, .int .i64 a0_3]) (t := 62) ?_; intro gb336 hg w6 hbox hb; have BK336 := Aside0.mk hbox; have GW336 := sz hg HB; have GE336 := GW336; replace HB := bs HB hb; clear hb hbox hg)); go_upto_region 1 with (first | ((with_reducible refine gate_dst (N := 4) rfl ?_); refine bx (N := 4) (cs := #[.int .i64 a0_0, .int .i64 a0_1, .int .i64 a0_2, .int .i64 a0_3]) (t := 62) ?_; intro gb336 hg w6 hbox hb; have BK336 := Aside0.mk hbox; have GW336 := sz hg HB; have GE336 := GW336; replace HB := bs HB hb; clear hb hbox hg)))
 (try simp only [Act.put, List.setIfInBounds_toArray, List.set_cons_zero, List.set_cons_succ])
 go_cut [19] (fun v19 wc => ∃ (kq : Nat) (x19_4 : Bool), v19 = .bool x19_4 ∧ Aside0 (impl_PathSumStep.j0 kq a1 a2 a3 x19_4 a0_0 a0_1 a0_2 a0_3 = some (r1, r2)) ∧ Aside0 (kq ≤ k) ∧ Aside0 (wc.heap[gb336]? = some (.cells #[.int .i64 a0_0, .int .i64 a0_1, .int .i64 a0_2, .int .i64 a0_3] 62 (0, 0))) ∧ Aside0 (Below w.heap.size w wc))
 case first =>
  have H := HC5.out
  clear HC5
  replace H := Option.bind_eq_some_iff.mp H
  obtain ⟨t337, A70, H⟩ := H
  try dsimp only at H
  have A7 := Aside0.mk A70
  clear A70
  by_cases c8 : t337 = true
  ·subst c8
   rw [if_pos rfl] at H
   replace H := Option.bind_eq_some_iff.mp H
   obtain ⟨t338, A90, H⟩ := H
   try dsimp only at H
   have A9 := Aside0.mk A90
   clear A90
   have H' := Aside0.mk H
   clear H
   obtain ⟨hcz10_0, hcz10_1, hcz10_2, hcz10_3, hfz10_0, hfz10_1, hfz10_2, hfz10_3⟩ := cel4 BK336
   go_wp2_with (first | (go_at_call 32; (with_reducible refine (impl_IsValidGate.calls a0_0 a0_1 a0_2 a0_3 4 true _ A7.out).mono ?_); rintro e w11 ⟨rfl, hb⟩; replace BK336 := cb BK336 hb; replace HB := bs HB hb; (try clear hb); (try clear hb2); (try clear hk); (try clear hi)) | (go_at_call 31; (with_reducible refine (impl_in.calls a3 0 1 t338 _ A9.out).mono ?_); rintro e w' ⟨rfl, ⟨nd, rfl⟩⟩; (try first | exact ⟨rfl, _, World.drewN_drewN _ _ _⟩ | exact ⟨rfl, _, Eq.trans (World.drewN_drewN _ _ _) (congrArg (World.drewN _) (Nat.add_assoc _ _ _))⟩)))
   repeat (go_quiet (first | (go_at_call 32; (with_reducible refine (impl_IsValidGate.calls a0_0 a0_1 a0_2 a0_3 4 true _ A7.out).mono ?_); rintro e w11 ⟨rfl, hb⟩; replace BK336 := cb BK336 hb; replace HB := bs HB hb; (try clear hb); (try clear hb2); (try clear hk); (try clear hi)) | (go_at_call 31; (with_reducible refine (impl_in.calls a3 0 1 t338 _ A9.out).mono ?_); rintro e w' ⟨rfl, ⟨nd, rfl⟩⟩; (try first | exact ⟨rfl, _, World.drewN_drewN _ _ _⟩ | exact ⟨rfl, _, Eq.trans (World.drewN_drewN _ _ _) (congrArg (World.drewN _) (Nat.add_assoc _ _ _))⟩))); try go_wp2_with (first | (go_at_call 32; (with_reducible refine (impl_IsValidGate.calls a0_0 a0_1 a0_2 a0_3 4 true _ A7.out).mono ?_); rintro e w11 ⟨rfl, hb⟩; replace BK336 := cb BK336 hb; replace HB := bs HB hb; (try clear hb); (try clear hb2); (try clear hk); (try clear hi)) | (go_at_call 31; (with_reducible refine (impl_in.calls a3 0 1 t338 _ A9.out).mono ?_); rintro e w' ⟨rfl, ⟨nd, rfl⟩⟩; (try first | exact ⟨rfl, _, World.drewN_drewN _ _ _⟩ | exact ⟨rfl, _, Eq.trans (World.drewN_drewN _ _ _) (congrArg (World.drewN _) (Nat.add_assoc _ _ _))⟩))))
   go_meet
   case rel => exact ⟨_, (!t338), rs, H', ⟨by first | omega | exact Nat.le_refl _⟩, ⟨pl BK336⟩, ⟨bl HB⟩⟩
  ·replace c8 := Bool.eq_false_iff.mpr c8
   subst c8
   rw [nf] at H
   have H' := Aside0.mk H
   clear H
   obtain ⟨hcz12_0, hcz12_1, hcz12_2, hcz12_3, hfz12_0, hfz12_1, hfz12_2, hfz12_3⟩ := cel4 BK336
   go_wp2_with (first | (go_at_call 32; (with_reducible refine (impl_IsValidGate.calls a0_0 a0_1 a0_2 a0_3 4 false _ A7.out).mono ?_); rintro e w13 ⟨rfl, hb⟩; replace BK336 := cb BK336 hb; replace HB := bs HB hb; (try clear hb); (try clear hb2); (try clear hk); (try clear hi)))
   repeat (go_quiet (first | (go_at_call 32; (with_reducible refine (impl_IsValidGate.calls a0_0 a0_1 a0_2 a0_3 4 false _ A7.out).mono ?_); rintro e w13 ⟨rfl, hb⟩; replace BK336 := cb BK336 hb; replace HB := bs HB hb; (try clear hb); (try clear hb2); (try clear hk); (try clear hi))); try go_wp2_with (first | (go_at_call 32; (with_reducible refine (impl_IsValidGate.calls a0_0 a0_1 a0_2 a0_3 4 false _ A7.out).mono ?_); rintro e w13 ⟨rfl, hb⟩; replace BK336 := cb BK336 hb; replace HB := bs HB hb; (try clear hb); (try clear hb2); (try clear hk); (try clear hi))))
   go_meet
   case rel => exact ⟨_, (true), rs, H', ⟨by first | omega | exact Nat.le_refl _⟩, ⟨pl BK336⟩, ⟨bl HB⟩⟩
 case rest =>
  clear HC5
  try clear p2
  try clear c6
  try clear c8
  try clear hcz10_0
  try clear hcz10_1
  try clear hcz10_2
  try clear hcz10_3
  try clear hcz12_0
  try clear hcz12_1
  try clear hcz12_2
  try clear hcz12_3
  try clear hfz10_0
  try clear hfz10_1
  try clear hfz10_2
  try clear hfz10_3
  try clear hfz12_0
  try clear hfz12_1
  try clear hfz12_2
  try clear hfz12_3
  obtain ⟨kq, x19_4, rfl, HA, HJ4, BK336, HB⟩ := hcut
  cases kq with
  | zero => exact absurd HA.out (by simp [impl_PathSumStep.j0])
  | succ kj4 =>
   have H := HA.out
   clear HA
   simp only [impl_PathSumStep.j0] at H
   by_cases c14 : x19_4 = true
   ·subst c14
    rw [if_pos rfl] at H
    replace H := Option.bind_eq_some_iff.mp H
    obtain ⟨t339, A150, H⟩ := H
    try dsimp only at H
    have A15 := Aside0.mk A150
    clear A150
    simp only [Option.some.injEq, Prod.mk.injEq] at H
    obtain ⟨rfl, rfl⟩ := H
    go_wp2_with (first | (go_at_call 93; (with_reducible refine (impl_mod8.calls a2 t339 _ A15.out).mono ?_); rintro e w' ⟨rfl, ⟨nd, rfl⟩⟩; (try first | exact ⟨rfl, _, World.drewN_drewN _ _ _⟩ | exact ⟨rfl, _, Eq.trans (World.drewN_drewN _ _ _) (congrArg (World.drewN _) (Nat.add_assoc _ _ _))⟩)))
    repeat (go_quiet (first | (go_at_call 93; (with_reducible refine (impl_mod8.calls a2 t339 _ A15.out).mono ?_); rintro e w' ⟨rfl, ⟨nd, rfl⟩⟩; (try first | exact ⟨rfl, _, World.drewN_drewN _ _ _⟩ | exact ⟨rfl, _, Eq.trans (World.drewN_drewN _ _ _) (congrArg (World.drewN _) (Nat.add_assoc _ _ _))⟩))); try go_wp2_with (first | (go_at_call 93; (with_reducible refine (impl_mod8.calls a2 t339 _ A15.out).mono ?_); rintro e w' ⟨rfl, ⟨nd, rfl⟩⟩; (try first | exact ⟨rfl, _, World.drewN_drewN _ _ _⟩ | exact ⟨rfl, _, Eq.trans (World.drewN_drewN _ _ _) (congrArg (World.drewN _) (Nat.add_assoc _ _ _))⟩))))
    go_ret2
    exact ⟨er, bl HB⟩
   ·replace c14 := Bool.eq_false_iff.mpr c14
    subst c14
    rw [nf] at H
    by_cases c16 : a0_0 = 4
    ·rw [if_pos c16] at H
     have c16b0 : (a0_0 == 4) = true := beq_iff_eq.mpr c16
     have c16b1 : (a0_0 != 4) = false := bne_eq_false_iff_eq.mpr c16
     clear c16
     have HC17 := Aside0.mk H
     clear H
     obtain ⟨hcz18_0, hcz18_1, hcz18_2, hcz18_3, hfz18_0, hfz18_1, hfz18_2, hfz18_3⟩ := cel4 BK336
     go_upto_region 4 with (fail)
     repeat (go_quiet (fail); go_upto_region 4 with (fail))
     go_cut [35] (fun v35 wc => ∃ (kq : Nat) (x35_16 : Bool), v35 = .bool x35_16 ∧ Aside0 (impl_PathSumStep.j1 kq a1 a2 a3 x35_16 a0_0 a0_1 a0_2 a0_3 = some (r1, r2)) ∧ Aside0 (kq ≤ kj4) ∧ Aside0 (wc.heap[gb336]? = some (.cells #[.int .i64 a0_0, .int .i64 a0_1, .int .i64 a0_2, .int .i64 a0_3] 62 (0, 0))) ∧ Aside0 (Below w.heap.size w wc))
     case first =>
      have H := HC17.out
      clear HC17
      by_cases c19 : 0 ≤ a0_1
      ·rw [if_pos c19] at H
       have c19b0 := eq_true c19
       have c19b1 : decide (0 ≤ a0_1) = true := decide_eq_true c19
       clear c19
       obtain ⟨ji20, hji20⟩ : ∃ j_ : Int, (shr .i64 a1 a0_1) = j_ := ⟨_, rfl⟩
       replace H : (if (Go.bits .and .i64 (ji20) 1) = 1 then (impl_PathSumStep.j1 kj4 a1 a2 a3 (a3 == 1) a0_0 a0_1 a0_2 a0_3) else (impl_PathSumStep.j1 kj4 a1 a2 a3 false a0_0 a0_1 a0_2 a0_3)) = some (r1, r2) := by first | (rw [hji20] at H; exact H) | (simp only [hji20] at H ⊢; exact H) | exact H
       have hji20_ : (a1 / 2 ^ min a0_1.toNat 64) = ji20 := hji20
       have hji20z : a0_1 ≤ 64 → (a1 / 2 ^ a0_1.toNat) = ji20 := shr_small hji20
       by_cases c21 : (Go.bits .and .i64 (ji20) 1) = 1
       ·rw [if_pos c21] at H
        have c21b0 : ((Go.bits .and .i64 (ji20) 1) == 1) = true := beq_iff_eq.mpr c21
        have c21b1 : ((Go.bits .and .i64 (ji20) 1) != 1) = false := bne_eq_false_iff_eq.mpr c21
        clear c21
        (first | rw [c21b0] | (simp only [i64_w, i32_w]; rw [c21b0]) | skip)
        have H' := Aside0.mk H
        clear H
        obtain ⟨hcz22_0, hcz22_1, hcz22_2, hcz22_3, hfz22_0, hfz22_1, hfz22_2, hfz22_3⟩ := cel4 BK336
        go_wp2
        repeat (go_quiet (fail); try go_wp2)
        go_meet
        case rel => exact ⟨_, ((a3 == 1)), rs, H', ⟨by have := HJ4.out; first | omega | exact Nat.le_refl _⟩, ⟨pl BK336⟩, ⟨bl HB⟩⟩
       ·rw [if_neg c21] at H
        have c21b0 : ((Go.bits .and .i64 (ji20) 1) == 1) = false := beq_eq_false_iff_ne.mpr c21
        have c21b1 : ((Go.bits .and .i64 (ji20) 1) != 1) = true := bne_iff_ne.mpr c21
        (first | rw [c21b0] | (simp only [i64_w, i32_w]; rw [c21b0]) | skip)
        have H' := Aside0.mk H
        clear H
        obtain ⟨hcz23_0, hcz23_1, hcz23_2, hcz23_3, hfz23_0, hfz23_1, hfz23_2, hfz23_3⟩ := cel4 BK336
        go_wp2
        repeat (go_quiet (fail); try go_wp2)
        go_meet
        case rel => exact ⟨_, (false), rs, H', ⟨by have := HJ4.out; first | omega | exact Nat.le_refl _⟩, ⟨pl BK336⟩, ⟨bl HB⟩⟩
      ·rw [if_neg c19] at H
       exact absurd H (by simp)
     case rest =>
      clear HC17
      try clear c1
      try clear c2
      try clear p2
      try clear c6
      try clear p6
      try clear c8
      try clear c14
      try clear c16
      try clear c16b0
      try clear c16b1
      try clear c19
      try clear c19b0
      try clear c19b1
      try clear c21
      try clear c21b0
      try clear c21b1
      try clear hcz10_0
      try clear hcz10_1
      try clear hcz10_2
      try clear hcz10_3
      try clear hcz12_0
      try clear hcz12_1
      try clear hcz12_2
      try clear hcz12_3
      try clear hcz18_0
      try clear hcz18_1
      try clear hcz18_2
      try clear hcz18_3
      try clear hcz22_0
      try clear hcz22_1
      try clear hcz22_2
      try clear hcz22_3
      try clear hcz23_0
      try clear hcz23_1
      try clear hcz23_2
      try clear hcz23_3
      try clear hfz10_0
      try clear hfz10_1
      try clear hfz10_2
      try clear hfz10_3
      try clear hfz12_0
      try clear hfz12_1
      try clear hfz12_2
      try clear hfz12_3
      try clear hfz18_0
      try clear hfz18_1
      try clear hfz18_2
      try clear hfz18_3
      try clear hfz22_0
      try clear hfz22_1
      try clear hfz22_2
      try clear hfz22_3
      try clear hfz23_0
      try clear hfz23_1
      try clear hfz23_2
      try clear hfz23_3
      try clear p2
      obtain ⟨kq, x35_16, rfl, HA, HJ16, BK336, HB⟩ := hcut
      cases kq with
      | zero => exact absurd HA.out (by simp [impl_PathSumStep.j1])
      | succ kj16 =>
       have H := HA.out
       clear HA
       simp only [impl_PathSumStep.j1] at H
       by_cases c24 : x35_16 = true
       ·subst c24
        rw [if_pos rfl] at H
        by_cases c25 : 0 ≤ a0_1
        ·rw [if_pos c25] at H
         have c25b0 := eq_true c25
         have c25b1 : decide (0 ≤ a0_1) = true := decide_eq_true c25
         clear c25
         obtain ⟨ji26, hji26⟩ : ∃ j_ : Int, (shl .i64 1 a0_1) = j_ := ⟨_, rfl⟩
         replace H : ((impl_mod8.f (wrap64 (a2 + 4))).bind fun t340 => (some (Go.bits .or .i64 (Go.bits .andNot .i64 a1 (ji26)) (shl .i64 a3 a0_1), t340))) = some (r1, r2) := by first | (rw [hji26] at H; exact H) | (simp only [hji26] at H ⊢; exact H) | exact H
         have hji26_ : (IntKind.i64.wrap (1 * 2 ^ min a0_1.toNat 64)) = ji26 := hji26
         have hji26z : a0_1 ≤ 64 → (IntKind.i64.wrap (1 * 2 ^ a0_1.toNat)) = ji26 := shl_small hji26
         have hji26u : (IntKind.i64.wrap (2 ^ min a0_1.toNat 64)) = ji26 := by have h_ := hji26_; rw [Int.one_mul] at h_; exact h_
         have hji26v : a0_1 ≤ 64 → (IntKind.i64.wrap (2 ^ a0_1.toNat)) = ji26 := fun hle_ => by have h_ := hji26z hle_; rw [Int.one_mul] at h_; exact h_
         have hji26y : (wrap64 (1 * 2 ^ min a0_1.toNat 64)) = ji26 := (i64_w _).symm.trans hji26_
         have hji26x : a0_1 ≤ 64 → (wrap64 (1 * 2 ^ a0_1.toNat)) = ji26 := fun h_ => (i64_w _).symm.trans (hji26z h_)
         have c27b0 := eq_true (of_decide_eq_true da : 0 ≤ a0_1)
         obtain ⟨ji28, hji28⟩ : ∃ j_ : Int, (shl .i64 a3 a0_1) = j_ := ⟨_, rfl⟩
         replace H : ((impl_mod8.f (wrap64 (a2 + 4))).bind fun t340 => (some (Go.bits .or .i64 (Go.bits .andNot .i64 a1 (ji26)) (ji28), t340))) = some (r1, r2) := by first | (rw [hji28] at H; exact H) | (simp only [hji28] at H ⊢; exact H) | exact H
         have hji28_ : (IntKind.i64.wrap (a3 * 2 ^ min a0_1.toNat 64)) = ji28 := hji28
         have hji28z : a0_1 ≤ 64 → (IntKind.i64.wrap (a3 * 2 ^ a0_1.toNat)) = ji28 := shl_small hji28
         have hji28y : (wrap64 (a3 * 2 ^ min a0_1.toNat 64)) = ji28 := (i64_w _).symm.trans hji28_
         have hji28x : a0_1 ≤ 64 → (wrap64 (a3 * 2 ^ a0_1.toNat)) = ji28 := fun h_ => (i64_w _).symm.trans (hji28z h_)
         replace H := Option.bind_eq_some_iff.mp H
         obtain ⟨t340, A290, H⟩ := H
         try dsimp only at H
         have A29 := Aside0.mk A290
         clear A290
         simp only [Option.some.injEq, Prod.mk.injEq] at H
         obtain ⟨rfl, rfl⟩ := H
         obtain ⟨hcz30_0, hcz30_1, hcz30_2, hcz30_3, hfz30_0, hfz30_1, hfz30_2, hfz30_3⟩ := cel4 BK336
         go_wp2_with (first | (go_at_call 93; (with_reducible refine (impl_mod8.calls (wrap64 (a2 + 4)) t340 _ A29.out).mono ?_); rintro e w' ⟨rfl, ⟨nd, rfl⟩⟩; (try first | exact ⟨rfl, _, World.drewN_drewN _ _ _⟩ | exact ⟨rfl, _, Eq.trans (World.drewN_drewN _ _ _) (congrArg (World.drewN _) (Nat.add_assoc _ _ _))⟩)))
         repeat (go_quiet (first | (go_at_call 93; (with_reducible refine (impl_mod8.calls (wrap64 (a2 + 4)) t340 _ A29.out).mono ?_); rintro e w' ⟨rfl, ⟨nd, rfl⟩⟩; (try first | exact ⟨rfl, _, World.drewN_drewN _ _ _⟩ | exact ⟨rfl, _, Eq.trans (World.drewN_drewN _ _ _) (congrArg (World.drewN _) (Nat.add_assoc _ _ _))⟩))); try go_wp2_with (first | (go_at_call 93; (with_reducible refine (impl_mod8.calls (wrap64 (a2 + 4)) t340 _ A29.out).mono ?_); rintro e w' ⟨rfl, ⟨nd, rfl⟩⟩; (try first | exact ⟨rfl, _, World.drewN_drewN _ _ _⟩ | exact ⟨rfl, _, Eq.trans (World.drewN_drewN _ _ _) (congrArg (World.drewN _) (Nat.add_assoc _ _ _))⟩))))
         go_ret2
         exact ⟨by first | rfl | (simp [errW_none, errW_some] <;> rfl) | (simp only [← hji26, ← hji28]; first | rfl | (simp [errW_none, errW_some] <;> rfl)) | (simp [*, errW_none, errW_some] <;> rfl), bl HB⟩
        ·rw [if_neg c25] at H
         exact absurd H (by simp)
       ·replace c24 := Bool.eq_false_iff.mpr c24
        subst c24
        rw [nf] at H
        by_cases c31 : 0 ≤ a0_1
        ·rw [if_pos c31] at H
         have c31b0 := eq_true c31
         have c31b1 : decide (0 ≤ a0_1) = true := decide_eq_true c31
         clear c31
         obtain ⟨ji32, hji32⟩ : ∃ j_ : Int, (shl .i64 1 a0_1) = j_ := ⟨_, rfl⟩
         replace H : ((impl_mod8.f a2).bind fun t341 => (some (Go.bits .or .i64 (Go.bits .andNot .i64 a1 (ji32)) (shl .i64 a3 a0_1), t341))) = some (r1, r2) := by first | (rw [hji32] at H; exact H) | (simp only [hji32] at H ⊢; exact H) | exact H
         have hji32_ : (IntKind.i64.wrap (1 * 2 ^ min a0_1.toNat 64)) = ji32 := hji32
         have hji32z : a0_1 ≤ 64 → (IntKind.i64.wrap (1 * 2 ^ a0_1.toNat)) = ji32 := shl_small hji32
         have hji32u : (IntKind.i64.wrap (2 ^ min a0_1.toNat 64)) = ji32 := by have h_ := hji32_; rw [Int.one_mul] at h_; exact h_
         have hji32v : a0_1 ≤ 64 → (IntKind.i64.wrap (2 ^ a0_1.toNat)) = ji32 := fun hle_ => by have h_ := hji32z hle_; rw [Int.one_mul] at h_; exact h_
         have hji32y : (wrap64 (1 * 2 ^ min a0_1.toNat 64)) = ji32 := (i64_w _).symm.trans hji32_
         have hji32x : a0_1 ≤ 64 → (wrap64 (1 * 2 ^ a0_1.toNat)) = ji32 := fun h_ => (i64_w _).symm.trans (hji32z h_)
         have c33b0 := eq_true (of_decide_eq_true da : 0 ≤ a0_1)
         obtain ⟨ji34, hji34⟩ : ∃ j_ : Int, (shl .i64 a3 a0_1) = j_ := ⟨_, rfl⟩
         replace H : ((impl_mod8.f a2).bind fun t341 => (some (Go.bits .or .i64 (Go.bits .andNot .i64 a1 (ji32)) (ji34), t341))) = some (r1, r2) := by first | (rw [hji34] at H; exact H) | (simp only [hji34] at H ⊢; exact H) | exact H
         have hji34_ : (IntKind.i64.wrap (a3 * 2 ^ min a0_1.toNat 64)) = ji34 := hji34
         have hji34z : a0_1 ≤ 64 → (IntKind.i64.wrap (a3 * 2 ^ a0_1.toNat)) = ji34 := shl_small hji34
         have hji34y : (wrap64 (a3 * 2 ^ min a0_1.toNat 64)) = ji34 := (i64_w _).symm.trans hji34_
         have hji34x : a0_1 ≤ 64 → (wrap64 (a3 * 2 ^ a0_1.toNat)) = ji34 := fun h_ => (i64_w _).symm.trans (hji34z h_)
         replace H := Option.bind_eq_some_iff.mp H
         obtain ⟨t341, A350, H⟩ := H
         try dsimp only at H
         have A35 := Aside0.mk A350
         clear A350
         simp only [Option.some.injEq, Prod.mk.injEq] at H
         obtain ⟨rfl, rfl⟩ := H
         obtain ⟨hcz36_0, hcz36_1, hcz36_2, hcz36_3, hfz36_0, hfz36_1, hfz36_2, hfz36_3⟩ := cel4 BK336
         go_wp2_with (first | (go_at_call 93; (with_reducible refine (impl_mod8.calls a2 t341 _ A35.out).mono ?_); rintro e w' ⟨rfl, ⟨nd, rfl⟩⟩; (try first | exact ⟨rfl, _, World.drewN_drewN _ _ _⟩ | exact ⟨rfl, _, Eq.trans (World.drewN_drewN _ _ _) (congrArg (World.drewN _) (Nat.add_assoc _ _ _))⟩)))
         repeat (go_quiet (first | (go_at_call 93; (with_reducible refine (impl_mod8.calls a2 t341 _ A35.out).mono ?_); rintro e w' ⟨rfl, ⟨nd, rfl⟩⟩; (try first | exact ⟨rfl, _, World.drewN_drewN _ _ _⟩ | exact ⟨rfl, _, Eq.trans (World.drewN_drewN _ _ _) (congrArg (World.drewN _) (Nat.add_assoc _ _ _))⟩))); try go_wp2_with (first | (go_at_call 93; (with_reducible refine (impl_mod8.calls a2 t341 _ A35.out).mono ?_); rintro e w' ⟨rfl, ⟨nd, rfl⟩⟩; (try first | exact ⟨rfl, _, World.drewN_drewN _ _ _⟩ | exact ⟨rfl, _, Eq.trans (World.drewN_drewN _ _ _) (congrArg (World.drewN _) (Nat.add_assoc _ _ _))⟩))))
         go_ret2
         exact ⟨by first | rfl | (simp [errW_none, errW_some] <;> rfl) | (simp only [← hji32, ← hji34]; first | rfl | (simp [errW_none, errW_some] <;> rfl)) | (simp [*, errW_none, errW_some] <;> rfl), bl HB⟩
        ·rw [if_neg c31] at H
         exact absurd H (by simp)
    ·rw [if_neg c16] at H
     have c16b0 : (a0_0 == 4) = false := beq_eq_false_iff_ne.mpr c16
     have c16b1 : (a0_0 != 4) = true := bne_iff_ne.mpr c16
     replace H := Option.bind_eq_some_iff.mp H
     obtain ⟨⟨t342, t343⟩, A370, H⟩ := H
     try dsimp only at H
     have A37 := Aside0.mk A370
     clear A370
     replace H := Option.bind_eq_some_iff.mp H
     obtain ⟨t344, A380, H⟩ := H
     try dsimp only at H
     have A38 := Aside0.mk A380
     clear A380
     simp only [Option.some.injEq, Prod.mk.injEq] at H
     obtain ⟨rfl, rfl⟩ := H
     obtain ⟨hcz39_0, hcz39_1, hcz39_2, hcz39_3, hfz39_0, hfz39_1, hfz39_2, hfz39_3⟩ := cel4 BK336
     go_wp2_with (first | (go_at_call 94; (with_reducible refine (impl_moved.calls a0_0 a0_1 a0_2 a0_3 a1 t342 t343 _ A37.out).mono ?_); rintro e w40 ⟨rfl, hb⟩; replace BK336 := cb BK336 hb; replace HB := bs HB hb; (try clear hb); (try clear hb2); (try clear hk); (try clear hi)) | (go_at_call 93; (with_reducible refine (impl_mod8.calls (wrap64 (a2 + t343)) t344 _ A38.out).mono ?_); rintro e w' ⟨rfl, ⟨nd, rfl⟩⟩; (try first | exact ⟨rfl, _, World.drewN_drewN _ _ _⟩ | exact ⟨rfl, _, Eq.trans (World.drewN_drewN _ _ _) (congrArg (World.drewN _) (Nat.add_assoc _ _ _))⟩)))
     repeat (go_quiet (first | (go_at_call 94; (with_reducible refine (impl_moved.calls a0_0 a0_1 a0_2 a0_3 a1 t342 t343 _ A37.out).mono ?_); rintro e w40 ⟨rfl, hb⟩; replace BK336 := cb BK336 hb; replace HB := bs HB hb; (try clear hb); (try clear hb2); (try clear hk); (try clear hi)) | (go_at_call 93; (with_reducible refine (impl_mod8.calls (wrap64 (a2 + t343)) t344 _ A38.out).mono ?_); rintro e w' ⟨rfl, ⟨nd, rfl⟩⟩; (try first | exact ⟨rfl, _, World.drewN_drewN _ _ _⟩ | exact ⟨rfl, _, Eq.trans (World.drewN_drewN _ _ _) (congrArg (World.drewN _) (Nat.add_assoc _ _ _))⟩))); try go_wp2_with (first | (go_at_call 94; (with_reducible refine (impl_moved.calls a0_0 a0_1 a0_2 a0_3 a1 t342 t343 _ A37.out).mono ?_); rintro e w40 ⟨rfl, hb⟩; replace BK336 := cb BK336 hb; replace HB := bs HB hb; (try clear hb); (try clear hb2); (try clear hk); (try clear hi)) | (go_at_call 93; (with_reducible refine (impl_mod8.calls (wrap64 (a2 + t343)) t344 _ A38.out).mono ?_); rintro e w' ⟨rfl, ⟨nd, rfl⟩⟩; (try first | exact ⟨rfl, _, World.drewN_drewN _ _ _⟩ | exact ⟨rfl, _, Eq.trans (World.drewN_drewN _ _ _) (congrArg (World.drewN _) (Nat.add_assoc _ _ _))⟩))))
     go_ret2
     exact ⟨er, bl HB⟩
/-! ### impl_PathEnd: function 33 -/
mutual
def impl_PathEnd.l0 : Nat → List (S62) → Int → Int → Int → List (S62) → Int → Int → Option (Int × Int)
 | 0, _, _, _, _, _, _, _ => none
 | k + 1, x0, x1, x2, x3, x17, x18, x19 => if x19 < x18 then (if 0 ≤ x19 then (if x19 < (x17.length : Int) then ((impl_IsValidGate.f ((rd_T62 x17 x19).f0) ((rd_T62 x17 x19).f1) ((rd_T62 x17 x19).f2) ((rd_T62 x17 x19).f3) x1).bind fun t347 => (if t347 = true then (impl_PathEnd.l0 k x0 x1 x2 x3 x17 x18 (wrap64 (x19 + 1))) else (some (x2, 0)))) else (none)) else (none)) else (if x3 < 0 then (some (x2, 0)) else (impl_PathEnd.l1 k x2 x3 0 0 x0 (x0.length : Int) 0))
def impl_PathEnd.l1 : Nat → Int → Int → Int → Int → List (S62) → Int → Int → Option (Int × Int)
 | 0, _, _, _, _, _, _, _ => none
 | k + 1, x2, x3, x12, x13, x32, x33, x34 => if x34 < x33 then (if 0 ≤ x34 then (if x34 < (x32.length : Int) then (if ((rd_T62 x32 x34).f0) = 4 then (if x13 ≤ 61 then (if 0 ≤ x13 then ((impl_PathSumStep.f k ((rd_T62 x32 x34).f0) ((rd_T62 x32 x34).f1) ((rd_T62 x32 x34).f2) ((rd_T62 x32 x34).f3) x2 x12 (Go.bits .and .i64 (shr .i64 x3 x13) 1)).bind fun bt350 => (impl_PathEnd.l1 k bt350.1 x3 bt350.2 (wrap64 (x13 + 1)) x32 x33 (wrap64 (x34 + 1)))) else (none)) else ((impl_PathSumStep.f k ((rd_T62 x32 x34).f0) ((rd_T62 x32 x34).f1) ((rd_T62 x32 x34).f2) ((rd_T62 x32 x34).f3) x2 x12 0).bind fun bt352 => (impl_PathEnd.l1 k bt352.1 x3 bt352.2 (wrap64 (x13 + 1)) x32 x33 (wrap64 (x34 + 1))))) else ((impl_PathSumStep.f k ((rd_T62 x32 x34).f0) ((rd_T62 x32 x34).f1) ((rd_T62 x32 x34).f2) ((rd_T62 x32 x34).f3) x2 x12 0).bind fun bt354 => (impl_PathEnd.l1 k bt354.1 x3 bt354.2 x13 x32 x33 (wrap64 (x34 + 1))))) else (none)) else (none)) else (some (x2, x12))
end
def impl_PathEnd.f (k : Nat) (l0 : List (S62)) (a1 : Int) (a2 : Int) (a3 : Int) : Option (Int × Int) := impl_PathEnd.l0 k l0 a1 a2 a3 l0 (l0.length : Int) 0
set_option maxHeartbeats 8000000 in
set_option maxRecDepth 100000 in
theorem impl_PathEnd.calls (k : Nat) (A0 : Option Addr) (c0 : Nat) (l0 : List (S62)) (a1 : Int) (a2 : Int) (a3 : Int) (r1 : Int) (r2 : Int) (w : World) (hr0 : Kd.C k62 w A0 l0.length l0) (hc0 : l0.length ≤ c0) (h : impl_PathEnd.f k l0 a1 a2 a3 = some (r1, r2)) :
  Calls Try.prog 33 #[.slice A0 l0.length c0, .int .i64 a1, .int .i64 a2, .int .i64 a3] w fun e w' => e = .returned (.tuple #[.int .i64 r1, .int .i64 r2]) ∧ Below w.heap.size w w' := by
 have hu62 := Try.underlying62
 have HR0 := Aside0.mk hr0
 have HC0 := Aside0.mk hc0
 clear hr0 hc0
 have HB := Aside0.mk (Below.refl w.heap.size w)
 have H := h
 clear h
 unfold impl_PathEnd.f at H
 have H' := Aside0.mk H
 clear H
 go_enter Try.func33, Try.ntmps33
 go_wp2
 go_loopg [19] k (fun kq v19 w' => ∃ (x19_1 : Int), v19 = .int .i64 x19_1 ∧ Aside0 (impl_PathEnd.l0 kq l0 a1 a2 a3 l0 (l0.length : Int) x19_1 = some (r1, r2)) ∧ Aside0 (kq ≤ k) ∧ Aside0 (Below w.heap.size w w'))
 case atStart => exact ⟨(0), rs, H', ⟨Nat.le_refl _⟩, ⟨bl HB⟩⟩
 case round =>
  clear H'
  try clear p2
  try clear c3
  obtain ⟨x19_1, rfl, HA, HK1, HB⟩ := hrel
  cases gk with
  | zero => exact absurd HA.out (by simp [impl_PathEnd.l0])
  | succ k1 =>
   have H := HA.out
   clear HA
   simp only [impl_PathEnd.l0] at H
   by_cases c5 : x19_1 < (l0.length : Int)
   ·rw [if_pos c5] at H
    have c5b0 : decide (x19_1 < (l0.length : Int)) = true := decide_eq_true c5
    clear c5
    by_cases c6 : 0 ≤ x19_1
    ·rw [if_pos c6] at H
     have c6b0 : decide (0 ≤ x19_1) = true := decide_eq_true c6
     clear c6
     by_cases c7 : x19_1 < (l0.length : Int)
     ·rw [if_pos c7] at H
      have c7b0 : decide (x19_1 < (l0.length : Int)) = true := decide_eq_true c7
      clear c7
      replace H := Option.bind_eq_some_iff.mp H
      obtain ⟨t347, A80, H⟩ := H
      try dsimp only at H
      have A8 := Aside0.mk A80
      clear A80
      by_cases c9 : t347 = true
      ·subst c9
       rw [if_pos rfl] at H
       have H' := Aside0.mk H
       clear H
       have p345 : 0 ≤ (x19_1 : Int) := of_decide_eq_true da
       have q345 : x19_1 < (l0.length : Int) := of_decide_eq_true da
       obtain ⟨ad345, e345, hx345_0, hx345_1, hx345_2, hx345_3⟩ := at_T62 HR0.out x19_1 p345 q345
       cases e345
       replace hx345_0 := (HB.out.cell (World.block_lt_of_cell? w _ hx345_0)).trans hx345_0
       replace hx345_1 := (HB.out.cell (World.block_lt_of_cell? w _ hx345_1)).trans hx345_1
       replace hx345_2 := (HB.out.cell (World.block_lt_of_cell? w _ hx345_2)).trans hx345_2
       replace hx345_3 := (HB.out.cell (World.block_lt_of_cell? w _ hx345_3)).trans hx345_3
       replace p345 := eq_true p345
       replace q345 := eq_true q345
       go_wp2_with (first | ((with_reducible refine gate_dst (N := 11) rfl ?_); refine bx (N := 11) (cs := #[.int .i64 0, .int .i64 0, .int .i64 0, .int .i64 0]) (t := 62) ?_; intro gb346 hg w10 hbox hb; have BK346 := Aside0.mk hbox; have GW346 := sz hg HB; have GE346 := GW346; replace HB := bs HB hb; clear hb hbox hg; obtain ⟨hcz11_0, hcz11_1, hcz11_2, hcz11_3, hfz11_0, hfz11_1, hfz11_2, hfz11_3⟩ := cel4 BK346) | ((with_reducible refine gate_callee (f := 32) rfl ?_); refine gL (some 25) Try.func32 #[.agg #[.int .i64 ((rd_T62 l0 x19_1).f0), .int .i64 ((rd_T62 l0 x19_1).f1), .int .i64 ((rd_T62 l0 x19_1).f2), .int .i64 ((rd_T62 l0 x19_1).f3)], .int .i64 a1] ?_; (with_reducible refine (impl_IsValidGate.calls ((rd_T62 l0 x19_1).f0) ((rd_T62 l0 x19_1).f1) ((rd_T62 l0 x19_1).f2) ((rd_T62 l0 x19_1).f3) a1 true _ A8.out).mono ?_); rintro e w12 ⟨rfl, hb⟩; refine ⟨_, rfl, ?_⟩; replace BK346 := cp BK346 hb; replace HB := bs HB hb; (try clear hb); (try clear hb2); (try clear hk); (try clear hi)))
       go_roundg k1
       case measure => have := HK1.out; omega
       case rel => exact ⟨(wrap64 (x19_1 + 1)), rs, H', ⟨by have := HK1.out; omega⟩, ⟨bl HB⟩⟩
      ·replace c9 := Bool.eq_false_iff.mpr c9
       subst c9
       rw [nf] at H
       simp only [Option.some.injEq, Prod.mk.injEq] at H
       obtain ⟨rfl, rfl⟩ := H
       have p345 : 0 ≤ (x19_1 : Int) := of_decide_eq_true da
       have q345 : x19_1 < (l0.length : Int) := of_decide_eq_true da
       obtain ⟨ad345, e345, hx345_0, hx345_1, hx345_2, hx345_3⟩ := at_T62 HR0.out x19_1 p345 q345
       cases e345
       replace hx345_0 := (HB.out.cell (World.block_lt_of_cell? w _ hx345_0)).trans hx345_0
       replace hx345_1 := (HB.out.cell (World.block_lt_of_cell? w _ hx345_1)).trans hx345_1
       replace hx345_2 := (HB.out.cell (World.block_lt_of_cell? w _ hx345_2)).trans hx345_2
       replace hx345_3 := (HB.out.cell (World.block_lt_of_cell? w _ hx345_3)).trans hx345_3
       replace p345 := eq_true p345
       replace q345 := eq_true q345
       go_wp2_with (first | ((with_reducible refine gate_dst (N := 11) rfl ?_); refine bx (N := 11) (cs := #[.int .i64 0, .int .i64 0, .int .i64 0, .int .i64 0]) (t := 62) ?_; intro gb346 hg w13 hbox hb; have BK346 := Aside0.mk hbox; have GW346 := sz hg HB; have GE346 := GW346; replace HB := bs HB hb; clear hb hbox hg; obtain ⟨hcz14_0, hcz14_1, hcz14_2, hcz14_3, hfz14_0, hfz14_1, hfz14_2, hfz14_3⟩ := cel4 BK346) | ((with_reducible refine gate_callee (f := 32) rfl ?_); refine gL (some 25) Try.func32 #[.agg #[.int .i64 ((rd_T62 l0 x19_1).f0), .int .i64 ((rd_T62 l0 x19_1).f1), .int .i64 ((rd_T62 l0 x19_1).f2), .int .i64 ((rd_T62 l0 x19_1).f3)], .int .i64 a1] ?_; (with_reducible refine (impl_IsValidGate.calls ((rd_T62 l0 x19_1).f0) ((rd_T62 l0 x19_1).f1) ((rd_T62 l0 x19_1).f2) ((rd_T62 l0 x19_1).f3) a1 false _ A8.out).mono ?_); rintro e w15 ⟨rfl, hb⟩; refine ⟨_, rfl, ?_⟩; replace BK346 := cp BK346 hb; replace HB := bs HB hb; (try clear hb); (try clear hb2); (try clear hk); (try clear hi)))
       go_ret2
       exact ⟨er, bl HB⟩
     ·rw [if_neg c7] at H
      exact absurd H (by simp)
    ·rw [if_neg c6] at H
     exact absurd H (by simp)
   ·rw [if_neg c5] at H
    have c5b0 : decide (x19_1 < (l0.length : Int)) = false := decide_eq_false c5
    clear c5
    by_cases c16 : a3 < 0
    ·rw [if_pos c16] at H
     have c16b0 : decide (a3 < 0) = true := decide_eq_true c16
     clear c16
     simp only [Option.some.injEq, Prod.mk.injEq] at H
     obtain ⟨rfl, rfl⟩ := H
     go_wp2
     go_ret2
     exact ⟨er, bl HB⟩
    ·rw [if_neg c16] at H
     have c16b0 : decide (a3 < 0) = false := decide_eq_false c16
     clear c16
     have H' := Aside0.mk H
     clear H
     go_wp2
     go_loopg [2, 12, 13, 34] k1 (fun kq v2 v12 v13 v34 w' => ∃ (x2_2 : Int) (x12_2 : Int) (x13_2 : Int) (x34_2 : Int), v2 = .int .i64 x2_2 ∧ v12 = .int .i64 x12_2 ∧ v13 = .int .i64 x13_2 ∧ v34 = .int .i64 x34_2 ∧ Aside0 (impl_PathEnd.l1 kq x2_2 a3 x12_2 x13_2 l0 (l0.length : Int) x34_2 = some (r1, r2)) ∧ Aside0 (kq ≤ k1) ∧ Aside0 (Below w.heap.size w w'))
     case atStart => exact ⟨(a2), (0), (0), (0), rs, rs, rs, rs, H', ⟨Nat.le_refl _⟩, ⟨bl HB⟩⟩
     case round =>
      clear H'
      try clear c1
      try clear p2
      try clear c3
      try clear p3
      try clear q3
      try clear hx3
      try clear c5
      try clear c5b0
      try clear c6
      try clear c6b0
      try clear p6
      try clear c7
      try clear c7b0
      try clear c9
      try clear c16
      try clear c16b0
      try clear hcz11_0
      try clear hcz11_1
      try clear hcz11_2
      try clear hcz11_3
      try clear hcz14_0
      try clear hcz14_1
      try clear hcz14_2
      try clear hcz14_3
      try clear hfz11_0
      try clear hfz11_1
      try clear hfz11_2
      try clear hfz11_3
      try clear hfz14_0
      try clear hfz14_1
      try clear hfz14_2
      try clear hfz14_3
      try clear hx345_0
      try clear hx345_1
      try clear hx345_2
      try clear hx345_3
      try clear p2
      try clear p345
      try clear q345
      obtain ⟨x2_2, x12_2, x13_2, x34_2, rfl, rfl, rfl, rfl, HA, HK2, HB⟩ := hrel
      cases gk with
      | zero => exact absurd HA.out (by simp [impl_PathEnd.l1])
      | succ k2 =>
       have H := HA.out
       clear HA
       simp only [impl_PathEnd.l1] at H
       by_cases c17 : x34_2 < (l0.length : Int)
       ·rw [if_pos c17] at H
        have c17b0 : decide (x34_2 < (l0.length : Int)) = true := decide_eq_true c17
        clear c17
        by_cases c18 : 0 ≤ x34_2
        ·rw [if_pos c18] at H
         have c18b0 : decide (0 ≤ x34_2) = true := decide_eq_true c18
         clear c18
         by_cases c19 : x34_2 < (l0.length : Int)
         ·rw [if_pos c19] at H
          have c19b0 : decide (x34_2 < (l0.length : Int)) = true := decide_eq_true c19
          clear c19
          by_cases c20 : ((rd_T62 l0 x34_2).f0) = 4
          ·rw [if_pos c20] at H
           have c20b0 : (((rd_T62 l0 x34_2).f0) == 4) = true := beq_iff_eq.mpr c20
           have c20b1 : (((rd_T62 l0 x34_2).f0) != 4) = false := bne_eq_false_iff_eq.mpr c20
           clear c20
           by_cases c21 : x13_2 ≤ 61
           ·rw [if_pos c21] at H
            have c21b0 : decide (x13_2 ≤ 61) = true := decide_eq_true c21
            clear c21
            by_cases c22 : 0 ≤ x13_2
            ·rw [if_pos c22] at H
             have c22b0 := eq_true c22
             have c22b1 : decide (0 ≤ x13_2) = true := decide_eq_true c22
             clear c22
             obtain ⟨ji23, hji23⟩ : ∃ j_ : Int, (shr .i64 a3 x13_2) = j_ := ⟨_, rfl⟩
             replace H : ((impl_PathSumStep.f k2 ((rd_T62 l0 x34_2).f0) ((rd_T62 l0 x34_2).f1) ((rd_T62 l0 x34_2).f2) ((rd_T62 l0 x34_2).f3) x2_2 x12_2 (Go.bits .and .i64 (ji23) 1)).bind fun bt350 => (impl_PathEnd.l1 k2 bt350.1 a3 bt350.2 (wrap64 (x13_2 + 1)) l0 (l0.length : Int) (wrap64 (x34_2 + 1)))) = some (r1, r2) := by first | (rw [hji23] at H; exact H) | (simp only [hji23] at H ⊢; exact H) | exact H
             have hji23_ : (a3 / 2 ^ min x13_2.toNat 64) = ji23 := hji23
             have hji23z : x13_2 ≤ 64 → (a3 / 2 ^ x13_2.toNat) = ji23 := shr_small hji23
             replace H := Option.bind_eq_some_iff.mp H
             obtain ⟨⟨t350, t351⟩, A240, H⟩ := H
             try dsimp only at H
             have A24 := Aside0.mk A240
             clear A240
             have H' := Aside0.mk H
             clear H
             have p348 : 0 ≤ (x34_2 : Int) := of_decide_eq_true da
             have q348 : x34_2 < (l0.length : Int) := of_decide_eq_true da
             obtain ⟨ad348, e348, hx348_0, hx348_1, hx348_2, hx348_3⟩ := at_T62 HR0.out x34_2 p348 q348
             cases e348
             replace hx348_0 := (HB.out.cell (World.block_lt_of_cell? w _ hx348_0)).trans hx348_0
             replace hx348_1 := (HB.out.cell (World.block_lt_of_cell? w _ hx348_1)).trans hx348_1
             replace hx348_2 := (HB.out.cell (World.block_lt_of_cell? w _ hx348_2)).trans hx348_2
             replace hx348_3 := (HB.out.cell (World.block_lt_of_cell? w _ hx348_3)).trans hx348_3
             replace p348 := eq_true p348
             replace q348 := eq_true q348
             go_wp2_with (first | ((with_reducible refine gate_dst (N := 15) rfl ?_); refine bx (N := 15) (cs := #[.int .i64 0, .int .i64 0, .int .i64 0, .int .i64 0]) (t := 62) ?_; intro gb349 hg w25 hbox hb; have BK349 := Aside0.mk hbox; have GW349 := sz hg HB; have GE349 := GW349; replace HB := bs HB hb; clear hb hbox hg; obtain ⟨hcz26_0, hcz26_1, hcz26_2, hcz26_3, hfz26_0, hfz26_1, hfz26_2, hfz26_3⟩ := cel4 BK349) | ((with_reducible refine gate_callee (f := 61) rfl ?_); refine goesL_ (some 54) rfl rfl Try.func61 (by kernel_rfl) rfl #[.agg #[.int .i64 ((rd_T62 l0 x34_2).f0), .int .i64 ((rd_T62 l0 x34_2).f1), .int .i64 ((rd_T62 l0 x34_2).f2), .int .i64 ((rd_T62 l0 x34_2).f3)], .int .i64 x2_2, .int .i64 x12_2, .int .i64 (Go.bits .and .i64 (ji23) 1)] rfl (by (try simp only [List.map_toArray, List.map_cons, List.map_nil]); first | done | (simp only [hji23]; rfl) | rfl | (simp only [List.length_drop, List.length_take]; rfl)) ?_; (with_reducible refine (impl_PathSumStep.calls k2 ((rd_T62 l0 x34_2).f0) ((rd_T62 l0 x34_2).f1) ((rd_T62 l0 x34_2).f2) ((rd_T62 l0 x34_2).f3) x2_2 x12_2 (Go.bits .and .i64 (ji23) 1) t350 t351 _ A24.out).mono ?_); rintro e w27 ⟨rfl, hb⟩; refine ⟨_, rfl, ?_⟩; replace BK349 := cp BK349 hb; replace HB := bs HB hb; (try clear hb); (try clear hb2); (try clear hk); (try clear hi)))
             go_roundg k2
             case measure => have := HK1.out; have := HK2.out; omega
             case rel => exact ⟨(t350), (t351), (wrap64 (x13_2 + 1)), (wrap64 (x34_2 + 1)), rs, rs, rs, rs, H', ⟨by have := HK1.out; have := HK2.out; omega⟩, ⟨bl HB⟩⟩
            ·rw [if_neg c22] at H
             exact absurd H (by simp)
           ·rw [if_neg c21] at H
            have c21b0 : decide (x13_2 ≤ 61) = false := decide_eq_false c21
            clear c21
            replace H := Option.bind_eq_some_iff.mp H
            obtain ⟨⟨t352, t353⟩, A280, H⟩ := H
            try dsimp only at H
            have A28 := Aside0.mk A280
            clear A280
            have H' := Aside0.mk H
            clear H
            have p348 : 0 ≤ (x34_2 : Int) := of_decide_eq_true da
            have q348 : x34_2 < (l0.length : Int) := of_decide_eq_true da
            obtain ⟨ad348, e348, hx348_0, hx348_1, hx348_2, hx348_3⟩ := at_T62 HR0.out x34_2 p348 q348
            cases e348
            replace hx348_0 := (HB.out.cell (World.block_lt_of_cell? w _ hx348_0)).trans hx348_0
            replace hx348_1 := (HB.out.cell (World.block_lt_of_cell? w _ hx348_1)).trans hx348_1
            replace hx348_2 := (HB.out.cell (World.block_lt_of_cell? w _ hx348_2)).trans hx348_2
            replace hx348_3 := (HB.out.cell (World.block_lt_of_cell? w _ hx348_3)).trans hx348_3
            replace p348 := eq_true p348
            replace q348 := eq_true q348
            go_wp2_with (first | ((with_reducible refine gate_dst (N := 15) rfl ?_); refine bx (N := 15) (cs := #[.int .i64 0, .int .i64 0, .int .i64 0, .int .i64 0]) (t := 62) ?_; intro gb349 hg w29 hbox hb; have BK349 := Aside0.mk hbox; have GW349 := sz hg HB; have GE349 := GW349; replace HB := bs HB hb; clear hb hbox hg; obtain ⟨hcz30_0, hcz30_1, hcz30_2, hcz30_3, hfz30_0, hfz30_1, hfz30_2, hfz30_3⟩ := cel4 BK349) | ((with_reducible refine gate_callee (f := 61) rfl ?_); refine gL (some 54) Try.func61 #[.agg #[.int .i64 ((rd_T62 l0 x34_2).f0), .int .i64 ((rd_T62 l0 x34_2).f1), .int .i64 ((rd_T62 l0 x34_2).f2), .int .i64 ((rd_T62 l0 x34_2).f3)], .int .i64 x2_2, .int .i64 x12_2, .int .i64 0] ?_; (with_reducible refine (impl_PathSumStep.calls k2 ((rd_T62 l0 x34_2).f0) ((rd_T62 l0 x34_2).f1) ((rd_T62 l0 x34_2).f2) ((rd_T62 l0 x34_2).f3) x2_2 x12_2 0 t352 t353 _ A28.out).mono ?_); rintro e w31 ⟨rfl, hb⟩; refine ⟨_, rfl, ?_⟩; replace BK349 := cp BK349 hb; replace HB := bs HB hb; (try clear hb); (try clear hb2); (try clear hk); (try clear hi)))
            go_roundg k2
            case measure => have := HK1.out; have := HK2.out; omega
            case rel => exact ⟨(t352), (t353), (wrap64 (x13_2 + 1)), (wrap64 (x34_2 + 1)), rs, rs, rs, rs, H', ⟨by have := HK1.out; have := HK2.out; omega⟩, ⟨bl HB⟩⟩
          ·rw [if_neg c20] at H
           have c20b0 : (((rd_T62 l0 x34_2).f0) == 4) = false := beq_eq_false_iff_ne.mpr c20
           have c20b1 : (((rd_T62 l0 x34_2).f0) != 4) = true := bne_iff_ne.mpr c20
           replace H := Option.bind_eq_some_iff.mp H
           obtain ⟨⟨t354, t355⟩, A320, H⟩ := H
           try dsimp only at H
           have A32 := Aside0.mk A320
           clear A320
           have H' := Aside0.mk H
           clear H
           have p348 : 0 ≤ (x34_2 : Int) := of_decide_eq_true da
           have q348 : x34_2 < (l0.length : Int) := of_decide_eq_true da
           obtain ⟨ad348, e348, hx348_0, hx348_1, hx348_2, hx348_3⟩ := at_T62 HR0.out x34_2 p348 q348
           cases e348
           replace hx348_0 := (HB.out.cell (World.block_lt_of_cell? w _ hx348_0)).trans hx348_0
           replace hx348_1 := (HB.out.cell (World.block_lt_of_cell? w _ hx348_1)).trans hx348_1
           replace hx348_2 := (HB.out.cell (World.block_lt_of_cell? w _ hx348_2)).trans hx348_2
           replace hx348_3 := (HB.out.cell (World.block_lt_of_cell? w _ hx348_3)).trans hx348_3
           replace p348 := eq_true p348
           replace q348 := eq_true q348
           go_wp2_with (first | ((with_reducible refine gate_dst (N := 15) rfl ?_); refine bx (N := 15) (cs := #[.int .i64 0, .int .i64 0, .int .i64 0, .int .i64 0]) (t := 62) ?_; intro gb349 hg w33 hbox hb; have BK349 := Aside0.mk hbox; have GW349 := sz hg HB; have GE349 := GW349; replace HB := bs HB hb; clear hb hbox hg; obtain ⟨hcz34_0, hcz34_1, hcz34_2, hcz34_3, hfz34_0, hfz34_1, hfz34_2, hfz34_3⟩ := cel4 BK349) | ((with_reducible refine gate_callee (f := 61) rfl ?_); refine gL (some 54) Try.func61 #[.agg #[.int .i64 ((rd_T62 l0 x34_2).f0), .int .i64 ((rd_T62 l0 x34_2).f1), .int .i64 ((rd_T62 l0 x34_2).f2), .int .i64 ((rd_T62 l0 x34_2).f3)], .int .i64 x2_2, .int .i64 x12_2, .int .i64 0] ?_; (with_reducible refine (impl_PathSumStep.calls k2 ((rd_T62 l0 x34_2).f0) ((rd_T62 l0 x34_2).f1) ((rd_T62 l0 x34_2).f2) ((rd_T62 l0 x34_2).f3) x2_2 x12_2 0 t354 t355 _ A32.out).mono ?_); rintro e w35 ⟨rfl, hb⟩; refine ⟨_, rfl, ?_⟩; replace BK349 := cp BK349 hb; replace HB := bs HB hb; (try clear hb); (try clear hb2); (try clear hk); (try clear hi)))
           go_roundg k2
           case measure => have := HK1.out; have := HK2.out; omega
           case rel => exact ⟨(t354), (t355), (x13_2), (wrap64 (x34_2 + 1)), rs, rs, rs, rs, H', ⟨by have := HK1.out; have := HK2.out; omega⟩, ⟨bl HB⟩⟩
         ·rw [if_neg c19] at H
          exact absurd H (by simp)
        ·rw [if_neg c18] at H
         exact absurd H (by simp)
       ·rw [if_neg c17] at H
        have c17b0 : decide (x34_2 < (l0.length : Int)) = false := decide_eq_false c17
        clear c17
        simp only [Option.some.injEq, Prod.mk.injEq] at H
        obtain ⟨rfl, rfl⟩ := H
        go_wp2
        go_ret2
        exact ⟨er, bl HB⟩
/-! ### impl_IsValidZOmega: function 96 -/
def impl_IsValidZOmega.f (a0_0 : Int) (a0_1 : Int) (a0_2 : Int) (a0_3 : Int) : Option (Bool) := (impl_in.f a0_0 (-1073741824) 1073741824).bind fun t357 => (if t357 = true then ((impl_in.f a0_1 (-1073741824) 1073741824).bind fun t358 => (if t358 = true then ((impl_in.f a0_2 (-1073741824) 1073741824).bind fun t359 => (if t359 = true then ((impl_in.f a0_3 (-1073741824) 1073741824).bind fun t360 => (some t360)) else (some false))) else (some false))) else (some false))
set_option maxHeartbeats 8000000 in
set_option maxRecDepth 100000 in
theorem impl_IsValidZOmega.calls (a0_0 : Int) (a0_1 : Int) (a0_2 : Int) (a0_3 : Int) (r : Bool) (w : World) (h : impl_IsValidZOmega.f a0_0 a0_1 a0_2 a0_3 = some r) :
  Calls Try.prog 96 #[.agg #[.int .i64 a0_0, .int .i64 a0_1, .int .i64 a0_2, .int .i64 a0_3]] w fun e w' => e = .returned (.bool r) ∧ Below w.heap.size w w' := by
 have hu25 := Try.underlying25
 have HB := Aside0.mk (Below.refl w.heap.size w)
 have H := h
 clear h
 unfold impl_IsValidZOmega.f at H
 replace H := Option.bind_eq_some_iff.mp H
 obtain ⟨t357, A20, H⟩ := H
 try dsimp only at H
 have A2 := Aside0.mk A20
 clear A20
 by_cases c3 : t357 = true
 ·subst c3
  rw [if_pos rfl] at H
  replace H := Option.bind_eq_some_iff.mp H
  obtain ⟨t358, A40, H⟩ := H
  try dsimp only at H
  have A4 := Aside0.mk A40
  clear A40
  by_cases c5 : t358 = true
  ·subst c5
   rw [if_pos rfl] at H
   replace H := Option.bind_eq_some_iff.mp H
   obtain ⟨t359, A60, H⟩ := H
   try dsimp only at H
   have A6 := Aside0.mk A60
   clear A60
   by_cases c7 : t359 = true
   ·subst c7
    rw [if_pos rfl] at H
    replace H := Option.bind_eq_some_iff.mp H
    obtain ⟨t360, A80, H⟩ := H
    try dsimp only at H
    have A8 := Aside0.mk A80
    clear A80
    obtain rfl := Option.some.inj H
    go_enter Try.func96, Try.ntmps96
    go_wp2_with (first | ((with_reducible refine gate_dst (N := 1) rfl ?_); refine bx (N := 1) (cs := #[.int .i64 a0_0, .int .i64 a0_1, .int .i64 a0_2, .int .i64 a0_3]) (t := 25) ?_; intro gb356 hg w9 hbox hb; have BK356 := Aside0.mk hbox; have GW356 := sz hg HB; have GE356 := GW356; replace HB := bs HB hb; clear hb hbox hg; obtain ⟨hcz10_0, hcz10_1, hcz10_2, hcz10_3, hfz10_0, hfz10_1, hfz10_2, hfz10_3⟩ := cel4 BK356) | ((with_reducible refine gate_callee (f := 31) rfl ?_); refine gL (some 5) Try.func31 #[.int .i64 a0_0, .int .i64 (-1073741824), .int .i64 1073741824] ?_; (with_reducible refine (impl_in.calls a0_0 (-1073741824) 1073741824 true _ A2.out).mono ?_); rintro e w' ⟨rfl, ⟨nd, rfl⟩⟩; refine ⟨_, rfl, ?_⟩) | (go_at_call 31; (with_reducible refine (impl_in.calls a0_1 (-1073741824) 1073741824 true _ A4.out).mono ?_); rintro e w' ⟨rfl, ⟨nd, rfl⟩⟩) | (go_at_call 31; (with_reducible refine (impl_in.calls a0_2 (-1073741824) 1073741824 true _ A6.out).mono ?_); rintro e w' ⟨rfl, ⟨nd, rfl⟩⟩) | (go_at_call 31; (with_reducible refine (impl_in.calls a0_3 (-1073741824) 1073741824 t360 _ A8.out).mono ?_); rintro e w' ⟨rfl, ⟨nd, rfl⟩⟩))
    go_ret
    exact ⟨er, bl HB⟩
   ·replace c7 := Bool.eq_false_iff.mpr c7
    subst c7
    rw [nf] at H
    obtain rfl := Option.some.inj H
    go_enter Try.func96, Try.ntmps96
    go_wp2_with (first | ((with_reducible refine gate_dst (N := 1) rfl ?_); refine bx (N := 1) (cs := #[.int .i64 a0_0, .int .i64 a0_1, .int .i64 a0_2, .int .i64 a0_3]) (t := 25) ?_; intro gb356 hg w11 hbox hb; have BK356 := Aside0.mk hbox; have GW356 := sz hg HB; have GE356 := GW356; replace HB := bs HB hb; clear hb hbox hg; obtain ⟨hcz12_0, hcz12_1, hcz12_2, hcz12_3, hfz12_0, hfz12_1, hfz12_2, hfz12_3⟩ := cel4 BK356) | ((with_reducible refine gate_callee (f := 31) rfl ?_); refine gL (some 5) Try.func31 #[.int .i64 a0_0, .int .i64 (-1073741824), .int .i64 1073741824] ?_; (with_reducible refine (impl_in.calls a0_0 (-1073741824) 1073741824 true _ A2.out).mono ?_); rintro e w' ⟨rfl, ⟨nd, rfl⟩⟩; refine ⟨_, rfl, ?_⟩) | (go_at_call 31; (with_reducible refine (impl_in.calls a0_1 (-1073741824) 1073741824 true _ A4.out).mono ?_); rintro e w' ⟨rfl, ⟨nd, rfl⟩⟩) | (go_at_call 31; (with_reducible refine (impl_in.calls a0_2 (-1073741824) 1073741824 false _ A6.out).mono ?_); rintro e w' ⟨rfl, ⟨nd, rfl⟩⟩))
    go_ret
    exact ⟨er, bl HB⟩
  ·replace c5 := Bool.eq_false_iff.mpr c5
   subst c5
   rw [nf] at H
   obtain rfl := Option.some.inj H
   go_enter Try.func96, Try.ntmps96
   go_wp2_with (first | ((with_reducible refine gate_dst (N := 1) rfl ?_); refine bx (N := 1) (cs := #[.int .i64 a0_0, .int .i64 a0_1, .int .i64 a0_2, .int .i64 a0_3]) (t := 25) ?_; intro gb356 hg w13 hbox hb; have BK356 := Aside0.mk hbox; have GW356 := sz hg HB; have GE356 := GW356; replace HB := bs HB hb; clear hb hbox hg; obtain ⟨hcz14_0, hcz14_1, hcz14_2, hcz14_3, hfz14_0, hfz14_1, hfz14_2, hfz14_3⟩ := cel4 BK356) | ((with_reducible refine gate_callee (f := 31) rfl ?_); refine gL (some 5) Try.func31 #[.int .i64 a0_0, .int .i64 (-1073741824), .int .i64 1073741824] ?_; (with_reducible refine (impl_in.calls a0_0 (-1073741824) 1073741824 true _ A2.out).mono ?_); rintro e w' ⟨rfl, ⟨nd, rfl⟩⟩; refine ⟨_, rfl, ?_⟩) | (go_at_call 31; (with_reducible refine (impl_in.calls a0_1 (-1073741824) 1073741824 false _ A4.out).mono ?_); rintro e w' ⟨rfl, ⟨nd, rfl⟩⟩))
   go_ret
   exact ⟨er, bl HB⟩
 ·replace c3 := Bool.eq_false_iff.mpr c3
  subst c3
  rw [nf] at H
  obtain rfl := Option.some.inj H
  go_enter Try.func96, Try.ntmps96
  go_wp2_with (first | ((with_reducible refine gate_dst (N := 1) rfl ?_); refine bx (N := 1) (cs := #[.int .i64 a0_0, .int .i64 a0_1, .int .i64 a0_2, .int .i64 a0_3]) (t := 25) ?_; intro gb356 hg w15 hbox hb; have BK356 := Aside0.mk hbox; have GW356 := sz hg HB; have GE356 := GW356; replace HB := bs HB hb; clear hb hbox hg; obtain ⟨hcz16_0, hcz16_1, hcz16_2, hcz16_3, hfz16_0, hfz16_1, hfz16_2, hfz16_3⟩ := cel4 BK356) | ((with_reducible refine gate_callee (f := 31) rfl ?_); refine gL (some 5) Try.func31 #[.int .i64 a0_0, .int .i64 (-1073741824), .int .i64 1073741824] ?_; (with_reducible refine (impl_in.calls a0_0 (-1073741824) 1073741824 false _ A2.out).mono ?_); rintro e w' ⟨rfl, ⟨nd, rfl⟩⟩; refine ⟨_, rfl, ?_⟩))
  go_ret
  exact ⟨er, bl HB⟩
/-! ### impl_DivSqrt2: function 95 -/
def impl_DivSqrt2.f (a0_0 : Int) (a0_1 : Int) (a0_2 : Int) (a0_3 : Int) : Option (Int × Int × Int × Int × Bool) := (impl_IsValidZOmega.f a0_0 a0_1 a0_2 a0_3).bind fun t364 => (if t364 = true then (if (Int.tmod (wrap64 (a0_1 - a0_3)) 2) = 0 then (if (Int.tmod (wrap64 (a0_0 + a0_2)) 2) = 0 then (if (Int.tmod (wrap64 (a0_1 + a0_3)) 2) = 0 then (if (Int.tmod (wrap64 (a0_2 - a0_0)) 2) = 0 then (some (wrap64 (Int.tdiv (wrap64 (a0_1 - a0_3)) 2), wrap64 (Int.tdiv (wrap64 (a0_0 + a0_2)) 2), wrap64 (Int.tdiv (wrap64 (a0_1 + a0_3)) 2), wrap64 (Int.tdiv (wrap64 (a0_2 - a0_0)) 2), true)) else (some (0, 0, 0, 0, false))) else (some (0, 0, 0, 0, false))) else (some (0, 0, 0, 0, false))) else (some (0, 0, 0, 0, false))) else (some (0, 0, 0, 0, false)))
set_option maxHeartbeats 8000000 in
set_option maxRecDepth 100000 in
theorem impl_DivSqrt2.calls (a0_0 : Int) (a0_1 : Int) (a0_2 : Int) (a0_3 : Int) (r1 : Int) (r2 : Int) (r3 : Int) (r4 : Int) (r5 : Bool) (w : World) (h : impl_DivSqrt2.f a0_0 a0_1 a0_2 a0_3 = some (r1, r2, r3, r4, r5)) :
  Calls Try.prog 95 #[.agg #[.int .i64 a0_0, .int .i64 a0_1, .int .i64 a0_2, .int .i64 a0_3]] w fun e w' => e = .returned (.tuple #[.agg #[.int .i64 r1, .int .i64 r2, .int .i64 r3, .int .i64 r4], .bool r5]) ∧ Below w.heap.size w w' := by
 have hu25 := Try.underlying25
 have HB := Aside0.mk (Below.refl w.heap.size w)
 have H := h
 clear h
 unfold impl_DivSqrt2.f at H
 replace H := Option.bind_eq_some_iff.mp H
 obtain ⟨t364, A20, H⟩ := H
 try dsimp only at H
 have A2 := Aside0.mk A20
 clear A20
 by_cases c3 : t364 = true
 ·subst c3
  rw [if_pos rfl] at H
  by_cases c4 : (Int.tmod (wrap64 (a0_1 - a0_3)) 2) = 0
  ·rw [if_pos c4] at H
   have c4b0 : ((Int.tmod (wrap64 (a0_1 - a0_3)) 2) == 0) = true := beq_iff_eq.mpr c4
   have c4b1 : ((Int.tmod (wrap64 (a0_1 - a0_3)) 2) != 0) = false := bne_eq_false_iff_eq.mpr c4
   clear c4
   by_cases c5 : (Int.tmod (wrap64 (a0_0 + a0_2)) 2) = 0
   ·rw [if_pos c5] at H
    have c5b0 : ((Int.tmod (wrap64 (a0_0 + a0_2)) 2) == 0) = true := beq_iff_eq.mpr c5
    have c5b1 : ((Int.tmod (wrap64 (a0_0 + a0_2)) 2) != 0) = false := bne_eq_false_iff_eq.mpr c5
    clear c5
    by_cases c6 : (Int.tmod (wrap64 (a0_1 + a0_3)) 2) = 0
    ·rw [if_pos c6] at H
     have c6b0 : ((Int.tmod (wrap64 (a0_1 + a0_3)) 2) == 0) = true := beq_iff_eq.mpr c6
     have c6b1 : ((Int.tmod (wrap64 (a0_1 + a0_3)) 2) != 0) = false := bne_eq_false_iff_eq.mpr c6
     clear c6
     by_cases c7 : (Int.tmod (wrap64 (a0_2 - a0_0)) 2) = 0
     ·rw [if_pos c7] at H
      have c7b0 : ((Int.tmod (wrap64 (a0_2 - a0_0)) 2) == 0) = true := beq_iff_eq.mpr c7
      have c7b1 : ((Int.tmod (wrap64 (a0_2 - a0_0)) 2) != 0) = false := bne_eq_false_iff_eq.mpr c7
      clear c7
      simp only [Option.some.injEq, Prod.mk.injEq] at H
      obtain ⟨rfl, rfl, rfl, rfl, rfl⟩ := H
      go_enter Try.func95, Try.ntmps95
      go_wp2_with (first | ((with_reducible refine gate_dst (N := 1) rfl ?_); refine bx (N := 1) (cs := #[.int .i64 a0_0, .int .i64 a0_1, .int .i64 a0_2, .int .i64 a0_3]) (t := 25) ?_; intro gb361 hg w8 hbox hb; have BK361 := Aside0.mk hbox; have GW361 := sz hg HB; have GE361 := GW361; replace HB := bs HB hb; clear hb hbox hg) | ((with_reducible refine gate_dst (N := 2) rfl ?_); refine bx (N := 2) (cs := #[.int .i64 0, .int .i64 0, .int .i64 0, .int .i64 0]) (t := 25) ?_; intro gb362 hg w9 hbox hb; have BK362 := Aside0.mk hbox; have GW362 := sz hg HB; have GE362 := GW362; have NB361_362 := nl hg BK361; have NB362_361 := ng hg BK361; replace BK361 := cb BK361 hb; replace HB := bs HB hb; clear hb hbox hg; have hnb10 := NB361_362.out; have hnc10 := NB362_361.out; obtain ⟨hcz11_0, hcz11_1, hcz11_2, hcz11_3, hfz11_0, hfz11_1, hfz11_2, hfz11_3⟩ := cel4 BK361) | ((with_reducible refine gate_dst (N := 4) rfl ?_); refine bx (N := 4) (cs := #[.int .i64 0, .int .i64 0, .int .i64 0, .int .i64 0]) (t := 25) ?_; intro gb363 hg w12 hbox hb; have BK363 := Aside0.mk hbox; have GW363 := sz hg HB; have GE363 := GW363; have NB361_363 := nl hg BK361; have NB363_361 := ng hg BK361; have NB362_363 := nl hg BK362; have NB363_362 := ng hg BK362; replace BK361 := cb BK361 hb; replace BK362 := cb BK362 hb; replace HB := bs HB hb; clear hb hbox hg; have hnb13 := NB363_361.out; have hnc13 := NB361_363.out; have hnb14 := NB363_362.out; have hnc14 := NB362_363.out; obtain ⟨hcz15_0, hcz15_1, hcz15_2, hcz15_3, hfz15_0, hfz15_1, hfz15_2, hfz15_3⟩ := cel4 BK363; obtain ⟨hcz16_0, hcz16_1, hcz16_2, hcz16_3, hfz16_0, hfz16_1, hfz16_2, hfz16_3⟩ := cel4 BK361) | ((with_reducible refine gate_callee (f := 96) rfl ?_); refine gL (some 27) Try.func96 #[.agg #[.int .i64 a0_0, .int .i64 a0_1, .int .i64 a0_2, .int .i64 a0_3]] ?_; (with_reducible refine (impl_IsValidZOmega.calls a0_0 a0_1 a0_2 a0_3 true _ A2.out).mono ?_); rintro e w17 ⟨rfl, hb⟩; refine ⟨_, rfl, ?_⟩; replace BK361 := cp BK361 hb; replace BK362 := cp BK362 hb; replace BK363 := cp BK363 hb; replace HB := bs HB hb; (try clear hb); (try clear hb2); (try clear hk); (try clear hi); obtain ⟨hcz18_0, hcz18_1, hcz18_2, hcz18_3, hfz18_0, hfz18_1, hfz18_2, hfz18_3⟩ := cel4 BK363; obtain ⟨hcz19_0, hcz19_1, hcz19_2, hcz19_3, hfz19_0, hfz19_1, hfz19_2, hfz19_3⟩ := cel4 BK362))
      refine bodyPost_ret (results_ct rfl _ _ gb362 25 #[.int .i64 (wrap64 (Int.tdiv (wrap64 (a0_1 - a0_3)) 2)), .int .i64 (wrap64 (Int.tdiv (wrap64 (a0_0 + a0_2)) 2)), .int .i64 (wrap64 (Int.tdiv (wrap64 (a0_1 + a0_3)) 2)), .int .i64 (wrap64 (Int.tdiv (wrap64 (a0_2 - a0_0)) 2))] (0, 0) _ rfl (bp BK362) Try.underlying25 rfl (by kernel_rfl)) rfl ?_
      exact ⟨er, bl HB⟩
     ·rw [if_neg c7] at H
      have c7b0 : ((Int.tmod (wrap64 (a0_2 - a0_0)) 2) == 0) = false := beq_eq_false_iff_ne.mpr c7
      have c7b1 : ((Int.tmod (wrap64 (a0_2 - a0_0)) 2) != 0) = true := bne_iff_ne.mpr c7
      simp only [Option.some.injEq, Prod.mk.injEq] at H
      obtain ⟨rfl, rfl, rfl, rfl, rfl⟩ := H
      go_enter Try.func95, Try.ntmps95
      go_wp2_with (first | ((with_reducible refine gate_dst (N := 1) rfl ?_); refine bx (N := 1) (cs := #[.int .i64 a0_0, .int .i64 a0_1, .int .i64 a0_2, .int .i64 a0_3]) (t := 25) ?_; intro gb361 hg w20 hbox hb; have BK361 := Aside0.mk hbox; have GW361 := sz hg HB; have GE361 := GW361; replace HB := bs HB hb; clear hb hbox hg) | ((with_reducible refine gate_dst (N := 2) rfl ?_); refine bx (N := 2) (cs := #[.int .i64 0, .int .i64 0, .int .i64 0, .int .i64 0]) (t := 25) ?_; intro gb362 hg w21 hbox hb; have BK362 := Aside0.mk hbox; have GW362 := sz hg HB; have GE362 := GW362; have NB361_362 := nl hg BK361; have NB362_361 := ng hg BK361; replace BK361 := cb BK361 hb; replace HB := bs HB hb; clear hb hbox hg; have hnb22 := NB361_362.out; have hnc22 := NB362_361.out; obtain ⟨hcz23_0, hcz23_1, hcz23_2, hcz23_3, hfz23_0, hfz23_1, hfz23_2, hfz23_3⟩ := cel4 BK361) | ((with_reducible refine gate_dst (N := 4) rfl ?_); refine bx (N := 4) (cs := #[.int .i64 0, .int .i64 0, .int .i64 0, .int .i64 0]) (t := 25) ?_; intro gb363 hg w24 hbox hb; have BK363 := Aside0.mk hbox; have GW363 := sz hg HB; have GE363 := GW363; have NB361_363 := nl hg BK361; have NB363_361 := ng hg BK361; have NB362_363 := nl hg BK362; have NB363_362 := ng hg BK362; replace BK361 := cb BK361 hb; replace BK362 := cb BK362 hb; replace HB := bs HB hb; clear hb hbox hg; have hnb25 := NB363_361.out; have hnc25 := NB361_363.out; have hnb26 := NB363_362.out; have hnc26 := NB362_363.out; obtain ⟨hcz27_0, hcz27_1, hcz27_2, hcz27_3, hfz27_0, hfz27_1, hfz27_2, hfz27_3⟩ := cel4 BK363; obtain ⟨hcz28_0, hcz28_1, hcz28_2, hcz28_3, hfz28_0, hfz28_1, hfz28_2, hfz28_3⟩ := cel4 BK361) | ((with_reducible refine gate_callee (f := 96) rfl ?_); refine gL (some 27) Try.func96 #[.agg #[.int .i64 a0_0, .int .i64 a0_1, .int .i64 a0_2, .int .i64 a0_3]] ?_; (with_reducible refine (impl_IsValidZOmega.calls a0_0 a0_1 a0_2 a0_3 true _ A2.out).mono ?_); rintro e w29 ⟨rfl, hb⟩; refine ⟨_, rfl, ?_⟩; replace BK361 := cp BK361 hb; replace BK362 := cp BK362 hb; replace BK363 := cp BK363 hb; replace HB := bs HB hb; (try clear hb); (try clear hb2); (try clear hk); (try clear hi); obtain ⟨hcz30_0, hcz30_1, hcz30_2, hcz30_3, hfz30_0, hfz30_1, hfz30_2, hfz30_3⟩ := cel4 BK363; obtain ⟨hcz31_0, hcz31_1, hcz31_2, hcz31_3, hfz31_0, hfz31_1, hfz31_2, hfz31_3⟩ := cel4 BK362))
      refine bodyPost_ret (results_ct rfl _ _ gb362 25 #[.int .i64 0, .int .i64 0, .int .i64 0, .int .i64 0] (0, 0) _ rfl (bp BK362) Try.underlying25 rfl (by kernel_rfl)) rfl ?_
      exact ⟨er, bl HB⟩
    ·rw [if_neg c6] at H
     have c6b0 : ((Int.tmod (wrap64 (a0_1 + a0_3)) 2) == 0) = false := beq_eq_false_iff_ne.mpr c6
     have c6b1 : ((Int.tmod (wrap64 (a0_1 + a0_3)) 2) != 0) = true := bne_iff_ne.mpr c6
     simp only [Option.some.injEq, Prod.mk.injEq] at H
     obtain ⟨rfl, rfl, rfl, rfl, rfl⟩ := H
     go_enter Try.func95, Try.ntmps95
     go_wp2_with (first | ((with_reducible refine gate_dst (N := 1) rfl ?_); refine bx (N := 1) (cs := #[.int .i64 a0_0, .int .i64 a0_1, .int .i64 a0_2, .int .i64 a0_3]) (t := 25) ?_; intro gb361 hg w32 hbox hb; have BK361 := Aside0.mk hbox; have GW361 := sz hg HB; have GE361 := GW361; replace HB := bs HB hb; clear hb hbox hg) | ((with_reducible refine gate_dst (N := 2) rfl ?_); refine bx (N := 2) (cs := #[.int .i64 0, .int .i64 0, .int .i64 0, .int .i64 0]) (t := 25) ?_; intro gb362 hg w33 hbox hb; have BK362 := Aside0.mk hbox; have GW362 := sz hg HB; have GE362 := GW362; have NB361_362 := nl hg BK361; have NB362_361 := ng hg BK361; replace BK361 := cb BK361 hb; replace HB := bs HB hb; clear hb hbox hg; have hnb34 := NB361_362.out; have hnc34 := NB362_361.out; obtain ⟨hcz35_0, hcz35_1, hcz35_2, hcz35_3, hfz35_0, hfz35_1, hfz35_2, hfz35_3⟩ := cel4 BK361) | ((with_reducible refine gate_dst (N := 4) rfl ?_); refine bx (N := 4) (cs := #[.int .i64 0, .int .i64 0, .int .i64 0, .int .i64 0]) (t := 25) ?_; intro gb363 hg w36 hbox hb; have BK363 := Aside0.mk hbox; have GW363 := sz hg HB; have GE363 := GW363; have NB361_363 := nl hg BK361; have NB363_361 := ng hg BK361; have NB362_363 := nl hg BK362; have NB363_362 := ng hg BK362; replace BK361 := cb BK361 hb; replace BK362 := cb BK362 hb; replace HB := bs HB hb; clear hb hbox hg; have hnb37 := NB363_361.out; have hnc37 := NB361_363.out; have hnb38 := NB363_362.out; have hnc38 := NB362_363.out; obtain ⟨hcz39_0, hcz39_1, hcz39_2, hcz39_3, hfz39_0, hfz39_1, hfz39_2, hfz39_3⟩ := cel4 BK363; obtain ⟨hcz40_0, hcz40_1, hcz40_2, hcz40_3, hfz40_0, hfz40_1, hfz40_2, hfz40_3⟩ := cel4 BK361) | ((with_reducible refine gate_callee (f := 96) rfl ?_); refine gL (some 27) Try.func96 #[.agg #[.int .i64 a0_0, .int .i64 a0_1, .int .i64 a0_2, .int .i64 a0_3]] ?_; (with_reducible refine (impl_IsValidZOmega.calls a0_0 a0_1 a0_2 a0_3 true _ A2.out).mono ?_); rintro e w41 ⟨rfl, hb⟩; refine ⟨_, rfl, ?_⟩; replace BK361 := cp BK361 hb; replace BK362 := cp BK362 hb; replace BK363 := cp BK363 hb; replace HB := bs HB hb; (try clear hb); (try clear hb2); (try clear hk); (try clear hi); obtain ⟨hcz42_0, hcz42_1, hcz42_2, hcz42_3, hfz42_0, hfz42_1, hfz42_2, hfz42_3⟩ := cel4 BK363; obtain ⟨hcz43_0, hcz43_1, hcz43_2, hcz43_3, hfz43_0, hfz43_1, hfz43_2, hfz43_3⟩ := cel4 BK362))
     refine bodyPost_ret (results_ct rfl _ _ gb362 25 #[.int .i64 0, .int .i64 0, .int .i64 0, .int .i64 0] (0, 0) _ rfl (bp BK362) Try.underlying25 rfl (by kernel_rfl)) rfl ?_
     exact ⟨er, bl HB⟩
   ·rw [if_neg c5] at H
    have c5b0 : ((Int.tmod (wrap64 (a0_0 + a0_2)) 2) == 0) = false := beq_eq_false_iff_ne.mpr c5
    have c5b1 : ((Int.tmod (wrap64 (a0_0 + a0_2)) 2) != 0) = true := bne_iff_ne.mpr c5
    simp only [Option.some.injEq, Prod.mk.injEq] at H
    obtain ⟨rfl, rfl, rfl, rfl, rfl⟩ := H
    go_enter Try.func95, Try.ntmps95
    go_wp2_with (first | ((with_reducible refine gate_dst (N := 1) rfl ?_); refine bx (N := 1) (cs := #[.int .i64 a0_0, .int .i64 a0_1, .int .i64 a0_2, .int .i64 a0_3]) (t := 25) ?_; intro gb361 hg w44 hbox hb; have BK361 := Aside0.mk hbox; have GW361 := sz hg HB; have GE361 := GW361; replace HB := bs HB hb; clear hb hbox hg) | ((with_reducible refine gate_dst (N := 2) rfl ?_); refine bx (N := 2) (cs := #[.int .i64 0, .int .i64 0, .int .i64 0, .int .i64 0]) (t := 25) ?_; intro gb362 hg w45 hbox hb; have BK362 := Aside0.mk hbox; have GW362 := sz hg HB; have GE362 := GW362; have NB361_362 := nl hg BK361; have NB362_361 := ng hg BK361; replace BK361 := cb BK361 hb; replace HB := bs HB hb; clear hb hbox hg; have hnb46 := NB361_362.out; have hnc46 := NB362_361.out; obtain ⟨hcz47_0, hcz47_1, hcz47_2, hcz47_3, hfz47_0, hfz47_1, hfz47_2, hfz47_3⟩ := cel4 BK361) | ((with_reducible refine gate_dst (N := 4) rfl ?_); refine bx (N := 4) (cs := #[.int .i64 0, .int .i64 0, .int .i64 0, .int .i64 0]) (t := 25) ?_; intro gb363 hg w48 hbox hb; have BK363 := Aside0.mk hbox; have GW363 := sz hg HB; have GE363 := GW363; have NB361_363 := nl hg BK361; have NB363_361 := ng hg BK361; have NB362_363 := nl hg BK362; have NB363_362 := ng hg BK362; replace BK361 := cb BK361 hb; replace BK362 := cb BK362 hb; replace HB := bs HB hb; clear hb hbox hg; have hnb49 := NB363_361.out; have hnc49 := NB361_363.out; have hnb50 := NB363_362.out; have hnc50 := NB362_363.out; obtain ⟨hcz51_0, hcz51_1, hcz51_2, hcz51_3, hfz51_0, hfz51_1, hfz51_2, hfz51_3⟩ := cel4 BK363; obtain ⟨hcz52_0, hcz52_1, hcz52_2, hcz52_3, hfz52_0, hfz52_1, hfz52_2, hfz52_3⟩ := cel4 BK361) | ((with_reducible refine gate_callee (f := 96) rfl ?_); refine gL (some 27) Try.func96 #[.agg #[.int .i64 a0_0, .int .i64 a0_1, .int .i64 a0_2, .int .i64 a0_3]] ?_; (with_reducible refine (impl_IsValidZOmega.calls a0_0 a0_1 a0_2 a0_3 true _ A2.out).mono ?_); rintro e w53 ⟨rfl, hb⟩; refine ⟨_, rfl, ?_⟩; replace BK361 := cp BK361 hb; replace BK362 := cp BK362 hb; replace BK363 := cp BK363 hb; replace HB := bs HB hb; (try clear hb); (try clear hb2); (try clear hk); (try clear hi); obtain ⟨hcz54_0, hcz54_1, hcz54_2, hcz54_3, hfz54_0, hfz54_1, hfz54_2, hfz54_3⟩ := cel4 BK363; obtain ⟨hcz55_0, hcz55_1, hcz55_2, hcz55_3, hfz55_0, hfz55_1, hfz55_2, hfz55_3⟩ := cel4 BK362))
    refine bodyPost_ret (results_ct rfl _ _ gb362 25 #[.int .i64 0, .int .i64 0, .int .i64 0, .int .i64 0] (0, 0) _ rfl (bp BK362) Try.underlying25 rfl (by kernel_rfl)) rfl ?_
    exact ⟨er, bl HB⟩
  ·rw [if_neg c4] at H
   have c4b0 : ((Int.tmod (wrap64 (a0_1 - a0_3)) 2) == 0) = false := beq_eq_false_iff_ne.mpr c4
   have c4b1 : ((Int.tmod (wrap64 (a0_1 - a0_3)) 2) != 0) = true := bne_iff_ne.mpr c4
   simp only [Option.some.injEq, Prod.mk.injEq] at H
   obtain ⟨rfl, rfl, rfl, rfl, rfl⟩ := H
   go_enter Try.func95, Try.ntmps95
   go_wp2_with (first | ((with_reducible refine gate_dst (N := 1) rfl ?_); refine bx (N := 1) (cs := #[.int .i64 a0_0, .int .i64 a0_1, .int .i64 a0_2, .int .i64 a0_3]) (t := 25) ?_; intro gb361 hg w56 hbox hb; have BK361 := Aside0.mk hbox; have GW361 := sz hg HB; have GE361 := GW361; replace HB := bs HB hb; clear hb hbox hg) | ((with_reducible refine gate_dst (N := 2) rfl ?_); refine bx (N := 2) (cs := #[.int .i64 0, .int .i64 0, .int .i64 0, .int .i64 0]) (t := 25) ?_; intro gb362 hg w57 hbox hb; have BK362 := Aside0.mk hbox; have GW362 := sz hg HB; have GE362 := GW362; have NB361_362 := nl hg BK361; have NB362_361 := ng hg BK361; replace BK361 := cb BK361 hb; replace HB := bs HB hb; clear hb hbox hg; have hnb58 := NB361_362.out; have hnc58 := NB362_361.out; obtain ⟨hcz59_0, hcz59_1, hcz59_2, hcz59_3, hfz59_0, hfz59_1, hfz59_2, hfz59_3⟩ := cel4 BK361) | ((with_reducible refine gate_dst (N := 4) rfl ?_); refine bx (N := 4) (cs := #[.int .i64 0, .int .i64 0, .int .i64 0, .int .i64 0]) (t := 25) ?_; intro gb363 hg w60 hbox hb; have BK363 := Aside0.mk hbox; have GW363 := sz hg HB; have GE363 := GW363; have NB361_363 := nl hg BK361; have NB363_361 := ng hg BK361; have NB362_363 := nl hg BK362; have NB363_362 := ng hg BK362; replace BK361 := cb BK361 hb; replace BK362 := cb BK362 hb; replace HB := bs HB hb; clear hb hbox hg; have hnb61 := NB363_361.out; have hnc61 := NB361_363.out; have hnb62 := NB363_362.out; have hnc62 := NB362_363.out; obtain ⟨hcz63_0, hcz63_1, hcz63_2, hcz63_3, hfz63_0, hfz63_1, hfz63_2, hfz63_3⟩ := cel4 BK363; obtain ⟨hcz64_0, hcz64_1, hcz64_2, hcz64_3, hfz64_0, hfz64_1, hfz64_2, hfz64_3⟩ := cel4 BK361) | ((with_reducible refine gate_callee (f := 96) rfl ?_); refine gL (some 27) Try.func96 #[.agg #[.int .i64 a0_0, .int .i64 a0_1, .int .i64 a0_2, .int .i64 a0_3]] ?_; (with_reducible refine (impl_IsValidZOmega.calls a0_0 a0_1 a0_2 a0_3 true _ A2.out).mono ?_); rintro e w65 ⟨rfl, hb⟩; refine ⟨_, rfl, ?_⟩; replace BK361 := cp BK361 hb; replace BK362 := cp BK362 hb; replace BK363 := cp BK363 hb; replace HB := bs HB hb; (try clear hb); (try clear hb2); (try clear hk); (try clear hi); obtain ⟨hcz66_0, hcz66_1, hcz66_2, hcz66_3, hfz66_0, hfz66_1, hfz66_2, hfz66_3⟩ := cel4 BK363; obtain ⟨hcz67_0, hcz67_1, hcz67_2, hcz67_3, hfz67_0, hfz67_1, hfz67_2, hfz67_3⟩ := cel4 BK362))
   refine bodyPost_ret (results_ct rfl _ _ gb362 25 #[.int .i64 0, .int .i64 0, .int .i64 0, .int .i64 0] (0, 0) _ rfl (bp BK362) Try.underlying25 rfl (by kernel_rfl)) rfl ?_
   exact ⟨er, bl HB⟩
 ·replace c3 := Bool.eq_false_iff.mpr c3
  subst c3
  rw [nf] at H
  simp only [Option.some.injEq, Prod.mk.injEq] at H
  obtain ⟨rfl, rfl, rfl, rfl, rfl⟩ := H
  go_enter Try.func95, Try.ntmps95
  go_wp2_with (first | ((with_reducible refine gate_dst (N := 1) rfl ?_); refine bx (N := 1) (cs := #[.int .i64 a0_0, .int .i64 a0_1, .int .i64 a0_2, .int .i64 a0_3]) (t := 25) ?_; intro gb361 hg w68 hbox hb; have BK361 := Aside0.mk hbox; have GW361 := sz hg HB; have GE361 := GW361; replace HB := bs HB hb; clear hb hbox hg) | ((with_reducible refine gate_dst (N := 2) rfl ?_); refine bx (N := 2) (cs := #[.int .i64 0, .int .i64 0, .int .i64 0, .int .i64 0]) (t := 25) ?_; intro gb362 hg w69 hbox hb; have BK362 := Aside0.mk hbox; have GW362 := sz hg HB; have GE362 := GW362; have NB361_362 := nl hg BK361; have NB362_361 := ng hg BK361; replace BK361 := cb BK361 hb; replace HB := bs HB hb; clear hb hbox hg; have hnb70 := NB361_362.out; have hnc70 := NB362_361.out; obtain ⟨hcz71_0, hcz71_1, hcz71_2, hcz71_3, hfz71_0, hfz71_1, hfz71_2, hfz71_3⟩ := cel4 BK361) | ((with_reducible refine gate_dst (N := 4) rfl ?_); refine bx (N := 4) (cs := #[.int .i64 0, .int .i64 0, .int .i64 0, .int .i64 0]) (t := 25) ?_; intro gb363 hg w72 hbox hb; have BK363 := Aside0.mk hbox; have GW363 := sz hg HB; have GE363 := GW363; have NB361_363 := nl hg BK361; have NB363_361 := ng hg BK361; have NB362_363 := nl hg BK362; have NB363_362 := ng hg BK362; replace BK361 := cb BK361 hb; replace BK362 := cb BK362 hb; replace HB := bs HB hb; clear hb hbox hg; have hnb73 := NB363_361.out; have hnc73 := NB361_363.out; have hnb74 := NB363_362.out; have hnc74 := NB362_363.out; obtain ⟨hcz75_0, hcz75_1, hcz75_2, hcz75_3, hfz75_0, hfz75_1, hfz75_2, hfz75_3⟩ := cel4 BK363; obtain ⟨hcz76_0, hcz76_1, hcz76_2, hcz76_3, hfz76_0, hfz76_1, hfz76_2, hfz76_3⟩ := cel4 BK361) | ((with_reducible refine gate_callee (f := 96) rfl ?_); refine gL (some 27) Try.func96 #[.agg #[.int .i64 a0_0, .int .i64 a0_1, .int .i64 a0_2, .int .i64 a0_3]] ?_; (with_reducible refine (impl_IsValidZOmega.calls a0_0 a0_1 a0_2 a0_3 false _ A2.out).mono ?_); rintro e w77 ⟨rfl, hb⟩; refine ⟨_, rfl, ?_⟩; replace BK361 := cp BK361 hb; replace BK362 := cp BK362 hb; replace BK363 := cp BK363 hb; replace HB := bs HB hb; (try clear hb); (try clear hb2); (try clear hk); (try clear hi); obtain ⟨hcz78_0, hcz78_1, hcz78_2, hcz78_3, hfz78_0, hfz78_1, hfz78_2, hfz78_3⟩ := cel4 BK362))
  refine bodyPost_ret (results_ct rfl _ _ gb362 25 #[.int .i64 0, .int .i64 0, .int .i64 0, .int .i64 0] (0, 0) _ rfl (bp BK362) Try.underlying25 rfl (by kernel_rfl)) rfl ?_
  exact ⟨er, bl HB⟩
/-! ### impl_IsValidDOmega: function 62 -/
def impl_IsValidDOmega.f (a0_0 : Int) (a0_1 : Int) (a0_2 : Int) (a0_3 : Int) (a0_4 : Int) : Option (Bool) := (impl_DivSqrt2.f a0_0 a0_1 a0_2 a0_3).bind fun bt366 => ((impl_IsValidZOmega.f a0_0 a0_1 a0_2 a0_3).bind fun t372 => (if t372 = true then ((impl_in.f a0_4 0 60).bind fun t373 => (if t373 = true then (if a0_4 = 0 then (some true) else (some (!bt366.2.2.2.2))) else (some false))) else (some false)))
set_option maxHeartbeats 8000000 in
set_option maxRecDepth 100000 in
theorem impl_IsValidDOmega.calls (a0_0 : Int) (a0_1 : Int) (a0_2 : Int) (a0_3 : Int) (a0_4 : Int) (r : Bool) (w : World) (h : impl_IsValidDOmega.f a0_0 a0_1 a0_2 a0_3 a0_4 = some r) :
  Calls Try.prog 62 #[.agg #[.int .i64 a0_0, .int .i64 a0_1, .int .i64 a0_2, .int .i64 a0_3, .int .i64 a0_4]] w fun e w' => e = .returned (.bool r) ∧ Below w.heap.size w w' := by
 have hu27 := Try.underlying27
 have hu25 := Try.underlying25
 have HB := Aside0.mk (Below.refl w.heap.size w)
 have H := h
 clear h
 unfold impl_IsValidDOmega.f at H
 replace H := Option.bind_eq_some_iff.mp H
 obtain ⟨⟨t366, t367, t368, t369, t370⟩, A20, H⟩ := H
 try dsimp only at H
 have A2 := Aside0.mk A20
 clear A20
 replace H := Option.bind_eq_some_iff.mp H
 obtain ⟨t372, A30, H⟩ := H
 try dsimp only at H
 have A3 := Aside0.mk A30
 clear A30
 by_cases c4 : t372 = true
 ·subst c4
  rw [if_pos rfl] at H
  replace H := Option.bind_eq_some_iff.mp H
  obtain ⟨t373, A50, H⟩ := H
  try dsimp only at H
  have A5 := Aside0.mk A50
  clear A50
  by_cases c6 : t373 = true
  ·subst c6
   rw [if_pos rfl] at H
   by_cases c7 : a0_4 = 0
   ·rw [if_pos c7] at H
    have c7b0 : (a0_4 == 0) = true := beq_iff_eq.mpr c7
    have c7b1 : (a0_4 != 0) = false := bne_eq_false_iff_eq.mpr c7
    clear c7
    obtain rfl := Option.some.inj H
    go_enter Try.func62, Try.ntmps62
    go_wp2_with (first | ((with_reducible refine gate_dst (N := 1) rfl ?_); refine bx (N := 1) (cs := #[.int .i64 a0_0, .int .i64 a0_1, .int .i64 a0_2, .int .i64 a0_3, .int .i64 a0_4]) (t := 27) ?_; intro gb365 hg w8 hbox hb; have BK365 := Aside0.mk hbox; have GW365 := sz hg HB; have GE365 := GW365; replace HB := bs HB hb; clear hb hbox hg; obtain ⟨hcz9_0, hcz9_1, hcz9_2, hcz9_3, hcz9_4, hfz9_0, hfz9_1, hfz9_2, hfz9_3, hfz9_4⟩ := cel5 BK365) | ((with_reducible refine gate_callee (f := 95) rfl ?_); refine gL (some 8) Try.func95 #[.agg #[.int .i64 a0_0, .int .i64 a0_1, .int .i64 a0_2, .int .i64 a0_3]] ?_; (with_reducible refine (impl_DivSqrt2.calls a0_0 a0_1 a0_2 a0_3 t366 t367 t368 t369 t370 _ A2.out).mono ?_); rintro e w10 ⟨rfl, hb⟩; refine ⟨_, rfl, ?_⟩; replace BK365 := cb BK365 hb; replace HB := bs HB hb; (try clear hb); (try clear hb2); (try clear hk); (try clear hi)) | ((with_reducible refine gate_dst (N := 3) rfl ?_); refine bx (N := 3) (cs := #[.int .i64 0, .int .i64 0, .int .i64 0, .int .i64 0]) (t := 25) ?_; intro gb371 hg w11 hbox hb; have BK371 := Aside0.mk hbox; have GW371 := sz hg HB; have GE371 := GW371; have NB365_371 := nl hg BK365; have NB371_365 := ng hg BK365; replace BK365 := cb BK365 hb; replace HB := bs HB hb; clear hb hbox hg; have hnb12 := NB371_365.out; have hnc12 := NB365_371.out; obtain ⟨hcz13_0, hcz13_1, hcz13_2, hcz13_3, hfz13_0, hfz13_1, hfz13_2, hfz13_3⟩ := cel4 BK371; obtain ⟨hcz14_0, hcz14_1, hcz14_2, hcz14_3, hcz14_4, hfz14_0, hfz14_1, hfz14_2, hfz14_3, hfz14_4⟩ := cel5 BK365) | ((with_reducible refine gate_callee (f := 96) rfl ?_); refine gL (some 13) Try.func96 #[.agg #[.int .i64 a0_0, .int .i64 a0_1, .int .i64 a0_2, .int .i64 a0_3]] ?_; (with_reducible refine (impl_IsValidZOmega.calls a0_0 a0_1 a0_2 a0_3 true _ A3.out).mono ?_); rintro e w15 ⟨rfl, hb⟩; refine ⟨_, rfl, ?_⟩; replace BK365 := cp BK365 hb; replace BK371 := cp BK371 hb; replace HB := bs HB hb; (try clear hb); (try clear hb2); (try clear hk); (try clear hi); obtain ⟨hcz16_0, hcz16_1, hcz16_2, hcz16_3, hcz16_4, hfz16_0, hfz16_1, hfz16_2, hfz16_3, hfz16_4⟩ := cel5 BK365) | (go_at_call 31; (with_reducible refine (impl_in.calls a0_4 0 60 true _ A5.out).mono ?_); rintro e w' ⟨rfl, ⟨nd, rfl⟩⟩))
    go_ret
    exact ⟨er, bl HB⟩
   ·rw [if_neg c7] at H
    have c7b0 : (a0_4 == 0) = false := beq_eq_false_iff_ne.mpr c7
    have c7b1 : (a0_4 != 0) = true := bne_iff_ne.mpr c7
    obtain rfl := Option.some.inj H
    go_enter Try.func62, Try.ntmps62
    go_wp2_with (first | ((with_reducible refine gate_dst (N := 1) rfl ?_); refine bx (N := 1) (cs := #[.int .i64 a0_0, .int .i64 a0_1, .int .i64 a0_2, .int .i64 a0_3, .int .i64 a0_4]) (t := 27) ?_; intro gb365 hg w17 hbox hb; have BK365 := Aside0.mk hbox; have GW365 := sz hg HB; have GE365 := GW365; replace HB := bs HB hb; clear hb hbox hg; obtain ⟨hcz18_0, hcz18_1, hcz18_2, hcz18_3, hcz18_4, hfz18_0, hfz18_1, hfz18_2, hfz18_3, hfz18_4⟩ := cel5 BK365) | ((with_reducible refine gate_callee (f := 95) rfl ?_); refine gL (some 8) Try.func95 #[.agg #[.int .i64 a0_0, .int .i64 a0_1, .int .i64 a0_2, .int .i64 a0_3]] ?_; (with_reducible refine (impl_DivSqrt2.calls a0_0 a0_1 a0_2 a0_3 t366 t367 t368 t369 t370 _ A2.out).mono ?_); rintro e w19 ⟨rfl, hb⟩; refine ⟨_, rfl, ?_⟩; replace BK365 := cb BK365 hb; replace HB := bs HB hb; (try clear hb); (try clear hb2); (try clear hk); (try clear hi)) | ((with_reducible refine gate_dst (N := 3) rfl ?_); refine bx (N := 3) (cs := #[.int .i64 0, .int .i64 0, .int .i64 0, .int .i64 0]) (t := 25) ?_; intro gb371 hg w20 hbox hb; have BK371 := Aside0.mk hbox; have GW371 := sz hg HB; have GE371 := GW371; have NB365_371 := nl hg BK365; have NB371_365 := ng hg BK365; replace BK365 := cb BK365 hb; replace HB := bs HB hb; clear hb hbox hg; have hnb21 := NB371_365.out; have hnc21 := NB365_371.out; obtain ⟨hcz22_0, hcz22_1, hcz22_2, hcz22_3, hfz22_0, hfz22_1, hfz22_2, hfz22_3⟩ := cel4 BK371; obtain ⟨hcz23_0, hcz23_1, hcz23_2, hcz23_3, hcz23_4, hfz23_0, hfz23_1, hfz23_2, hfz23_3, hfz23_4⟩ := cel5 BK365) | ((with_reducible refine gate_callee (f := 96) rfl ?_); refine gL (some 13) Try.func96 #[.agg #[.int .i64 a0_0, .int .i64 a0_1, .int .i64 a0_2, .int .i64 a0_3]] ?_; (with_reducible refine (impl_IsValidZOmega.calls a0_0 a0_1 a0_2 a0_3 true _ A3.out).mono ?_); rintro e w24 ⟨rfl, hb⟩; refine ⟨_, rfl, ?_⟩; replace BK365 := cp BK365 hb; replace BK371 := cp BK371 hb; replace HB := bs HB hb; (try clear hb); (try clear hb2); (try clear hk); (try clear hi); obtain ⟨hcz25_0, hcz25_1, hcz25_2, hcz25_3, hcz25_4, hfz25_0, hfz25_1, hfz25_2, hfz25_3, hfz25_4⟩ := cel5 BK365) | (go_at_call 31; (with_reducible refine (impl_in.calls a0_4 0 60 true _ A5.out).mono ?_); rintro e w' ⟨rfl, ⟨nd, rfl⟩⟩))
    go_ret
    exact ⟨er, bl HB⟩
  ·replace c6 := Bool.eq_false_iff.mpr c6
   subst c6
   rw [nf] at H
   obtain rfl := Option.some.inj H
   go_enter Try.func62, Try.ntmps62
   go_wp2_with (first | ((with_reducible refine gate_dst (N := 1) rfl ?_); refine bx (N := 1) (cs := #[.int .i64 a0_0, .int .i64 a0_1, .int .i64 a0_2, .int .i64 a0_3, .int .i64 a0_4]) (t := 27) ?_; intro gb365 hg w26 hbox hb; have BK365 := Aside0.mk hbox; have GW365 := sz hg HB; have GE365 := GW365; replace HB := bs HB hb; clear hb hbox hg; obtain ⟨hcz27_0, hcz27_1, hcz27_2, hcz27_3, hcz27_4, hfz27_0, hfz27_1, hfz27_2, hfz27_3, hfz27_4⟩ := cel5 BK365) | ((with_reducible refine gate_callee (f := 95) rfl ?_); refine gL (some 8) Try.func95 #[.agg #[.int .i64 a0_0, .int .i64 a0_1, .int .i64 a0_2, .int .i64 a0_3]] ?_; (with_reducible refine (impl_DivSqrt2.calls a0_0 a0_1 a0_2 a0_3 t366 t367 t368 t369 t370 _ A2.out).mono ?_); rintro e w28 ⟨rfl, hb⟩; refine ⟨_, rfl, ?_⟩; replace BK365 := cb BK365 hb; replace HB := bs HB hb; (try clear hb); (try clear hb2); (try clear hk); (try clear hi)) | ((with_reducible refine gate_dst (N := 3) rfl ?_); refine bx (N := 3) (cs := #[.int .i64 0, .int .i64 0, .int .i64 0, .int .i64 0]) (t := 25) ?_; intro gb371 hg w29 hbox hb; have BK371 := Aside0.mk hbox; have GW371 := sz hg HB; have GE371 := GW371; have NB365_371 := nl hg BK365; have NB371_365 := ng hg BK365; replace BK365 := cb BK365 hb; replace HB := bs HB hb; clear hb hbox hg; have hnb30 := NB371_365.out; have hnc30 := NB365_371.out; obtain ⟨hcz31_0, hcz31_1, hcz31_2, hcz31_3, hfz31_0, hfz31_1, hfz31_2, hfz31_3⟩ := cel4 BK371; obtain ⟨hcz32_0, hcz32_1, hcz32_2, hcz32_3, hcz32_4, hfz32_0, hfz32_1, hfz32_2, hfz32_3, hfz32_4⟩ := cel5 BK365) | ((with_reducible refine gate_callee (f := 96) rfl ?_); refine gL (some 13) Try.func96 #[.agg #[.int .i64 a0_0, .int .i64 a0_1, .int .i64 a0_2, .int .i64 a0_3]] ?_; (with_reducible refine (impl_IsValidZOmega.calls a0_0 a0_1 a0_2 a0_3 true _ A3.out).mono ?_); rintro e w33 ⟨rfl, hb⟩; refine ⟨_, rfl, ?_⟩; replace BK365 := cp BK365 hb; replace BK371 := cp BK371 hb; replace HB := bs HB hb; (try clear hb); (try clear hb2); (try clear hk); (try clear hi); obtain ⟨hcz34_0, hcz34_1, hcz34_2, hcz34_3, hcz34_4, hfz34_0, hfz34_1, hfz34_2, hfz34_3, hfz34_4⟩ := cel5 BK365) | (go_at_call 31; (with_reducible refine (impl_in.calls a0_4 0 60 false _ A5.out).mono ?_); rintro e w' ⟨rfl, ⟨nd, rfl⟩⟩))
   go_ret
   exact ⟨er, bl HB⟩
 ·replace c4 := Bool.eq_false_iff.mpr c4
  subst c4
  rw [nf] at H
  obtain rfl := Option.some.inj H
  go_enter Try.func62, Try.ntmps62
  go_wp2_with (first | ((with_reducible refine gate_dst (N := 1) rfl ?_); refine bx (N := 1) (cs := #[.int .i64 a0_0, .int .i64 a0_1, .int .i64 a0_2, .int .i64 a0_3, .int .i64 a0_4]) (t := 27) ?_; intro gb365 hg w35 hbox hb; have BK365 := Aside0.mk hbox; have GW365 := sz hg HB; have GE365 := GW365; replace HB := bs HB hb; clear hb hbox hg; obtain ⟨hcz36_0, hcz36_1, hcz36_2, hcz36_3, hcz36_4, hfz36_0, hfz36_1, hfz36_2, hfz36_3, hfz36_4⟩ := cel5 BK365) | ((with_reducible refine gate_callee (f := 95) rfl ?_); refine gL (some 8) Try.func95 #[.agg #[.int .i64 a0_0, .int .i64 a0_1, .int .i64 a0_2, .int .i64 a0_3]] ?_; (with_reducible refine (impl_DivSqrt2.calls a0_0 a0_1 a0_2 a0_3 t366 t367 t368 t369 t370 _ A2.out).mono ?_); rintro e w37 ⟨rfl, hb⟩; refine ⟨_, rfl, ?_⟩; replace BK365 := cb BK365 hb; replace HB := bs HB hb; (try clear hb); (try clear hb2); (try clear hk); (try clear hi)) | ((with_reducible refine gate_dst (N := 3) rfl ?_); refine bx (N := 3) (cs := #[.int .i64 0, .int .i64 0, .int .i64 0, .int .i64 0]) (t := 25) ?_; intro gb371 hg w38 hbox hb; have BK371 := Aside0.mk hbox; have GW371 := sz hg HB; have GE371 := GW371; have NB365_371 := nl hg BK365; have NB371_365 := ng hg BK365; replace BK365 := cb BK365 hb; replace HB := bs HB hb; clear hb hbox hg; have hnb39 := NB371_365.out; have hnc39 := NB365_371.out; obtain ⟨hcz40_0, hcz40_1, hcz40_2, hcz40_3, hfz40_0, hfz40_1, hfz40_2, hfz40_3⟩ := cel4 BK371; obtain ⟨hcz41_0, hcz41_1, hcz41_2, hcz41_3, hcz41_4, hfz41_0, hfz41_1, hfz41_2, hfz41_3, hfz41_4⟩ := cel5 BK365) | ((with_reducible refine gate_callee (f := 96) rfl ?_); refine gL (some 13) Try.func96 #[.agg #[.int .i64 a0_0, .int .i64 a0_1, .int .i64 a0_2, .int .i64 a0_3]] ?_; (with_reducible refine (impl_IsValidZOmega.calls a0_0 a0_1 a0_2 a0_3 false _ A3.out).mono ?_); rintro e w42 ⟨rfl, hb⟩; refine ⟨_, rfl, ?_⟩; replace BK365 := cp BK365 hb; replace BK371 := cp BK371 hb; replace HB := bs HB hb; (try clear hb); (try clear hb2); (try clear hk); (try clear hi)))
  go_ret
  exact ⟨er, bl HB⟩
/-! ### impl_checked: function 97 -/
def impl_checked.f (a0_0 : Int) (a0_1 : Int) (a0_2 : Int) (a0_3 : Int) : Option (Int × Int × Int × Int × Bool) := (impl_IsValidZOmega.f a0_0 a0_1 a0_2 a0_3).bind fun t376 => (if t376 = true then (some (a0_0, a0_1, a0_2, a0_3, true)) else (some (0, 0, 0, 0, false)))
set_option maxHeartbeats 8000000 in
set_option maxRecDepth 100000 in
theorem impl_checked.calls (a0_0 : Int) (a0_1 : Int) (a0_2 : Int) (a0_3 : Int) (r1 : Int) (r2 : Int) (r3 : Int) (r4 : Int) (r5 : Bool) (w : World) (h : impl_checked.f a0_0 a0_1 a0_2 a0_3 = some (r1, r2, r3, r4, r5)) :
  Calls Try.prog 97 #[.agg #[.int .i64 a0_0, .int .i64 a0_1, .int .i64 a0_2, .int .i64 a0_3]] w fun e w' => e = .returned (.tuple #[.agg #[.int .i64 r1, .int .i64 r2, .int .i64 r3, .int .i64 r4], .bool r5]) ∧ Below w.heap.size w w' := by
 have hu25 := Try.underlying25
 have HB := Aside0.mk (Below.refl w.heap.size w)
 have H := h
 clear h
 unfold impl_checked.f at H
 replace H := Option.bind_eq_some_iff.mp H
 obtain ⟨t376, A20, H⟩ := H
 try dsimp only at H
 have A2 := Aside0.mk A20
 clear A20
 by_cases c3 : t376 = true
 ·subst c3
  rw [if_pos rfl] at H
  simp only [Option.some.injEq, Prod.mk.injEq] at H
  obtain ⟨rfl, rfl, rfl, rfl, rfl⟩ := H
  go_enter Try.func97, Try.ntmps97
  go_wp2_with (first | ((with_reducible refine gate_dst (N := 1) rfl ?_); refine bx (N := 1) (cs := #[.int .i64 a0_0, .int .i64 a0_1, .int .i64 a0_2, .int .i64 a0_3]) (t := 25) ?_; intro gb374 hg w4 hbox hb; have BK374 := Aside0.mk hbox; have GW374 := sz hg HB; have GE374 := GW374; replace HB := bs HB hb; clear hb hbox hg) | ((with_reducible refine gate_dst (N := 2) rfl ?_); refine bx (N := 2) (cs := #[.int .i64 0, .int .i64 0, .int .i64 0, .int .i64 0]) (t := 25) ?_; intro gb375 hg w5 hbox hb; have BK375 := Aside0.mk hbox; have GW375 := sz hg HB; have GE375 := GW375; have NB374_375 := nl hg BK374; have NB375_374 := ng hg BK374; replace BK374 := cb BK374 hb; replace HB := bs HB hb; clear hb hbox hg; have hnb6 := NB374_375.out; have hnc6 := NB375_374.out; obtain ⟨hcz7_0, hcz7_1, hcz7_2, hcz7_3, hfz7_0, hfz7_1, hfz7_2, hfz7_3⟩ := cel4 BK374) | ((with_reducible refine gate_callee (f := 96) rfl ?_); refine gL (some 5) Try.func96 #[.agg #[.int .i64 a0_0, .int .i64 a0_1, .int .i64 a0_2, .int .i64 a0_3]] ?_; (with_reducible refine (impl_IsValidZOmega.calls a0_0 a0_1 a0_2 a0_3 true _ A2.out).mono ?_); rintro e w8 ⟨rfl, hb⟩; refine ⟨_, rfl, ?_⟩; replace BK374 := cb BK374 hb; replace BK375 := cb BK375 hb; replace HB := bs HB hb; (try clear hb); (try clear hb2); (try clear hk); (try clear hi); obtain ⟨hcz9_0, hcz9_1, hcz9_2, hcz9_3, hfz9_0, hfz9_1, hfz9_2, hfz9_3⟩ := cel4 BK374; obtain ⟨hcz10_0, hcz10_1, hcz10_2, hcz10_3, hfz10_0, hfz10_1, hfz10_2, hfz10_3⟩ := cel4 BK375))
  refine bodyPost_ret (results_ct rfl _ _ gb375 25 #[.int .i64 a0_0, .int .i64 a0_1, .int .i64 a0_2, .int .i64 a0_3] (0, 0) _ rfl (bp BK375) Try.underlying25 rfl (by kernel_rfl)) rfl ?_
  exact ⟨er, bl HB⟩
 ·replace c3 := Bool.eq_false_iff.mpr c3
  subst c3
  rw [nf] at H
  simp only [Option.some.injEq, Prod.mk.injEq] at H
  obtain ⟨rfl, rfl, rfl, rfl, rfl⟩ := H
  go_enter Try.func97, Try.ntmps97
  go_wp2_with (first | ((with_reducible refine gate_dst (N := 1) rfl ?_); refine bx (N := 1) (cs := #[.int .i64 a0_0, .int .i64 a0_1, .int .i64 a0_2, .int .i64 a0_3]) (t := 25) ?_; intro gb374 hg w11 hbox hb; have BK374 := Aside0.mk hbox; have GW374 := sz hg HB; have GE374 := GW374; replace HB := bs HB hb; clear hb hbox hg) | ((with_reducible refine gate_dst (N := 2) rfl ?_); refine bx (N := 2) (cs := #[.int .i64 0, .int .i64 0, .int .i64 0, .int .i64 0]) (t := 25) ?_; intro gb375 hg w12 hbox hb; have BK375 := Aside0.mk hbox; have GW375 := sz hg HB; have GE375 := GW375; have NB374_375 := nl hg BK374; have NB375_374 := ng hg BK374; replace BK374 := cb BK374 hb; replace HB := bs HB hb; clear hb hbox hg; have hnb13 := NB374_375.out; have hnc13 := NB375_374.out; obtain ⟨hcz14_0, hcz14_1, hcz14_2, hcz14_3, hfz14_0, hfz14_1, hfz14_2, hfz14_3⟩ := cel4 BK374) | ((with_reducible refine gate_callee (f := 96) rfl ?_); refine gL (some 5) Try.func96 #[.agg #[.int .i64 a0_0, .int .i64 a0_1, .int .i64 a0_2, .int .i64 a0_3]] ?_; (with_reducible refine (impl_IsValidZOmega.calls a0_0 a0_1 a0_2 a0_3 false _ A2.out).mono ?_); rintro e w15 ⟨rfl, hb⟩; refine ⟨_, rfl, ?_⟩; replace BK374 := cb BK374 hb; replace BK375 := cb BK375 hb; replace HB := bs HB hb; (try clear hb); (try clear hb2); (try clear hk); (try clear hi); obtain ⟨hcz16_0, hcz16_1, hcz16_2, hcz16_3, hfz16_0, hfz16_1, hfz16_2, hfz16_3⟩ := cel4 BK375))
  refine bodyPost_ret (results_ct rfl _ _ gb375 25 #[.int .i64 0, .int .i64 0, .int .i64 0, .int .i64 0] (0, 0) _ rfl (bp BK375) Try.underlying25 rfl (by kernel_rfl)) rfl ?_
  exact ⟨er, bl HB⟩
/-! ### impl_MulZOmega: function 63 -/
def impl_MulZOmega.f (a0_0 : Int) (a0_1 : Int) (a0_2 : Int) (a0_3 : Int) (a1_0 : Int) (a1_1 : Int) (a1_2 : Int) (a1_3 : Int) : Option (Int × Int × Int × Int × Bool) := (impl_IsValidZOmega.f a0_0 a0_1 a0_2 a0_3).bind fun t380 => (if t380 = true then ((impl_IsValidZOmega.f a1_0 a1_1 a1_2 a1_3).bind fun t381 => (if t381 = true then ((impl_checked.f (wrap64 ((wrap64 ((wrap64 ((wrap64 (a0_0 * a1_0)) - (wrap64 (a0_1 * a1_3)))) - (wrap64 (a0_2 * a1_2)))) - (wrap64 (a0_3 * a1_1)))) (wrap64 ((wrap64 ((wrap64 ((wrap64 (a0_0 * a1_1)) + (wrap64 (a0_1 * a1_0)))) - (wrap64 (a0_2 * a1_3)))) - (wrap64 (a0_3 * a1_2)))) (wrap64 ((wrap64 ((wrap64 ((wrap64 (a0_0 * a1_2)) + (wrap64 (a0_1 * a1_1)))) + (wrap64 (a0_2 * a1_0)))) - (wrap64 (a0_3 * a1_3)))) (wrap64 ((wrap64 ((wrap64 ((wrap64 (a0_0 * a1_3)) + (wrap64 (a0_1 * a1_2)))) + (wrap64 (a0_2 * a1_1)))) + (wrap64 (a0_3 * a1_0))))).bind fun bt382 => (some (bt382.1, bt382.2.1, bt382.2.2.1, bt382.2.2.2.1, bt382.2.2.2.2))) else (some (0, 0, 0, 0, false)))) else (some (0, 0, 0, 0, false)))
set_option maxHeartbeats 8000000 in
set_option maxRecDepth 100000 in
theorem impl_MulZOmega.calls (a0_0 : Int) (a0_1 : Int) (a0_2 : Int) (a0_3 : Int) (a1_0 : Int) (a1_1 : Int) (a1_2 : Int) (a1_3 : Int) (r1 : Int) (r2 : Int) (r3 : Int) (r4 : Int) (r5 : Bool) (w : World) (h : impl_MulZOmega.f a0_0 a0_1 a0_2 a0_3 a1_0 a1_1 a1_2 a1_3 = some (r1, r2, r3, r4, r5)) :
  Calls Try.prog 63 #[.agg #[.int .i64 a0_0, .int .i64 a0_1, .int .i64 a0_2, .int .i64 a0_3], .agg #[.int .i64 a1_0, .int .i64 a1_1, .int .i64 a1_2, .int .i64 a1_3]] w fun e w' => e = .returned (.tuple #[.agg #[.int .i64 r1, .int .i64 r2, .int .i64 r3, .int .i64 r4], .bool r5]) ∧ Below w.heap.size w w' := by
 have hu25 := Try.underlying25
 have HB := Aside0.mk (Below.refl w.heap.size w)
 have H := h
 clear h
 unfold impl_MulZOmega.f at H
 replace H := Option.bind_eq_some_iff.mp H
 obtain ⟨t380, A30, H⟩ := H
 try dsimp only at H
 have A3 := Aside0.mk A30
 clear A30
 by_cases c4 : t380 = true
 ·subst c4
  rw [if_pos rfl] at H
  replace H := Option.bind_eq_some_iff.mp H
  obtain ⟨t381, A50, H⟩ := H
  try dsimp only at H
  have A5 := Aside0.mk A50
  clear A50
  by_cases c6 : t381 = true
  ·subst c6
   rw [if_pos rfl] at H
   replace H := Option.bind_eq_some_iff.mp H
   obtain ⟨⟨t382, t383, t384, t385, t386⟩, A70, H⟩ := H
   try dsimp only at H
   have A7 := Aside0.mk A70
   clear A70
   simp only [Option.some.injEq, Prod.mk.injEq] at H
   obtain ⟨rfl, rfl, rfl, rfl, rfl⟩ := H
   go_enter Try.func63, Try.ntmps63
   go_wp2_with (first | ((with_reducible refine gate_dst (N := 2) rfl ?_); refine bx (N := 2) (cs := #[.int .i64 a0_0, .int .i64 a0_1, .int .i64 a0_2, .int .i64 a0_3]) (t := 25) ?_; intro gb377 hg w8 hbox hb; have BK377 := Aside0.mk hbox; have GW377 := sz hg HB; have GE377 := GW377; replace HB := bs HB hb; clear hb hbox hg) | ((with_reducible refine gate_dst (N := 3) rfl ?_); refine bx (N := 3) (cs := #[.int .i64 a1_0, .int .i64 a1_1, .int .i64 a1_2, .int .i64 a1_3]) (t := 25) ?_; intro gb378 hg w9 hbox hb; have BK378 := Aside0.mk hbox; have GW378 := sz hg HB; have GE378 := GW378; have NB377_378 := nl hg BK377; have NB378_377 := ng hg BK377; replace BK377 := cb BK377 hb; replace HB := bs HB hb; clear hb hbox hg) | ((with_reducible refine gate_dst (N := 4) rfl ?_); refine bx (N := 4) (cs := #[.int .i64 0, .int .i64 0, .int .i64 0, .int .i64 0]) (t := 25) ?_; intro gb379 hg w10 hbox hb; have BK379 := Aside0.mk hbox; have GW379 := sz hg HB; have GE379 := GW379; have NB377_379 := nl hg BK377; have NB379_377 := ng hg BK377; have NB378_379 := nl hg BK378; have NB379_378 := ng hg BK378; replace BK377 := cb BK377 hb; replace BK378 := cb BK378 hb; replace HB := bs HB hb; clear hb hbox hg; have hnb11 := NB377_378.out; have hnc11 := NB378_377.out; have hnb12 := NB377_379.out; have hnc12 := NB379_377.out; obtain ⟨hcz13_0, hcz13_1, hcz13_2, hcz13_3, hfz13_0, hfz13_1, hfz13_2, hfz13_3⟩ := cel4 BK377) | ((with_reducible refine gate_callee (f := 96) rfl ?_); refine gL (some 9) Try.func96 #[.agg #[.int .i64 a0_0, .int .i64 a0_1, .int .i64 a0_2, .int .i64 a0_3]] ?_; (with_reducible refine (impl_IsValidZOmega.calls a0_0 a0_1 a0_2 a0_3 true _ A3.out).mono ?_); rintro e w14 ⟨rfl, hb⟩; refine ⟨_, rfl, ?_⟩; replace BK377 := cb BK377 hb; replace BK378 := cb BK378 hb; replace BK379 := cb BK379 hb; replace HB := bs HB hb; (try clear hb); (try clear hb2); (try clear hk); (try clear hi); have hnb15 := NB378_379.out; have hnc15 := NB379_378.out; obtain ⟨hcz16_0, hcz16_1, hcz16_2, hcz16_3, hfz16_0, hfz16_1, hfz16_2, hfz16_3⟩ := cel4 BK378) | (go_at_call 96; (with_reducible refine (impl_IsValidZOmega.calls a1_0 a1_1 a1_2 a1_3 true _ A5.out).mono ?_); rintro e w17 ⟨rfl, hb⟩; replace BK377 := cb BK377 hb; replace BK378 := cb BK378 hb; replace BK379 := cb BK379 hb; replace HB := bs HB hb; (try clear hb); (try clear hb2); (try clear hk); (try clear hi); obtain ⟨hcz18_0, hcz18_1, hcz18_2, hcz18_3, hfz18_0, hfz18_1, hfz18_2, hfz18_3⟩ := cel4 BK377; obtain ⟨hcz19_0, hcz19_1, hcz19_2, hcz19_3, hfz19_0, hfz19_1, hfz19_2, hfz19_3⟩ := cel4 BK378) | ((with_reducible refine gate_callee (f := 97) rfl ?_); refine gL (some 111) Try.func97 #[.agg #[.int .i64 (wrap64 ((wrap64 ((wrap64 ((wrap64 (a0_0 * a1_0)) - (wrap64 (a0_1 * a1_3)))) - (wrap64 (a0_2 * a1_2)))) - (wrap64 (a0_3 * a1_1)))), .int .i64 (wrap64 ((wrap64 ((wrap64 ((wrap64 (a0_0 * a1_1)) + (wrap64 (a0_1 * a1_0)))) - (wrap64 (a0_2 * a1_3)))) - (wrap64 (a0_3 * a1_2)))), .int .i64 (wrap64 ((wrap64 ((wrap64 ((wrap64 (a0_0 * a1_2)) + (wrap64 (a0_1 * a1_1)))) + (wrap64 (a0_2 * a1_0)))) - (wrap64 (a0_3 * a1_3)))), .int .i64 (wrap64 ((wrap64 ((wrap64 ((wrap64 (a0_0 * a1_3)) + (wrap64 (a0_1 * a1_2)))) + (wrap64 (a0_2 * a1_1)))) + (wrap64 (a0_3 * a1_0))))]] ?_; (with_reducible refine (impl_checked.calls (wrap64 ((wrap64 ((wrap64 ((wrap64 (a0_0 * a1_0)) - (wrap64 (a0_1 * a1_3)))) - (wrap64 (a0_2 * a1_2)))) - (wrap64 (a0_3 * a1_1)))) (wrap64 ((wrap64 ((wrap64 ((wrap64 (a0_0 * a1_1)) + (wrap64 (a0_1 * a1_0)))) - (wrap64 (a0_2 * a1_3)))) - (wrap64 (a0_3 * a1_2)))) (wrap64 ((wrap64 ((wrap64 ((wrap64 (a0_0 * a1_2)) + (wrap64 (a0_1 * a1_1)))) + (wrap64 (a0_2 * a1_0)))) - (wrap64 (a0_3 * a1_3)))) (wrap64 ((wrap64 ((wrap64 ((wrap64 (a0_0 * a1_3)) + (wrap64 (a0_1 * a1_2)))) + (wrap64 (a0_2 * a1_1)))) + (wrap64 (a0_3 * a1_0)))) t382 t383 t384 t385 t386 _ A7.out).mono ?_); rintro e w20 ⟨rfl, hb⟩; refine ⟨_, rfl, ?_⟩; replace BK377 := cb BK377 hb; replace BK378 := cb BK378 hb; replace BK379 := cb BK379 hb; replace HB := bs HB hb; (try clear hb); (try clear hb2); (try clear hk); (try clear hi)) | ((with_reducible refine gate_dst (N := 6) rfl ?_); refine bx (N := 6) (cs := #[.int .i64 0, .int .i64 0, .int .i64 0, .int .i64 0]) (t := 25) ?_; intro gb387 hg w21 hbox hb; have BK387 := Aside0.mk hbox; have GW387 := sz hg HB; have GE387 := GW387; have NB377_387 := nl hg BK377; have NB387_377 := ng hg BK377; have NB378_387 := nl hg BK378; have NB387_378 := ng hg BK378; have NB379_387 := nl hg BK379; have NB387_379 := ng hg BK379; replace BK377 := cb BK377 hb; replace BK378 := cb BK378 hb; replace BK379 := cb BK379 hb; replace HB := bs HB hb; clear hb hbox hg; have hnb22 := NB387_377.out; have hnc22 := NB377_387.out; have hnb23 := NB387_378.out; have hnc23 := NB378_387.out; have hnb24 := NB387_379.out; have hnc24 := NB379_387.out; obtain ⟨hcz25_0, hcz25_1, hcz25_2, hcz25_3, hfz25_0, hfz25_1, hfz25_2, hfz25_3⟩ := cel4 BK387; obtain ⟨hcz26_0, hcz26_1, hcz26_2, hcz26_3, hfz26_0, hfz26_1, hfz26_2, hfz26_3⟩ := cel4 BK379))
   refine bodyPost_ret (results_ct rfl _ _ gb379 25 #[.int .i64 t382, .int .i64 t383, .int .i64 t384, .int .i64 t385] (0, 0) _ rfl (bp BK379) Try.underlying25 rfl (by kernel_rfl)) rfl ?_
   exact ⟨er, bl HB⟩
  ·replace c6 := Bool.eq_false_iff.mpr c6
   subst c6
   rw [nf] at H
   simp only [Option.some.injEq, Prod.mk.injEq] at H
   obtain ⟨rfl, rfl, rfl, rfl, rfl⟩ := H
   go_enter Try.func63, Try.ntmps63
   go_wp2_with (first | ((with_reducible refine gate_dst (N := 2) rfl ?_); refine bx (N := 2) (cs := #[.int .i64 a0_0, .int .i64 a0_1, .int .i64 a0_2, .int .i64 a0_3]) (t := 25) ?_; intro gb377 hg w27 hbox hb; have BK377 := Aside0.mk hbox; have GW377 := sz hg HB; have GE377 := GW377; replace HB := bs HB hb; clear hb hbox hg) | ((with_reducible refine gate_dst (N := 3) rfl ?_); refine bx (N := 3) (cs := #[.int .i64 a1_0, .int .i64 a1_1, .int .i64 a1_2, .int .i64 a1_3]) (t := 25) ?_; intro gb378 hg w28 hbox hb; have BK378 := Aside0.mk hbox; have GW378 := sz hg HB; have GE378 := GW378; have NB377_378 := nl hg BK377; have NB378_377 := ng hg BK377; replace BK377 := cb BK377 hb; replace HB := bs HB hb; clear hb hbox hg) | ((with_reducible refine gate_dst (N := 4) rfl ?_); refine bx (N := 4) (cs := #[.int .i64 0, .int .i64 0, .int .i64 0, .int .i64 0]) (t := 25) ?_; intro gb379 hg w29 hbox hb; have BK379 := Aside0.mk hbox; have GW379 := sz hg HB; have GE379 := GW379; have NB377_379 := nl hg BK377; have NB379_377 := ng hg BK377; have NB378_379 := nl hg BK378; have NB379_378 := ng hg BK378; replace BK377 := cb BK377 hb; replace BK378 := cb BK378 hb; replace HB := bs HB hb; clear hb hbox hg; have hnb30 := NB377_378.out; have hnc30 := NB378_377.out; have hnb31 := NB377_379.out; have hnc31 := NB379_377.out; obtain ⟨hcz32_0, hcz32_1, hcz32_2, hcz32_3, hfz32_0, hfz32_1, hfz32_2, hfz32_3⟩ := cel4 BK377) | ((with_reducible refine gate_callee (f := 96) rfl ?_); refine gL (some 9) Try.func96 #[.agg #[.int .i64 a0_0, .int .i64 a0_1, .int .i64 a0_2, .int .i64 a0_3]] ?_; (with_reducible refine (impl_IsValidZOmega.calls a0_0 a0_1 a0_2 a0_3 true _ A3.out).mono ?_); rintro e w33 ⟨rfl, hb⟩; refine ⟨_, rfl, ?_⟩; replace BK377 := cb BK377 hb; replace BK378 := cb BK378 hb; replace BK379 := cb BK379 hb; replace HB := bs HB hb; (try clear hb); (try clear hb2); (try clear hk); (try clear hi); have hnb34 := NB378_379.out; have hnc34 := NB379_378.out; obtain ⟨hcz35_0, hcz35_1, hcz35_2, hcz35_3, hfz35_0, hfz35_1, hfz35_2, hfz35_3⟩ := cel4 BK378) | (go_at_call 96; (with_reducible refine (impl_IsValidZOmega.calls a1_0 a1_1 a1_2 a1_3 false _ A5.out).mono ?_); rintro e w36 ⟨rfl, hb⟩; replace BK377 := cb BK377 hb; replace BK378 := cb BK378 hb; replace BK379 := cb BK379 hb; replace HB := bs HB hb; (try clear hb); (try clear hb2); (try clear hk); (try clear hi); obtain ⟨hcz37_0, hcz37_1, hcz37_2, hcz37_3, hfz37_0, hfz37_1, hfz37_2, hfz37_3⟩ := cel4 BK379))
   refine bodyPost_ret (results_ct rfl _ _ gb379 25 #[.int .i64 0, .int .i64 0, .int .i64 0, .int .i64 0] (0, 0) _ rfl (bp BK379) Try.underlying25 rfl (by kernel_rfl)) rfl ?_
   exact ⟨er, bl HB⟩
 ·replace c4 := Bool.eq_false_iff.mpr c4
  subst c4
  rw [nf] at H
  simp only [Option.some.injEq, Prod.mk.injEq] at H
  obtain ⟨rfl, rfl, rfl, rfl, rfl⟩ := H
  go_enter Try.func63, Try.ntmps63
  go_wp2_with (first | ((with_reducible refine gate_dst (N := 2) rfl ?_); refine bx (N := 2) (cs := #[.int .i64 a0_0, .int .i64 a0_1, .int .i64 a0_2, .int .i64 a0_3]) (t := 25) ?_; intro gb377 hg w38 hbox hb; have BK377 := Aside0.mk hbox; have GW377 := sz hg HB; have GE377 := GW377; replace HB := bs HB hb; clear hb hbox hg) | ((with_reducible refine gate_dst (N := 3) rfl ?_); refine bx (N := 3) (cs := #[.int .i64 a1_0, .int .i64 a1_1, .int .i64 a1_2, .int .i64 a1_3]) (t := 25) ?_; intro gb378 hg w39 hbox hb; have BK378 := Aside0.mk hbox; have GW378 := sz hg HB; have GE378 := GW378; have NB377_378 := nl hg BK377; have NB378_377 := ng hg BK377; replace BK377 := cb BK377 hb; replace HB := bs HB hb; clear hb hbox hg) | ((with_reducible refine gate_dst (N := 4) rfl ?_); refine bx (N := 4) (cs := #[.int .i64 0, .int .i64 0, .int .i64 0, .int .i64 0]) (t := 25) ?_; intro gb379 hg w40 hbox hb; have BK379 := Aside0.mk hbox; have GW379 := sz hg HB; have GE379 := GW379; have NB377_379 := nl hg BK377; have NB379_377 := ng hg BK377; have NB378_379 := nl hg BK378; have NB379_378 := ng hg BK378; replace BK377 := cb BK377 hb; replace BK378 := cb BK378 hb; replace HB := bs HB hb; clear hb hbox hg; have hnb41 := NB377_378.out; have hnc41 := NB378_377.out; have hnb42 := NB377_379.out; have hnc42 := NB379_377.out; obtain ⟨hcz43_0, hcz43_1, hcz43_2, hcz43_3, hfz43_0, hfz43_1, hfz43_2, hfz43_3⟩ := cel4 BK377) | ((with_reducible refine gate_callee (f := 96) rfl ?_); refine gL (some 9) Try.func96 #[.agg #[.int .i64 a0_0, .int .i64 a0_1, .int .i64 a0_2, .int .i64 a0_3]] ?_; (with_reducible refine (impl_IsValidZOmega.calls a0_0 a0_1 a0_2 a0_3 false _ A3.out).mono ?_); rintro e w44 ⟨rfl, hb⟩; refine ⟨_, rfl, ?_⟩; replace BK377 := cb BK377 hb; replace BK378 := cb BK378 hb; replace BK379 := cb BK379 hb; replace HB := bs HB hb; (try clear hb); (try clear hb2); (try clear hk); (try clear hi); have hnb45 := NB379_378.out; have hnc45 := NB378_379.out; obtain ⟨hcz46_0, hcz46_1, hcz46_2, hcz46_3, hfz46_0, hfz46_1, hfz46_2, hfz46_3⟩ := cel4 BK379))
  refine bodyPost_ret (results_ct rfl _ _ gb379 25 #[.int .i64 0, .int .i64 0, .int .i64 0, .int .i64 0] (0, 0) _ rfl (bp BK379) Try.underlying25 rfl (by kernel_rfl)) rfl ?_
  exact ⟨er, bl HB⟩
/-! ### impl_root: function 64 -/
def impl_root.f  : Option (Int × Int × Int × Int) := some (0, 1, 0, (-1))
set_option maxHeartbeats 8000000 in
set_option maxRecDepth 100000 in
theorem impl_root.calls  (r1 : Int) (r2 : Int) (r3 : Int) (r4 : Int) (w : World) (h : impl_root.f  = some (r1, r2, r3, r4)) :
  Calls Try.prog 64 #[] w fun e w' => e = .returned (.agg #[.int .i64 r1, .int .i64 r2, .int .i64 r3, .int .i64 r4]) ∧ Below w.heap.size w w' := by
 have hu25 := Try.underlying25
 have HB := Aside0.mk (Below.refl w.heap.size w)
 have H := h
 clear h
 unfold impl_root.f at H
 simp only [Option.some.injEq, Prod.mk.injEq] at H
 obtain ⟨rfl, rfl, rfl, rfl⟩ := H
 go_enter Try.func64, Try.ntmps64
 go_wp2_with (first | ((with_reducible refine gate_dst (N := 0) rfl ?_); refine bx (N := 0) (cs := #[.int .i64 0, .int .i64 0, .int .i64 0, .int .i64 0]) (t := 25) ?_; intro gb388 hg w1 hbox hb; have BK388 := Aside0.mk hbox; have GW388 := sz hg HB; have GE388 := GW388; replace HB := bs HB hb; clear hb hbox hg; obtain ⟨hcz2_0, hcz2_1, hcz2_2, hcz2_3, hfz2_0, hfz2_1, hfz2_2, hfz2_3⟩ := cel4 BK388))
 refine bodyPost_ret (results_cell_row rfl _ _ gb388 25 #[.int .i64 0, .int .i64 1, .int .i64 0, .int .i64 (-1)] (0, 0) _ rfl (bp BK388) Try.underlying25 rfl (by kernel_rfl)) rfl ?_
 exact ⟨er, bl HB⟩
end Go.Proofs.Ytmkpngbfbfpffaa.P
