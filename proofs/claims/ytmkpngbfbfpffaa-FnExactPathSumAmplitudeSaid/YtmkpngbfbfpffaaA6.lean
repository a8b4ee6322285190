/- Printed walks: each function's own reading as a Lean function, and the proof that a call of it answers so. -/
import Derived.Test.YtmkpngbfbfpffaaA5
namespace Go.Proofs.Ytmkpngbfbfpffaa.P
open Go.RowKit Go.Proofs.YtmkpngbfbfpffaaW.PrintWords Go.Proofs.YtmkpngbfbfpffaaW.PrintLast Go.Proofs.YtmkpngbfbfpffaaW.PrintMore Go.Proofs.YtmkpngbfbfpffaaW.Sq
attribute [local go_sem] max2_int min2_int max_two min_two max_three min_three max_four min_four   -- for this text's walks alone
set_option linter.unusedVariables false
set_option linter.unusedSimpArgs false
/-! ### impl_AddZOmega: function 65 -/
def impl_AddZOmega.f (a0_0 : Int) (a0_1 : Int) (a0_2 : Int) (a0_3 : Int) (a1_0 : Int) (a1_1 : Int) (a1_2 : Int) (a1_3 : Int) : Option (Int × Int × Int × Int × Bool) := (impl_IsValidZOmega.f a0_0 a0_1 a0_2 a0_3).bind fun t392 => (if t392 = true then ((impl_IsValidZOmega.f a1_0 a1_1 a1_2 a1_3).bind fun t393 => (if t393 = true then ((impl_checked.f (wrap64 (a0_0 + a1_0)) (wrap64 (a0_1 + a1_1)) (wrap64 (a0_2 + a1_2)) (wrap64 (a0_3 + a1_3))).bind fun bt394 => (some (bt394.1, bt394.2.1, bt394.2.2.1, bt394.2.2.2.1, bt394.2.2.2.2))) else (some (0, 0, 0, 0, false)))) else (some (0, 0, 0, 0, false)))
set_option maxHeartbeats 8000000 in
set_option maxRecDepth 100000 in
theorem impl_AddZOmega.calls (a0_0 : Int) (a0_1 : Int) (a0_2 : Int) (a0_3 : Int) (a1_0 : Int) (a1_1 : Int) (a1_2 : Int) (a1_3 : Int) (r1 : Int) (r2 : Int) (r3 : Int) (r4 : Int) (r5 : Bool) (w : World) (h : impl_AddZOmega.f a0_0 a0_1 a0_2 a0_3 a1_0 a1_1 a1_2 a1_3 = some (r1, r2, r3, r4, r5)) :
  Calls Try.prog 65 #[.agg #[.int .i64 a0_0, .int .i64 a0_1, .int .i64 a0_2, .int .i64 a0_3], .agg #[.int .i64 a1_0, .int .i64 a1_1, .int .i64 a1_2, .int .i64 a1_3]] w fun e w' => e = .returned (.tuple #[.agg #[.int .i64 r1, .int .i64 r2, .int .i64 r3, .int .i64 r4], .bool r5]) ∧ Below w.heap.size w w' := by
 have hu25 := Try.underlying25
 have HB := Aside0.mk (Below.refl w.heap.size w)
 have H := h
 clear h
 unfold impl_AddZOmega.f at H
 replace H := Option.bind_eq_some_iff.mp H
 obtain ⟨t392, A30, H⟩ := H
 try dsimp only at H
 have A3 := Aside0.mk A30
 clear A30
 by_cases c4 : t392 = true
 ·subst c4
  rw [if_pos rfl] at H
  replace H := Option.bind_eq_some_iff.mp H
  obtain ⟨t393, A50, H⟩ := H
  try dsimp only at H
  have A5 := Aside0.mk A50
  clear A50
  by_cases c6 : t393 = true
  ·subst c6
   rw [if_pos rfl] at H
   replace H := Option.bind_eq_some_iff.mp H
   obtain ⟨⟨t394, t395, t396, t397, t398⟩, A70, H⟩ := H
   try dsimp only at H
   have A7 := Aside0.mk A70
   clear A70
   simp only [Option.some.injEq, Prod.mk.injEq] at H
   obtain ⟨rfl, rfl, rfl, rfl, rfl⟩ := H
   go_enter Try.func65, Try.ntmps65
   go_wp2_with (first | ((with_reducible refine gate_dst (N := 2) rfl ?_); refine bx (N := 2) (cs := #[.int .i64 a0_0, .int .i64 a0_1, .int .i64 a0_2, .int .i64 a0_3]) (t := 25) ?_; intro gb389 hg w8 hbox hb; have BK389 := Aside0.mk hbox; have GW389 := sz hg HB; have GE389 := GW389; replace HB := bs HB hb; clear hb hbox hg) | ((with_reducible refine gate_dst (N := 3) rfl ?_); refine bx (N := 3) (cs := #[.int .i64 a1_0, .int .i64 a1_1, .int .i64 a1_2, .int .i64 a1_3]) (t := 25) ?_; intro gb390 hg w9 hbox hb; have BK390 := Aside0.mk hbox; have GW390 := sz hg HB; have GE390 := GW390; have NB389_390 := nl hg BK389; have NB390_389 := ng hg BK389; replace BK389 := cb BK389 hb; replace HB := bs HB hb; clear hb hbox hg) | ((with_reducible refine gate_dst (N := 4) rfl ?_); refine bx (N := 4) (cs := #[.int .i64 0, .int .i64 0, .int .i64 0, .int .i64 0]) (t := 25) ?_; intro gb391 hg w10 hbox hb; have BK391 := Aside0.mk hbox; have GW391 := sz hg HB; have GE391 := GW391; have NB389_391 := nl hg BK389; have NB391_389 := ng hg BK389; have NB390_391 := nl hg BK390; have NB391_390 := ng hg BK390; replace BK389 := cb BK389 hb; replace BK390 := cb BK390 hb; replace HB := bs HB hb; clear hb hbox hg; have hnb11 := NB389_390.out; have hnc11 := NB390_389.out; have hnb12 := NB389_391.out; have hnc12 := NB391_389.out; obtain ⟨hcz13_0, hcz13_1, hcz13_2, hcz13_3, hfz13_0, hfz13_1, hfz13_2, hfz13_3⟩ := cel4 BK389) | ((with_reducible refine gate_callee (f := 96) rfl ?_); refine gL (some 9) Try.func96 #[.agg #[.int .i64 a0_0, .int .i64 a0_1, .int .i64 a0_2, .int .i64 a0_3]] ?_; (with_reducible refine (impl_IsValidZOmega.calls a0_0 a0_1 a0_2 a0_3 true _ A3.out).mono ?_); rintro e w14 ⟨rfl, hb⟩; refine ⟨_, rfl, ?_⟩; replace BK389 := cb BK389 hb; replace BK390 := cb BK390 hb; replace BK391 := cb BK391 hb; replace HB := bs HB hb; (try clear hb); (try clear hb2); (try clear hk); (try clear hi); have hnb15 := NB390_391.out; have hnc15 := NB391_390.out; obtain ⟨hcz16_0, hcz16_1, hcz16_2, hcz16_3, hfz16_0, hfz16_1, hfz16_2, hfz16_3⟩ := cel4 BK390) | (go_at_call 96; (with_reducible refine (impl_IsValidZOmega.calls a1_0 a1_1 a1_2 a1_3 true _ A5.out).mono ?_); rintro e w17 ⟨rfl, hb⟩; replace BK389 := cb BK389 hb; replace BK390 := cb BK390 hb; replace BK391 := cb BK391 hb; replace HB := bs HB hb; (try clear hb); (try clear hb2); (try clear hk); (try clear hi); obtain ⟨hcz18_0, hcz18_1, hcz18_2, hcz18_3, hfz18_0, hfz18_1, hfz18_2, hfz18_3⟩ := cel4 BK389; obtain ⟨hcz19_0, hcz19_1, hcz19_2, hcz19_3, hfz19_0, hfz19_1, hfz19_2, hfz19_3⟩ := cel4 BK390) | ((with_reducible refine gate_callee (f := 97) rfl ?_); refine gL (some 39) Try.func97 #[.agg #[.int .i64 (wrap64 (a0_0 + a1_0)), .int .i64 (wrap64 (a0_1 + a1_1)), .int .i64 (wrap64 (a0_2 + a1_2)), .int .i64 (wrap64 (a0_3 + a1_3))]] ?_; (with_reducible refine (impl_checked.calls (wrap64 (a0_0 + a1_0)) (wrap64 (a0_1 + a1_1)) (wrap64 (a0_2 + a1_2)) (wrap64 (a0_3 + a1_3)) t394 t395 t396 t397 t398 _ A7.out).mono ?_); rintro e w20 ⟨rfl, hb⟩; refine ⟨_, rfl, ?_⟩; replace BK389 := cb BK389 hb; replace BK390 := cb BK390 hb; replace BK391 := cb BK391 hb; replace HB := bs HB hb; (try clear hb); (try clear hb2); (try clear hk); (try clear hi)) | ((with_reducible refine gate_dst (N := 6) rfl ?_); refine bx (N := 6) (cs := #[.int .i64 0, .int .i64 0, .int .i64 0, .int .i64 0]) (t := 25) ?_; intro gb399 hg w21 hbox hb; have BK399 := Aside0.mk hbox; have GW399 := sz hg HB; have GE399 := GW399; have NB389_399 := nl hg BK389; have NB399_389 := ng hg BK389; have NB390_399 := nl hg BK390; have NB399_390 := ng hg BK390; have NB391_399 := nl hg BK391; have NB399_391 := ng hg BK391; replace BK389 := cb BK389 hb; replace BK390 := cb BK390 hb; replace BK391 := cb BK391 hb; replace HB := bs HB hb; clear hb hbox hg; have hnb22 := NB399_389.out; have hnc22 := NB389_399.out; have hnb23 := NB399_390.out; have hnc23 := NB390_399.out; have hnb24 := NB399_391.out; have hnc24 := NB391_399.out; obtain ⟨hcz25_0, hcz25_1, hcz25_2, hcz25_3, hfz25_0, hfz25_1, hfz25_2, hfz25_3⟩ := cel4 BK399; obtain ⟨hcz26_0, hcz26_1, hcz26_2, hcz26_3, hfz26_0, hfz26_1, hfz26_2, hfz26_3⟩ := cel4 BK391))
   refine bodyPost_ret (results_ct rfl _ _ gb391 25 #[.int .i64 t394, .int .i64 t395, .int .i64 t396, .int .i64 t397] (0, 0) _ rfl (bp BK391) Try.underlying25 rfl (by kernel_rfl)) rfl ?_
   exact ⟨er, bl HB⟩
  ·replace c6 := Bool.eq_false_iff.mpr c6
   subst c6
   rw [nf] at H
   simp only [Option.some.injEq, Prod.mk.injEq] at H
   obtain ⟨rfl, rfl, rfl, rfl, rfl⟩ := H
   go_enter Try.func65, Try.ntmps65
   go_wp2_with (first | ((with_reducible refine gate_dst (N := 2) rfl ?_); refine bx (N := 2) (cs := #[.int .i64 a0_0, .int .i64 a0_1, .int .i64 a0_2, .int .i64 a0_3]) (t := 25) ?_; intro gb389 hg w27 hbox hb; have BK389 := Aside0.mk hbox; have GW389 := sz hg HB; have GE389 := GW389; replace HB := bs HB hb; clear hb hbox hg) | ((with_reducible refine gate_dst (N := 3) rfl ?_); refine bx (N := 3) (cs := #[.int .i64 a1_0, .int .i64 a1_1, .int .i64 a1_2, .int .i64 a1_3]) (t := 25) ?_; intro gb390 hg w28 hbox hb; have BK390 := Aside0.mk hbox; have GW390 := sz hg HB; have GE390 := GW390; have NB389_390 := nl hg BK389; have NB390_389 := ng hg BK389; replace BK389 := cb BK389 hb; replace HB := bs HB hb; clear hb hbox hg) | ((with_reducible refine gate_dst (N := 4) rfl ?_); refine bx (N := 4) (cs := #[.int .i64 0, .int .i64 0, .int .i64 0, .int .i64 0]) (t := 25) ?_; intro gb391 hg w29 hbox hb; have BK391 := Aside0.mk hbox; have GW391 := sz hg HB; have GE391 := GW391; have NB389_391 := nl hg BK389; have NB391_389 := ng hg BK389; have NB390_391 := nl hg BK390; have NB391_390 := ng hg BK390; replace BK389 := cb BK389 hb; replace BK390 := cb BK390 hb; replace HB := bs HB hb; clear hb hbox hg; have hnb30 := NB389_390.out; have hnc30 := NB390_389.out; have hnb31 := NB389_391.out; have hnc31 := NB391_389.out; obtain ⟨hcz32_0, hcz32_1, hcz32_2, hcz32_3, hfz32_0, hfz32_1, hfz32_2, hfz32_3⟩ := cel4 BK389) | ((with_reducible refine gate_callee (f := 96) rfl ?_); refine gL (some 9) Try.func96 #[.agg #[.int .i64 a0_0, .int .i64 a0_1, .int .i64 a0_2, .int .i64 a0_3]] ?_; (with_reducible refine (impl_IsValidZOmega.calls a0_0 a0_1 a0_2 a0_3 true _ A3.out).mono ?_); rintro e w33 ⟨rfl, hb⟩; refine ⟨_, rfl, ?_⟩; replace BK389 := cb BK389 hb; replace BK390 := cb BK390 hb; replace BK391 := cb BK391 hb; replace HB := bs HB hb; (try clear hb); (try clear hb2); (try clear hk); (try clear hi); have hnb34 := NB390_391.out; have hnc34 := NB391_390.out; obtain ⟨hcz35_0, hcz35_1, hcz35_2, hcz35_3, hfz35_0, hfz35_1, hfz35_2, hfz35_3⟩ := cel4 BK390) | (go_at_call 96; (with_reducible refine (impl_IsValidZOmega.calls a1_0 a1_1 a1_2 a1_3 false _ A5.out).mono ?_); rintro e w36 ⟨rfl, hb⟩; replace BK389 := cb BK389 hb; replace BK390 := cb BK390 hb; replace BK391 := cb BK391 hb; replace HB := bs HB hb; (try clear hb); (try clear hb2); (try clear hk); (try clear hi); obtain ⟨hcz37_0, hcz37_1, hcz37_2, hcz37_3, hfz37_0, hfz37_1, hfz37_2, hfz37_3⟩ := cel4 BK391))
   refine bodyPost_ret (results_ct rfl _ _ gb391 25 #[.int .i64 0, .int .i64 0, .int .i64 0, .int .i64 0] (0, 0) _ rfl (bp BK391) Try.underlying25 rfl (by kernel_rfl)) rfl ?_
   exact ⟨er, bl HB⟩
 ·replace c4 := Bool.eq_false_iff.mpr c4
  subst c4
  rw [nf] at H
  simp only [Option.some.injEq, Prod.mk.injEq] at H
  obtain ⟨rfl, rfl, rfl, rfl, rfl⟩ := H
  go_enter Try.func65, Try.ntmps65
  go_wp2_with (first | ((with_reducible refine gate_dst (N := 2) rfl ?_); refine bx (N := 2) (cs := #[.int .i64 a0_0, .int .i64 a0_1, .int .i64 a0_2, .int .i64 a0_3]) (t := 25) ?_; intro gb389 hg w38 hbox hb; have BK389 := Aside0.mk hbox; have GW389 := sz hg HB; have GE389 := GW389; replace HB := bs HB hb; clear hb hbox hg) | ((with_reducible refine gate_dst (N := 3) rfl ?_); refine bx (N := 3) (cs := #[.int .i64 a1_0, .int .i64 a1_1, .int .i64 a1_2, .int .i64 a1_3]) (t := 25) ?_; intro gb390 hg w39 hbox hb; have BK390 := Aside0.mk hbox; have GW390 := sz hg HB; have GE390 := GW390; have NB389_390 := nl hg BK389; have NB390_389 := ng hg BK389; replace BK389 := cb BK389 hb; replace HB := bs HB hb; clear hb hbox hg) | ((with_reducible refine gate_dst (N := 4) rfl ?_); refine bx (N := 4) (cs := #[.int .i64 0, .int .i64 0, .int .i64 0, .int .i64 0]) (t := 25) ?_; intro gb391 hg w40 hbox hb; have BK391 := Aside0.mk hbox; have GW391 := sz hg HB; have GE391 := GW391; have NB389_391 := nl hg BK389; have NB391_389 := ng hg BK389; have NB390_391 := nl hg BK390; have NB391_390 := ng hg BK390; replace BK389 := cb BK389 hb; replace BK390 := cb BK390 hb; replace HB := bs HB hb; clear hb hbox hg; have hnb41 := NB389_390.out; have hnc41 := NB390_389.out; have hnb42 := NB389_391.out; have hnc42 := NB391_389.out; obtain ⟨hcz43_0, hcz43_1, hcz43_2, hcz43_3, hfz43_0, hfz43_1, hfz43_2, hfz43_3⟩ := cel4 BK389) | ((with_reducible refine gate_callee (f := 96) rfl ?_); refine gL (some 9) Try.func96 #[.agg #[.int .i64 a0_0, .int .i64 a0_1, .int .i64 a0_2, .int .i64 a0_3]] ?_; (with_reducible refine (impl_IsValidZOmega.calls a0_0 a0_1 a0_2 a0_3 false _ A3.out).mono ?_); rintro e w44 ⟨rfl, hb⟩; refine ⟨_, rfl, ?_⟩; replace BK389 := cb BK389 hb; replace BK390 := cb BK390 hb; replace BK391 := cb BK391 hb; replace HB := bs HB hb; (try clear hb); (try clear hb2); (try clear hk); (try clear hi); have hnb45 := NB391_390.out; have hnc45 := NB390_391.out; obtain ⟨hcz46_0, hcz46_1, hcz46_2, hcz46_3, hfz46_0, hfz46_1, hfz46_2, hfz46_3⟩ := cel4 BK391))
  refine bodyPost_ret (results_ct rfl _ _ gb391 25 #[.int .i64 0, .int .i64 0, .int .i64 0, .int .i64 0] (0, 0) _ rfl (bp BK391) Try.underlying25 rfl (by kernel_rfl)) rfl ?_
  exact ⟨er, bl HB⟩
/-! ### impl_NewDOmega: function 66 -/
mutual
def impl_NewDOmega.j0 : Nat → Int → Bool → Int → Int → Int → Int → Option (Int × Int × Int × Int × Int × Bool)
 | 0, _, _, _, _, _, _ => none
 | k + 1, x1, x15, x401000, x401001, x401002, x401003 => if x15 = true then (some (0, 0, 0, 0, 0, false)) else (impl_NewDOmega.l0 k x1 x401000 x401001 x401002 x401003)
def impl_NewDOmega.l0 : Nat → Int → Int → Int → Int → Int → Option (Int × Int × Int × Int × Int × Bool)
 | 0, _, _, _, _, _ => none
 | k + 1, x1, x401000, x401001, x401002, x401003 => if x1 > 0 then ((impl_DivSqrt2.f x401000 x401001 x401002 x401003).bind fun bt404 => (if bt404.2.2.2.2 = true then (impl_NewDOmega.l0 k (wrap64 (x1 - 1)) bt404.1 bt404.2.1 bt404.2.2.1 bt404.2.2.2.1) else (if x1 > 60 then (some (0, 0, 0, 0, 0, false)) else (some (x401000, x401001, x401002, x401003, x1, true))))) else (if x1 > 60 then (some (0, 0, 0, 0, 0, false)) else (some (x401000, x401001, x401002, x401003, x1, true)))
end
def impl_NewDOmega.f (k : Nat) (a0_0 : Int) (a0_1 : Int) (a0_2 : Int) (a0_3 : Int) (a1 : Int) : Option (Int × Int × Int × Int × Int × Bool) := (impl_IsValidZOmega.f a0_0 a0_1 a0_2 a0_3).bind fun t402 => (if t402 = true then ((impl_in.f a1 0 120).bind fun t403 => (impl_NewDOmega.j0 k a1 (!t403) a0_0 a0_1 a0_2 a0_3)) else (impl_NewDOmega.j0 k a1 true a0_0 a0_1 a0_2 a0_3))
set_option maxHeartbeats 8000000 in
set_option maxRecDepth 100000 in
theorem impl_NewDOmega.calls (k : Nat) (a0_0 : Int) (a0_1 : Int) (a0_2 : Int) (a0_3 : Int) (a1 : Int) (r1 : Int) (r2 : Int) (r3 : Int) (r4 : Int) (r5 : Int) (r6 : Bool) (w : World) (h : impl_NewDOmega.f k a0_0 a0_1 a0_2 a0_3 a1 = some (r1, r2, r3, r4, r5, r6)) :
  Calls Try.prog 66 #[.agg #[.int .i64 a0_0, .int .i64 a0_1, .int .i64 a0_2, .int .i64 a0_3], .int .i64 a1] w fun e w' => e = .returned (.tuple #[.agg #[.int .i64 r1, .int .i64 r2, .int .i64 r3, .int .i64 r4, .int .i64 r5], .bool r6]) ∧ Below w.heap.size w w' := by
 have hu25 := Try.underlying25
 have hu27 := Try.underlying27
 have HB := Aside0.mk (Below.refl w.heap.size w)
 have H := h
 clear h
 unfold impl_NewDOmega.f at H
 have HC3 := Aside0.mk H
 clear H
 go_enter Try.func66, Try.ntmps66
 go_upto_region 1 with (first | ((with_reducible refine gate_dst (N := 2) rfl ?_); refine bx (N := 2) (cs := #[.int .i64 a0_0, .int .i64 a0_1, .int .i64 a0_2, .int .i64 a0_3]) (t := 25) ?_; intro gb400 hg w4 hbox hb; have BK400 := Aside0.mk hbox; have GW400 := sz hg HB; have GE400 := GW400; replace HB := bs HB hb; clear hb hbox hg) | ((with_reducible refine gate_dst (N := 4) rfl ?_); refine bx (N := 4) (cs := #[.int .i64 0, .int .i64 0, .int .i64 0, .int .i64 0, .int .i64 0]) (t := 27) ?_; intro gb401 hg w5 hbox hb; have BK401 := Aside0.mk hbox; have GW401 := sz hg HB; have GE401 := GW401; have NB400_401 := nl hg BK400; have NB401_400 := ng hg BK400; replace BK400 := cb BK400 hb; replace HB := bs HB hb; clear hb hbox hg))
 (try simp only [Act.put, List.setIfInBounds_toArray, List.set_cons_zero, List.set_cons_succ])
 go_cut [15] (fun v15 wc => ∃ (kq : Nat) (x15_2 : Bool), v15 = .bool x15_2 ∧ Aside0 (impl_NewDOmega.j0 kq a1 x15_2 a0_0 a0_1 a0_2 a0_3 = some (r1, r2, r3, r4, r5, r6)) ∧ Aside0 (kq ≤ k) ∧ Aside0 (wc.heap[gb400]? = some (.cells #[.int .i64 a0_0, .int .i64 a0_1, .int .i64 a0_2, .int .i64 a0_3] 25 (0, 0))) ∧ Aside0 (wc.heap[gb401]? = some (.cells #[.int .i64 0, .int .i64 0, .int .i64 0, .int .i64 0, .int .i64 0] 27 (0, 0))) ∧ Aside0 (Below w.heap.size w wc))
 case first =>
  have H := HC3.out
  clear HC3
  replace H := Option.bind_eq_some_iff.mp H
  obtain ⟨t402, A60, H⟩ := H
  try dsimp only at H
  have A6 := Aside0.mk A60
  clear A60
  by_cases c7 : t402 = true
  ·subst c7
   rw [if_pos rfl] at H
   replace H := Option.bind_eq_some_iff.mp H
   obtain ⟨t403, A80, H⟩ := H
   try dsimp only at H
   have A8 := Aside0.mk A80
   clear A80
   have H' := Aside0.mk H
   clear H
   have hnb9 := NB400_401.out
   have hnc9 := NB401_400.out
   obtain ⟨hcz10_0, hcz10_1, hcz10_2, hcz10_3, hfz10_0, hfz10_1, hfz10_2, hfz10_3⟩ := cel4 BK400
   go_wp2_with (first | ((with_reducible refine gate_callee (f := 96) rfl ?_); refine gL (some 9) Try.func96 #[.agg #[.int .i64 a0_0, .int .i64 a0_1, .int .i64 a0_2, .int .i64 a0_3]] ?_; (with_reducible refine (impl_IsValidZOmega.calls a0_0 a0_1 a0_2 a0_3 true _ A6.out).mono ?_); rintro e w11 ⟨rfl, hb⟩; refine ⟨_, rfl, ?_⟩; replace BK400 := cb BK400 hb; replace BK401 := cb BK401 hb; replace HB := bs HB hb; (try clear hb); (try clear hb2); (try clear hk); (try clear hi)) | (go_at_call 31; (with_reducible refine (impl_in.calls a1 0 120 t403 _ A8.out).mono ?_); rintro e w' ⟨rfl, ⟨nd, rfl⟩⟩))
   go_meet
   case rel => exact ⟨_, (!t403), rs, H', ⟨by first | omega | exact Nat.le_refl _⟩, ⟨pl BK400⟩, ⟨pl BK401⟩, ⟨bl HB⟩⟩
  ·replace c7 := Bool.eq_false_iff.mpr c7
   subst c7
   rw [nf] at H
   have H' := Aside0.mk H
   clear H
   have hnb12 := NB400_401.out
   have hnc12 := NB401_400.out
   obtain ⟨hcz13_0, hcz13_1, hcz13_2, hcz13_3, hfz13_0, hfz13_1, hfz13_2, hfz13_3⟩ := cel4 BK400
   go_wp2_with (first | ((with_reducible refine gate_callee (f := 96) rfl ?_); refine gL (some 9) Try.func96 #[.agg #[.int .i64 a0_0, .int .i64 a0_1, .int .i64 a0_2, .int .i64 a0_3]] ?_; (with_reducible refine (impl_IsValidZOmega.calls a0_0 a0_1 a0_2 a0_3 false _ A6.out).mono ?_); rintro e w14 ⟨rfl, hb⟩; refine ⟨_, rfl, ?_⟩; replace BK400 := cb BK400 hb; replace BK401 := cb BK401 hb; replace HB := bs HB hb; (try clear hb); (try clear hb2); (try clear hk); (try clear hi)))
   go_meet
   case rel => exact ⟨_, (true), rs, H', ⟨by first | omega | exact Nat.le_refl _⟩, ⟨pl BK400⟩, ⟨pl BK401⟩, ⟨bl HB⟩⟩
 case rest =>
  clear HC3
  try clear c1
  try clear p2
  try clear c6
  try clear c7
  try clear c9
  try clear c12
  try clear hcz10_0
  try clear hcz10_1
  try clear hcz10_2
  try clear hcz10_3
  try clear hcz13_0
  try clear hcz13_1
  try clear hcz13_2
  try clear hcz13_3
  try clear hfz10_0
  try clear hfz10_1
  try clear hfz10_2
  try clear hfz10_3
  try clear hfz13_0
  try clear hfz13_1
  try clear hfz13_2
  try clear hfz13_3
  obtain ⟨kq, x15_2, rfl, HA, HJ2, BK400, BK401, HB⟩ := hcut
  cases kq with
  | zero => exact absurd HA.out (by simp [impl_NewDOmega.j0])
  | succ kj2 =>
   have H := HA.out
   clear HA
   simp only [impl_NewDOmega.j0] at H
   by_cases c15 : x15_2 = true
   ·subst c15
    rw [if_pos rfl] at H
    simp only [Option.some.injEq, Prod.mk.injEq] at H
    obtain ⟨rfl, rfl, rfl, rfl, rfl, rfl⟩ := H
    have hnb16 := NB401_400.out
    have hnc16 := NB400_401.out
    obtain ⟨hcz17_0, hcz17_1, hcz17_2, hcz17_3, hcz17_4, hfz17_0, hfz17_1, hfz17_2, hfz17_3, hfz17_4⟩ := cel5 BK401
    go_wp2
    refine bodyPost_ret (results_ct rfl _ _ gb401 27 #[.int .i64 0, .int .i64 0, .int .i64 0, .int .i64 0, .int .i64 0] (0, 0) _ rfl (bp BK401) Try.underlying27 rfl (by kernel_rfl)) rfl ?_
    exact ⟨er, bl HB⟩
   ·replace c15 := Bool.eq_false_iff.mpr c15
    subst c15
    rw [nf] at H
    have H' := Aside0.mk H
    clear H
    go_wp2
    go_loopg [1] kj2 (fun kq v1 w' => ∃ (x1_2 : Int) (x401000_2 : Int) (x401001_2 : Int) (x401002_2 : Int) (x401003_2 : Int), v1 = .int .i64 x1_2 ∧ Aside0 (impl_NewDOmega.l0 kq x1_2 x401000_2 x401001_2 x401002_2 x401003_2 = some (r1, r2, r3, r4, r5, r6)) ∧ Aside0 (kq ≤ kj2) ∧ Aside0 (w'.heap[gb400]? = some (.cells #[.int .i64 x401000_2, .int .i64 x401001_2, .int .i64 x401002_2, .int .i64 x401003_2] 25 (0, 0))) ∧ Aside0 (w'.heap[gb401]? = some (.cells #[.int .i64 0, .int .i64 0, .int .i64 0, .int .i64 0, .int .i64 0] 27 (0, 0))) ∧ Aside0 (Below w.heap.size w w'))
    case atStart => exact ⟨(a1), (a0_0), (a0_1), (a0_2), (a0_3), rs, H', ⟨Nat.le_refl _⟩, ⟨pl BK400⟩, ⟨pl BK401⟩, ⟨bl HB⟩⟩
    case round =>
     clear H'
     try clear c1
     try clear p2
     try clear c6
     try clear c7
     try clear c9
     try clear c12
     try clear c15
     try clear c16
     try clear hcz10_0
     try clear hcz10_1
     try clear hcz10_2
     try clear hcz10_3
     try clear hcz13_0
     try clear hcz13_1
     try clear hcz13_2
     try clear hcz13_3
     try clear hcz17_0
     try clear hcz17_1
     try clear hcz17_2
     try clear hcz17_3
     try clear hcz17_4
     try clear hfz10_0
     try clear hfz10_1
     try clear hfz10_2
     try clear hfz10_3
     try clear hfz13_0
     try clear hfz13_1
     try clear hfz13_2
     try clear hfz13_3
     try clear hfz17_0
     try clear hfz17_1
     try clear hfz17_2
     try clear hfz17_3
     try clear hfz17_4
     try clear p2
     obtain ⟨x1_2, x401000_2, x401001_2, x401002_2, x401003_2, rfl, HA, HK2, BK400, BK401, HB⟩ := hrel
     cases gk with
     | zero => exact absurd HA.out (by simp [impl_NewDOmega.l0])
     | succ k2 =>
      have H := HA.out
      clear HA
      simp only [impl_NewDOmega.l0] at H
      by_cases c18 : x1_2 > 0
      ·rw [if_pos c18] at H
       have c18b0 : decide (0 < x1_2) = true := decide_eq_true c18
       clear c18
       replace H := Option.bind_eq_some_iff.mp H
       obtain ⟨⟨t404, t405, t406, t407, t408⟩, A190, H⟩ := H
       try dsimp only at H
       have A19 := Aside0.mk A190
       clear A190
       by_cases c20 : t408 = true
       ·subst c20
        rw [if_pos rfl] at H
        have H' := Aside0.mk H
        clear H
        have hnb21 := NB400_401.out
        have hnc21 := NB401_400.out
        obtain ⟨hcz22_0, hcz22_1, hcz22_2, hcz22_3, hfz22_0, hfz22_1, hfz22_2, hfz22_3⟩ := cel4 BK400
        go_wp2_with (first | ((with_reducible refine gate_callee (f := 95) rfl ?_); refine gL (some 21) Try.func95 #[.agg #[.int .i64 x401000_2, .int .i64 x401001_2, .int .i64 x401002_2, .int .i64 x401003_2]] ?_; (with_reducible refine (impl_DivSqrt2.calls x401000_2 x401001_2 x401002_2 x401003_2 t404 t405 t406 t407 true _ A19.out).mono ?_); rintro e w23 ⟨rfl, hb⟩; refine ⟨_, rfl, ?_⟩; replace BK400 := cb BK400 hb; replace BK401 := cb BK401 hb; replace HB := bs HB hb; (try clear hb); (try clear hb2); (try clear hk); (try clear hi)) | ((with_reducible refine gate_dst (N := 6) rfl ?_); refine bx (N := 6) (cs := #[.int .i64 0, .int .i64 0, .int .i64 0, .int .i64 0]) (t := 25) ?_; intro gb409 hg w24 hbox hb; have BK409 := Aside0.mk hbox; have GW409 := sz hg HB; have GE409 := GW409; have NB400_409 := nl hg BK400; have NB409_400 := ng hg BK400; have NB401_409 := nl hg BK401; have NB409_401 := ng hg BK401; replace BK400 := cb BK400 hb; replace BK401 := cb BK401 hb; replace HB := bs HB hb; clear hb hbox hg; have hnb25 := NB409_400.out; have hnc25 := NB400_409.out; have hnb26 := NB409_401.out; have hnc26 := NB401_409.out; obtain ⟨hcz27_0, hcz27_1, hcz27_2, hcz27_3, hfz27_0, hfz27_1, hfz27_2, hfz27_3⟩ := cel4 BK409; obtain ⟨hcz28_0, hcz28_1, hcz28_2, hcz28_3, hfz28_0, hfz28_1, hfz28_2, hfz28_3⟩ := cel4 BK400))
        go_roundg k2
        case measure => have := HJ2.out; have := HK2.out; omega
        case rel => exact ⟨(wrap64 (x1_2 - 1)), (t404), (t405), (t406), (t407), rs, H', ⟨by have := HJ2.out; have := HK2.out; omega⟩, ⟨bp BK400⟩, ⟨bp BK401⟩, ⟨bl HB⟩⟩
       ·replace c20 := Bool.eq_false_iff.mpr c20
        subst c20
        rw [nf] at H
        by_cases c29 : x1_2 > 60
        ·rw [if_pos c29] at H
         have c29b0 : decide (60 < x1_2) = true := decide_eq_true c29
         clear c29
         simp only [Option.some.injEq, Prod.mk.injEq] at H
         obtain ⟨rfl, rfl, rfl, rfl, rfl, rfl⟩ := H
         have hnb30 := NB400_401.out
         have hnc30 := NB401_400.out
         obtain ⟨hcz31_0, hcz31_1, hcz31_2, hcz31_3, hfz31_0, hfz31_1, hfz31_2, hfz31_3⟩ := cel4 BK400
         go_wp2_with (first | ((with_reducible refine gate_callee (f := 95) rfl ?_); refine gL (some 21) Try.func95 #[.agg #[.int .i64 x401000_2, .int .i64 x401001_2, .int .i64 x401002_2, .int .i64 x401003_2]] ?_; (with_reducible refine (impl_DivSqrt2.calls x401000_2 x401001_2 x401002_2 x401003_2 t404 t405 t406 t407 false _ A19.out).mono ?_); rintro e w32 ⟨rfl, hb⟩; refine ⟨_, rfl, ?_⟩; replace BK400 := cb BK400 hb; replace BK401 := cb BK401 hb; replace HB := bs HB hb; (try clear hb); (try clear hb2); (try clear hk); (try clear hi)) | ((with_reducible refine gate_dst (N := 6) rfl ?_); refine bx (N := 6) (cs := #[.int .i64 0, .int .i64 0, .int .i64 0, .int .i64 0]) (t := 25) ?_; intro gb409 hg w33 hbox hb; have BK409 := Aside0.mk hbox; have GW409 := sz hg HB; have GE409 := GW409; have NB400_409 := nl hg BK400; have NB409_400 := ng hg BK400; have NB401_409 := nl hg BK401; have NB409_401 := ng hg BK401; replace BK400 := cb BK400 hb; replace BK401 := cb BK401 hb; replace HB := bs HB hb; clear hb hbox hg; have hnb34 := NB409_400.out; have hnc34 := NB400_409.out; have hnb35 := NB409_401.out; have hnc35 := NB401_409.out; obtain ⟨hcz36_0, hcz36_1, hcz36_2, hcz36_3, hfz36_0, hfz36_1, hfz36_2, hfz36_3⟩ := cel4 BK409; obtain ⟨hcz37_0, hcz37_1, hcz37_2, hcz37_3, hcz37_4, hfz37_0, hfz37_1, hfz37_2, hfz37_3, hfz37_4⟩ := cel5 BK401))
         refine bodyPost_ret (results_ct rfl _ _ gb401 27 #[.int .i64 0, .int .i64 0, .int .i64 0, .int .i64 0, .int .i64 0] (0, 0) _ rfl (bp BK401) Try.underlying27 rfl (by kernel_rfl)) rfl ?_
         exact ⟨er, bl HB⟩
        ·rw [if_neg c29] at H
         have c29b0 : decide (60 < x1_2) = false := decide_eq_false c29
         clear c29
         simp only [Option.some.injEq, Prod.mk.injEq] at H
         obtain ⟨rfl, rfl, rfl, rfl, rfl, rfl⟩ := H
         have hnb38 := NB400_401.out
         have hnc38 := NB401_400.out
         obtain ⟨hcz39_0, hcz39_1, hcz39_2, hcz39_3, hfz39_0, hfz39_1, hfz39_2, hfz39_3⟩ := cel4 BK400
         go_wp2_with (first | ((with_reducible refine gate_callee (f := 95) rfl ?_); refine gL (some 21) Try.func95 #[.agg #[.int .i64 x401000_2, .int .i64 x401001_2, .int .i64 x401002_2, .int .i64 x401003_2]] ?_; (with_reducible refine (impl_DivSqrt2.calls x401000_2 x401001_2 x401002_2 x401003_2 t404 t405 t406 t407 false _ A19.out).mono ?_); rintro e w40 ⟨rfl, hb⟩; refine ⟨_, rfl, ?_⟩; replace BK400 := cb BK400 hb; replace BK401 := cb BK401 hb; replace HB := bs HB hb; (try clear hb); (try clear hb2); (try clear hk); (try clear hi)) | ((with_reducible refine gate_dst (N := 6) rfl ?_); refine bx (N := 6) (cs := #[.int .i64 0, .int .i64 0, .int .i64 0, .int .i64 0]) (t := 25) ?_; intro gb409 hg w41 hbox hb; have BK409 := Aside0.mk hbox; have GW409 := sz hg HB; have GE409 := GW409; have NB400_409 := nl hg BK400; have NB409_400 := ng hg BK400; have NB401_409 := nl hg BK401; have NB409_401 := ng hg BK401; replace BK400 := cb BK400 hb; replace BK401 := cb BK401 hb; replace HB := bs HB hb; clear hb hbox hg; have hnb42 := NB409_400.out; have hnc42 := NB400_409.out; have hnb43 := NB409_401.out; have hnc43 := NB401_409.out; obtain ⟨hcz44_0, hcz44_1, hcz44_2, hcz44_3, hfz44_0, hfz44_1, hfz44_2, hfz44_3⟩ := cel4 BK409; obtain ⟨hcz45_0, hcz45_1, hcz45_2, hcz45_3, hfz45_0, hfz45_1, hfz45_2, hfz45_3⟩ := cel4 BK400; obtain ⟨hcz46_0, hcz46_1, hcz46_2, hcz46_3, hcz46_4, hfz46_0, hfz46_1, hfz46_2, hfz46_3, hfz46_4⟩ := cel5 BK401))
         refine bodyPost_ret (results_ct rfl _ _ gb401 27 #[.int .i64 x401000_2, .int .i64 x401001_2, .int .i64 x401002_2, .int .i64 x401003_2, .int .i64 x1_2] (0, 0) _ rfl (bp BK401) Try.underlying27 rfl (by kernel_rfl)) rfl ?_
         exact ⟨er, bl HB⟩
      ·rw [if_neg c18] at H
       have c18b0 : decide (0 < x1_2) = false := decide_eq_false c18
       clear c18
       by_cases c47 : x1_2 > 60
       ·rw [if_pos c47] at H
        have c47b0 : decide (60 < x1_2) = true := decide_eq_true c47
        clear c47
        simp only [Option.some.injEq, Prod.mk.injEq] at H
        obtain ⟨rfl, rfl, rfl, rfl, rfl, rfl⟩ := H
        have hnb48 := NB401_400.out
        have hnc48 := NB400_401.out
        obtain ⟨hcz49_0, hcz49_1, hcz49_2, hcz49_3, hcz49_4, hfz49_0, hfz49_1, hfz49_2, hfz49_3, hfz49_4⟩ := cel5 BK401
        go_wp2
        refine bodyPost_ret (results_ct rfl _ _ gb401 27 #[.int .i64 0, .int .i64 0, .int .i64 0, .int .i64 0, .int .i64 0] (0, 0) _ rfl (bp BK401) Try.underlying27 rfl (by kernel_rfl)) rfl ?_
        exact ⟨er, bl HB⟩
       ·rw [if_neg c47] at H
        have c47b0 : decide (60 < x1_2) = false := decide_eq_false c47
        clear c47
        simp only [Option.some.injEq, Prod.mk.injEq] at H
        obtain ⟨rfl, rfl, rfl, rfl, rfl, rfl⟩ := H
        have hnb50 := NB400_401.out
        have hnc50 := NB401_400.out
        obtain ⟨hcz51_0, hcz51_1, hcz51_2, hcz51_3, hfz51_0, hfz51_1, hfz51_2, hfz51_3⟩ := cel4 BK400
        obtain ⟨hcz52_0, hcz52_1, hcz52_2, hcz52_3, hcz52_4, hfz52_0, hfz52_1, hfz52_2, hfz52_3, hfz52_4⟩ := cel5 BK401
        go_wp2
        refine bodyPost_ret (results_ct rfl _ _ gb401 27 #[.int .i64 x401000_2, .int .i64 x401001_2, .int .i64 x401002_2, .int .i64 x401003_2, .int .i64 x1_2] (0, 0) _ rfl (bp BK401) Try.underlying27 rfl (by kernel_rfl)) rfl ?_
        exact ⟨er, bl HB⟩
/-! ### impl_AddDOmega: function 34 -/
mutual
def impl_AddDOmega.j0 : Nat → Bool → Int → Int → Int → Int → Int → Int → Int → Int → Int → Int → Option (Int × Int × Int × Int × Int × Bool)
 | 0, _, _, _, _, _, _, _, _, _, _, _ => none
 | k + 1, x21, x411000, x411001, x411002, x411003, x411004, x412000, x412001, x412002, x412003, x412004 => if x21 = true then (some (0, 0, 0, 0, 0, false)) else (if x411004 < x412004 then (impl_AddDOmega.j1 k x412000 x412001 x412002 x412003 x412004 x411000 x411001 x411002 x411003 x411004) else (impl_AddDOmega.j1 k x411000 x411001 x411002 x411003 x411004 x412000 x412001 x412002 x412003 x412004))
def impl_AddDOmega.j1 : Nat → Int → Int → Int → Int → Int → Int → Int → Int → Int → Int → Option (Int × Int × Int × Int × Int × Bool)
 | 0, _, _, _, _, _, _, _, _, _, _ => none
 | k + 1, x411000, x411001, x411002, x411003, x411004, x412000, x412001, x412002, x412003, x412004 => impl_AddDOmega.l0 k x412004 x411000 x411001 x411002 x411003 x411004 x412000 x412001 x412002 x412003
def impl_AddDOmega.l0 : Nat → Int → Int → Int → Int → Int → Int → Int → Int → Int → Int → Option (Int × Int × Int × Int × Int × Bool)
 | 0, _, _, _, _, _, _, _, _, _, _ => none
 | k + 1, x7, x411000, x411001, x411002, x411003, x411004, x416000, x416001, x416002, x416003 => if x7 < x411004 then ((impl_root.f).bind fun bt416 => ((impl_MulZOmega.f x416000 x416001 x416002 x416003 bt416.1 bt416.2.1 bt416.2.2.1 bt416.2.2.2).bind fun bt420 => (if bt420.2.2.2.2 = true then (impl_AddDOmega.l0 k (wrap64 (x7 + 1)) x411000 x411001 x411002 x411003 x411004 bt420.1 bt420.2.1 bt420.2.2.1 bt420.2.2.2.1) else (some (0, 0, 0, 0, 0, false))))) else ((impl_AddZOmega.f x411000 x411001 x411002 x411003 x416000 x416001 x416002 x416003).bind fun bt426 => (if bt426.2.2.2.2 = true then ((impl_NewDOmega.f k bt426.1 bt426.2.1 bt426.2.2.1 bt426.2.2.2.1 x411004).bind fun bt432 => (some (bt432.1, bt432.2.1, bt432.2.2.1, bt432.2.2.2.1, bt432.2.2.2.2.1, bt432.2.2.2.2.2))) else (some (0, 0, 0, 0, 0, false))))
end
def impl_AddDOmega.f (k : Nat) (a0_0 : Int) (a0_1 : Int) (a0_2 : Int) (a0_3 : Int) (a0_4 : Int) (a1_0 : Int) (a1_1 : Int) (a1_2 : Int) (a1_3 : Int) (a1_4 : Int) : Option (Int × Int × Int × Int × Int × Bool) := (impl_IsValidDOmega.f a0_0 a0_1 a0_2 a0_3 a0_4).bind fun t413 => (if t413 = true then ((impl_IsValidDOmega.f a1_0 a1_1 a1_2 a1_3 a1_4).bind fun t414 => (impl_AddDOmega.j0 k (!t414) a0_0 a0_1 a0_2 a0_3 a0_4 a1_0 a1_1 a1_2 a1_3 a1_4)) else (impl_AddDOmega.j0 k true a0_0 a0_1 a0_2 a0_3 a0_4 a1_0 a1_1 a1_2 a1_3 a1_4))
def impl_AddDOmega.T9 : Bool × List (List Nat × List Nat) := (true, [([], []), ([], []), ([0, 1, 1], [0, 1]), ([2], [2]), ([3], [3]), ([3], [3]), ([], []), ([6, 4, 2, 0, 1, 2, 3, 4, 6], [4, 6]), ([5, 7, 0, 1, 2, 3, 4, 5, 6, 7], [5])])
def impl_AddDOmega.B9 : List Nat := [0, 0, 3, 7, 15, 15, 0, 95, 255]
theorem impl_AddDOmega.tab9 : rtab .any (opsOf Try.f34 9) = impl_AddDOmega.T9 := by kernel_rfl
theorem impl_AddDOmega.bits9 : waitsOk impl_AddDOmega.T9.2 impl_AddDOmega.B9 = true := by kernel_rfl
set_option maxHeartbeats 8000000 in
set_option maxRecDepth 100000 in
theorem impl_AddDOmega.calls (k : Nat) (a0_0 : Int) (a0_1 : Int) (a0_2 : Int) (a0_3 : Int) (a0_4 : Int) (a1_0 : Int) (a1_1 : Int) (a1_2 : Int) (a1_3 : Int) (a1_4 : Int) (r1 : Int) (r2 : Int) (r3 : Int) (r4 : Int) (r5 : Int) (r6 : Bool) (w : World) (h : impl_AddDOmega.f k a0_0 a0_1 a0_2 a0_3 a0_4 a1_0 a1_1 a1_2 a1_3 a1_4 = some (r1, r2, r3, r4, r5, r6)) :
  Calls Try.prog 34 #[.agg #[.int .i64 a0_0, .int .i64 a0_1, .int .i64 a0_2, .int .i64 a0_3, .int .i64 a0_4], .agg #[.int .i64 a1_0, .int .i64 a1_1, .int .i64 a1_2, .int .i64 a1_3, .int .i64 a1_4]] w fun e w' => e = .returned (.tuple #[.agg #[.int .i64 r1, .int .i64 r2, .int .i64 r3, .int .i64 r4, .int .i64 r5], .bool r6]) ∧ Below w.heap.size w w' := by
 have hu27 := Try.underlying27
 have hu25 := Try.underlying25
 have HB := Aside0.mk (Below.refl w.heap.size w)
 have H := h
 clear h
 unfold impl_AddDOmega.f at H
 have HC3 := Aside0.mk H
 clear H
 go_enter Try.func34, Try.ntmps34
 go_upto_region 1 with (first | ((with_reducible refine gate_dst (N := 2) rfl ?_); refine bx (N := 2) (cs := #[.int .i64 a0_0, .int .i64 a0_1, .int .i64 a0_2, .int .i64 a0_3, .int .i64 a0_4]) (t := 27) ?_; intro gb410 hg w4 hbox hb; have BK410 := Aside0.mk hbox; have GW410 := sz hg HB; have GE410 := GW410; replace HB := bs HB hb; clear hb hbox hg) | ((with_reducible refine gate_dst (N := 3) rfl ?_); refine bx (N := 3) (cs := #[.int .i64 a1_0, .int .i64 a1_1, .int .i64 a1_2, .int .i64 a1_3, .int .i64 a1_4]) (t := 27) ?_; intro gb411 hg w5 hbox hb; have BK411 := Aside0.mk hbox; have GW411 := sz hg HB; have GE411 := GW411; have NB410_411 := nl hg BK410; have NB411_410 := ng hg BK410; replace BK410 := cb BK410 hb; replace HB := bs HB hb; clear hb hbox hg) | ((with_reducible refine gate_dst (N := 4) rfl ?_); refine bx (N := 4) (cs := #[.int .i64 0, .int .i64 0, .int .i64 0, .int .i64 0, .int .i64 0]) (t := 27) ?_; intro gb412 hg w6 hbox hb; have BK412 := Aside0.mk hbox; have GW412 := sz hg HB; have GE412 := GW412; have NB410_412 := nl hg BK410; have NB412_410 := ng hg BK410; have NB411_412 := nl hg BK411; have NB412_411 := ng hg BK411; replace BK410 := cb BK410 hb; replace BK411 := cb BK411 hb; replace HB := bs HB hb; clear hb hbox hg))
 (try simp only [Act.put, List.setIfInBounds_toArray, List.set_cons_zero, List.set_cons_succ])
 go_cut [21] (fun v21 wc => ∃ (kq : Nat) (x21_2 : Bool), v21 = .bool x21_2 ∧ Aside0 (impl_AddDOmega.j0 kq x21_2 a0_0 a0_1 a0_2 a0_3 a0_4 a1_0 a1_1 a1_2 a1_3 a1_4 = some (r1, r2, r3, r4, r5, r6)) ∧ Aside0 (kq ≤ k) ∧ Aside0 (wc.heap[gb410]? = some (.cells #[.int .i64 a0_0, .int .i64 a0_1, .int .i64 a0_2, .int .i64 a0_3, .int .i64 a0_4] 27 (0, 0))) ∧ Aside0 (wc.heap[gb411]? = some (.cells #[.int .i64 a1_0, .int .i64 a1_1, .int .i64 a1_2, .int .i64 a1_3, .int .i64 a1_4] 27 (0, 0))) ∧ Aside0 (wc.heap[gb412]? = some (.cells #[.int .i64 0, .int .i64 0, .int .i64 0, .int .i64 0, .int .i64 0] 27 (0, 0))) ∧ Aside0 (Below w.heap.size w wc))
 case first =>
  have H := HC3.out
  clear HC3
  replace H := Option.bind_eq_some_iff.mp H
  obtain ⟨t413, A70, H⟩ := H
  try dsimp only at H
  have A7 := Aside0.mk A70
  clear A70
  by_cases c8 : t413 = true
  ·subst c8
   rw [if_pos rfl] at H
   replace H := Option.bind_eq_some_iff.mp H
   obtain ⟨t414, A90, H⟩ := H
   try dsimp only at H
   have A9 := Aside0.mk A90
   clear A90
   have H' := Aside0.mk H
   clear H
   have hnb10 := NB410_411.out
   have hnc10 := NB411_410.out
   have hnb11 := NB410_412.out
   have hnc11 := NB412_410.out
   obtain ⟨hcz12_0, hcz12_1, hcz12_2, hcz12_3, hcz12_4, hfz12_0, hfz12_1, hfz12_2, hfz12_3, hfz12_4⟩ := cel5 BK410
   go_wp2_with (first | ((with_reducible refine gate_callee (f := 62) rfl ?_); refine gL (some 15) Try.func62 #[.agg #[.int .i64 a0_0, .int .i64 a0_1, .int .i64 a0_2, .int .i64 a0_3, .int .i64 a0_4]] ?_; (with_reducible refine (impl_IsValidDOmega.calls a0_0 a0_1 a0_2 a0_3 a0_4 true _ A7.out).mono ?_); rintro e w13 ⟨rfl, hb⟩; refine ⟨_, rfl, ?_⟩; replace BK410 := cb BK410 hb; replace BK411 := cb BK411 hb; replace BK412 := cb BK412 hb; replace HB := bs HB hb; (try clear hb); (try clear hb2); (try clear hk); (try clear hi); have hnb14 := NB411_412.out; have hnc14 := NB412_411.out; obtain ⟨hcz15_0, hcz15_1, hcz15_2, hcz15_3, hcz15_4, hfz15_0, hfz15_1, hfz15_2, hfz15_3, hfz15_4⟩ := cel5 BK411) | (go_at_call 62; (with_reducible refine (impl_IsValidDOmega.calls a1_0 a1_1 a1_2 a1_3 a1_4 t414 _ A9.out).mono ?_); rintro e w16 ⟨rfl, hb⟩; replace BK410 := cb BK410 hb; replace BK411 := cb BK411 hb; replace BK412 := cb BK412 hb; replace HB := bs HB hb; (try clear hb); (try clear hb2); (try clear hk); (try clear hi)))
   go_meet
   case rel => exact ⟨_, (!t414), rs, H', ⟨by first | omega | exact Nat.le_refl _⟩, ⟨pl BK410⟩, ⟨pl BK411⟩, ⟨pl BK412⟩, ⟨bl HB⟩⟩
  ·replace c8 := Bool.eq_false_iff.mpr c8
   subst c8
   rw [nf] at H
   have H' := Aside0.mk H
   clear H
   have hnb17 := NB410_411.out
   have hnc17 := NB411_410.out
   have hnb18 := NB410_412.out
   have hnc18 := NB412_410.out
   obtain ⟨hcz19_0, hcz19_1, hcz19_2, hcz19_3, hcz19_4, hfz19_0, hfz19_1, hfz19_2, hfz19_3, hfz19_4⟩ := cel5 BK410
   go_wp2_with (first | ((with_reducible refine gate_callee (f := 62) rfl ?_); refine gL (some 15) Try.func62 #[.agg #[.int .i64 a0_0, .int .i64 a0_1, .int .i64 a0_2, .int .i64 a0_3, .int .i64 a0_4]] ?_; (with_reducible refine (impl_IsValidDOmega.calls a0_0 a0_1 a0_2 a0_3 a0_4 false _ A7.out).mono ?_); rintro e w20 ⟨rfl, hb⟩; refine ⟨_, rfl, ?_⟩; replace BK410 := cb BK410 hb; replace BK411 := cb BK411 hb; replace BK412 := cb BK412 hb; replace HB := bs HB hb; (try clear hb); (try clear hb2); (try clear hk); (try clear hi)))
   go_meet
   case rel => exact ⟨_, (true), rs, H', ⟨by first | omega | exact Nat.le_refl _⟩, ⟨pl BK410⟩, ⟨pl BK411⟩, ⟨pl BK412⟩, ⟨bl HB⟩⟩
 case rest =>
  clear HC3
  try clear c1
  try clear p2
  try clear c3
  try clear c6
  try clear c8
  try clear c10
  try clear c11
  try clear c14
  try clear c17
  try clear c18
  try clear hcz12_0
  try clear hcz12_1
  try clear hcz12_2
  try clear hcz12_3
  try clear hcz12_4
  try clear hcz15_0
  try clear hcz15_1
  try clear hcz15_2
  try clear hcz15_3
  try clear hcz15_4
  try clear hcz19_0
  try clear hcz19_1
  try clear hcz19_2
  try clear hcz19_3
  try clear hcz19_4
  try clear hfz12_0
  try clear hfz12_1
  try clear hfz12_2
  try clear hfz12_3
  try clear hfz12_4
  try clear hfz15_0
  try clear hfz15_1
  try clear hfz15_2
  try clear hfz15_3
  try clear hfz15_4
  try clear hfz19_0
  try clear hfz19_1
  try clear hfz19_2
  try clear hfz19_3
  try clear hfz19_4
  obtain ⟨kq, x21_2, rfl, HA, HJ2, BK410, BK411, BK412, HB⟩ := hcut
  cases kq with
  | zero => exact absurd HA.out (by simp [impl_AddDOmega.j0])
  | succ kj2 =>
   have H := HA.out
   clear HA
   simp only [impl_AddDOmega.j0] at H
   by_cases c21 : x21_2 = true
   ·subst c21
    rw [if_pos rfl] at H
    simp only [Option.some.injEq, Prod.mk.injEq] at H
    obtain ⟨rfl, rfl, rfl, rfl, rfl, rfl⟩ := H
    have hnb22 := NB412_410.out
    have hnc22 := NB410_412.out
    have hnb23 := NB412_411.out
    have hnc23 := NB411_412.out
    obtain ⟨hcz24_0, hcz24_1, hcz24_2, hcz24_3, hcz24_4, hfz24_0, hfz24_1, hfz24_2, hfz24_3, hfz24_4⟩ := cel5 BK412
    go_wp2
    refine bodyPost_ret (results_ct rfl _ _ gb412 27 #[.int .i64 0, .int .i64 0, .int .i64 0, .int .i64 0, .int .i64 0] (0, 0) _ rfl (bp BK412) Try.underlying27 rfl (by kernel_rfl)) rfl ?_
    exact ⟨er, bl HB⟩
   ·replace c21 := Bool.eq_false_iff.mpr c21
    subst c21
    rw [nf] at H
    have HC25 := Aside0.mk H
    clear H
    have hnb26 := NB410_411.out
    have hnc26 := NB411_410.out
    have hnb27 := NB410_412.out
    have hnc27 := NB412_410.out
    obtain ⟨hcz28_0, hcz28_1, hcz28_2, hcz28_3, hcz28_4, hfz28_0, hfz28_1, hfz28_2, hfz28_3, hfz28_4⟩ := cel5 BK410
    have hnb29 := NB411_412.out
    have hnc29 := NB412_411.out
    obtain ⟨hcz30_0, hcz30_1, hcz30_2, hcz30_3, hcz30_4, hfz30_0, hfz30_1, hfz30_2, hfz30_3, hfz30_4⟩ := cel5 BK411
    go_upto_if 27 with (fail)
    go_cut [] (fun wc => ∃ (kq : Nat) (x411000_24 : Int) (x411001_24 : Int) (x411002_24 : Int) (x411003_24 : Int) (x411004_24 : Int) (x412000_24 : Int) (x412001_24 : Int) (x412002_24 : Int) (x412003_24 : Int) (x412004_24 : Int), Aside0 (impl_AddDOmega.j1 kq x411000_24 x411001_24 x411002_24 x411003_24 x411004_24 x412000_24 x412001_24 x412002_24 x412003_24 x412004_24 = some (r1, r2, r3, r4, r5, r6)) ∧ Aside0 (kq ≤ kj2) ∧ Aside0 (wc.heap[gb410]? = some (.cells #[.int .i64 x411000_24, .int .i64 x411001_24, .int .i64 x411002_24, .int .i64 x411003_24, .int .i64 x411004_24] 27 (0, 0))) ∧ Aside0 (wc.heap[gb411]? = some (.cells #[.int .i64 x412000_24, .int .i64 x412001_24, .int .i64 x412002_24, .int .i64 x412003_24, .int .i64 x412004_24] 27 (0, 0))) ∧ Aside0 (wc.heap[gb412]? = some (.cells #[.int .i64 0, .int .i64 0, .int .i64 0, .int .i64 0, .int .i64 0] 27 (0, 0))) ∧ Aside0 (Below w.heap.size w wc))
    case first =>
     have H := HC25.out
     clear HC25
     by_cases c31 : a0_4 < a1_4
     ·rw [if_pos c31] at H
      have c31b0 : decide (a0_4 < a1_4) = true := decide_eq_true c31
      clear c31
      (first | rw [c31b0] | (simp only [i64_w, i32_w]; rw [c31b0]) | skip)
      have H' := Aside0.mk H
      clear H
      have hnb32 := NB411_410.out
      have hnc32 := NB410_411.out
      have hnb33 := NB411_412.out
      have hnc33 := NB412_411.out
      obtain ⟨hcz34_0, hcz34_1, hcz34_2, hcz34_3, hcz34_4, hfz34_0, hfz34_1, hfz34_2, hfz34_3, hfz34_4⟩ := cel5 BK411
      have hnb35 := NB410_412.out
      have hnc35 := NB412_410.out
      obtain ⟨hcz36_0, hcz36_1, hcz36_2, hcz36_3, hcz36_4, hfz36_0, hfz36_1, hfz36_2, hfz36_3, hfz36_4⟩ := cel5 BK410
      go_wp2
      go_meet
      case rel => exact ⟨_, (a1_0), (a1_1), (a1_2), (a1_3), (a1_4), (a0_0), (a0_1), (a0_2), (a0_3), (a0_4), H', ⟨by have := HJ2.out; first | omega | exact Nat.le_refl _⟩, ⟨bp BK410⟩, ⟨bp BK411⟩, ⟨bp BK412⟩, ⟨bl HB⟩⟩
     ·rw [if_neg c31] at H
      have c31b0 : decide (a0_4 < a1_4) = false := decide_eq_false c31
      clear c31
      (first | rw [c31b0] | (simp only [i64_w, i32_w]; rw [c31b0]) | skip)
      have H' := Aside0.mk H
      clear H
      go_wp2
      go_meet
      case rel => exact ⟨_, (a0_0), (a0_1), (a0_2), (a0_3), (a0_4), (a1_0), (a1_1), (a1_2), (a1_3), (a1_4), H', ⟨by have := HJ2.out; first | omega | exact Nat.le_refl _⟩, ⟨pl BK410⟩, ⟨pl BK411⟩, ⟨pl BK412⟩, ⟨bl HB⟩⟩
    case rest =>
     clear HC25
     try clear c1
     try clear c2
     try clear p2
     try clear c3
     try clear c6
     try clear c8
     try clear c10
     try clear c11
     try clear c14
     try clear c17
     try clear c18
     try clear c21
     try clear c22
     try clear c23
     try clear c26
     try clear c27
     try clear c29
     try clear c31
     try clear c31b0
     try clear c32
     try clear c33
     try clear c34
     try clear c35
     try clear hcz12_0
     try clear hcz12_1
     try clear hcz12_2
     try clear hcz12_3
     try clear hcz12_4
     try clear hcz15_0
     try clear hcz15_1
     try clear hcz15_2
     try clear hcz15_3
     try clear hcz15_4
     try clear hcz19_0
     try clear hcz19_1
     try clear hcz19_2
     try clear hcz19_3
     try clear hcz19_4
     try clear hcz24_0
     try clear hcz24_1
     try clear hcz24_2
     try clear hcz24_3
     try clear hcz24_4
     try clear hcz28_0
     try clear hcz28_1
     try clear hcz28_2
     try clear hcz28_3
     try clear hcz28_4
     try clear hcz30_0
     try clear hcz30_1
     try clear hcz30_2
     try clear hcz30_3
     try clear hcz30_4
     try clear hcz34_0
     try clear hcz34_1
     try clear hcz34_2
     try clear hcz34_3
     try clear hcz34_4
     try clear hcz36_0
     try clear hcz36_1
     try clear hcz36_2
     try clear hcz36_3
     try clear hcz36_4
     try clear hfz12_0
     try clear hfz12_1
     try clear hfz12_2
     try clear hfz12_3
     try clear hfz12_4
     try clear hfz15_0
     try clear hfz15_1
     try clear hfz15_2
     try clear hfz15_3
     try clear hfz15_4
     try clear hfz19_0
     try clear hfz19_1
     try clear hfz19_2
     try clear hfz19_3
     try clear hfz19_4
     try clear hfz24_0
     try clear hfz24_1
     try clear hfz24_2
     try clear hfz24_3
     try clear hfz24_4
     try clear hfz28_0
     try clear hfz28_1
     try clear hfz28_2
     try clear hfz28_3
     try clear hfz28_4
     try clear hfz30_0
     try clear hfz30_1
     try clear hfz30_2
     try clear hfz30_3
     try clear hfz30_4
     try clear hfz34_0
     try clear hfz34_1
     try clear hfz34_2
     try clear hfz34_3
     try clear hfz34_4
     try clear hfz36_0
     try clear hfz36_1
     try clear hfz36_2
     try clear hfz36_3
     try clear hfz36_4
     try clear p2
     obtain ⟨kq, x411000_24, x411001_24, x411002_24, x411003_24, x411004_24, x412000_24, x412001_24, x412002_24, x412003_24, x412004_24, HA, HJ24, BK410, BK411, BK412, HB⟩ := hcut
     cases kq with
     | zero => exact absurd HA.out (by simp [impl_AddDOmega.j1])
     | succ kj24 =>
      have H := HA.out
      clear HA
      simp only [impl_AddDOmega.j1] at H
      have H' := Aside0.mk H
      clear H
      have hnb37 := NB411_410.out
      have hnc37 := NB410_411.out
      have hnb38 := NB411_412.out
      have hnc38 := NB412_411.out
      obtain ⟨hcz39_0, hcz39_1, hcz39_2, hcz39_3, hcz39_4, hfz39_0, hfz39_1, hfz39_2, hfz39_3, hfz39_4⟩ := cel5 BK411
      go_wp2_with (first | ((with_reducible refine gate_dst (N := 6) rfl ?_); refine bx (N := 6) (cs := #[.int .i64 0, .int .i64 0, .int .i64 0, .int .i64 0]) (t := 25) ?_; intro gb415 hg w40 hbox hb; have BK415 := Aside0.mk hbox; have GW415 := sz hg HB; have GE415 := GW415; have NB410_415 := nl hg BK410; have NB415_410 := ng hg BK410; have NB411_415 := nl hg BK411; have NB415_411 := ng hg BK411; have NB412_415 := nl hg BK412; have NB415_412 := ng hg BK412; replace BK410 := cb BK410 hb; replace BK411 := cb BK411 hb; replace BK412 := cb BK412 hb; replace HB := bs HB hb; clear hb hbox hg; have hnb41 := NB415_410.out; have hnc41 := NB410_415.out; have hnb42 := NB415_411.out; have hnc42 := NB411_415.out; have hnb43 := NB415_412.out; have hnc43 := NB412_415.out; obtain ⟨hcz44_0, hcz44_1, hcz44_2, hcz44_3, hfz44_0, hfz44_1, hfz44_2, hfz44_3⟩ := cel4 BK415; obtain ⟨hcz45_0, hcz45_1, hcz45_2, hcz45_3, hcz45_4, hfz45_0, hfz45_1, hfz45_2, hfz45_3, hfz45_4⟩ := cel5 BK411))
      go_loopg [7] kj24 (fun kq v7 w' => ∃ (x7_3 : Int) (x413000_3 : Int) (x413001_3 : Int) (x413002_3 : Int) (x413003_3 : Int) (x413004_3 : Int) (x416000_3 : Int) (x416001_3 : Int) (x416002_3 : Int) (x416003_3 : Int), v7 = .int .i64 x7_3 ∧ Aside0 (impl_AddDOmega.l0 kq x7_3 x411000_24 x411001_24 x411002_24 x411003_24 x411004_24 x416000_3 x416001_3 x416002_3 x416003_3 = some (r1, r2, r3, r4, r5, r6)) ∧ Aside0 (kq ≤ kj24) ∧ Aside0 (w'.heap[gb410]? = some (.cells #[.int .i64 x411000_24, .int .i64 x411001_24, .int .i64 x411002_24, .int .i64 x411003_24, .int .i64 x411004_24] 27 (0, 0))) ∧ Aside0 (w'.heap[gb411]? = some (.cells #[.int .i64 x412000_24, .int .i64 x412001_24, .int .i64 x412002_24, .int .i64 x412003_24, .int .i64 x412004_24] 27 (0, 0))) ∧ Aside0 (w'.heap[gb412]? = some (.cells #[.int .i64 x413000_3, .int .i64 x413001_3, .int .i64 x413002_3, .int .i64 x413003_3, .int .i64 x413004_3] 27 (0, 0))) ∧ Aside0 (w'.heap[gb415]? = some (.cells #[.int .i64 x416000_3, .int .i64 x416001_3, .int .i64 x416002_3, .int .i64 x416003_3] 25 (0, 0))) ∧ Aside0 (Below w.heap.size w w'))
      case atStart => exact ⟨(x412004_24), (0), (0), (0), (0), (0), (x412000_24), (x412001_24), (x412002_24), (x412003_24), rs, H', ⟨Nat.le_refl _⟩, ⟨bp BK410⟩, ⟨bp BK411⟩, ⟨bp BK412⟩, ⟨bp BK415⟩, ⟨bl HB⟩⟩
      case round =>
       clear H'
       try clear c1
       try clear c2
       try clear p2
       try clear c3
       try clear c4
       try clear c6
       try clear c8
       try clear c10
       try clear c11
       try clear c14
       try clear c17
       try clear c18
       try clear c21
       try clear c22
       try clear c23
       try clear c26
       try clear c27
       try clear c29
       try clear c31
       try clear c31b0
       try clear c32
       try clear c33
       try clear c34
       try clear c35
       try clear c37
       try clear c38
       try clear c41
       try clear c42
       try clear c43
       try clear hcz12_0
       try clear hcz12_1
       try clear hcz12_2
       try clear hcz12_3
       try clear hcz12_4
       try clear hcz15_0
       try clear hcz15_1
       try clear hcz15_2
       try clear hcz15_3
       try clear hcz15_4
       try clear hcz19_0
       try clear hcz19_1
       try clear hcz19_2
       try clear hcz19_3
       try clear hcz19_4
       try clear hcz24_0
       try clear hcz24_1
       try clear hcz24_2
       try clear hcz24_3
       try clear hcz24_4
       try clear hcz28_0
       try clear hcz28_1
       try clear hcz28_2
       try clear hcz28_3
       try clear hcz28_4
       try clear hcz30_0
       try clear hcz30_1
       try clear hcz30_2
       try clear hcz30_3
       try clear hcz30_4
       try clear hcz34_0
       try clear hcz34_1
       try clear hcz34_2
       try clear hcz34_3
       try clear hcz34_4
       try clear hcz36_0
       try clear hcz36_1
       try clear hcz36_2
       try clear hcz36_3
       try clear hcz36_4
       try clear hcz39_0
       try clear hcz39_1
       try clear hcz39_2
       try clear hcz39_3
       try clear hcz39_4
       try clear hcz44_0
       try clear hcz44_1
       try clear hcz44_2
       try clear hcz44_3
       try clear hcz45_0
       try clear hcz45_1
       try clear hcz45_2
       try clear hcz45_3
       try clear hcz45_4
       try clear hfz12_0
       try clear hfz12_1
       try clear hfz12_2
       try clear hfz12_3
       try clear hfz12_4
       try clear hfz15_0
       try clear hfz15_1
       try clear hfz15_2
       try clear hfz15_3
       try clear hfz15_4
       try clear hfz19_0
       try clear hfz19_1
       try clear hfz19_2
       try clear hfz19_3
       try clear hfz19_4
       try clear hfz24_0
       try clear hfz24_1
       try clear hfz24_2
       try clear hfz24_3
       try clear hfz24_4
       try clear hfz28_0
       try clear hfz28_1
       try clear hfz28_2
       try clear hfz28_3
       try clear hfz28_4
       try clear hfz30_0
       try clear hfz30_1
       try clear hfz30_2
       try clear hfz30_3
       try clear hfz30_4
       try clear hfz34_0
       try clear hfz34_1
       try clear hfz34_2
       try clear hfz34_3
       try clear hfz34_4
       try clear hfz36_0
       try clear hfz36_1
       try clear hfz36_2
       try clear hfz36_3
       try clear hfz36_4
       try clear hfz39_0
       try clear hfz39_1
       try clear hfz39_2
       try clear hfz39_3
       try clear hfz39_4
       try clear hfz44_0
       try clear hfz44_1
       try clear hfz44_2
       try clear hfz44_3
       try clear hfz45_0
       try clear hfz45_1
       try clear hfz45_2
       try clear hfz45_3
       try clear hfz45_4
       try clear p2
       obtain ⟨x7_3, x413000_3, x413001_3, x413002_3, x413003_3, x413004_3, x416000_3, x416001_3, x416002_3, x416003_3, rfl, HA, HK3, BK410, BK411, BK412, BK415, HB⟩ := hrel
       cases gk with
       | zero => exact absurd HA.out (by simp [impl_AddDOmega.l0])
       | succ k3 =>
        have H := HA.out
        clear HA
        simp only [impl_AddDOmega.l0] at H
        by_cases c46 : x7_3 < x411004_24
        ·rw [if_pos c46] at H
         have c46b0 : decide (x7_3 < x411004_24) = true := decide_eq_true c46
         clear c46
         replace H := Option.bind_eq_some_iff.mp H
         obtain ⟨⟨t416, t417, t418, t419⟩, A470, H⟩ := H
         try dsimp only at H
         have A47 := Aside0.mk A470
         clear A470
         replace H := Option.bind_eq_some_iff.mp H
         obtain ⟨⟨t420, t421, t422, t423, t424⟩, A480, H⟩ := H
         try dsimp only at H
         have A48 := Aside0.mk A480
         clear A480
         by_cases c49 : t424 = true
         ·subst c49
          rw [if_pos rfl] at H
          have H' := Aside0.mk H
          clear H
          have hnb50 := NB410_411.out
          have hnc50 := NB411_410.out
          have hnb51 := NB410_412.out
          have hnc51 := NB412_410.out
          have hnb52 := NB410_415.out
          have hnc52 := NB415_410.out
          obtain ⟨hcz53_0, hcz53_1, hcz53_2, hcz53_3, hcz53_4, hfz53_0, hfz53_1, hfz53_2, hfz53_3, hfz53_4⟩ := cel5 BK410
          try go_wp2
          have n0_ := Aside0.mk (blk_drew BK410.out)
          have n1_ := Aside0.mk (blk_drew BK411.out)
          have n2_ := Aside0.mk (blk_drew BK412.out)
          have n3_ := Aside0.mk (blk_drew BK415.out)
          have n4_ := Aside0.mk (below_drew1 HB.out)
          clear BK410
          clear BK411
          clear BK412
          clear BK415
          clear HB
          have BK410 := n0_
          have BK411 := n1_
          have BK412 := n2_
          have BK415 := n3_
          have HB := n4_
          clear n0_ n1_ n2_ n3_ n4_
          refine start_ (n := 9) (S := fun w' => w'.cell? ⟨gb415, 0, none⟩ = some (.int .i64 x416000_3) ∧ w'.cell? ⟨gb415, 1, none⟩ = some (.int .i64 x416001_3) ∧ w'.cell? ⟨gb415, 2, none⟩ = some (.int .i64 x416002_3) ∧ w'.cell? ⟨gb415, 3, none⟩ = some (.int .i64 x416003_3)) (ds := []) #[false, false, false, false, false, false, false, false, false] (by kernel_rfl) rfl rfl ⟨(blk_cell BK415.out 0).trans rfl, (blk_cell BK415.out 1).trans rfl, (blk_cell BK415.out 2).trans rfl, (blk_cell BK415.out 3).trans rfl⟩ (fun hHeld => ?_); refine with_tabW impl_AddDOmega.tab9 impl_AddDOmega.bits9 (fun HT_ HW_ => ?_)
          generalize wr.drew = w54 at BK410 BK411 BK412 BK415 HB hHeld ⊢
          refine take_ (i := 0) (N := some 41) (v := ?_) (a' := ?_) #[true, false, false, false, false, false, false, false, false] rfl rfl (take_ofW HT_.out HW_.out (by kernel_rfl)) (fun _ _ _ h => h) (Or.inl ⟨by rfl, ?_⟩) hHeld ?_ ?_
          rotate_left
          ·rintro w' ⟨s0, s1, s2, s3⟩
           go_simp
           with_reducible rfl
          rotate_left
          ·simp only [Act.put, List.setIfInBounds_toArray, List.set_cons_zero, List.set_cons_succ, i64_w, i32_w]
           rfl
          refine join_ (σ := Nat) 2 #[true, true, true, true, true, true, true, false, false] (fun s_ => [(42, .agg #[.int .i64 t416, .int .i64 t417, .int .i64 t418, .int .i64 t419]), (43, .tuple #[.agg #[.int .i64 t420, .int .i64 t421, .int .i64 t422, .int .i64 t423], .bool true]), (8, .pointer (some ⟨s_, 0, none⟩)), (40, .tuple #[.agg #[.int .i64 t420, .int .i64 t421, .int .i64 t422, .int .i64 t423], .bool true]), (44, .agg #[.int .i64 t420, .int .i64 t421, .int .i64 t422, .int .i64 t423]), (45, .bool true)]) (fun s_ w' => (w'.cell? ⟨gb415, 0, none⟩ = some (.int .i64 x416000_3) ∧ w'.cell? ⟨gb415, 1, none⟩ = some (.int .i64 x416001_3) ∧ w'.cell? ⟨gb415, 2, none⟩ = some (.int .i64 x416002_3) ∧ w'.cell? ⟨gb415, 3, none⟩ = some (.int .i64 x416003_3)) ∧ (w'.heap[gb410]? = some (.cells #[.int .i64 x411000_24, .int .i64 x411001_24, .int .i64 x411002_24, .int .i64 x411003_24, .int .i64 x411004_24] 27 (0, 0))) ∧ (w'.heap[gb411]? = some (.cells #[.int .i64 x412000_24, .int .i64 x412001_24, .int .i64 x412002_24, .int .i64 x412003_24, .int .i64 x412004_24] 27 (0, 0))) ∧ (w'.heap[gb412]? = some (.cells #[.int .i64 x413000_3, .int .i64 x413001_3, .int .i64 x413002_3, .int .i64 x413003_3, .int .i64 x413004_3] 27 (0, 0))) ∧ (w'.heap[gb415]? = some (.cells #[.int .i64 x416000_3, .int .i64 x416001_3, .int .i64 x416002_3, .int .i64 x416003_3] 25 (0, 0))) ∧ (w'.heap[s_]? = some (.cells #[.int .i64 0, .int .i64 0, .int .i64 0, .int .i64 0] 25 (0, 0))) ∧ (w.heap.size ≤ s_) ∧ (w.heap.size ≤ s_) ∧ (gb410 ≠ s_) ∧ (s_ ≠ gb410) ∧ (gb411 ≠ s_) ∧ (s_ ≠ gb411) ∧ (gb412 ≠ s_) ∧ (s_ ≠ gb412) ∧ (gb415 ≠ s_) ∧ (s_ ≠ gb415) ∧ (Below w.heap.size w w')) ?_ ?_
          rotate_left
          ·intro hCont
           refine two_ (i := 1) (j := 6) (Ni := some 42) (Nj := some 8) #[true, true, false, false, false, false, false, false, false] #[true, false, false, false, false, false, true, false, false] rfl rfl rfl rfl (two_of HT_.out (by kernel_rfl)) (by decide) (by decide) (fun K hK => ?_) (fun K hK => ?_)
           ·skip
            refine goes_ Try.func64 (by kernel_rfl) rfl #[] (by rfl) rfl rfl (by (try simp only [List.map_toArray, List.map_cons, List.map_nil]); first | done | rfl | (simp only [List.length_drop, List.length_take]; rfl)) ?_
            with_reducible refine (impl_root.calls  t416 t417 t418 t419 _ A47.out).mono ?_
            rintro e w55 ⟨rfl, hb⟩
            refine ⟨_, rfl, ?_⟩
            have n0_ := cb BK410 hb
            have n1_ := cb BK411 hb
            have n2_ := cb BK412 hb
            have n3_ := cb BK415 hb
            have n4_ := bs HB hb
            clear BK410
            clear BK411
            clear BK412
            clear BK415
            clear HB
            have BK410 := n0_
            have BK411 := n1_
            have BK412 := n2_
            have BK415 := n3_
            have HB := n4_
            clear n0_ n1_ n2_ n3_ n4_
            (try clear hb)
            (try clear hb2)
            (try clear hk)
            (try clear hi)
            refine hK.out _ _ ⟨(blk_cell BK415.out 0).trans rfl, (blk_cell BK415.out 1).trans rfl, (blk_cell BK415.out 2).trans rfl, (blk_cell BK415.out 3).trans rfl⟩ (fun hHeld => ?_)
            clear hK K
            refine norm_ (a' := ?_) ?_ ?_
            rotate_left
            ·show Act.put _ (some 42) _ = _
             simp only [Act.put, List.setIfInBounds_toArray, List.set_cons_zero, List.set_cons_succ, i64_w, i32_w]
             rfl
            refine two_ (i := 2) (j := 6) (Ni := some 43) (Nj := some 8) #[true, true, true, false, false, false, false, false, false] #[true, true, false, false, false, false, true, false, false] rfl rfl rfl rfl (two_of HT_.out (by kernel_rfl)) (by decide) (by decide) (fun K hK => ?_) (fun K hK => ?_)
            ·skip
             refine goes_ Try.func63 (by kernel_rfl) rfl #[.agg #[.int .i64 x416000_3, .int .i64 x416001_3, .int .i64 x416002_3, .int .i64 x416003_3], .agg #[.int .i64 t416, .int .i64 t417, .int .i64 t418, .int .i64 t419]] (by rfl) rfl rfl (by (try simp only [List.map_toArray, List.map_cons, List.map_nil]); first | done | rfl | (simp only [List.length_drop, List.length_take]; rfl)) ?_
             with_reducible refine (impl_MulZOmega.calls x416000_3 x416001_3 x416002_3 x416003_3 t416 t417 t418 t419 t420 t421 t422 t423 true _ A48.out).mono ?_
             rintro e w56 ⟨rfl, hb⟩
             refine ⟨_, rfl, ?_⟩
             have n0_ := cb BK410 hb
             have n1_ := cb BK411 hb
             have n2_ := cb BK412 hb
             have n3_ := cb BK415 hb
             have n4_ := bs HB hb
             clear BK410
             clear BK411
             clear BK412
             clear BK415
             clear HB
             have BK410 := n0_
             have BK411 := n1_
             have BK412 := n2_
             have BK415 := n3_
             have HB := n4_
             clear n0_ n1_ n2_ n3_ n4_
             (try clear hb)
             (try clear hb2)
             (try clear hk)
             (try clear hi)
             refine hK.out _ _ ⟨(blk_cell BK415.out 0).trans rfl, (blk_cell BK415.out 1).trans rfl, (blk_cell BK415.out 2).trans rfl, (blk_cell BK415.out 3).trans rfl⟩ (fun hHeld => ?_)
             clear hK K
             refine norm_ (a' := ?_) ?_ ?_
             rotate_left
             ·show Act.put _ (some 43) _ = _
              simp only [Act.put, List.setIfInBounds_toArray, List.set_cons_zero, List.set_cons_succ, i64_w, i32_w]
              rfl
             refine pu 3 HT_ ?_
             refine pu 4 HT_ ?_
             refine pu 5 HT_ ?_
             refine one_ (i := 6) (N := some 8) #[true, true, true, true, true, true, true, false, false] rfl rfl (one_of HT_.out (by kernel_rfl)) (by decide) (fun K hK => ?_)
             refine box_step ?hg (N := 8) ?hd (cs := #[.int .i64 0, .int .i64 0, .int .i64 0, .int .i64 0]) (t := 25) ?hr ?_; (case hd => rfl); (case hg => rfl); (case hr => first | (go_simp; done) | (go_simp; rfl))
             intro gb425 hg w57 hbox hb
             have n0_ := cb BK410 hb
             have n1_ := cb BK411 hb
             have n2_ := cb BK412 hb
             have n3_ := cb BK415 hb
             have n4_ := bs HB hb
             have n5_ := Aside0.mk hbox
             have n6_ := sz hg HB
             have n7_ := sz hg HB
             have n8_ := nl hg BK410
             have n9_ := ng hg BK410
             have n10_ := nl hg BK411
             have n11_ := ng hg BK411
             have n12_ := nl hg BK412
             have n13_ := ng hg BK412
             have n14_ := nl hg BK415
             have n15_ := ng hg BK415
             clear BK410
             clear BK411
             clear BK412
             clear BK415
             clear HB
             have BK410 := n0_
             have BK411 := n1_
             have BK412 := n2_
             have BK415 := n3_
             have HB := n4_
             have BK425 := n5_
             have GW425 := n6_
             have GE425 := n7_
             have NB410_425 := n8_
             have NB425_410 := n9_
             have NB411_425 := n10_
             have NB425_411 := n11_
             have NB412_425 := n12_
             have NB425_412 := n13_
             have NB415_425 := n14_
             have NB425_415 := n15_
             clear n0_ n1_ n2_ n3_ n4_ n5_ n6_ n7_ n8_ n9_ n10_ n11_ n12_ n13_ n14_ n15_
             clear hb hbox hg
             refine hK.out _ _ ⟨(blk_cell BK415.out 0).trans rfl, (blk_cell BK415.out 1).trans rfl, (blk_cell BK415.out 2).trans rfl, (blk_cell BK415.out 3).trans rfl⟩ (fun hHeld => ?_)
             clear hK K
             refine norm_ (a' := ?_) ?_ ?_
             rotate_left
             ·show Act.put _ (some 8) _ = _
              simp only [Act.put, List.setIfInBounds_toArray, List.set_cons_zero, List.set_cons_succ, i64_w, i32_w]
              rfl
             exact norm_ (by simp only [putAll, Act.put, List.setIfInBounds_toArray, List.set_cons_zero, List.set_cons_succ]) (hCont (gb425) _ ⟨hHeld, (pl BK410), (pl BK411), (pl BK412), (pl BK415), (pl BK425), GW425.out, GE425.out, NB410_425.out, NB425_410.out, NB411_425.out, NB425_411.out, NB412_425.out, NB425_412.out, NB415_425.out, NB425_415.out, (bl HB)⟩)
            ·skip
             refine box_step ?hg (N := 8) ?hd (cs := #[.int .i64 0, .int .i64 0, .int .i64 0, .int .i64 0]) (t := 25) ?hr ?_; (case hd => rfl); (case hg => rfl); (case hr => first | (go_simp; done) | (go_simp; rfl))
             intro gb425 hg w56 hbox hb
             have n0_ := cb BK410 hb
             have n1_ := cb BK411 hb
             have n2_ := cb BK412 hb
             have n3_ := cb BK415 hb
             have n4_ := bs HB hb
             have n5_ := Aside0.mk hbox
             have n6_ := sz hg HB
             have n7_ := sz hg HB
             have n8_ := nl hg BK410
             have n9_ := ng hg BK410
             have n10_ := nl hg BK411
             have n11_ := ng hg BK411
             have n12_ := nl hg BK412
             have n13_ := ng hg BK412
             have n14_ := nl hg BK415
             have n15_ := ng hg BK415
             clear BK410
             clear BK411
             clear BK412
             clear BK415
             clear HB
             have BK410 := n0_
             have BK411 := n1_
             have BK412 := n2_
             have BK415 := n3_
             have HB := n4_
             have BK425 := n5_
             have GW425 := n6_
             have GE425 := n7_
             have NB410_425 := n8_
             have NB425_410 := n9_
             have NB411_425 := n10_
             have NB425_411 := n11_
             have NB412_425 := n12_
             have NB425_412 := n13_
             have NB415_425 := n14_
             have NB425_415 := n15_
             clear n0_ n1_ n2_ n3_ n4_ n5_ n6_ n7_ n8_ n9_ n10_ n11_ n12_ n13_ n14_ n15_
             clear hb hbox hg
             refine hK.out _ _ ⟨(blk_cell BK415.out 0).trans rfl, (blk_cell BK415.out 1).trans rfl, (blk_cell BK415.out 2).trans rfl, (blk_cell BK415.out 3).trans rfl⟩ (fun hHeld => ?_)
             clear hK K
             refine norm_ (a' := ?_) ?_ ?_
             rotate_left
             ·show Act.put _ (some 8) _ = _
              simp only [Act.put, List.setIfInBounds_toArray, List.set_cons_zero, List.set_cons_succ, i64_w, i32_w]
              rfl
             refine one_ (i := 2) (N := some 43) #[true, true, true, false, false, false, true, false, false] rfl rfl (one_of HT_.out (by kernel_rfl)) (by decide) (fun K hK => ?_)
             refine goes_ Try.func63 (by kernel_rfl) rfl #[.agg #[.int .i64 x416000_3, .int .i64 x416001_3, .int .i64 x416002_3, .int .i64 x416003_3], .agg #[.int .i64 t416, .int .i64 t417, .int .i64 t418, .int .i64 t419]] (by rfl) rfl rfl (by (try simp only [List.map_toArray, List.map_cons, List.map_nil]); first | done | rfl | (simp only [List.length_drop, List.length_take]; rfl)) ?_
             with_reducible refine (impl_MulZOmega.calls x416000_3 x416001_3 x416002_3 x416003_3 t416 t417 t418 t419 t420 t421 t422 t423 true _ A48.out).mono ?_
             rintro e w57 ⟨rfl, hb⟩
             refine ⟨_, rfl, ?_⟩
             have n0_ := cb BK410 hb
             have n1_ := cb BK411 hb
             have n2_ := cb BK412 hb
             have n3_ := cb BK415 hb
             have n4_ := cb BK425 hb
             have n5_ := bs HB hb
             clear BK410
             clear BK411
             clear BK412
             clear BK415
             clear BK425
             clear HB
             have BK410 := n0_
             have BK411 := n1_
             have BK412 := n2_
             have BK415 := n3_
             have BK425 := n4_
             have HB := n5_
             clear n0_ n1_ n2_ n3_ n4_ n5_
             (try clear hb)
             (try clear hb2)
             (try clear hk)
             (try clear hi)
             refine hK.out _ _ ⟨(blk_cell BK415.out 0).trans rfl, (blk_cell BK415.out 1).trans rfl, (blk_cell BK415.out 2).trans rfl, (blk_cell BK415.out 3).trans rfl⟩ (fun hHeld => ?_)
             clear hK K
             refine norm_ (a' := ?_) ?_ ?_
             rotate_left
             ·show Act.put _ (some 43) _ = _
              simp only [Act.put, List.setIfInBounds_toArray, List.set_cons_zero, List.set_cons_succ, i64_w, i32_w]
              rfl
             refine pu 3 HT_ ?_
             refine pu 4 HT_ ?_
             refine pu 5 HT_ ?_
             exact norm_ (by simp only [putAll, Act.put, List.setIfInBounds_toArray, List.set_cons_zero, List.set_cons_succ]) (hCont (gb425) _ ⟨hHeld, (pl BK410), (pl BK411), (pl BK412), (pl BK415), (pl BK425), GW425.out, GE425.out, NB410_425.out, NB425_410.out, NB411_425.out, NB425_411.out, NB412_425.out, NB425_412.out, NB415_425.out, NB425_415.out, (bl HB)⟩)
           ·skip
            refine box_step ?hg (N := 8) ?hd (cs := #[.int .i64 0, .int .i64 0, .int .i64 0, .int .i64 0]) (t := 25) ?hr ?_; (case hd => rfl); (case hg => rfl); (case hr => first | (go_simp; done) | (go_simp; rfl))
            intro gb425 hg w55 hbox hb
            have n0_ := cb BK410 hb
            have n1_ := cb BK411 hb
            have n2_ := cb BK412 hb
            have n3_ := cb BK415 hb
            have n4_ := bs HB hb
            have n5_ := Aside0.mk hbox
            have n6_ := sz hg HB
            have n7_ := sz hg HB
            have n8_ := nl hg BK410
            have n9_ := ng hg BK410
            have n10_ := nl hg BK411
            have n11_ := ng hg BK411
            have n12_ := nl hg BK412
            have n13_ := ng hg BK412
            have n14_ := nl hg BK415
            have n15_ := ng hg BK415
            clear BK410
            clear BK411
            clear BK412
            clear BK415
            clear HB
            have BK410 := n0_
            have BK411 := n1_
            have BK412 := n2_
            have BK415 := n3_
            have HB := n4_
            have BK425 := n5_
            have GW425 := n6_
            have GE425 := n7_
            have NB410_425 := n8_
            have NB425_410 := n9_
            have NB411_425 := n10_
            have NB425_411 := n11_
            have NB412_425 := n12_
            have NB425_412 := n13_
            have NB415_425 := n14_
            have NB425_415 := n15_
            clear n0_ n1_ n2_ n3_ n4_ n5_ n6_ n7_ n8_ n9_ n10_ n11_ n12_ n13_ n14_ n15_
            clear hb hbox hg
            refine hK.out _ _ ⟨(blk_cell BK415.out 0).trans rfl, (blk_cell BK415.out 1).trans rfl, (blk_cell BK415.out 2).trans rfl, (blk_cell BK415.out 3).trans rfl⟩ (fun hHeld => ?_)
            clear hK K
            refine norm_ (a' := ?_) ?_ ?_
            rotate_left
            ·show Act.put _ (some 8) _ = _
             simp only [Act.put, List.setIfInBounds_toArray, List.set_cons_zero, List.set_cons_succ, i64_w, i32_w]
             rfl
            refine one_ (i := 1) (N := some 42) #[true, true, false, false, false, false, true, false, false] rfl rfl (one_of HT_.out (by kernel_rfl)) (by decide) (fun K hK => ?_)
            refine goes_ Try.func64 (by kernel_rfl) rfl #[] (by rfl) rfl rfl (by (try simp only [List.map_toArray, List.map_cons, List.map_nil]); first | done | rfl | (simp only [List.length_drop, List.length_take]; rfl)) ?_
            with_reducible refine (impl_root.calls  t416 t417 t418 t419 _ A47.out).mono ?_
            rintro e w56 ⟨rfl, hb⟩
            refine ⟨_, rfl, ?_⟩
            have n0_ := cb BK410 hb
            have n1_ := cb BK411 hb
            have n2_ := cb BK412 hb
            have n3_ := cb BK415 hb
            have n4_ := cb BK425 hb
            have n5_ := bs HB hb
            clear BK410
            clear BK411
            clear BK412
            clear BK415
            clear BK425
            clear HB
            have BK410 := n0_
            have BK411 := n1_
            have BK412 := n2_
            have BK415 := n3_
            have BK425 := n4_
            have HB := n5_
            clear n0_ n1_ n2_ n3_ n4_ n5_
            (try clear hb)
            (try clear hb2)
            (try clear hk)
            (try clear hi)
            refine hK.out _ _ ⟨(blk_cell BK415.out 0).trans rfl, (blk_cell BK415.out 1).trans rfl, (blk_cell BK415.out 2).trans rfl, (blk_cell BK415.out 3).trans rfl⟩ (fun hHeld => ?_)
            clear hK K
            refine norm_ (a' := ?_) ?_ ?_
            rotate_left
            ·show Act.put _ (some 42) _ = _
             simp only [Act.put, List.setIfInBounds_toArray, List.set_cons_zero, List.set_cons_succ, i64_w, i32_w]
             rfl
            refine one_ (i := 2) (N := some 43) #[true, true, true, false, false, false, true, false, false] rfl rfl (one_of HT_.out (by kernel_rfl)) (by decide) (fun K hK => ?_)
            refine goes_ Try.func63 (by kernel_rfl) rfl #[.agg #[.int .i64 x416000_3, .int .i64 x416001_3, .int .i64 x416002_3, .int .i64 x416003_3], .agg #[.int .i64 t416, .int .i64 t417, .int .i64 t418, .int .i64 t419]] (by rfl) rfl rfl (by (try simp only [List.map_toArray, List.map_cons, List.map_nil]); first | done | rfl | (simp only [List.length_drop, List.length_take]; rfl)) ?_
            with_reducible refine (impl_MulZOmega.calls x416000_3 x416001_3 x416002_3 x416003_3 t416 t417 t418 t419 t420 t421 t422 t423 true _ A48.out).mono ?_
            rintro e w57 ⟨rfl, hb⟩
            refine ⟨_, rfl, ?_⟩
            have n0_ := cb BK410 hb
            have n1_ := cb BK411 hb
            have n2_ := cb BK412 hb
            have n3_ := cb BK415 hb
            have n4_ := cb BK425 hb
            have n5_ := bs HB hb
            clear BK410
            clear BK411
            clear BK412
            clear BK415
            clear BK425
            clear HB
            have BK410 := n0_
            have BK411 := n1_
            have BK412 := n2_
            have BK415 := n3_
            have BK425 := n4_
            have HB := n5_
            clear n0_ n1_ n2_ n3_ n4_ n5_
            (try clear hb)
            (try clear hb2)
            (try clear hk)
            (try clear hi)
            refine hK.out _ _ ⟨(blk_cell BK415.out 0).trans rfl, (blk_cell BK415.out 1).trans rfl, (blk_cell BK415.out 2).trans rfl, (blk_cell BK415.out 3).trans rfl⟩ (fun hHeld => ?_)
            clear hK K
            refine norm_ (a' := ?_) ?_ ?_
            rotate_left
            ·show Act.put _ (some 43) _ = _
             simp only [Act.put, List.setIfInBounds_toArray, List.set_cons_zero, List.set_cons_succ, i64_w, i32_w]
             rfl
            refine pu 3 HT_ ?_
            refine pu 4 HT_ ?_
            refine pu 5 HT_ ?_
            exact norm_ (by simp only [putAll, Act.put, List.setIfInBounds_toArray, List.set_cons_zero, List.set_cons_succ]) (hCont (gb425) _ ⟨hHeld, (pl BK410), (pl BK411), (pl BK412), (pl BK415), (pl BK425), GW425.out, GE425.out, NB410_425.out, NB425_410.out, NB411_425.out, NB425_411.out, NB412_425.out, NB425_412.out, NB415_425.out, NB425_415.out, (bl HB)⟩)
          rintro gb425 w58 ⟨hS_, h0_, h1_, h2_, h3_, h4_, h5_, h6_, h7_, h8_, h9_, h10_, h11_, h12_, h13_, h14_, h15_⟩
          have n0_ : Aside0 (w58.heap[gb410]? = some (.cells #[.int .i64 x411000_24, .int .i64 x411001_24, .int .i64 x411002_24, .int .i64 x411003_24, .int .i64 x411004_24] 27 (0, 0))) := ⟨h0_⟩
          have n1_ : Aside0 (w58.heap[gb411]? = some (.cells #[.int .i64 x412000_24, .int .i64 x412001_24, .int .i64 x412002_24, .int .i64 x412003_24, .int .i64 x412004_24] 27 (0, 0))) := ⟨h1_⟩
          have n2_ : Aside0 (w58.heap[gb412]? = some (.cells #[.int .i64 x413000_3, .int .i64 x413001_3, .int .i64 x413002_3, .int .i64 x413003_3, .int .i64 x413004_3] 27 (0, 0))) := ⟨h2_⟩
          have n3_ : Aside0 (w58.heap[gb415]? = some (.cells #[.int .i64 x416000_3, .int .i64 x416001_3, .int .i64 x416002_3, .int .i64 x416003_3] 25 (0, 0))) := ⟨h3_⟩
          have n4_ : Aside0 (w58.heap[gb425]? = some (.cells #[.int .i64 0, .int .i64 0, .int .i64 0, .int .i64 0] 25 (0, 0))) := ⟨h4_⟩
          have n5_ : Aside0 (w.heap.size ≤ gb425) := ⟨h5_⟩
          have n6_ : Aside0 (w.heap.size ≤ gb425) := ⟨h6_⟩
          have n7_ : Aside0 (gb410 ≠ gb425) := ⟨h7_⟩
          have n8_ : Aside0 (gb425 ≠ gb410) := ⟨h8_⟩
          have n9_ : Aside0 (gb411 ≠ gb425) := ⟨h9_⟩
          have n10_ : Aside0 (gb425 ≠ gb411) := ⟨h10_⟩
          have n11_ : Aside0 (gb412 ≠ gb425) := ⟨h11_⟩
          have n12_ : Aside0 (gb425 ≠ gb412) := ⟨h12_⟩
          have n13_ : Aside0 (gb415 ≠ gb425) := ⟨h13_⟩
          have n14_ : Aside0 (gb425 ≠ gb415) := ⟨h14_⟩
          have n15_ : Aside0 (Below w.heap.size w w58) := ⟨h15_⟩
          clear BK410
          clear BK411
          clear BK412
          clear BK415
          clear HB
          clear h0_ h1_ h2_ h3_ h4_ h5_ h6_ h7_ h8_ h9_ h10_ h11_ h12_ h13_ h14_ h15_
          have BK410 := n0_
          have BK411 := n1_
          have BK412 := n2_
          have BK415 := n3_
          have BK425 := n4_
          have GW425 := n5_
          have GE425 := n6_
          have NB410_425 := n7_
          have NB425_410 := n8_
          have NB411_425 := n9_
          have NB425_411 := n10_
          have NB412_425 := n11_
          have NB425_412 := n12_
          have NB415_425 := n13_
          have NB425_415 := n14_
          have HB := n15_
          clear n0_ n1_ n2_ n3_ n4_ n5_ n6_ n7_ n8_ n9_ n10_ n11_ n12_ n13_ n14_ n15_
          have hHeld : w58.cell? ⟨gb415, 0, none⟩ = some (.int .i64 x416000_3) ∧ w58.cell? ⟨gb415, 1, none⟩ = some (.int .i64 x416001_3) ∧ w58.cell? ⟨gb415, 2, none⟩ = some (.int .i64 x416002_3) ∧ w58.cell? ⟨gb415, 3, none⟩ = some (.int .i64 x416003_3) := hS_
          refine norm_ (a' := ?_) ?_ ?_
          rotate_left
          ·simp only [putAll, Act.put, List.setIfInBounds_toArray, List.set_cons_zero, List.set_cons_succ]
           rfl
          refine one_ (i := 7) (N := none) #[true, true, true, true, true, true, true, true, false] rfl rfl (one_of HT_.out (by kernel_rfl)) (by decide) (fun K hK => ?_)
          have hs59 : w58.cell? ⟨gb425, 0, none⟩ = some (.int .i64 0) := (blk_cell BK425.out 0).trans rfl
          have hfs59 := blk_frozen BK425.out 0
          have hns59_0 := NB410_425.out
          have hns59_1 := NB411_425.out
          have hns59_2 := NB412_425.out
          have hns59_3 := NB415_425.out
          have hms59_0 := NB425_410.out
          have hms59_1 := NB425_411.out
          have hms59_2 := NB425_412.out
          have hms59_3 := NB425_415.out
          have hs60 : w58.cell? ⟨gb425, 1, none⟩ = some (.int .i64 0) := (blk_cell BK425.out 1).trans rfl
          have hfs60 := blk_frozen BK425.out 1
          have hns60_0 := NB410_425.out
          have hns60_1 := NB411_425.out
          have hns60_2 := NB412_425.out
          have hns60_3 := NB415_425.out
          have hms60_0 := NB425_410.out
          have hms60_1 := NB425_411.out
          have hms60_2 := NB425_412.out
          have hms60_3 := NB425_415.out
          have hs61 : w58.cell? ⟨gb425, 2, none⟩ = some (.int .i64 0) := (blk_cell BK425.out 2).trans rfl
          have hfs61 := blk_frozen BK425.out 2
          have hns61_0 := NB410_425.out
          have hns61_1 := NB411_425.out
          have hns61_2 := NB412_425.out
          have hns61_3 := NB415_425.out
          have hms61_0 := NB425_410.out
          have hms61_1 := NB425_411.out
          have hms61_2 := NB425_412.out
          have hms61_3 := NB425_415.out
          have hs62 : w58.cell? ⟨gb425, 3, none⟩ = some (.int .i64 0) := (blk_cell BK425.out 3).trans rfl
          have hfs62 := blk_frozen BK425.out 3
          have hns62_0 := NB410_425.out
          have hns62_1 := NB411_425.out
          have hns62_2 := NB412_425.out
          have hns62_3 := NB415_425.out
          have hms62_0 := NB425_410.out
          have hms62_1 := NB425_411.out
          have hms62_2 := NB425_412.out
          have hms62_3 := NB425_415.out
          refine skip_ (w1 := ?_) (by rfl) rfl ?_ ?_
          rotate_left
          ·go_simp
           rfl
          refine hK.out _ _ ⟨((cell_far (p := ⟨gb425, _, none⟩) NB415_425.out _).trans (((cell_far (p := ⟨gb425, _, none⟩) NB415_425.out _).trans (((cell_far (p := ⟨gb425, _, none⟩) NB415_425.out _).trans (((cell_far (p := ⟨gb425, _, none⟩) NB415_425.out _).trans (hHeld.1)))))))), ((cell_far (p := ⟨gb425, _, none⟩) NB415_425.out _).trans (((cell_far (p := ⟨gb425, _, none⟩) NB415_425.out _).trans (((cell_far (p := ⟨gb425, _, none⟩) NB415_425.out _).trans (((cell_far (p := ⟨gb425, _, none⟩) NB415_425.out _).trans (hHeld.2.1)))))))), ((cell_far (p := ⟨gb425, _, none⟩) NB415_425.out _).trans (((cell_far (p := ⟨gb425, _, none⟩) NB415_425.out _).trans (((cell_far (p := ⟨gb425, _, none⟩) NB415_425.out _).trans (((cell_far (p := ⟨gb425, _, none⟩) NB415_425.out _).trans (hHeld.2.2.1)))))))), ((cell_far (p := ⟨gb425, _, none⟩) NB415_425.out _).trans (((cell_far (p := ⟨gb425, _, none⟩) NB415_425.out _).trans (((cell_far (p := ⟨gb425, _, none⟩) NB415_425.out _).trans (((cell_far (p := ⟨gb425, _, none⟩) NB415_425.out _).trans (hHeld.2.2.2))))))))⟩ (fun hHeld => ?_)
          clear hK K
          refine pu 8 HT_ ?_
          refine done_ (done_of HT_.out (by kernel_rfl)) ?_
          have hnb63 := NB425_410.out
          have hnc63 := NB410_425.out
          have hnb64 := NB425_411.out
          have hnc64 := NB411_425.out
          have hnb65 := NB425_412.out
          have hnc65 := NB412_425.out
          have hnb66 := NB425_415.out
          have hnc66 := NB415_425.out
          obtain ⟨hcz67_0, hcz67_1, hcz67_2, hcz67_3, hfz67_0, hfz67_1, hfz67_2, hfz67_3⟩ := cel4 BK425
          have hnb68 := NB415_411.out
          have hnc68 := NB411_415.out
          have hnb69 := NB415_412.out
          have hnc69 := NB412_415.out
          obtain ⟨hcz70_0, hcz70_1, hcz70_2, hcz70_3, hfz70_0, hfz70_1, hfz70_2, hfz70_3⟩ := cel4 BK415
          try go_wp2
          go_roundg k3
          case measure => have := HJ2.out; have := HJ24.out; have := HK3.out; omega
          case rel => exact ⟨(wrap64 (x7_3 + 1)), (x413000_3), (x413001_3), (x413002_3), (x413003_3), (x413004_3), (t420), (t421), (t422), (t423), rs, H', ⟨by have := HJ2.out; have := HJ24.out; have := HK3.out; omega⟩, ⟨bp BK410⟩, ⟨bp BK411⟩, ⟨bp BK412⟩, ⟨bp BK415⟩, ⟨bl HB⟩⟩
         ·replace c49 := Bool.eq_false_iff.mpr c49
          subst c49
          rw [nf] at H
          simp only [Option.some.injEq, Prod.mk.injEq] at H
          obtain ⟨rfl, rfl, rfl, rfl, rfl, rfl⟩ := H
          have hnb71 := NB410_411.out
          have hnc71 := NB411_410.out
          have hnb72 := NB410_412.out
          have hnc72 := NB412_410.out
          have hnb73 := NB410_415.out
          have hnc73 := NB415_410.out
          obtain ⟨hcz74_0, hcz74_1, hcz74_2, hcz74_3, hcz74_4, hfz74_0, hfz74_1, hfz74_2, hfz74_3, hfz74_4⟩ := cel5 BK410
          try go_wp2
          have n0_ := Aside0.mk (blk_drew BK410.out)
          have n1_ := Aside0.mk (blk_drew BK411.out)
          have n2_ := Aside0.mk (blk_drew BK412.out)
          have n3_ := Aside0.mk (blk_drew BK415.out)
          have n4_ := Aside0.mk (below_drew1 HB.out)
          clear BK410
          clear BK411
          clear BK412
          clear BK415
          clear HB
          have BK410 := n0_
          have BK411 := n1_
          have BK412 := n2_
          have BK415 := n3_
          have HB := n4_
          clear n0_ n1_ n2_ n3_ n4_
          refine start_ (n := 9) (S := fun w' => w'.cell? ⟨gb415, 0, none⟩ = some (.int .i64 x416000_3) ∧ w'.cell? ⟨gb415, 1, none⟩ = some (.int .i64 x416001_3) ∧ w'.cell? ⟨gb415, 2, none⟩ = some (.int .i64 x416002_3) ∧ w'.cell? ⟨gb415, 3, none⟩ = some (.int .i64 x416003_3)) (ds := []) #[false, false, false, false, false, false, false, false, false] (by kernel_rfl) rfl rfl ⟨(blk_cell BK415.out 0).trans rfl, (blk_cell BK415.out 1).trans rfl, (blk_cell BK415.out 2).trans rfl, (blk_cell BK415.out 3).trans rfl⟩ (fun hHeld => ?_); refine with_tabW impl_AddDOmega.tab9 impl_AddDOmega.bits9 (fun HT_ HW_ => ?_)
          generalize wr.drew = w75 at BK410 BK411 BK412 BK415 HB hHeld ⊢
          refine take_ (i := 0) (N := some 41) (v := ?_) (a' := ?_) #[true, false, false, false, false, false, false, false, false] rfl rfl (take_ofW HT_.out HW_.out (by kernel_rfl)) (fun _ _ _ h => h) (Or.inl ⟨by rfl, ?_⟩) hHeld ?_ ?_
          rotate_left
          ·rintro w' ⟨s0, s1, s2, s3⟩
           go_simp
           with_reducible rfl
          rotate_left
          ·simp only [Act.put, List.setIfInBounds_toArray, List.set_cons_zero, List.set_cons_succ, i64_w, i32_w]
           rfl
          refine join_ (σ := Nat) 2 #[true, true, true, true, true, true, true, false, false] (fun s_ => [(42, .agg #[.int .i64 t416, .int .i64 t417, .int .i64 t418, .int .i64 t419]), (43, .tuple #[.agg #[.int .i64 t420, .int .i64 t421, .int .i64 t422, .int .i64 t423], .bool false]), (8, .pointer (some ⟨s_, 0, none⟩)), (40, .tuple #[.agg #[.int .i64 t420, .int .i64 t421, .int .i64 t422, .int .i64 t423], .bool false]), (44, .agg #[.int .i64 t420, .int .i64 t421, .int .i64 t422, .int .i64 t423]), (45, .bool false)]) (fun s_ w' => (w'.cell? ⟨gb415, 0, none⟩ = some (.int .i64 x416000_3) ∧ w'.cell? ⟨gb415, 1, none⟩ = some (.int .i64 x416001_3) ∧ w'.cell? ⟨gb415, 2, none⟩ = some (.int .i64 x416002_3) ∧ w'.cell? ⟨gb415, 3, none⟩ = some (.int .i64 x416003_3)) ∧ (w'.heap[gb410]? = some (.cells #[.int .i64 x411000_24, .int .i64 x411001_24, .int .i64 x411002_24, .int .i64 x411003_24, .int .i64 x411004_24] 27 (0, 0))) ∧ (w'.heap[gb411]? = some (.cells #[.int .i64 x412000_24, .int .i64 x412001_24, .int .i64 x412002_24, .int .i64 x412003_24, .int .i64 x412004_24] 27 (0, 0))) ∧ (w'.heap[gb412]? = some (.cells #[.int .i64 x413000_3, .int .i64 x413001_3, .int .i64 x413002_3, .int .i64 x413003_3, .int .i64 x413004_3] 27 (0, 0))) ∧ (w'.heap[gb415]? = some (.cells #[.int .i64 x416000_3, .int .i64 x416001_3, .int .i64 x416002_3, .int .i64 x416003_3] 25 (0, 0))) ∧ (w'.heap[s_]? = some (.cells #[.int .i64 0, .int .i64 0, .int .i64 0, .int .i64 0] 25 (0, 0))) ∧ (w.heap.size ≤ s_) ∧ (w.heap.size ≤ s_) ∧ (gb410 ≠ s_) ∧ (s_ ≠ gb410) ∧ (gb411 ≠ s_) ∧ (s_ ≠ gb411) ∧ (gb412 ≠ s_) ∧ (s_ ≠ gb412) ∧ (gb415 ≠ s_) ∧ (s_ ≠ gb415) ∧ (Below w.heap.size w w')) ?_ ?_
          rotate_left
          ·intro hCont
           refine two_ (i := 1) (j := 6) (Ni := some 42) (Nj := some 8) #[true, true, false, false, false, false, false, false, false] #[true, false, false, false, false, false, true, false, false] rfl rfl rfl rfl (two_of HT_.out (by kernel_rfl)) (by decide) (by decide) (fun K hK => ?_) (fun K hK => ?_)
           ·skip
            refine goes_ Try.func64 (by kernel_rfl) rfl #[] (by rfl) rfl rfl (by (try simp only [List.map_toArray, List.map_cons, List.map_nil]); first | done | rfl | (simp only [List.length_drop, List.length_take]; rfl)) ?_
            with_reducible refine (impl_root.calls  t416 t417 t418 t419 _ A47.out).mono ?_
            rintro e w76 ⟨rfl, hb⟩
            refine ⟨_, rfl, ?_⟩
            have n0_ := cb BK410 hb
            have n1_ := cb BK411 hb
            have n2_ := cb BK412 hb
            have n3_ := cb BK415 hb
            have n4_ := bs HB hb
            clear BK410
            clear BK411
            clear BK412
            clear BK415
            clear HB
            have BK410 := n0_
            have BK411 := n1_
            have BK412 := n2_
            have BK415 := n3_
            have HB := n4_
            clear n0_ n1_ n2_ n3_ n4_
            (try clear hb)
            (try clear hb2)
            (try clear hk)
            (try clear hi)
            refine hK.out _ _ ⟨(blk_cell BK415.out 0).trans rfl, (blk_cell BK415.out 1).trans rfl, (blk_cell BK415.out 2).trans rfl, (blk_cell BK415.out 3).trans rfl⟩ (fun hHeld => ?_)
            clear hK K
            refine norm_ (a' := ?_) ?_ ?_
            rotate_left
            ·show Act.put _ (some 42) _ = _
             simp only [Act.put, List.setIfInBounds_toArray, List.set_cons_zero, List.set_cons_succ, i64_w, i32_w]
             rfl
            refine two_ (i := 2) (j := 6) (Ni := some 43) (Nj := some 8) #[true, true, true, false, false, false, false, false, false] #[true, true, false, false, false, false, true, false, false] rfl rfl rfl rfl (two_of HT_.out (by kernel_rfl)) (by decide) (by decide) (fun K hK => ?_) (fun K hK => ?_)
            ·skip
             refine goes_ Try.func63 (by kernel_rfl) rfl #[.agg #[.int .i64 x416000_3, .int .i64 x416001_3, .int .i64 x416002_3, .int .i64 x416003_3], .agg #[.int .i64 t416, .int .i64 t417, .int .i64 t418, .int .i64 t419]] (by rfl) rfl rfl (by (try simp only [List.map_toArray, List.map_cons, List.map_nil]); first | done | rfl | (simp only [List.length_drop, List.length_take]; rfl)) ?_
             with_reducible refine (impl_MulZOmega.calls x416000_3 x416001_3 x416002_3 x416003_3 t416 t417 t418 t419 t420 t421 t422 t423 false _ A48.out).mono ?_
             rintro e w77 ⟨rfl, hb⟩
             refine ⟨_, rfl, ?_⟩
             have n0_ := cb BK410 hb
             have n1_ := cb BK411 hb
             have n2_ := cb BK412 hb
             have n3_ := cb BK415 hb
             have n4_ := bs HB hb
             clear BK410
             clear BK411
             clear BK412
             clear BK415
             clear HB
             have BK410 := n0_
             have BK411 := n1_
             have BK412 := n2_
             have BK415 := n3_
             have HB := n4_
             clear n0_ n1_ n2_ n3_ n4_
             (try clear hb)
             (try clear hb2)
             (try clear hk)
             (try clear hi)
             refine hK.out _ _ ⟨(blk_cell BK415.out 0).trans rfl, (blk_cell BK415.out 1).trans rfl, (blk_cell BK415.out 2).trans rfl, (blk_cell BK415.out 3).trans rfl⟩ (fun hHeld => ?_)
             clear hK K
             refine norm_ (a' := ?_) ?_ ?_
             rotate_left
             ·show Act.put _ (some 43) _ = _
              simp only [Act.put, List.setIfInBounds_toArray, List.set_cons_zero, List.set_cons_succ, i64_w, i32_w]
              rfl
             refine pu 3 HT_ ?_
             refine pu 4 HT_ ?_
             refine pu 5 HT_ ?_
             refine one_ (i := 6) (N := some 8) #[true, true, true, true, true, true, true, false, false] rfl rfl (one_of HT_.out (by kernel_rfl)) (by decide) (fun K hK => ?_)
             refine box_step ?hg (N := 8) ?hd (cs := #[.int .i64 0, .int .i64 0, .int .i64 0, .int .i64 0]) (t := 25) ?hr ?_; (case hd => rfl); (case hg => rfl); (case hr => first | (go_simp; done) | (go_simp; rfl))
             intro gb425 hg w78 hbox hb
             have n0_ := cb BK410 hb
             have n1_ := cb BK411 hb
             have n2_ := cb BK412 hb
             have n3_ := cb BK415 hb
             have n4_ := bs HB hb
             have n5_ := Aside0.mk hbox
             have n6_ := sz hg HB
             have n7_ := sz hg HB
             have n8_ := nl hg BK410
             have n9_ := ng hg BK410
             have n10_ := nl hg BK411
             have n11_ := ng hg BK411
             have n12_ := nl hg BK412
             have n13_ := ng hg BK412
             have n14_ := nl hg BK415
             have n15_ := ng hg BK415
             clear BK410
             clear BK411
             clear BK412
             clear BK415
             clear HB
             have BK410 := n0_
             have BK411 := n1_
             have BK412 := n2_
             have BK415 := n3_
             have HB := n4_
             have BK425 := n5_
             have GW425 := n6_
             have GE425 := n7_
             have NB410_425 := n8_
             have NB425_410 := n9_
             have NB411_425 := n10_
             have NB425_411 := n11_
             have NB412_425 := n12_
             have NB425_412 := n13_
             have NB415_425 := n14_
             have NB425_415 := n15_
             clear n0_ n1_ n2_ n3_ n4_ n5_ n6_ n7_ n8_ n9_ n10_ n11_ n12_ n13_ n14_ n15_
             clear hb hbox hg
             refine hK.out _ _ ⟨(blk_cell BK415.out 0).trans rfl, (blk_cell BK415.out 1).trans rfl, (blk_cell BK415.out 2).trans rfl, (blk_cell BK415.out 3).trans rfl⟩ (fun hHeld => ?_)
             clear hK K
             refine norm_ (a' := ?_) ?_ ?_
             rotate_left
             ·show Act.put _ (some 8) _ = _
              simp only [Act.put, List.setIfInBounds_toArray, List.set_cons_zero, List.set_cons_succ, i64_w, i32_w]
              rfl
             exact norm_ (by simp only [putAll, Act.put, List.setIfInBounds_toArray, List.set_cons_zero, List.set_cons_succ]) (hCont (gb425) _ ⟨hHeld, (pl BK410), (pl BK411), (pl BK412), (pl BK415), (pl BK425), GW425.out, GE425.out, NB410_425.out, NB425_410.out, NB411_425.out, NB425_411.out, NB412_425.out, NB425_412.out, NB415_425.out, NB425_415.out, (bl HB)⟩)
            ·skip
             refine box_step ?hg (N := 8) ?hd (cs := #[.int .i64 0, .int .i64 0, .int .i64 0, .int .i64 0]) (t := 25) ?hr ?_; (case hd => rfl); (case hg => rfl); (case hr => first | (go_simp; done) | (go_simp; rfl))
             intro gb425 hg w77 hbox hb
             have n0_ := cb BK410 hb
             have n1_ := cb BK411 hb
             have n2_ := cb BK412 hb
             have n3_ := cb BK415 hb
             have n4_ := bs HB hb
             have n5_ := Aside0.mk hbox
             have n6_ := sz hg HB
             have n7_ := sz hg HB
             have n8_ := nl hg BK410
             have n9_ := ng hg BK410
             have n10_ := nl hg BK411
             have n11_ := ng hg BK411
             have n12_ := nl hg BK412
             have n13_ := ng hg BK412
             have n14_ := nl hg BK415
             have n15_ := ng hg BK415
             clear BK410
             clear BK411
             clear BK412
             clear BK415
             clear HB
             have BK410 := n0_
             have BK411 := n1_
             have BK412 := n2_
             have BK415 := n3_
             have HB := n4_
             have BK425 := n5_
             have GW425 := n6_
             have GE425 := n7_
             have NB410_425 := n8_
             have NB425_410 := n9_
             have NB411_425 := n10_
             have NB425_411 := n11_
             have NB412_425 := n12_
             have NB425_412 := n13_
             have NB415_425 := n14_
             have NB425_415 := n15_
             clear n0_ n1_ n2_ n3_ n4_ n5_ n6_ n7_ n8_ n9_ n10_ n11_ n12_ n13_ n14_ n15_
             clear hb hbox hg
             refine hK.out _ _ ⟨(blk_cell BK415.out 0).trans rfl, (blk_cell BK415.out 1).trans rfl, (blk_cell BK415.out 2).trans rfl, (blk_cell BK415.out 3).trans rfl⟩ (fun hHeld => ?_)
             clear hK K
             refine norm_ (a' := ?_) ?_ ?_
             rotate_left
             ·show Act.put _ (some 8) _ = _
              simp only [Act.put, List.setIfInBounds_toArray, List.set_cons_zero, List.set_cons_succ, i64_w, i32_w]
              rfl
             refine one_ (i := 2) (N := some 43) #[true, true, true, false, false, false, true, false, false] rfl rfl (one_of HT_.out (by kernel_rfl)) (by decide) (fun K hK => ?_)
             refine goes_ Try.func63 (by kernel_rfl) rfl #[.agg #[.int .i64 x416000_3, .int .i64 x416001_3, .int .i64 x416002_3, .int .i64 x416003_3], .agg #[.int .i64 t416, .int .i64 t417, .int .i64 t418, .int .i64 t419]] (by rfl) rfl rfl (by (try simp only [List.map_toArray, List.map_cons, List.map_nil]); first | done | rfl | (simp only [List.length_drop, List.length_take]; rfl)) ?_
             with_reducible refine (impl_MulZOmega.calls x416000_3 x416001_3 x416002_3 x416003_3 t416 t417 t418 t419 t420 t421 t422 t423 false _ A48.out).mono ?_
             rintro e w78 ⟨rfl, hb⟩
             refine ⟨_, rfl, ?_⟩
             have n0_ := cb BK410 hb
             have n1_ := cb BK411 hb
             have n2_ := cb BK412 hb
             have n3_ := cb BK415 hb
             have n4_ := cb BK425 hb
             have n5_ := bs HB hb
             clear BK410
             clear BK411
             clear BK412
             clear BK415
             clear BK425
             clear HB
             have BK410 := n0_
             have BK411 := n1_
             have BK412 := n2_
             have BK415 := n3_
             have BK425 := n4_
             have HB := n5_
             clear n0_ n1_ n2_ n3_ n4_ n5_
             (try clear hb)
             (try clear hb2)
             (try clear hk)
             (try clear hi)
             refine hK.out _ _ ⟨(blk_cell BK415.out 0).trans rfl, (blk_cell BK415.out 1).trans rfl, (blk_cell BK415.out 2).trans rfl, (blk_cell BK415.out 3).trans rfl⟩ (fun hHeld => ?_)
             clear hK K
             refine norm_ (a' := ?_) ?_ ?_
             rotate_left
             ·show Act.put _ (some 43) _ = _
              simp only [Act.put, List.setIfInBounds_toArray, List.set_cons_zero, List.set_cons_succ, i64_w, i32_w]
              rfl
             refine pu 3 HT_ ?_
             refine pu 4 HT_ ?_
             refine pu 5 HT_ ?_
             exact norm_ (by simp only [putAll, Act.put, List.setIfInBounds_toArray, List.set_cons_zero, List.set_cons_succ]) (hCont (gb425) _ ⟨hHeld, (pl BK410), (pl BK411), (pl BK412), (pl BK415), (pl BK425), GW425.out, GE425.out, NB410_425.out, NB425_410.out, NB411_425.out, NB425_411.out, NB412_425.out, NB425_412.out, NB415_425.out, NB425_415.out, (bl HB)⟩)
           ·skip
            refine box_step ?hg (N := 8) ?hd (cs := #[.int .i64 0, .int .i64 0, .int .i64 0, .int .i64 0]) (t := 25) ?hr ?_; (case hd => rfl); (case hg => rfl); (case hr => first | (go_simp; done) | (go_simp; rfl))
            intro gb425 hg w76 hbox hb
            have n0_ := cb BK410 hb
            have n1_ := cb BK411 hb
            have n2_ := cb BK412 hb
            have n3_ := cb BK415 hb
            have n4_ := bs HB hb
            have n5_ := Aside0.mk hbox
            have n6_ := sz hg HB
            have n7_ := sz hg HB
            have n8_ := nl hg BK410
            have n9_ := ng hg BK410
            have n10_ := nl hg BK411
            have n11_ := ng hg BK411
            have n12_ := nl hg BK412
            have n13_ := ng hg BK412
            have n14_ := nl hg BK415
            have n15_ := ng hg BK415
            clear BK410
            clear BK411
            clear BK412
            clear BK415
            clear HB
            have BK410 := n0_
            have BK411 := n1_
            have BK412 := n2_
            have BK415 := n3_
            have HB := n4_
            have BK425 := n5_
            have GW425 := n6_
            have GE425 := n7_
            have NB410_425 := n8_
            have NB425_410 := n9_
            have NB411_425 := n10_
            have NB425_411 := n11_
            have NB412_425 := n12_
            have NB425_412 := n13_
            have NB415_425 := n14_
            have NB425_415 := n15_
            clear n0_ n1_ n2_ n3_ n4_ n5_ n6_ n7_ n8_ n9_ n10_ n11_ n12_ n13_ n14_ n15_
            clear hb hbox hg
            refine hK.out _ _ ⟨(blk_cell BK415.out 0).trans rfl, (blk_cell BK415.out 1).trans rfl, (blk_cell BK415.out 2).trans rfl, (blk_cell BK415.out 3).trans rfl⟩ (fun hHeld => ?_)
            clear hK K
            refine norm_ (a' := ?_) ?_ ?_
            rotate_left
            ·show Act.put _ (some 8) _ = _
             simp only [Act.put, List.setIfInBounds_toArray, List.set_cons_zero, List.set_cons_succ, i64_w, i32_w]
             rfl
            refine one_ (i := 1) (N := some 42) #[true, true, false, false, false, false, true, false, false] rfl rfl (one_of HT_.out (by kernel_rfl)) (by decide) (fun K hK => ?_)
            refine goes_ Try.func64 (by kernel_rfl) rfl #[] (by rfl) rfl rfl (by (try simp only [List.map_toArray, List.map_cons, List.map_nil]); first | done | rfl | (simp only [List.length_drop, List.length_take]; rfl)) ?_
            with_reducible refine (impl_root.calls  t416 t417 t418 t419 _ A47.out).mono ?_
            rintro e w77 ⟨rfl, hb⟩
            refine ⟨_, rfl, ?_⟩
            have n0_ := cb BK410 hb
            have n1_ := cb BK411 hb
            have n2_ := cb BK412 hb
            have n3_ := cb BK415 hb
            have n4_ := cb BK425 hb
            have n5_ := bs HB hb
            clear BK410
            clear BK411
            clear BK412
            clear BK415
            clear BK425
            clear HB
            have BK410 := n0_
            have BK411 := n1_
            have BK412 := n2_
            have BK415 := n3_
            have BK425 := n4_
            have HB := n5_
            clear n0_ n1_ n2_ n3_ n4_ n5_
            (try clear hb)
            (try clear hb2)
            (try clear hk)
            (try clear hi)
            refine hK.out _ _ ⟨(blk_cell BK415.out 0).trans rfl, (blk_cell BK415.out 1).trans rfl, (blk_cell BK415.out 2).trans rfl, (blk_cell BK415.out 3).trans rfl⟩ (fun hHeld => ?_)
            clear hK K
            refine norm_ (a' := ?_) ?_ ?_
            rotate_left
            ·show Act.put _ (some 42) _ = _
             simp only [Act.put, List.setIfInBounds_toArray, List.set_cons_zero, List.set_cons_succ, i64_w, i32_w]
             rfl
            refine one_ (i := 2) (N := some 43) #[true, true, true, false, false, false, true, false, false] rfl rfl (one_of HT_.out (by kernel_rfl)) (by decide) (fun K hK => ?_)
            refine goes_ Try.func63 (by kernel_rfl) rfl #[.agg #[.int .i64 x416000_3, .int .i64 x416001_3, .int .i64 x416002_3, .int .i64 x416003_3], .agg #[.int .i64 t416, .int .i64 t417, .int .i64 t418, .int .i64 t419]] (by rfl) rfl rfl (by (try simp only [List.map_toArray, List.map_cons, List.map_nil]); first | done | rfl | (simp only [List.length_drop, List.length_take]; rfl)) ?_
            with_reducible refine (impl_MulZOmega.calls x416000_3 x416001_3 x416002_3 x416003_3 t416 t417 t418 t419 t420 t421 t422 t423 false _ A48.out).mono ?_
            rintro e w78 ⟨rfl, hb⟩
            refine ⟨_, rfl, ?_⟩
            have n0_ := cb BK410 hb
            have n1_ := cb BK411 hb
            have n2_ := cb BK412 hb
            have n3_ := cb BK415 hb
            have n4_ := cb BK425 hb
            have n5_ := bs HB hb
            clear BK410
            clear BK411
            clear BK412
            clear BK415
            clear BK425
            clear HB
            have BK410 := n0_
            have BK411 := n1_
            have BK412 := n2_
            have BK415 := n3_
            have BK425 := n4_
            have HB := n5_
            clear n0_ n1_ n2_ n3_ n4_ n5_
            (try clear hb)
            (try clear hb2)
            (try clear hk)
            (try clear hi)
            refine hK.out _ _ ⟨(blk_cell BK415.out 0).trans rfl, (blk_cell BK415.out 1).trans rfl, (blk_cell BK415.out 2).trans rfl, (blk_cell BK415.out 3).trans rfl⟩ (fun hHeld => ?_)
            clear hK K
            refine norm_ (a' := ?_) ?_ ?_
            rotate_left
            ·show Act.put _ (some 43) _ = _
             simp only [Act.put, List.setIfInBounds_toArray, List.set_cons_zero, List.set_cons_succ, i64_w, i32_w]
             rfl
            refine pu 3 HT_ ?_
            refine pu 4 HT_ ?_
            refine pu 5 HT_ ?_
            exact norm_ (by simp only [putAll, Act.put, List.setIfInBounds_toArray, List.set_cons_zero, List.set_cons_succ]) (hCont (gb425) _ ⟨hHeld, (pl BK410), (pl BK411), (pl BK412), (pl BK415), (pl BK425), GW425.out, GE425.out, NB410_425.out, NB425_410.out, NB411_425.out, NB425_411.out, NB412_425.out, NB425_412.out, NB415_425.out, NB425_415.out, (bl HB)⟩)
          rintro gb425 w79 ⟨hS_, h0_, h1_, h2_, h3_, h4_, h5_, h6_, h7_, h8_, h9_, h10_, h11_, h12_, h13_, h14_, h15_⟩
          have n0_ : Aside0 (w79.heap[gb410]? = some (.cells #[.int .i64 x411000_24, .int .i64 x411001_24, .int .i64 x411002_24, .int .i64 x411003_24, .int .i64 x411004_24] 27 (0, 0))) := ⟨h0_⟩
          have n1_ : Aside0 (w79.heap[gb411]? = some (.cells #[.int .i64 x412000_24, .int .i64 x412001_24, .int .i64 x412002_24, .int .i64 x412003_24, .int .i64 x412004_24] 27 (0, 0))) := ⟨h1_⟩
          have n2_ : Aside0 (w79.heap[gb412]? = some (.cells #[.int .i64 x413000_3, .int .i64 x413001_3, .int .i64 x413002_3, .int .i64 x413003_3, .int .i64 x413004_3] 27 (0, 0))) := ⟨h2_⟩
          have n3_ : Aside0 (w79.heap[gb415]? = some (.cells #[.int .i64 x416000_3, .int .i64 x416001_3, .int .i64 x416002_3, .int .i64 x416003_3] 25 (0, 0))) := ⟨h3_⟩
          have n4_ : Aside0 (w79.heap[gb425]? = some (.cells #[.int .i64 0, .int .i64 0, .int .i64 0, .int .i64 0] 25 (0, 0))) := ⟨h4_⟩
          have n5_ : Aside0 (w.heap.size ≤ gb425) := ⟨h5_⟩
          have n6_ : Aside0 (w.heap.size ≤ gb425) := ⟨h6_⟩
          have n7_ : Aside0 (gb410 ≠ gb425) := ⟨h7_⟩
          have n8_ : Aside0 (gb425 ≠ gb410) := ⟨h8_⟩
          have n9_ : Aside0 (gb411 ≠ gb425) := ⟨h9_⟩
          have n10_ : Aside0 (gb425 ≠ gb411) := ⟨h10_⟩
          have n11_ : Aside0 (gb412 ≠ gb425) := ⟨h11_⟩
          have n12_ : Aside0 (gb425 ≠ gb412) := ⟨h12_⟩
          have n13_ : Aside0 (gb415 ≠ gb425) := ⟨h13_⟩
          have n14_ : Aside0 (gb425 ≠ gb415) := ⟨h14_⟩
          have n15_ : Aside0 (Below w.heap.size w w79) := ⟨h15_⟩
          clear BK410
          clear BK411
          clear BK412
          clear BK415
          clear HB
          clear h0_ h1_ h2_ h3_ h4_ h5_ h6_ h7_ h8_ h9_ h10_ h11_ h12_ h13_ h14_ h15_
          have BK410 := n0_
          have BK411 := n1_
          have BK412 := n2_
          have BK415 := n3_
          have BK425 := n4_
          have GW425 := n5_
          have GE425 := n6_
          have NB410_425 := n7_
          have NB425_410 := n8_
          have NB411_425 := n9_
          have NB425_411 := n10_
          have NB412_425 := n11_
          have NB425_412 := n12_
          have NB415_425 := n13_
          have NB425_415 := n14_
          have HB := n15_
          clear n0_ n1_ n2_ n3_ n4_ n5_ n6_ n7_ n8_ n9_ n10_ n11_ n12_ n13_ n14_ n15_
          have hHeld : w79.cell? ⟨gb415, 0, none⟩ = some (.int .i64 x416000_3) ∧ w79.cell? ⟨gb415, 1, none⟩ = some (.int .i64 x416001_3) ∧ w79.cell? ⟨gb415, 2, none⟩ = some (.int .i64 x416002_3) ∧ w79.cell? ⟨gb415, 3, none⟩ = some (.int .i64 x416003_3) := hS_
          refine norm_ (a' := ?_) ?_ ?_
          rotate_left
          ·simp only [putAll, Act.put, List.setIfInBounds_toArray, List.set_cons_zero, List.set_cons_succ]
           rfl
          refine one_ (i := 7) (N := none) #[true, true, true, true, true, true, true, true, false] rfl rfl (one_of HT_.out (by kernel_rfl)) (by decide) (fun K hK => ?_)
          have hs80 : w79.cell? ⟨gb425, 0, none⟩ = some (.int .i64 0) := (blk_cell BK425.out 0).trans rfl
          have hfs80 := blk_frozen BK425.out 0
          have hns80_0 := NB410_425.out
          have hns80_1 := NB411_425.out
          have hns80_2 := NB412_425.out
          have hns80_3 := NB415_425.out
          have hms80_0 := NB425_410.out
          have hms80_1 := NB425_411.out
          have hms80_2 := NB425_412.out
          have hms80_3 := NB425_415.out
          have hs81 : w79.cell? ⟨gb425, 1, none⟩ = some (.int .i64 0) := (blk_cell BK425.out 1).trans rfl
          have hfs81 := blk_frozen BK425.out 1
          have hns81_0 := NB410_425.out
          have hns81_1 := NB411_425.out
          have hns81_2 := NB412_425.out
          have hns81_3 := NB415_425.out
          have hms81_0 := NB425_410.out
          have hms81_1 := NB425_411.out
          have hms81_2 := NB425_412.out
          have hms81_3 := NB425_415.out
          have hs82 : w79.cell? ⟨gb425, 2, none⟩ = some (.int .i64 0) := (blk_cell BK425.out 2).trans rfl
          have hfs82 := blk_frozen BK425.out 2
          have hns82_0 := NB410_425.out
          have hns82_1 := NB411_425.out
          have hns82_2 := NB412_425.out
          have hns82_3 := NB415_425.out
          have hms82_0 := NB425_410.out
          have hms82_1 := NB425_411.out
          have hms82_2 := NB425_412.out
          have hms82_3 := NB425_415.out
          have hs83 : w79.cell? ⟨gb425, 3, none⟩ = some (.int .i64 0) := (blk_cell BK425.out 3).trans rfl
          have hfs83 := blk_frozen BK425.out 3
          have hns83_0 := NB410_425.out
          have hns83_1 := NB411_425.out
          have hns83_2 := NB412_425.out
          have hns83_3 := NB415_425.out
          have hms83_0 := NB425_410.out
          have hms83_1 := NB425_411.out
          have hms83_2 := NB425_412.out
          have hms83_3 := NB425_415.out
          refine skip_ (w1 := ?_) (by rfl) rfl ?_ ?_
          rotate_left
          ·go_simp
           rfl
          refine hK.out _ _ ⟨((cell_far (p := ⟨gb425, _, none⟩) NB415_425.out _).trans (((cell_far (p := ⟨gb425, _, none⟩) NB415_425.out _).trans (((cell_far (p := ⟨gb425, _, none⟩) NB415_425.out _).trans (((cell_far (p := ⟨gb425, _, none⟩) NB415_425.out _).trans (hHeld.1)))))))), ((cell_far (p := ⟨gb425, _, none⟩) NB415_425.out _).trans (((cell_far (p := ⟨gb425, _, none⟩) NB415_425.out _).trans (((cell_far (p := ⟨gb425, _, none⟩) NB415_425.out _).trans (((cell_far (p := ⟨gb425, _, none⟩) NB415_425.out _).trans (hHeld.2.1)))))))), ((cell_far (p := ⟨gb425, _, none⟩) NB415_425.out _).trans (((cell_far (p := ⟨gb425, _, none⟩) NB415_425.out _).trans (((cell_far (p := ⟨gb425, _, none⟩) NB415_425.out _).trans (((cell_far (p := ⟨gb425, _, none⟩) NB415_425.out _).trans (hHeld.2.2.1)))))))), ((cell_far (p := ⟨gb425, _, none⟩) NB415_425.out _).trans (((cell_far (p := ⟨gb425, _, none⟩) NB415_425.out _).trans (((cell_far (p := ⟨gb425, _, none⟩) NB415_425.out _).trans (((cell_far (p := ⟨gb425, _, none⟩) NB415_425.out _).trans (hHeld.2.2.2))))))))⟩ (fun hHeld => ?_)
          clear hK K
          refine pu 8 HT_ ?_
          refine done_ (done_of HT_.out (by kernel_rfl)) ?_
          have hnb84 := NB412_411.out
          have hnc84 := NB411_412.out
          have hnb85 := NB412_415.out
          have hnc85 := NB415_412.out
          have hnb86 := NB412_425.out
          have hnc86 := NB425_412.out
          obtain ⟨hcz87_0, hcz87_1, hcz87_2, hcz87_3, hcz87_4, hfz87_0, hfz87_1, hfz87_2, hfz87_3, hfz87_4⟩ := cel5 BK412
          try go_wp2
          refine bodyPost_ret (results_ct rfl _ _ gb412 27 #[.int .i64 0, .int .i64 0, .int .i64 0, .int .i64 0, .int .i64 0] (0, 0) _ rfl (bp BK412) Try.underlying27 rfl (by kernel_rfl)) rfl ?_
          exact ⟨er, bl HB⟩
        ·rw [if_neg c46] at H
         have c46b0 : decide (x7_3 < x411004_24) = false := decide_eq_false c46
         clear c46
         replace H := Option.bind_eq_some_iff.mp H
         obtain ⟨⟨t426, t427, t428, t429, t430⟩, A880, H⟩ := H
         try dsimp only at H
         have A88 := Aside0.mk A880
         clear A880
         by_cases c89 : t430 = true
         ·subst c89
          rw [if_pos rfl] at H
          replace H := Option.bind_eq_some_iff.mp H
          obtain ⟨⟨t432, t433, t434, t435, t436, t437⟩, A900, H⟩ := H
          try dsimp only at H
          have A90 := Aside0.mk A900
          clear A900
          simp only [Option.some.injEq, Prod.mk.injEq] at H
          obtain ⟨rfl, rfl, rfl, rfl, rfl, rfl⟩ := H
          have hnb91 := NB410_411.out
          have hnc91 := NB411_410.out
          have hnb92 := NB410_412.out
          have hnc92 := NB412_410.out
          have hnb93 := NB410_415.out
          have hnc93 := NB415_410.out
          obtain ⟨hcz94_0, hcz94_1, hcz94_2, hcz94_3, hcz94_4, hfz94_0, hfz94_1, hfz94_2, hfz94_3, hfz94_4⟩ := cel5 BK410
          have hnb95 := NB415_411.out
          have hnc95 := NB411_415.out
          have hnb96 := NB415_412.out
          have hnc96 := NB412_415.out
          obtain ⟨hcz97_0, hcz97_1, hcz97_2, hcz97_3, hfz97_0, hfz97_1, hfz97_2, hfz97_3⟩ := cel4 BK415
          go_wp2_with (first | ((with_reducible refine gate_callee (f := 65) rfl ?_); refine gL (some 54) Try.func65 #[.agg #[.int .i64 x411000_24, .int .i64 x411001_24, .int .i64 x411002_24, .int .i64 x411003_24], .agg #[.int .i64 x416000_3, .int .i64 x416001_3, .int .i64 x416002_3, .int .i64 x416003_3]] ?_; (with_reducible refine (impl_AddZOmega.calls x411000_24 x411001_24 x411002_24 x411003_24 x416000_3 x416001_3 x416002_3 x416003_3 t426 t427 t428 t429 true _ A88.out).mono ?_); rintro e w98 ⟨rfl, hb⟩; refine ⟨_, rfl, ?_⟩; replace BK410 := cb BK410 hb; replace BK411 := cb BK411 hb; replace BK412 := cb BK412 hb; replace BK415 := cb BK415 hb; replace HB := bs HB hb; (try clear hb); (try clear hb2); (try clear hk); (try clear hi)) | ((with_reducible refine gate_dst (N := 10) rfl ?_); refine bx (N := 10) (cs := #[.int .i64 0, .int .i64 0, .int .i64 0, .int .i64 0]) (t := 25) ?_; intro gb431 hg w99 hbox hb; have BK431 := Aside0.mk hbox; have GW431 := sz hg HB; have GE431 := GW431; have NB410_431 := nl hg BK410; have NB431_410 := ng hg BK410; have NB411_431 := nl hg BK411; have NB431_411 := ng hg BK411; have NB412_431 := nl hg BK412; have NB431_412 := ng hg BK412; have NB415_431 := nl hg BK415; have NB431_415 := ng hg BK415; replace BK410 := cb BK410 hb; replace BK411 := cb BK411 hb; replace BK412 := cb BK412 hb; replace BK415 := cb BK415 hb; replace HB := bs HB hb; clear hb hbox hg; have hnb100 := NB431_410.out; have hnc100 := NB410_431.out; have hnb101 := NB431_411.out; have hnc101 := NB411_431.out; have hnb102 := NB431_412.out; have hnc102 := NB412_431.out; have hnb103 := NB431_415.out; have hnc103 := NB415_431.out; obtain ⟨hcz104_0, hcz104_1, hcz104_2, hcz104_3, hfz104_0, hfz104_1, hfz104_2, hfz104_3⟩ := cel4 BK431; obtain ⟨hcz105_0, hcz105_1, hcz105_2, hcz105_3, hcz105_4, hfz105_0, hfz105_1, hfz105_2, hfz105_3, hfz105_4⟩ := cel5 BK410) | ((with_reducible refine gate_callee (f := 66) rfl ?_); refine gL (some 64) Try.func66 #[.agg #[.int .i64 t426, .int .i64 t427, .int .i64 t428, .int .i64 t429], .int .i64 x411004_24] ?_; (with_reducible refine (impl_NewDOmega.calls k3 t426 t427 t428 t429 x411004_24 t432 t433 t434 t435 t436 t437 _ A90.out).mono ?_); rintro e w106 ⟨rfl, hb⟩; refine ⟨_, rfl, ?_⟩; replace BK410 := cp BK410 hb; replace BK411 := cp BK411 hb; replace BK412 := cp BK412 hb; replace BK415 := cp BK415 hb; replace BK431 := cp BK431 hb; replace HB := bs HB hb; (try clear hb); (try clear hb2); (try clear hk); (try clear hi)) | ((with_reducible refine gate_dst (N := 12) rfl ?_); refine bx (N := 12) (cs := #[.int .i64 0, .int .i64 0, .int .i64 0, .int .i64 0, .int .i64 0]) (t := 27) ?_; intro gb438 hg w107 hbox hb; have BK438 := Aside0.mk hbox; have GW438 := sz hg HB; have GE438 := GW438; have NB410_438 := nl hg BK410; have NB438_410 := ng hg BK410; have NB411_438 := nl hg BK411; have NB438_411 := ng hg BK411; have NB412_438 := nl hg BK412; have NB438_412 := ng hg BK412; have NB415_438 := nl hg BK415; have NB438_415 := ng hg BK415; have NB431_438 := nl hg BK431; have NB438_431 := ng hg BK431; replace BK410 := cb BK410 hb; replace BK411 := cb BK411 hb; replace BK412 := cb BK412 hb; replace BK415 := cb BK415 hb; replace BK431 := cb BK431 hb; replace HB := bs HB hb; clear hb hbox hg; have hnb108 := NB438_410.out; have hnc108 := NB410_438.out; have hnb109 := NB438_411.out; have hnc109 := NB411_438.out; have hnb110 := NB438_412.out; have hnc110 := NB412_438.out; have hnb111 := NB438_415.out; have hnc111 := NB415_438.out; have hnb112 := NB438_431.out; have hnc112 := NB431_438.out; obtain ⟨hcz113_0, hcz113_1, hcz113_2, hcz113_3, hcz113_4, hfz113_0, hfz113_1, hfz113_2, hfz113_3, hfz113_4⟩ := cel5 BK438; have hnb114 := NB412_411.out; have hnc114 := NB411_412.out; obtain ⟨hcz115_0, hcz115_1, hcz115_2, hcz115_3, hcz115_4, hfz115_0, hfz115_1, hfz115_2, hfz115_3, hfz115_4⟩ := cel5 BK412))
          refine bodyPost_ret (results_ct rfl _ _ gb412 27 #[.int .i64 t432, .int .i64 t433, .int .i64 t434, .int .i64 t435, .int .i64 t436] (0, 0) _ rfl (bp BK412) Try.underlying27 rfl (by kernel_rfl)) rfl ?_
          exact ⟨er, bl HB⟩
         ·replace c89 := Bool.eq_false_iff.mpr c89
          subst c89
          rw [nf] at H
          simp only [Option.some.injEq, Prod.mk.injEq] at H
          obtain ⟨rfl, rfl, rfl, rfl, rfl, rfl⟩ := H
          have hnb116 := NB410_411.out
          have hnc116 := NB411_410.out
          have hnb117 := NB410_412.out
          have hnc117 := NB412_410.out
          have hnb118 := NB410_415.out
          have hnc118 := NB415_410.out
          obtain ⟨hcz119_0, hcz119_1, hcz119_2, hcz119_3, hcz119_4, hfz119_0, hfz119_1, hfz119_2, hfz119_3, hfz119_4⟩ := cel5 BK410
          have hnb120 := NB415_411.out
          have hnc120 := NB411_415.out
          have hnb121 := NB415_412.out
          have hnc121 := NB412_415.out
          obtain ⟨hcz122_0, hcz122_1, hcz122_2, hcz122_3, hfz122_0, hfz122_1, hfz122_2, hfz122_3⟩ := cel4 BK415
          go_wp2_with (first | ((with_reducible refine gate_callee (f := 65) rfl ?_); refine gL (some 54) Try.func65 #[.agg #[.int .i64 x411000_24, .int .i64 x411001_24, .int .i64 x411002_24, .int .i64 x411003_24], .agg #[.int .i64 x416000_3, .int .i64 x416001_3, .int .i64 x416002_3, .int .i64 x416003_3]] ?_; (with_reducible refine (impl_AddZOmega.calls x411000_24 x411001_24 x411002_24 x411003_24 x416000_3 x416001_3 x416002_3 x416003_3 t426 t427 t428 t429 false _ A88.out).mono ?_); rintro e w123 ⟨rfl, hb⟩; refine ⟨_, rfl, ?_⟩; replace BK410 := cb BK410 hb; replace BK411 := cb BK411 hb; replace BK412 := cb BK412 hb; replace BK415 := cb BK415 hb; replace HB := bs HB hb; (try clear hb); (try clear hb2); (try clear hk); (try clear hi)) | ((with_reducible refine gate_dst (N := 10) rfl ?_); refine bx (N := 10) (cs := #[.int .i64 0, .int .i64 0, .int .i64 0, .int .i64 0]) (t := 25) ?_; intro gb431 hg w124 hbox hb; have BK431 := Aside0.mk hbox; have GW431 := sz hg HB; have GE431 := GW431; have NB410_431 := nl hg BK410; have NB431_410 := ng hg BK410; have NB411_431 := nl hg BK411; have NB431_411 := ng hg BK411; have NB412_431 := nl hg BK412; have NB431_412 := ng hg BK412; have NB415_431 := nl hg BK415; have NB431_415 := ng hg BK415; replace BK410 := cb BK410 hb; replace BK411 := cb BK411 hb; replace BK412 := cb BK412 hb; replace BK415 := cb BK415 hb; replace HB := bs HB hb; clear hb hbox hg; have hnb125 := NB431_410.out; have hnc125 := NB410_431.out; have hnb126 := NB431_411.out; have hnc126 := NB411_431.out; have hnb127 := NB431_412.out; have hnc127 := NB412_431.out; have hnb128 := NB431_415.out; have hnc128 := NB415_431.out; obtain ⟨hcz129_0, hcz129_1, hcz129_2, hcz129_3, hfz129_0, hfz129_1, hfz129_2, hfz129_3⟩ := cel4 BK431; have hnb130 := NB412_411.out; have hnc130 := NB411_412.out; obtain ⟨hcz131_0, hcz131_1, hcz131_2, hcz131_3, hcz131_4, hfz131_0, hfz131_1, hfz131_2, hfz131_3, hfz131_4⟩ := cel5 BK412))
          refine bodyPost_ret (results_ct rfl _ _ gb412 27 #[.int .i64 0, .int .i64 0, .int .i64 0, .int .i64 0, .int .i64 0] (0, 0) _ rfl (bp BK412) Try.underlying27 rfl (by kernel_rfl)) rfl ?_
          exact ⟨er, bl HB⟩
/-! ### impl_PhaseFactor: function 35 -/
-- GIVEN BY HAND
/-- The coefficient of omega to the power j in omega to the power i. -/
def phN (i j : Int) : Int := if i % 8 = j then 1 else if i % 8 = j + 4 then -1 else 0
def impl_PhaseFactor.f (a0 : Int) : Option (Int × Int × Int × Int × Int) := some (phN a0 0, phN a0 1, phN a0 2, phN a0 3, 0)
theorem tmod8 (a : Int) : -7 ≤ a.tmod 8 ∧ a.tmod 8 ≤ 7 ∧ (a.tmod 8 + 8) % 8 = a % 8 := by
  rcases Int.le_total 0 a with h | h
  · rw [Int.tmod_eq_emod_of_nonneg h]; omega
  · have h1 : (-a).tmod 8 = -(a.tmod 8) := Int.neg_tmod ..
    rw [Int.tmod_eq_emod_of_nonneg (by omega)] at h1
    omega
set_option maxHeartbeats 4000000 in
set_option maxRecDepth 100000 in
theorem impl_PhaseFactor.calls (a0 : Int) (r1 : Int) (r2 : Int) (r3 : Int) (r4 : Int) (r5 : Int) (w : World) (h : impl_PhaseFactor.f a0 = some (r1, r2, r3, r4, r5)) :
    Calls Try.prog 35 #[.int .i64 a0] w fun e w' => e = .returned (.agg #[.int .i64 r1, .int .i64 r2, .int .i64 r3, .int .i64 r4, .int .i64 r5]) ∧ Below w.heap.size w w' := by
  obtain ⟨b1, b2, b3⟩ := tmod8 a0
  have e8 : a0 % 8 = 0 ∨ a0 % 8 = 1 ∨ a0 % 8 = 2 ∨ a0 % 8 = 3 ∨ a0 % 8 = 4 ∨ a0 % 8 = 5 ∨ a0 % 8 = 6 ∨ a0 % 8 = 7 := by omega
  unfold impl_PhaseFactor.f phN at h
  simp only [Option.some.injEq, Prod.mk.injEq] at h
  obtain ⟨rfl, rfl, rfl, rfl, rfl⟩ := h
  generalize ht : a0.tmod 8 = t at b1 b2 b3
  rcases e8 with h0 | h0 | h0 | h0 | h0 | h0 | h0 | h0 <;> (rw [h0] at b3 ⊢; clear h0; simp only [show ∀ a b : Int, (a = b) = (a == b) by simp]; simp; go_enter Try.func35, Try.ntmps35; go_wp2; refine bodyPost_ret (v := .agg #[.int .i64 _, .int .i64 _, .int .i64 _, .int .i64 _, .int .i64 _]) (by simp [results, Try.results35, go_sem]) rfl ⟨rfl, ?_⟩; repeat (first | exact Below.refl _ _ | apply below_alloc | apply pw_below_drewN | apply below_drew1 | (refine below_set ?_ (by simp; try omega))))
/-! ### impl_MulDOmega: function 36 -/
def impl_MulDOmega.j0 : Nat → Bool → Int → Int → Int → Int → Int → Int → Int → Int → Int → Int → Option (Int × Int × Int × Int × Int × Bool)
 | 0, _, _, _, _, _, _, _, _, _, _, _ => none
 | k + 1, x17, x440000, x440001, x440002, x440003, x440004, x441000, x441001, x441002, x441003, x441004 => if x17 = true then (some (0, 0, 0, 0, 0, false)) else ((impl_MulZOmega.f x440000 x440001 x440002 x440003 x441000 x441001 x441002 x441003).bind fun bt444 => (if bt444.2.2.2.2 = true then ((impl_NewDOmega.f k bt444.1 bt444.2.1 bt444.2.2.1 bt444.2.2.2.1 (wrap64 (x440004 + x441004))).bind fun bt450 => (some (bt450.1, bt450.2.1, bt450.2.2.1, bt450.2.2.2.1, bt450.2.2.2.2.1, bt450.2.2.2.2.2))) else (some (0, 0, 0, 0, 0, false))))
def impl_MulDOmega.f (k : Nat) (a0_0 : Int) (a0_1 : Int) (a0_2 : Int) (a0_3 : Int) (a0_4 : Int) (a1_0 : Int) (a1_1 : Int) (a1_2 : Int) (a1_3 : Int) (a1_4 : Int) : Option (Int × Int × Int × Int × Int × Bool) := (impl_IsValidDOmega.f a0_0 a0_1 a0_2 a0_3 a0_4).bind fun t442 => (if t442 = true then ((impl_IsValidDOmega.f a1_0 a1_1 a1_2 a1_3 a1_4).bind fun t443 => (impl_MulDOmega.j0 k (!t443) a0_0 a0_1 a0_2 a0_3 a0_4 a1_0 a1_1 a1_2 a1_3 a1_4)) else (impl_MulDOmega.j0 k true a0_0 a0_1 a0_2 a0_3 a0_4 a1_0 a1_1 a1_2 a1_3 a1_4))
set_option maxHeartbeats 8000000 in
set_option maxRecDepth 100000 in
theorem impl_MulDOmega.calls (k : Nat) (a0_0 : Int) (a0_1 : Int) (a0_2 : Int) (a0_3 : Int) (a0_4 : Int) (a1_0 : Int) (a1_1 : Int) (a1_2 : Int) (a1_3 : Int) (a1_4 : Int) (r1 : Int) (r2 : Int) (r3 : Int) (r4 : Int) (r5 : Int) (r6 : Bool) (w : World) (h : impl_MulDOmega.f k a0_0 a0_1 a0_2 a0_3 a0_4 a1_0 a1_1 a1_2 a1_3 a1_4 = some (r1, r2, r3, r4, r5, r6)) :
  Calls Try.prog 36 #[.agg #[.int .i64 a0_0, .int .i64 a0_1, .int .i64 a0_2, .int .i64 a0_3, .int .i64 a0_4], .agg #[.int .i64 a1_0, .int .i64 a1_1, .int .i64 a1_2, .int .i64 a1_3, .int .i64 a1_4]] w fun e w' => e = .returned (.tuple #[.agg #[.int .i64 r1, .int .i64 r2, .int .i64 r3, .int .i64 r4, .int .i64 r5], .bool r6]) ∧ Below w.heap.size w w' := by
 have hu27 := Try.underlying27
 have hu25 := Try.underlying25
 have HB := Aside0.mk (Below.refl w.heap.size w)
 have H := h
 clear h
 unfold impl_MulDOmega.f at H
 have HC3 := Aside0.mk H
 clear H
 go_enter Try.func36, Try.ntmps36
 go_upto_region 1 with (first | ((with_reducible refine gate_dst (N := 2) rfl ?_); refine bx (N := 2) (cs := #[.int .i64 a0_0, .int .i64 a0_1, .int .i64 a0_2, .int .i64 a0_3, .int .i64 a0_4]) (t := 27) ?_; intro gb439 hg w4 hbox hb; have BK439 := Aside0.mk hbox; have GW439 := sz hg HB; have GE439 := GW439; replace HB := bs HB hb; clear hb hbox hg) | ((with_reducible refine gate_dst (N := 3) rfl ?_); refine bx (N := 3) (cs := #[.int .i64 a1_0, .int .i64 a1_1, .int .i64 a1_2, .int .i64 a1_3, .int .i64 a1_4]) (t := 27) ?_; intro gb440 hg w5 hbox hb; have BK440 := Aside0.mk hbox; have GW440 := sz hg HB; have GE440 := GW440; have NB439_440 := nl hg BK439; have NB440_439 := ng hg BK439; replace BK439 := cb BK439 hb; replace HB := bs HB hb; clear hb hbox hg) | ((with_reducible refine gate_dst (N := 4) rfl ?_); refine bx (N := 4) (cs := #[.int .i64 0, .int .i64 0, .int .i64 0, .int .i64 0, .int .i64 0]) (t := 27) ?_; intro gb441 hg w6 hbox hb; have BK441 := Aside0.mk hbox; have GW441 := sz hg HB; have GE441 := GW441; have NB439_441 := nl hg BK439; have NB441_439 := ng hg BK439; have NB440_441 := nl hg BK440; have NB441_440 := ng hg BK440; replace BK439 := cb BK439 hb; replace BK440 := cb BK440 hb; replace HB := bs HB hb; clear hb hbox hg))
 (try simp only [Act.put, List.setIfInBounds_toArray, List.set_cons_zero, List.set_cons_succ])
 go_cut [17] (fun v17 wc => ∃ (kq : Nat) (x17_2 : Bool), v17 = .bool x17_2 ∧ Aside0 (impl_MulDOmega.j0 kq x17_2 a0_0 a0_1 a0_2 a0_3 a0_4 a1_0 a1_1 a1_2 a1_3 a1_4 = some (r1, r2, r3, r4, r5, r6)) ∧ Aside0 (kq ≤ k) ∧ Aside0 (wc.heap[gb439]? = some (.cells #[.int .i64 a0_0, .int .i64 a0_1, .int .i64 a0_2, .int .i64 a0_3, .int .i64 a0_4] 27 (0, 0))) ∧ Aside0 (wc.heap[gb440]? = some (.cells #[.int .i64 a1_0, .int .i64 a1_1, .int .i64 a1_2, .int .i64 a1_3, .int .i64 a1_4] 27 (0, 0))) ∧ Aside0 (wc.heap[gb441]? = some (.cells #[.int .i64 0, .int .i64 0, .int .i64 0, .int .i64 0, .int .i64 0] 27 (0, 0))) ∧ Aside0 (Below w.heap.size w wc))
 case first =>
  have H := HC3.out
  clear HC3
  replace H := Option.bind_eq_some_iff.mp H
  obtain ⟨t442, A70, H⟩ := H
  try dsimp only at H
  have A7 := Aside0.mk A70
  clear A70
  by_cases c8 : t442 = true
  ·subst c8
   rw [if_pos rfl] at H
   replace H := Option.bind_eq_some_iff.mp H
   obtain ⟨t443, A90, H⟩ := H
   try dsimp only at H
   have A9 := Aside0.mk A90
   clear A90
   have H' := Aside0.mk H
   clear H
   have hnb10 := NB439_440.out
   have hnc10 := NB440_439.out
   have hnb11 := NB439_441.out
   have hnc11 := NB441_439.out
   obtain ⟨hcz12_0, hcz12_1, hcz12_2, hcz12_3, hcz12_4, hfz12_0, hfz12_1, hfz12_2, hfz12_3, hfz12_4⟩ := cel5 BK439
   go_wp2_with (first | ((with_reducible refine gate_callee (f := 62) rfl ?_); refine gL (some 11) Try.func62 #[.agg #[.int .i64 a0_0, .int .i64 a0_1, .int .i64 a0_2, .int .i64 a0_3, .int .i64 a0_4]] ?_; (with_reducible refine (impl_IsValidDOmega.calls a0_0 a0_1 a0_2 a0_3 a0_4 true _ A7.out).mono ?_); rintro e w13 ⟨rfl, hb⟩; refine ⟨_, rfl, ?_⟩; replace BK439 := cb BK439 hb; replace BK440 := cb BK440 hb; replace BK441 := cb BK441 hb; replace HB := bs HB hb; (try clear hb); (try clear hb2); (try clear hk); (try clear hi); have hnb14 := NB440_441.out; have hnc14 := NB441_440.out; obtain ⟨hcz15_0, hcz15_1, hcz15_2, hcz15_3, hcz15_4, hfz15_0, hfz15_1, hfz15_2, hfz15_3, hfz15_4⟩ := cel5 BK440) | (go_at_call 62; (with_reducible refine (impl_IsValidDOmega.calls a1_0 a1_1 a1_2 a1_3 a1_4 t443 _ A9.out).mono ?_); rintro e w16 ⟨rfl, hb⟩; replace BK439 := cb BK439 hb; replace BK440 := cb BK440 hb; replace BK441 := cb BK441 hb; replace HB := bs HB hb; (try clear hb); (try clear hb2); (try clear hk); (try clear hi)))
   go_meet
   case rel => exact ⟨_, (!t443), rs, H', ⟨by first | omega | exact Nat.le_refl _⟩, ⟨pl BK439⟩, ⟨pl BK440⟩, ⟨pl BK441⟩, ⟨bl HB⟩⟩
  ·replace c8 := Bool.eq_false_iff.mpr c8
   subst c8
   rw [nf] at H
   have H' := Aside0.mk H
   clear H
   have hnb17 := NB439_440.out
   have hnc17 := NB440_439.out
   have hnb18 := NB439_441.out
   have hnc18 := NB441_439.out
   obtain ⟨hcz19_0, hcz19_1, hcz19_2, hcz19_3, hcz19_4, hfz19_0, hfz19_1, hfz19_2, hfz19_3, hfz19_4⟩ := cel5 BK439
   go_wp2_with (first | ((with_reducible refine gate_callee (f := 62) rfl ?_); refine gL (some 11) Try.func62 #[.agg #[.int .i64 a0_0, .int .i64 a0_1, .int .i64 a0_2, .int .i64 a0_3, .int .i64 a0_4]] ?_; (with_reducible refine (impl_IsValidDOmega.calls a0_0 a0_1 a0_2 a0_3 a0_4 false _ A7.out).mono ?_); rintro e w20 ⟨rfl, hb⟩; refine ⟨_, rfl, ?_⟩; replace BK439 := cb BK439 hb; replace BK440 := cb BK440 hb; replace BK441 := cb BK441 hb; replace HB := bs HB hb; (try clear hb); (try clear hb2); (try clear hk); (try clear hi)))
   go_meet
   case rel => exact ⟨_, (true), rs, H', ⟨by first | omega | exact Nat.le_refl _⟩, ⟨pl BK439⟩, ⟨pl BK440⟩, ⟨pl BK441⟩, ⟨bl HB⟩⟩
 case rest =>
  clear HC3
  try clear c1
  try clear p2
  try clear c3
  try clear c6
  try clear c8
  try clear c10
  try clear c11
  try clear c14
  try clear c17
  try clear c18
  try clear hcz12_0
  try clear hcz12_1
  try clear hcz12_2
  try clear hcz12_3
  try clear hcz12_4
  try clear hcz15_0
  try clear hcz15_1
  try clear hcz15_2
  try clear hcz15_3
  try clear hcz15_4
  try clear hcz19_0
  try clear hcz19_1
  try clear hcz19_2
  try clear hcz19_3
  try clear hcz19_4
  try clear hfz12_0
  try clear hfz12_1
  try clear hfz12_2
  try clear hfz12_3
  try clear hfz12_4
  try clear hfz15_0
  try clear hfz15_1
  try clear hfz15_2
  try clear hfz15_3
  try clear hfz15_4
  try clear hfz19_0
  try clear hfz19_1
  try clear hfz19_2
  try clear hfz19_3
  try clear hfz19_4
  obtain ⟨kq, x17_2, rfl, HA, HJ2, BK439, BK440, BK441, HB⟩ := hcut
  cases kq with
  | zero => exact absurd HA.out (by simp [impl_MulDOmega.j0])
  | succ kj2 =>
   have H := HA.out
   clear HA
   simp only [impl_MulDOmega.j0] at H
   by_cases c21 : x17_2 = true
   ·subst c21
    rw [if_pos rfl] at H
    simp only [Option.some.injEq, Prod.mk.injEq] at H
    obtain ⟨rfl, rfl, rfl, rfl, rfl, rfl⟩ := H
    have hnb22 := NB441_439.out
    have hnc22 := NB439_441.out
    have hnb23 := NB441_440.out
    have hnc23 := NB440_441.out
    obtain ⟨hcz24_0, hcz24_1, hcz24_2, hcz24_3, hcz24_4, hfz24_0, hfz24_1, hfz24_2, hfz24_3, hfz24_4⟩ := cel5 BK441
    go_wp2
    refine bodyPost_ret (results_ct rfl _ _ gb441 27 #[.int .i64 0, .int .i64 0, .int .i64 0, .int .i64 0, .int .i64 0] (0, 0) _ rfl (bp BK441) Try.underlying27 rfl (by kernel_rfl)) rfl ?_
    exact ⟨er, bl HB⟩
   ·replace c21 := Bool.eq_false_iff.mpr c21
    subst c21
    rw [nf] at H
    replace H := Option.bind_eq_some_iff.mp H
    obtain ⟨⟨t444, t445, t446, t447, t448⟩, A250, H⟩ := H
    try dsimp only at H
    have A25 := Aside0.mk A250
    clear A250
    by_cases c26 : t448 = true
    ·subst c26
     rw [if_pos rfl] at H
     replace H := Option.bind_eq_some_iff.mp H
     obtain ⟨⟨t450, t451, t452, t453, t454, t455⟩, A270, H⟩ := H
     try dsimp only at H
     have A27 := Aside0.mk A270
     clear A270
     simp only [Option.some.injEq, Prod.mk.injEq] at H
     obtain ⟨rfl, rfl, rfl, rfl, rfl, rfl⟩ := H
     have hnb28 := NB439_440.out
     have hnc28 := NB440_439.out
     have hnb29 := NB439_441.out
     have hnc29 := NB441_439.out
     obtain ⟨hcz30_0, hcz30_1, hcz30_2, hcz30_3, hcz30_4, hfz30_0, hfz30_1, hfz30_2, hfz30_3, hfz30_4⟩ := cel5 BK439
     have hnb31 := NB440_441.out
     have hnc31 := NB441_440.out
     obtain ⟨hcz32_0, hcz32_1, hcz32_2, hcz32_3, hcz32_4, hfz32_0, hfz32_1, hfz32_2, hfz32_3, hfz32_4⟩ := cel5 BK440
     go_wp2_with (first | ((with_reducible refine gate_callee (f := 63) rfl ?_); refine gL (some 24) Try.func63 #[.agg #[.int .i64 a0_0, .int .i64 a0_1, .int .i64 a0_2, .int .i64 a0_3], .agg #[.int .i64 a1_0, .int .i64 a1_1, .int .i64 a1_2, .int .i64 a1_3]] ?_; (with_reducible refine (impl_MulZOmega.calls a0_0 a0_1 a0_2 a0_3 a1_0 a1_1 a1_2 a1_3 t444 t445 t446 t447 true _ A25.out).mono ?_); rintro e w33 ⟨rfl, hb⟩; refine ⟨_, rfl, ?_⟩; replace BK439 := cb BK439 hb; replace BK440 := cb BK440 hb; replace BK441 := cb BK441 hb; replace HB := bs HB hb; (try clear hb); (try clear hb2); (try clear hk); (try clear hi)) | ((with_reducible refine gate_dst (N := 6) rfl ?_); refine bx (N := 6) (cs := #[.int .i64 0, .int .i64 0, .int .i64 0, .int .i64 0]) (t := 25) ?_; intro gb449 hg w34 hbox hb; have BK449 := Aside0.mk hbox; have GW449 := sz hg HB; have GE449 := GW449; have NB439_449 := nl hg BK439; have NB449_439 := ng hg BK439; have NB440_449 := nl hg BK440; have NB449_440 := ng hg BK440; have NB441_449 := nl hg BK441; have NB449_441 := ng hg BK441; replace BK439 := cb BK439 hb; replace BK440 := cb BK440 hb; replace BK441 := cb BK441 hb; replace HB := bs HB hb; clear hb hbox hg; have hnb35 := NB449_439.out; have hnc35 := NB439_449.out; have hnb36 := NB449_440.out; have hnc36 := NB440_449.out; have hnb37 := NB449_441.out; have hnc37 := NB441_449.out; obtain ⟨hcz38_0, hcz38_1, hcz38_2, hcz38_3, hfz38_0, hfz38_1, hfz38_2, hfz38_3⟩ := cel4 BK449; obtain ⟨hcz39_0, hcz39_1, hcz39_2, hcz39_3, hcz39_4, hfz39_0, hfz39_1, hfz39_2, hfz39_3, hfz39_4⟩ := cel5 BK439; obtain ⟨hcz40_0, hcz40_1, hcz40_2, hcz40_3, hcz40_4, hfz40_0, hfz40_1, hfz40_2, hfz40_3, hfz40_4⟩ := cel5 BK440) | ((with_reducible refine gate_callee (f := 66) rfl ?_); refine gL (some 37) Try.func66 #[.agg #[.int .i64 t444, .int .i64 t445, .int .i64 t446, .int .i64 t447], .int .i64 (wrap64 (a0_4 + a1_4))] ?_; (with_reducible refine (impl_NewDOmega.calls kj2 t444 t445 t446 t447 (wrap64 (a0_4 + a1_4)) t450 t451 t452 t453 t454 t455 _ A27.out).mono ?_); rintro e w41 ⟨rfl, hb⟩; refine ⟨_, rfl, ?_⟩; replace BK439 := cp BK439 hb; replace BK440 := cp BK440 hb; replace BK441 := cp BK441 hb; replace BK449 := cp BK449 hb; replace HB := bs HB hb; (try clear hb); (try clear hb2); (try clear hk); (try clear hi)) | ((with_reducible refine gate_dst (N := 8) rfl ?_); refine bx (N := 8) (cs := #[.int .i64 0, .int .i64 0, .int .i64 0, .int .i64 0, .int .i64 0]) (t := 27) ?_; intro gb456 hg w42 hbox hb; have BK456 := Aside0.mk hbox; have GW456 := sz hg HB; have GE456 := GW456; have NB439_456 := nl hg BK439; have NB456_439 := ng hg BK439; have NB440_456 := nl hg BK440; have NB456_440 := ng hg BK440; have NB441_456 := nl hg BK441; have NB456_441 := ng hg BK441; have NB449_456 := nl hg BK449; have NB456_449 := ng hg BK449; replace BK439 := cb BK439 hb; replace BK440 := cb BK440 hb; replace BK441 := cb BK441 hb; replace BK449 := cb BK449 hb; replace HB := bs HB hb; clear hb hbox hg; have hnb43 := NB456_439.out; have hnc43 := NB439_456.out; have hnb44 := NB456_440.out; have hnc44 := NB440_456.out; have hnb45 := NB456_441.out; have hnc45 := NB441_456.out; have hnb46 := NB456_449.out; have hnc46 := NB449_456.out; obtain ⟨hcz47_0, hcz47_1, hcz47_2, hcz47_3, hcz47_4, hfz47_0, hfz47_1, hfz47_2, hfz47_3, hfz47_4⟩ := cel5 BK456; obtain ⟨hcz48_0, hcz48_1, hcz48_2, hcz48_3, hcz48_4, hfz48_0, hfz48_1, hfz48_2, hfz48_3, hfz48_4⟩ := cel5 BK441))
     refine bodyPost_ret (results_ct rfl _ _ gb441 27 #[.int .i64 t450, .int .i64 t451, .int .i64 t452, .int .i64 t453, .int .i64 t454] (0, 0) _ rfl (bp BK441) Try.underlying27 rfl (by kernel_rfl)) rfl ?_
     exact ⟨er, bl HB⟩
    ·replace c26 := Bool.eq_false_iff.mpr c26
     subst c26
     rw [nf] at H
     simp only [Option.some.injEq, Prod.mk.injEq] at H
     obtain ⟨rfl, rfl, rfl, rfl, rfl, rfl⟩ := H
     have hnb49 := NB439_440.out
     have hnc49 := NB440_439.out
     have hnb50 := NB439_441.out
     have hnc50 := NB441_439.out
     obtain ⟨hcz51_0, hcz51_1, hcz51_2, hcz51_3, hcz51_4, hfz51_0, hfz51_1, hfz51_2, hfz51_3, hfz51_4⟩ := cel5 BK439
     have hnb52 := NB440_441.out
     have hnc52 := NB441_440.out
     obtain ⟨hcz53_0, hcz53_1, hcz53_2, hcz53_3, hcz53_4, hfz53_0, hfz53_1, hfz53_2, hfz53_3, hfz53_4⟩ := cel5 BK440
     go_wp2_with (first | ((with_reducible refine gate_callee (f := 63) rfl ?_); refine gL (some 24) Try.func63 #[.agg #[.int .i64 a0_0, .int .i64 a0_1, .int .i64 a0_2, .int .i64 a0_3], .agg #[.int .i64 a1_0, .int .i64 a1_1, .int .i64 a1_2, .int .i64 a1_3]] ?_; (with_reducible refine (impl_MulZOmega.calls a0_0 a0_1 a0_2 a0_3 a1_0 a1_1 a1_2 a1_3 t444 t445 t446 t447 false _ A25.out).mono ?_); rintro e w54 ⟨rfl, hb⟩; refine ⟨_, rfl, ?_⟩; replace BK439 := cb BK439 hb; replace BK440 := cb BK440 hb; replace BK441 := cb BK441 hb; replace HB := bs HB hb; (try clear hb); (try clear hb2); (try clear hk); (try clear hi)) | ((with_reducible refine gate_dst (N := 6) rfl ?_); refine bx (N := 6) (cs := #[.int .i64 0, .int .i64 0, .int .i64 0, .int .i64 0]) (t := 25) ?_; intro gb449 hg w55 hbox hb; have BK449 := Aside0.mk hbox; have GW449 := sz hg HB; have GE449 := GW449; have NB439_449 := nl hg BK439; have NB449_439 := ng hg BK439; have NB440_449 := nl hg BK440; have NB449_440 := ng hg BK440; have NB441_449 := nl hg BK441; have NB449_441 := ng hg BK441; replace BK439 := cb BK439 hb; replace BK440 := cb BK440 hb; replace BK441 := cb BK441 hb; replace HB := bs HB hb; clear hb hbox hg; have hnb56 := NB449_439.out; have hnc56 := NB439_449.out; have hnb57 := NB449_440.out; have hnc57 := NB440_449.out; have hnb58 := NB449_441.out; have hnc58 := NB441_449.out; obtain ⟨hcz59_0, hcz59_1, hcz59_2, hcz59_3, hfz59_0, hfz59_1, hfz59_2, hfz59_3⟩ := cel4 BK449; obtain ⟨hcz60_0, hcz60_1, hcz60_2, hcz60_3, hcz60_4, hfz60_0, hfz60_1, hfz60_2, hfz60_3, hfz60_4⟩ := cel5 BK441))
     refine bodyPost_ret (results_ct rfl _ _ gb441 27 #[.int .i64 0, .int .i64 0, .int .i64 0, .int .i64 0, .int .i64 0] (0, 0) _ rfl (bp BK441) Try.underlying27 rfl (by kernel_rfl)) rfl ?_
     exact ⟨er, bl HB⟩
/-! ### impl_InvSqrt2Power: function 37 -/
def impl_InvSqrt2Power.f (a0 : Int) : Option (Int × Int × Int × Int × Int) := (impl_in.f a0 0 60).bind fun t458 => (if t458 = true then (some (1, 0, 0, 0, a0)) else (some (0, 0, 0, 0, 0)))
set_option maxHeartbeats 8000000 in
set_option maxRecDepth 100000 in
theorem impl_InvSqrt2Power.calls (a0 : Int) (r1 : Int) (r2 : Int) (r3 : Int) (r4 : Int) (r5 : Int) (w : World) (h : impl_InvSqrt2Power.f a0 = some (r1, r2, r3, r4, r5)) :
  Calls Try.prog 37 #[.int .i64 a0] w fun e w' => e = .returned (.agg #[.int .i64 r1, .int .i64 r2, .int .i64 r3, .int .i64 r4, .int .i64 r5]) ∧ Below w.heap.size w w' := by
 have hu27 := Try.underlying27
 have hu25 := Try.underlying25
 have HB := Aside0.mk (Below.refl w.heap.size w)
 have H := h
 clear h
 unfold impl_InvSqrt2Power.f at H
 replace H := Option.bind_eq_some_iff.mp H
 obtain ⟨t458, A20, H⟩ := H
 try dsimp only at H
 have A2 := Aside0.mk A20
 clear A20
 by_cases c3 : t458 = true
 ·subst c3
  rw [if_pos rfl] at H
  simp only [Option.some.injEq, Prod.mk.injEq] at H
  obtain ⟨rfl, rfl, rfl, rfl, rfl⟩ := H
  go_enter Try.func37, Try.ntmps37
  go_wp2_with (first | ((with_reducible refine gate_dst (N := 2) rfl ?_); refine bx (N := 2) (cs := #[.int .i64 0, .int .i64 0, .int .i64 0, .int .i64 0, .int .i64 0]) (t := 27) ?_; intro gb457 hg w4 hbox hb; have BK457 := Aside0.mk hbox; have GW457 := sz hg HB; have GE457 := GW457; replace HB := bs HB hb; clear hb hbox hg) | ((with_reducible refine gate_callee (f := 31) rfl ?_); refine gL (some 4) Try.func31 #[.int .i64 a0, .int .i64 0, .int .i64 60] ?_; (with_reducible refine (impl_in.calls a0 0 60 true _ A2.out).mono ?_); rintro e w' ⟨rfl, ⟨nd, rfl⟩⟩; refine ⟨_, rfl, ?_⟩; obtain ⟨hcz5_0, hcz5_1, hcz5_2, hcz5_3, hcz5_4, hfz5_0, hfz5_1, hfz5_2, hfz5_3, hfz5_4⟩ := cel5 BK457))
  refine bodyPost_ret (results_cell_row rfl _ _ gb457 27 #[.int .i64 1, .int .i64 0, .int .i64 0, .int .i64 0, .int .i64 a0] (0, 0) _ rfl (bp BK457) Try.underlying27 rfl (by kernel_rfl)) rfl ?_
  exact ⟨er, bl HB⟩
 ·replace c3 := Bool.eq_false_iff.mpr c3
  subst c3
  rw [nf] at H
  simp only [Option.some.injEq, Prod.mk.injEq] at H
  obtain ⟨rfl, rfl, rfl, rfl, rfl⟩ := H
  go_enter Try.func37, Try.ntmps37
  go_wp2_with (first | ((with_reducible refine gate_dst (N := 2) rfl ?_); refine bx (N := 2) (cs := #[.int .i64 0, .int .i64 0, .int .i64 0, .int .i64 0, .int .i64 0]) (t := 27) ?_; intro gb457 hg w6 hbox hb; have BK457 := Aside0.mk hbox; have GW457 := sz hg HB; have GE457 := GW457; replace HB := bs HB hb; clear hb hbox hg) | ((with_reducible refine gate_callee (f := 31) rfl ?_); refine gL (some 4) Try.func31 #[.int .i64 a0, .int .i64 0, .int .i64 60] ?_; (with_reducible refine (impl_in.calls a0 0 60 false _ A2.out).mono ?_); rintro e w' ⟨rfl, ⟨nd, rfl⟩⟩; refine ⟨_, rfl, ?_⟩; obtain ⟨hcz7_0, hcz7_1, hcz7_2, hcz7_3, hcz7_4, hfz7_0, hfz7_1, hfz7_2, hfz7_3, hfz7_4⟩ := cel5 BK457))
  refine bodyPost_ret (results_cell_row rfl _ _ gb457 27 #[.int .i64 0, .int .i64 0, .int .i64 0, .int .i64 0, .int .i64 0] (0, 0) _ rfl (bp BK457) Try.underlying27 rfl (by kernel_rfl)) rfl ?_
  exact ⟨er, bl HB⟩
end Go.Proofs.Ytmkpngbfbfpffaa.P
