/- Printed walks: each function's own reading as a Lean function, and the proof that a call of it answers so. -/
import Derived.Test.YtmkpngbfbfpffaaA2
namespace Go.Proofs.Ytmkpngbfbfpffaa.P
open Go.RowKit Go.Proofs.YtmkpngbfbfpffaaW.PrintWords Go.Proofs.YtmkpngbfbfpffaaW.PrintLast Go.Proofs.YtmkpngbfbfpffaaW.PrintMore Go.Proofs.YtmkpngbfbfpffaaW.Sq
attribute [local go_sem] max2_int min2_int max_two min_two max_three min_three max_four min_four   -- for this text's walks alone
set_option linter.unusedVariables false
set_option linter.unusedSimpArgs false
/-! ### spec_AddDOmega: function 25 -/
def spec_AddDOmega.j0 : Nat → Bool → Int → Int → Int → Int → Int → Int → Int → Int → Int → Int → Option (Int × Int × Int × Int × Int × Bool)
 | 0, _, _, _, _, _, _, _, _, _, _, _ => none
 | k + 1, x20, x230000, x230001, x230002, x230003, x230004, x231000, x231001, x231002, x231003, x231004 => if x20 = true then (some (0, 0, 0, 0, 0, false)) else ((spec_l1Max.f x230004 x231004).bind fun t234 => ((spec_l3Up.f k x230000 x230001 x230002 x230003 (wrap64 (t234 - x230004))).bind fun bt235 => ((spec_l3Up.f k x231000 x231001 x231002 x231003 (wrap64 (t234 - x231004))).bind fun bt241 => ((spec_AddZOmega.f bt235.1 bt235.2.1 bt235.2.2.1 bt235.2.2.2.1 bt241.1 bt241.2.1 bt241.2.2.1 bt241.2.2.2.1).bind fun bt247 => (if bt235.2.2.2.2 = true then (if bt241.2.2.2.2 = true then (if bt247.2.2.2.2 = true then ((spec_NewDOmega.f k bt247.1 bt247.2.1 bt247.2.2.1 bt247.2.2.2.1 t234).bind fun bt253 => (some (bt253.1, bt253.2.1, bt253.2.2.1, bt253.2.2.2.1, bt253.2.2.2.2.1, bt253.2.2.2.2.2))) else (some (0, 0, 0, 0, 0, false))) else (some (0, 0, 0, 0, 0, false))) else (some (0, 0, 0, 0, 0, false)))))))
def spec_AddDOmega.f (k : Nat) (a0_0 : Int) (a0_1 : Int) (a0_2 : Int) (a0_3 : Int) (a0_4 : Int) (a1_0 : Int) (a1_1 : Int) (a1_2 : Int) (a1_3 : Int) (a1_4 : Int) : Option (Int × Int × Int × Int × Int × Bool) := (spec_IsValidDOmega.f a0_0 a0_1 a0_2 a0_3 a0_4).bind fun t232 => (if t232 = true then ((spec_IsValidDOmega.f a1_0 a1_1 a1_2 a1_3 a1_4).bind fun t233 => (spec_AddDOmega.j0 k (!t233) a0_0 a0_1 a0_2 a0_3 a0_4 a1_0 a1_1 a1_2 a1_3 a1_4)) else (spec_AddDOmega.j0 k true a0_0 a0_1 a0_2 a0_3 a0_4 a1_0 a1_1 a1_2 a1_3 a1_4))
set_option maxHeartbeats 8000000 in
set_option maxRecDepth 100000 in
theorem spec_AddDOmega.calls (k : Nat) (a0_0 : Int) (a0_1 : Int) (a0_2 : Int) (a0_3 : Int) (a0_4 : Int) (a1_0 : Int) (a1_1 : Int) (a1_2 : Int) (a1_3 : Int) (a1_4 : Int) (r1 : Int) (r2 : Int) (r3 : Int) (r4 : Int) (r5 : Int) (r6 : Bool) (w : World) (h : spec_AddDOmega.f k a0_0 a0_1 a0_2 a0_3 a0_4 a1_0 a1_1 a1_2 a1_3 a1_4 = some (r1, r2, r3, r4, r5, r6)) :
  Calls Try.prog 25 #[.agg #[.int .i64 a0_0, .int .i64 a0_1, .int .i64 a0_2, .int .i64 a0_3, .int .i64 a0_4], .agg #[.int .i64 a1_0, .int .i64 a1_1, .int .i64 a1_2, .int .i64 a1_3, .int .i64 a1_4]] w fun e w' => e = .returned (.tuple #[.agg #[.int .i64 r1, .int .i64 r2, .int .i64 r3, .int .i64 r4, .int .i64 r5], .bool r6]) ∧ Below w.heap.size w w' := by
 have hu27 := Try.underlying27
 have hu25 := Try.underlying25
 have HB := Aside0.mk (Below.refl w.heap.size w)
 have H := h
 clear h
 unfold spec_AddDOmega.f at H
 have HC3 := Aside0.mk H
 clear H
 go_enter Try.func25, Try.ntmps25
 go_upto_region 1 with (first | ((with_reducible refine gate_dst (N := 2) rfl ?_); refine bx (N := 2) (cs := #[.int .i64 a0_0, .int .i64 a0_1, .int .i64 a0_2, .int .i64 a0_3, .int .i64 a0_4]) (t := 27) ?_; intro gb229 hg w4 hbox hb; have BK229 := Aside0.mk hbox; have GW229 := sz hg HB; have GE229 := GW229; replace HB := bs HB hb; clear hb hbox hg) | ((with_reducible refine gate_dst (N := 3) rfl ?_); refine bx (N := 3) (cs := #[.int .i64 a1_0, .int .i64 a1_1, .int .i64 a1_2, .int .i64 a1_3, .int .i64 a1_4]) (t := 27) ?_; intro gb230 hg w5 hbox hb; have BK230 := Aside0.mk hbox; have GW230 := sz hg HB; have GE230 := GW230; have NB229_230 := nl hg BK229; have NB230_229 := ng hg BK229; replace BK229 := cb BK229 hb; replace HB := bs HB hb; clear hb hbox hg) | ((with_reducible refine gate_dst (N := 4) rfl ?_); refine bx (N := 4) (cs := #[.int .i64 0, .int .i64 0, .int .i64 0, .int .i64 0, .int .i64 0]) (t := 27) ?_; intro gb231 hg w6 hbox hb; have BK231 := Aside0.mk hbox; have GW231 := sz hg HB; have GE231 := GW231; have NB229_231 := nl hg BK229; have NB231_229 := ng hg BK229; have NB230_231 := nl hg BK230; have NB231_230 := ng hg BK230; replace BK229 := cb BK229 hb; replace BK230 := cb BK230 hb; replace HB := bs HB hb; clear hb hbox hg))
 (try simp only [Act.put, List.setIfInBounds_toArray, List.set_cons_zero, List.set_cons_succ])
 go_cut [20] (fun v20 wc => ∃ (kq : Nat) (x20_2 : Bool), v20 = .bool x20_2 ∧ Aside0 (spec_AddDOmega.j0 kq x20_2 a0_0 a0_1 a0_2 a0_3 a0_4 a1_0 a1_1 a1_2 a1_3 a1_4 = some (r1, r2, r3, r4, r5, r6)) ∧ Aside0 (kq ≤ k) ∧ Aside0 (wc.heap[gb229]? = some (.cells #[.int .i64 a0_0, .int .i64 a0_1, .int .i64 a0_2, .int .i64 a0_3, .int .i64 a0_4] 27 (0, 0))) ∧ Aside0 (wc.heap[gb230]? = some (.cells #[.int .i64 a1_0, .int .i64 a1_1, .int .i64 a1_2, .int .i64 a1_3, .int .i64 a1_4] 27 (0, 0))) ∧ Aside0 (wc.heap[gb231]? = some (.cells #[.int .i64 0, .int .i64 0, .int .i64 0, .int .i64 0, .int .i64 0] 27 (0, 0))) ∧ Aside0 (Below w.heap.size w wc))
 case first =>
  have H := HC3.out
  clear HC3
  replace H := Option.bind_eq_some_iff.mp H
  obtain ⟨t232, A70, H⟩ := H
  try dsimp only at H
  have A7 := Aside0.mk A70
  clear A70
  by_cases c8 : t232 = true
  ·subst c8
   rw [if_pos rfl] at H
   replace H := Option.bind_eq_some_iff.mp H
   obtain ⟨t233, A90, H⟩ := H
   try dsimp only at H
   have A9 := Aside0.mk A90
   clear A90
   have H' := Aside0.mk H
   clear H
   have hnb10 := NB229_230.out
   have hnc10 := NB230_229.out
   have hnb11 := NB229_231.out
   have hnc11 := NB231_229.out
   obtain ⟨hcz12_0, hcz12_1, hcz12_2, hcz12_3, hcz12_4, hfz12_0, hfz12_1, hfz12_2, hfz12_3, hfz12_4⟩ := cel5 BK229
   go_wp2_with (first | ((with_reducible refine gate_callee (f := 54) rfl ?_); refine gL (some 14) Try.func54 #[.agg #[.int .i64 a0_0, .int .i64 a0_1, .int .i64 a0_2, .int .i64 a0_3, .int .i64 a0_4]] ?_; (with_reducible refine (spec_IsValidDOmega.calls a0_0 a0_1 a0_2 a0_3 a0_4 true _ A7.out).mono ?_); rintro e w13 ⟨rfl, hb⟩; refine ⟨_, rfl, ?_⟩; replace BK229 := cb BK229 hb; replace BK230 := cb BK230 hb; replace BK231 := cb BK231 hb; replace HB := bs HB hb; (try clear hb); (try clear hb2); (try clear hk); (try clear hi); have hnb14 := NB230_231.out; have hnc14 := NB231_230.out; obtain ⟨hcz15_0, hcz15_1, hcz15_2, hcz15_3, hcz15_4, hfz15_0, hfz15_1, hfz15_2, hfz15_3, hfz15_4⟩ := cel5 BK230) | (go_at_call 54; (with_reducible refine (spec_IsValidDOmega.calls a1_0 a1_1 a1_2 a1_3 a1_4 t233 _ A9.out).mono ?_); rintro e w16 ⟨rfl, hb⟩; replace BK229 := cb BK229 hb; replace BK230 := cb BK230 hb; replace BK231 := cb BK231 hb; replace HB := bs HB hb; (try clear hb); (try clear hb2); (try clear hk); (try clear hi)))
   go_meet
   case rel => exact ⟨_, (!t233), rs, H', ⟨by first | omega | exact Nat.le_refl _⟩, ⟨pl BK229⟩, ⟨pl BK230⟩, ⟨pl BK231⟩, ⟨bl HB⟩⟩
  ·replace c8 := Bool.eq_false_iff.mpr c8
   subst c8
   rw [nf] at H
   have H' := Aside0.mk H
   clear H
   have hnb17 := NB229_230.out
   have hnc17 := NB230_229.out
   have hnb18 := NB229_231.out
   have hnc18 := NB231_229.out
   obtain ⟨hcz19_0, hcz19_1, hcz19_2, hcz19_3, hcz19_4, hfz19_0, hfz19_1, hfz19_2, hfz19_3, hfz19_4⟩ := cel5 BK229
   go_wp2_with (first | ((with_reducible refine gate_callee (f := 54) rfl ?_); refine gL (some 14) Try.func54 #[.agg #[.int .i64 a0_0, .int .i64 a0_1, .int .i64 a0_2, .int .i64 a0_3, .int .i64 a0_4]] ?_; (with_reducible refine (spec_IsValidDOmega.calls a0_0 a0_1 a0_2 a0_3 a0_4 false _ A7.out).mono ?_); rintro e w20 ⟨rfl, hb⟩; refine ⟨_, rfl, ?_⟩; replace BK229 := cb BK229 hb; replace BK230 := cb BK230 hb; replace BK231 := cb BK231 hb; replace HB := bs HB hb; (try clear hb); (try clear hb2); (try clear hk); (try clear hi)))
   go_meet
   case rel => exact ⟨_, (true), rs, H', ⟨by first | omega | exact Nat.le_refl _⟩, ⟨pl BK229⟩, ⟨pl BK230⟩, ⟨pl BK231⟩, ⟨bl HB⟩⟩
 case rest =>
  clear HC3
  try clear c1
  try clear c2
  try clear p2
  try clear c5
  try clear c8
  try clear c10
  try clear c11
  try clear c14
  try clear c17
  try clear c18
  try clear hcz12_0
  try clear hcz12_1
  try clear hcz12_2
  try clear hcz12_3
  try clear hcz12_4
  try clear hcz15_0
  try clear hcz15_1
  try clear hcz15_2
  try clear hcz15_3
  try clear hcz15_4
  try clear hcz19_0
  try clear hcz19_1
  try clear hcz19_2
  try clear hcz19_3
  try clear hcz19_4
  try clear hfz12_0
  try clear hfz12_1
  try clear hfz12_2
  try clear hfz12_3
  try clear hfz12_4
  try clear hfz15_0
  try clear hfz15_1
  try clear hfz15_2
  try clear hfz15_3
  try clear hfz15_4
  try clear hfz19_0
  try clear hfz19_1
  try clear hfz19_2
  try clear hfz19_3
  try clear hfz19_4
  obtain ⟨kq, x20_2, rfl, HA, HJ2, BK229, BK230, BK231, HB⟩ := hcut
  cases kq with
  | zero => exact absurd HA.out (by simp [spec_AddDOmega.j0])
  | succ kj2 =>
   have H := HA.out
   clear HA
   simp only [spec_AddDOmega.j0] at H
   by_cases c21 : x20_2 = true
   ·subst c21
    rw [if_pos rfl] at H
    simp only [Option.some.injEq, Prod.mk.injEq] at H
    obtain ⟨rfl, rfl, rfl, rfl, rfl, rfl⟩ := H
    have hnb22 := NB231_229.out
    have hnc22 := NB229_231.out
    have hnb23 := NB231_230.out
    have hnc23 := NB230_231.out
    obtain ⟨hcz24_0, hcz24_1, hcz24_2, hcz24_3, hcz24_4, hfz24_0, hfz24_1, hfz24_2, hfz24_3, hfz24_4⟩ := cel5 BK231
    go_wp2
    refine bodyPost_ret (results_ct rfl _ _ gb231 27 #[.int .i64 0, .int .i64 0, .int .i64 0, .int .i64 0, .int .i64 0] (0, 0) _ rfl (bp BK231) Try.underlying27 rfl (by kernel_rfl)) rfl ?_
    exact ⟨er, bl HB⟩
   ·replace c21 := Bool.eq_false_iff.mpr c21
    subst c21
    rw [nf] at H
    replace H := Option.bind_eq_some_iff.mp H
    obtain ⟨t234, A250, H⟩ := H
    try dsimp only at H
    have A25 := Aside0.mk A250
    clear A250
    replace H := Option.bind_eq_some_iff.mp H
    obtain ⟨⟨t235, t236, t237, t238, t239⟩, A260, H⟩ := H
    try dsimp only at H
    have A26 := Aside0.mk A260
    clear A260
    replace H := Option.bind_eq_some_iff.mp H
    obtain ⟨⟨t241, t242, t243, t244, t245⟩, A270, H⟩ := H
    try dsimp only at H
    have A27 := Aside0.mk A270
    clear A270
    replace H := Option.bind_eq_some_iff.mp H
    obtain ⟨⟨t247, t248, t249, t250, t251⟩, A280, H⟩ := H
    try dsimp only at H
    have A28 := Aside0.mk A280
    clear A280
    by_cases c29 : t239 = true
    ·subst c29
     rw [if_pos rfl] at H
     by_cases c30 : t245 = true
     ·subst c30
      rw [if_pos rfl] at H
      by_cases c31 : t251 = true
      ·subst c31
       rw [if_pos rfl] at H
       replace H := Option.bind_eq_some_iff.mp H
       obtain ⟨⟨t253, t254, t255, t256, t257, t258⟩, A320, H⟩ := H
       try dsimp only at H
       have A32 := Aside0.mk A320
       clear A320
       simp only [Option.some.injEq, Prod.mk.injEq] at H
       obtain ⟨rfl, rfl, rfl, rfl, rfl, rfl⟩ := H
       have hnb33 := NB229_230.out
       have hnc33 := NB230_229.out
       have hnb34 := NB229_231.out
       have hnc34 := NB231_229.out
       obtain ⟨hcz35_0, hcz35_1, hcz35_2, hcz35_3, hcz35_4, hfz35_0, hfz35_1, hfz35_2, hfz35_3, hfz35_4⟩ := cel5 BK229
       have hnb36 := NB230_231.out
       have hnc36 := NB231_230.out
       obtain ⟨hcz37_0, hcz37_1, hcz37_2, hcz37_3, hcz37_4, hfz37_0, hfz37_1, hfz37_2, hfz37_3, hfz37_4⟩ := cel5 BK230
       go_wp2_with (first | ((with_reducible refine gate_callee (f := 55) rfl ?_); refine gL (some 26) Try.func55 #[.int .i64 a0_4, .int .i64 a1_4] ?_; (with_reducible refine (spec_l1Max.calls a0_4 a1_4 t234 _ A25.out).mono ?_); rintro e w' ⟨rfl, ⟨nd, rfl⟩⟩; refine ⟨_, rfl, ?_⟩) | ((with_reducible refine gate_callee (f := 56) rfl ?_); refine gL (some 34) Try.func56 #[.agg #[.int .i64 a0_0, .int .i64 a0_1, .int .i64 a0_2, .int .i64 a0_3], .int .i64 (wrap64 (t234 - a0_4))] ?_; (with_reducible refine (spec_l3Up.calls kj2 a0_0 a0_1 a0_2 a0_3 (wrap64 (t234 - a0_4)) t235 t236 t237 t238 true _ A26.out).mono ?_); rintro e w38 ⟨rfl, hb⟩; refine ⟨_, rfl, ?_⟩; replace BK229 := cb BK229 hb; replace BK230 := cb BK230 hb; replace BK231 := cb BK231 hb; replace HB := bs HB hb; (try clear hb); (try clear hb2); (try clear hk); (try clear hi)) | ((with_reducible refine gate_dst (N := 7) rfl ?_); refine bx (N := 7) (cs := #[.int .i64 0, .int .i64 0, .int .i64 0, .int .i64 0]) (t := 25) ?_; intro gb240 hg w39 hbox hb; have BK240 := Aside0.mk hbox; have GW240 := sz hg HB; have GE240 := GW240; have NB229_240 := nl hg BK229; have NB240_229 := ng hg BK229; have NB230_240 := nl hg BK230; have NB240_230 := ng hg BK230; have NB231_240 := nl hg BK231; have NB240_231 := ng hg BK231; replace BK229 := cb BK229 hb; replace BK230 := cb BK230 hb; replace BK231 := cb BK231 hb; replace HB := bs HB hb; clear hb hbox hg; have hnb40 := NB240_229.out; have hnc40 := NB229_240.out; have hnb41 := NB240_230.out; have hnc41 := NB230_240.out; have hnb42 := NB240_231.out; have hnc42 := NB231_240.out; obtain ⟨hcz43_0, hcz43_1, hcz43_2, hcz43_3, hfz43_0, hfz43_1, hfz43_2, hfz43_3⟩ := cel4 BK240; obtain ⟨hcz44_0, hcz44_1, hcz44_2, hcz44_3, hcz44_4, hfz44_0, hfz44_1, hfz44_2, hfz44_3, hfz44_4⟩ := cel5 BK230) | ((with_reducible refine gate_callee (f := 56) rfl ?_); refine gL (some 44) Try.func56 #[.agg #[.int .i64 a1_0, .int .i64 a1_1, .int .i64 a1_2, .int .i64 a1_3], .int .i64 (wrap64 (t234 - a1_4))] ?_; (with_reducible refine (spec_l3Up.calls kj2 a1_0 a1_1 a1_2 a1_3 (wrap64 (t234 - a1_4)) t241 t242 t243 t244 true _ A27.out).mono ?_); rintro e w45 ⟨rfl, hb⟩; refine ⟨_, rfl, ?_⟩; replace BK229 := cp BK229 hb; replace BK230 := cp BK230 hb; replace BK231 := cp BK231 hb; replace BK240 := cp BK240 hb; replace HB := bs HB hb; (try clear hb); (try clear hb2); (try clear hk); (try clear hi)) | ((with_reducible refine gate_dst (N := 9) rfl ?_); refine bx (N := 9) (cs := #[.int .i64 0, .int .i64 0, .int .i64 0, .int .i64 0]) (t := 25) ?_; intro gb246 hg w46 hbox hb; have BK246 := Aside0.mk hbox; have GW246 := sz hg HB; have GE246 := GW246; have NB229_246 := nl hg BK229; have NB246_229 := ng hg BK229; have NB230_246 := nl hg BK230; have NB246_230 := ng hg BK230; have NB231_246 := nl hg BK231; have NB246_231 := ng hg BK231; have NB240_246 := nl hg BK240; have NB246_240 := ng hg BK240; replace BK229 := cb BK229 hb; replace BK230 := cb BK230 hb; replace BK231 := cb BK231 hb; replace BK240 := cb BK240 hb; replace HB := bs HB hb; clear hb hbox hg; have hnb47 := NB246_229.out; have hnc47 := NB229_246.out; have hnb48 := NB246_230.out; have hnc48 := NB230_246.out; have hnb49 := NB246_231.out; have hnc49 := NB231_246.out; have hnb50 := NB246_240.out; have hnc50 := NB240_246.out; obtain ⟨hcz51_0, hcz51_1, hcz51_2, hcz51_3, hfz51_0, hfz51_1, hfz51_2, hfz51_3⟩ := cel4 BK246; obtain ⟨hcz52_0, hcz52_1, hcz52_2, hcz52_3, hfz52_0, hfz52_1, hfz52_2, hfz52_3⟩ := cel4 BK240) | ((with_reducible refine gate_callee (f := 57) rfl ?_); refine gL (some 50) Try.func57 #[.agg #[.int .i64 t235, .int .i64 t236, .int .i64 t237, .int .i64 t238], .agg #[.int .i64 t241, .int .i64 t242, .int .i64 t243, .int .i64 t244]] ?_; (with_reducible refine (spec_AddZOmega.calls t235 t236 t237 t238 t241 t242 t243 t244 t247 t248 t249 t250 true _ A28.out).mono ?_); rintro e w53 ⟨rfl, hb⟩; refine ⟨_, rfl, ?_⟩; replace BK229 := cp BK229 hb; replace BK230 := cp BK230 hb; replace BK231 := cp BK231 hb; replace BK240 := cp BK240 hb; replace BK246 := cp BK246 hb; replace HB := bs HB hb; (try clear hb); (try clear hb2); (try clear hk); (try clear hi)) | ((with_reducible refine gate_dst (N := 11) rfl ?_); refine bx (N := 11) (cs := #[.int .i64 0, .int .i64 0, .int .i64 0, .int .i64 0]) (t := 25) ?_; intro gb252 hg w54 hbox hb; have BK252 := Aside0.mk hbox; have GW252 := sz hg HB; have GE252 := GW252; have NB229_252 := nl hg BK229; have NB252_229 := ng hg BK229; have NB230_252 := nl hg BK230; have NB252_230 := ng hg BK230; have NB231_252 := nl hg BK231; have NB252_231 := ng hg BK231; have NB240_252 := nl hg BK240; have NB252_240 := ng hg BK240; have NB246_252 := nl hg BK246; have NB252_246 := ng hg BK246; replace BK229 := cb BK229 hb; replace BK230 := cb BK230 hb; replace BK231 := cb BK231 hb; replace BK240 := cb BK240 hb; replace BK246 := cb BK246 hb; replace HB := bs HB hb; clear hb hbox hg; have hnb55 := NB252_229.out; have hnc55 := NB229_252.out; have hnb56 := NB252_230.out; have hnc56 := NB230_252.out; have hnb57 := NB252_231.out; have hnc57 := NB231_252.out; have hnb58 := NB252_240.out; have hnc58 := NB240_252.out; have hnb59 := NB252_246.out; have hnc59 := NB246_252.out; obtain ⟨hcz60_0, hcz60_1, hcz60_2, hcz60_3, hfz60_0, hfz60_1, hfz60_2, hfz60_3⟩ := cel4 BK252) | ((with_reducible refine gate_callee (f := 58) rfl ?_); refine gL (some 66) Try.func58 #[.agg #[.int .i64 t247, .int .i64 t248, .int .i64 t249, .int .i64 t250], .int .i64 t234] ?_; (with_reducible refine (spec_NewDOmega.calls kj2 t247 t248 t249 t250 t234 t253 t254 t255 t256 t257 t258 _ A32.out).mono ?_); rintro e w61 ⟨rfl, hb⟩; refine ⟨_, rfl, ?_⟩; replace BK229 := cp BK229 hb; replace BK230 := cp BK230 hb; replace BK231 := cp BK231 hb; replace BK240 := cp BK240 hb; replace BK246 := cp BK246 hb; replace BK252 := cp BK252 hb; replace HB := bs HB hb; (try clear hb); (try clear hb2); (try clear hk); (try clear hi); obtain ⟨hcz62_0, hcz62_1, hcz62_2, hcz62_3, hcz62_4, hfz62_0, hfz62_1, hfz62_2, hfz62_3, hfz62_4⟩ := cel5 BK231))
       refine bodyPost_ret (results_ct rfl _ _ gb231 27 #[.int .i64 t253, .int .i64 t254, .int .i64 t255, .int .i64 t256, .int .i64 t257] (0, 0) _ rfl (bp BK231) Try.underlying27 rfl (by kernel_rfl)) rfl ?_
       exact ⟨er, bl HB⟩
      ·replace c31 := Bool.eq_false_iff.mpr c31
       subst c31
       rw [nf] at H
       simp only [Option.some.injEq, Prod.mk.injEq] at H
       obtain ⟨rfl, rfl, rfl, rfl, rfl, rfl⟩ := H
       have hnb63 := NB229_230.out
       have hnc63 := NB230_229.out
       have hnb64 := NB229_231.out
       have hnc64 := NB231_229.out
       obtain ⟨hcz65_0, hcz65_1, hcz65_2, hcz65_3, hcz65_4, hfz65_0, hfz65_1, hfz65_2, hfz65_3, hfz65_4⟩ := cel5 BK229
       have hnb66 := NB230_231.out
       have hnc66 := NB231_230.out
       obtain ⟨hcz67_0, hcz67_1, hcz67_2, hcz67_3, hcz67_4, hfz67_0, hfz67_1, hfz67_2, hfz67_3, hfz67_4⟩ := cel5 BK230
       go_wp2_with (first | ((with_reducible refine gate_callee (f := 55) rfl ?_); refine gL (some 26) Try.func55 #[.int .i64 a0_4, .int .i64 a1_4] ?_; (with_reducible refine (spec_l1Max.calls a0_4 a1_4 t234 _ A25.out).mono ?_); rintro e w' ⟨rfl, ⟨nd, rfl⟩⟩; refine ⟨_, rfl, ?_⟩) | ((with_reducible refine gate_callee (f := 56) rfl ?_); refine gL (some 34) Try.func56 #[.agg #[.int .i64 a0_0, .int .i64 a0_1, .int .i64 a0_2, .int .i64 a0_3], .int .i64 (wrap64 (t234 - a0_4))] ?_; (with_reducible refine (spec_l3Up.calls kj2 a0_0 a0_1 a0_2 a0_3 (wrap64 (t234 - a0_4)) t235 t236 t237 t238 true _ A26.out).mono ?_); rintro e w68 ⟨rfl, hb⟩; refine ⟨_, rfl, ?_⟩; replace BK229 := cb BK229 hb; replace BK230 := cb BK230 hb; replace BK231 := cb BK231 hb; replace HB := bs HB hb; (try clear hb); (try clear hb2); (try clear hk); (try clear hi)) | ((with_reducible refine gate_dst (N := 7) rfl ?_); refine bx (N := 7) (cs := #[.int .i64 0, .int .i64 0, .int .i64 0, .int .i64 0]) (t := 25) ?_; intro gb240 hg w69 hbox hb; have BK240 := Aside0.mk hbox; have GW240 := sz hg HB; have GE240 := GW240; have NB229_240 := nl hg BK229; have NB240_229 := ng hg BK229; have NB230_240 := nl hg BK230; have NB240_230 := ng hg BK230; have NB231_240 := nl hg BK231; have NB240_231 := ng hg BK231; replace BK229 := cb BK229 hb; replace BK230 := cb BK230 hb; replace BK231 := cb BK231 hb; replace HB := bs HB hb; clear hb hbox hg; have hnb70 := NB240_229.out; have hnc70 := NB229_240.out; have hnb71 := NB240_230.out; have hnc71 := NB230_240.out; have hnb72 := NB240_231.out; have hnc72 := NB231_240.out; obtain ⟨hcz73_0, hcz73_1, hcz73_2, hcz73_3, hfz73_0, hfz73_1, hfz73_2, hfz73_3⟩ := cel4 BK240; obtain ⟨hcz74_0, hcz74_1, hcz74_2, hcz74_3, hcz74_4, hfz74_0, hfz74_1, hfz74_2, hfz74_3, hfz74_4⟩ := cel5 BK230) | ((with_reducible refine gate_callee (f := 56) rfl ?_); refine gL (some 44) Try.func56 #[.agg #[.int .i64 a1_0, .int .i64 a1_1, .int .i64 a1_2, .int .i64 a1_3], .int .i64 (wrap64 (t234 - a1_4))] ?_; (with_reducible refine (spec_l3Up.calls kj2 a1_0 a1_1 a1_2 a1_3 (wrap64 (t234 - a1_4)) t241 t242 t243 t244 true _ A27.out).mono ?_); rintro e w75 ⟨rfl, hb⟩; refine ⟨_, rfl, ?_⟩; replace BK229 := cp BK229 hb; replace BK230 := cp BK230 hb; replace BK231 := cp BK231 hb; replace BK240 := cp BK240 hb; replace HB := bs HB hb; (try clear hb); (try clear hb2); (try clear hk); (try clear hi)) | ((with_reducible refine gate_dst (N := 9) rfl ?_); refine bx (N := 9) (cs := #[.int .i64 0, .int .i64 0, .int .i64 0, .int .i64 0]) (t := 25) ?_; intro gb246 hg w76 hbox hb; have BK246 := Aside0.mk hbox; have GW246 := sz hg HB; have GE246 := GW246; have NB229_246 := nl hg BK229; have NB246_229 := ng hg BK229; have NB230_246 := nl hg BK230; have NB246_230 := ng hg BK230; have NB231_246 := nl hg BK231; have NB246_231 := ng hg BK231; have NB240_246 := nl hg BK240; have NB246_240 := ng hg BK240; replace BK229 := cb BK229 hb; replace BK230 := cb BK230 hb; replace BK231 := cb BK231 hb; replace BK240 := cb BK240 hb; replace HB := bs HB hb; clear hb hbox hg; have hnb77 := NB246_229.out; have hnc77 := NB229_246.out; have hnb78 := NB246_230.out; have hnc78 := NB230_246.out; have hnb79 := NB246_231.out; have hnc79 := NB231_246.out; have hnb80 := NB246_240.out; have hnc80 := NB240_246.out; obtain ⟨hcz81_0, hcz81_1, hcz81_2, hcz81_3, hfz81_0, hfz81_1, hfz81_2, hfz81_3⟩ := cel4 BK246; obtain ⟨hcz82_0, hcz82_1, hcz82_2, hcz82_3, hfz82_0, hfz82_1, hfz82_2, hfz82_3⟩ := cel4 BK240) | ((with_reducible refine gate_callee (f := 57) rfl ?_); refine gL (some 50) Try.func57 #[.agg #[.int .i64 t235, .int .i64 t236, .int .i64 t237, .int .i64 t238], .agg #[.int .i64 t241, .int .i64 t242, .int .i64 t243, .int .i64 t244]] ?_; (with_reducible refine (spec_AddZOmega.calls t235 t236 t237 t238 t241 t242 t243 t244 t247 t248 t249 t250 false _ A28.out).mono ?_); rintro e w83 ⟨rfl, hb⟩; refine ⟨_, rfl, ?_⟩; replace BK229 := cp BK229 hb; replace BK230 := cp BK230 hb; replace BK231 := cp BK231 hb; replace BK240 := cp BK240 hb; replace BK246 := cp BK246 hb; replace HB := bs HB hb; (try clear hb); (try clear hb2); (try clear hk); (try clear hi)) | ((with_reducible refine gate_dst (N := 11) rfl ?_); refine bx (N := 11) (cs := #[.int .i64 0, .int .i64 0, .int .i64 0, .int .i64 0]) (t := 25) ?_; intro gb252 hg w84 hbox hb; have BK252 := Aside0.mk hbox; have GW252 := sz hg HB; have GE252 := GW252; have NB229_252 := nl hg BK229; have NB252_229 := ng hg BK229; have NB230_252 := nl hg BK230; have NB252_230 := ng hg BK230; have NB231_252 := nl hg BK231; have NB252_231 := ng hg BK231; have NB240_252 := nl hg BK240; have NB252_240 := ng hg BK240; have NB246_252 := nl hg BK246; have NB252_246 := ng hg BK246; replace BK229 := cb BK229 hb; replace BK230 := cb BK230 hb; replace BK231 := cb BK231 hb; replace BK240 := cb BK240 hb; replace BK246 := cb BK246 hb; replace HB := bs HB hb; clear hb hbox hg; have hnb85 := NB252_229.out; have hnc85 := NB229_252.out; have hnb86 := NB252_230.out; have hnc86 := NB230_252.out; have hnb87 := NB252_231.out; have hnc87 := NB231_252.out; have hnb88 := NB252_240.out; have hnc88 := NB240_252.out; have hnb89 := NB252_246.out; have hnc89 := NB246_252.out; obtain ⟨hcz90_0, hcz90_1, hcz90_2, hcz90_3, hfz90_0, hfz90_1, hfz90_2, hfz90_3⟩ := cel4 BK252; obtain ⟨hcz91_0, hcz91_1, hcz91_2, hcz91_3, hcz91_4, hfz91_0, hfz91_1, hfz91_2, hfz91_3, hfz91_4⟩ := cel5 BK231))
       refine bodyPost_ret (results_ct rfl _ _ gb231 27 #[.int .i64 0, .int .i64 0, .int .i64 0, .int .i64 0, .int .i64 0] (0, 0) _ rfl (bp BK231) Try.underlying27 rfl (by kernel_rfl)) rfl ?_
       exact ⟨er, bl HB⟩
     ·replace c30 := Bool.eq_false_iff.mpr c30
      subst c30
      rw [nf] at H
      simp only [Option.some.injEq, Prod.mk.injEq] at H
      obtain ⟨rfl, rfl, rfl, rfl, rfl, rfl⟩ := H
      have hnb92 := NB229_230.out
      have hnc92 := NB230_229.out
      have hnb93 := NB229_231.out
      have hnc93 := NB231_229.out
      obtain ⟨hcz94_0, hcz94_1, hcz94_2, hcz94_3, hcz94_4, hfz94_0, hfz94_1, hfz94_2, hfz94_3, hfz94_4⟩ := cel5 BK229
      have hnb95 := NB230_231.out
      have hnc95 := NB231_230.out
      obtain ⟨hcz96_0, hcz96_1, hcz96_2, hcz96_3, hcz96_4, hfz96_0, hfz96_1, hfz96_2, hfz96_3, hfz96_4⟩ := cel5 BK230
      go_wp2_with (first | ((with_reducible refine gate_callee (f := 55) rfl ?_); refine gL (some 26) Try.func55 #[.int .i64 a0_4, .int .i64 a1_4] ?_; (with_reducible refine (spec_l1Max.calls a0_4 a1_4 t234 _ A25.out).mono ?_); rintro e w' ⟨rfl, ⟨nd, rfl⟩⟩; refine ⟨_, rfl, ?_⟩) | ((with_reducible refine gate_callee (f := 56) rfl ?_); refine gL (some 34) Try.func56 #[.agg #[.int .i64 a0_0, .int .i64 a0_1, .int .i64 a0_2, .int .i64 a0_3], .int .i64 (wrap64 (t234 - a0_4))] ?_; (with_reducible refine (spec_l3Up.calls kj2 a0_0 a0_1 a0_2 a0_3 (wrap64 (t234 - a0_4)) t235 t236 t237 t238 true _ A26.out).mono ?_); rintro e w97 ⟨rfl, hb⟩; refine ⟨_, rfl, ?_⟩; replace BK229 := cb BK229 hb; replace BK230 := cb BK230 hb; replace BK231 := cb BK231 hb; replace HB := bs HB hb; (try clear hb); (try clear hb2); (try clear hk); (try clear hi)) | ((with_reducible refine gate_dst (N := 7) rfl ?_); refine bx (N := 7) (cs := #[.int .i64 0, .int .i64 0, .int .i64 0, .int .i64 0]) (t := 25) ?_; intro gb240 hg w98 hbox hb; have BK240 := Aside0.mk hbox; have GW240 := sz hg HB; have GE240 := GW240; have NB229_240 := nl hg BK229; have NB240_229 := ng hg BK229; have NB230_240 := nl hg BK230; have NB240_230 := ng hg BK230; have NB231_240 := nl hg BK231; have NB240_231 := ng hg BK231; replace BK229 := cb BK229 hb; replace BK230 := cb BK230 hb; replace BK231 := cb BK231 hb; replace HB := bs HB hb; clear hb hbox hg; have hnb99 := NB240_229.out; have hnc99 := NB229_240.out; have hnb100 := NB240_230.out; have hnc100 := NB230_240.out; have hnb101 := NB240_231.out; have hnc101 := NB231_240.out; obtain ⟨hcz102_0, hcz102_1, hcz102_2, hcz102_3, hfz102_0, hfz102_1, hfz102_2, hfz102_3⟩ := cel4 BK240; obtain ⟨hcz103_0, hcz103_1, hcz103_2, hcz103_3, hcz103_4, hfz103_0, hfz103_1, hfz103_2, hfz103_3, hfz103_4⟩ := cel5 BK230) | ((with_reducible refine gate_callee (f := 56) rfl ?_); refine gL (some 44) Try.func56 #[.agg #[.int .i64 a1_0, .int .i64 a1_1, .int .i64 a1_2, .int .i64 a1_3], .int .i64 (wrap64 (t234 - a1_4))] ?_; (with_reducible refine (spec_l3Up.calls kj2 a1_0 a1_1 a1_2 a1_3 (wrap64 (t234 - a1_4)) t241 t242 t243 t244 false _ A27.out).mono ?_); rintro e w104 ⟨rfl, hb⟩; refine ⟨_, rfl, ?_⟩; replace BK229 := cp BK229 hb; replace BK230 := cp BK230 hb; replace BK231 := cp BK231 hb; replace BK240 := cp BK240 hb; replace HB := bs HB hb; (try clear hb); (try clear hb2); (try clear hk); (try clear hi)) | ((with_reducible refine gate_dst (N := 9) rfl ?_); refine bx (N := 9) (cs := #[.int .i64 0, .int .i64 0, .int .i64 0, .int .i64 0]) (t := 25) ?_; intro gb246 hg w105 hbox hb; have BK246 := Aside0.mk hbox; have GW246 := sz hg HB; have GE246 := GW246; have NB229_246 := nl hg BK229; have NB246_229 := ng hg BK229; have NB230_246 := nl hg BK230; have NB246_230 := ng hg BK230; have NB231_246 := nl hg BK231; have NB246_231 := ng hg BK231; have NB240_246 := nl hg BK240; have NB246_240 := ng hg BK240; replace BK229 := cb BK229 hb; replace BK230 := cb BK230 hb; replace BK231 := cb BK231 hb; replace BK240 := cb BK240 hb; replace HB := bs HB hb; clear hb hbox hg; have hnb106 := NB246_229.out; have hnc106 := NB229_246.out; have hnb107 := NB246_230.out; have hnc107 := NB230_246.out; have hnb108 := NB246_231.out; have hnc108 := NB231_246.out; have hnb109 := NB246_240.out; have hnc109 := NB240_246.out; obtain ⟨hcz110_0, hcz110_1, hcz110_2, hcz110_3, hfz110_0, hfz110_1, hfz110_2, hfz110_3⟩ := cel4 BK246; obtain ⟨hcz111_0, hcz111_1, hcz111_2, hcz111_3, hfz111_0, hfz111_1, hfz111_2, hfz111_3⟩ := cel4 BK240) | ((with_reducible refine gate_callee (f := 57) rfl ?_); refine gL (some 50) Try.func57 #[.agg #[.int .i64 t235, .int .i64 t236, .int .i64 t237, .int .i64 t238], .agg #[.int .i64 t241, .int .i64 t242, .int .i64 t243, .int .i64 t244]] ?_; (with_reducible refine (spec_AddZOmega.calls t235 t236 t237 t238 t241 t242 t243 t244 t247 t248 t249 t250 t251 _ A28.out).mono ?_); rintro e w112 ⟨rfl, hb⟩; refine ⟨_, rfl, ?_⟩; replace BK229 := cp BK229 hb; replace BK230 := cp BK230 hb; replace BK231 := cp BK231 hb; replace BK240 := cp BK240 hb; replace BK246 := cp BK246 hb; replace HB := bs HB hb; (try clear hb); (try clear hb2); (try clear hk); (try clear hi)) | ((with_reducible refine gate_dst (N := 11) rfl ?_); refine bx (N := 11) (cs := #[.int .i64 0, .int .i64 0, .int .i64 0, .int .i64 0]) (t := 25) ?_; intro gb252 hg w113 hbox hb; have BK252 := Aside0.mk hbox; have GW252 := sz hg HB; have GE252 := GW252; have NB229_252 := nl hg BK229; have NB252_229 := ng hg BK229; have NB230_252 := nl hg BK230; have NB252_230 := ng hg BK230; have NB231_252 := nl hg BK231; have NB252_231 := ng hg BK231; have NB240_252 := nl hg BK240; have NB252_240 := ng hg BK240; have NB246_252 := nl hg BK246; have NB252_246 := ng hg BK246; replace BK229 := cb BK229 hb; replace BK230 := cb BK230 hb; replace BK231 := cb BK231 hb; replace BK240 := cb BK240 hb; replace BK246 := cb BK246 hb; replace HB := bs HB hb; clear hb hbox hg; have hnb114 := NB252_229.out; have hnc114 := NB229_252.out; have hnb115 := NB252_230.out; have hnc115 := NB230_252.out; have hnb116 := NB252_231.out; have hnc116 := NB231_252.out; have hnb117 := NB252_240.out; have hnc117 := NB240_252.out; have hnb118 := NB252_246.out; have hnc118 := NB246_252.out; obtain ⟨hcz119_0, hcz119_1, hcz119_2, hcz119_3, hfz119_0, hfz119_1, hfz119_2, hfz119_3⟩ := cel4 BK252; obtain ⟨hcz120_0, hcz120_1, hcz120_2, hcz120_3, hcz120_4, hfz120_0, hfz120_1, hfz120_2, hfz120_3, hfz120_4⟩ := cel5 BK231))
      refine bodyPost_ret (results_ct rfl _ _ gb231 27 #[.int .i64 0, .int .i64 0, .int .i64 0, .int .i64 0, .int .i64 0] (0, 0) _ rfl (bp BK231) Try.underlying27 rfl (by kernel_rfl)) rfl ?_
      exact ⟨er, bl HB⟩
    ·replace c29 := Bool.eq_false_iff.mpr c29
     subst c29
     rw [nf] at H
     simp only [Option.some.injEq, Prod.mk.injEq] at H
     obtain ⟨rfl, rfl, rfl, rfl, rfl, rfl⟩ := H
     have hnb121 := NB229_230.out
     have hnc121 := NB230_229.out
     have hnb122 := NB229_231.out
     have hnc122 := NB231_229.out
     obtain ⟨hcz123_0, hcz123_1, hcz123_2, hcz123_3, hcz123_4, hfz123_0, hfz123_1, hfz123_2, hfz123_3, hfz123_4⟩ := cel5 BK229
     have hnb124 := NB230_231.out
     have hnc124 := NB231_230.out
     obtain ⟨hcz125_0, hcz125_1, hcz125_2, hcz125_3, hcz125_4, hfz125_0, hfz125_1, hfz125_2, hfz125_3, hfz125_4⟩ := cel5 BK230
     go_wp2_with (first | ((with_reducible refine gate_callee (f := 55) rfl ?_); refine gL (some 26) Try.func55 #[.int .i64 a0_4, .int .i64 a1_4] ?_; (with_reducible refine (spec_l1Max.calls a0_4 a1_4 t234 _ A25.out).mono ?_); rintro e w' ⟨rfl, ⟨nd, rfl⟩⟩; refine ⟨_, rfl, ?_⟩) | ((with_reducible refine gate_callee (f := 56) rfl ?_); refine gL (some 34) Try.func56 #[.agg #[.int .i64 a0_0, .int .i64 a0_1, .int .i64 a0_2, .int .i64 a0_3], .int .i64 (wrap64 (t234 - a0_4))] ?_; (with_reducible refine (spec_l3Up.calls kj2 a0_0 a0_1 a0_2 a0_3 (wrap64 (t234 - a0_4)) t235 t236 t237 t238 false _ A26.out).mono ?_); rintro e w126 ⟨rfl, hb⟩; refine ⟨_, rfl, ?_⟩; replace BK229 := cb BK229 hb; replace BK230 := cb BK230 hb; replace BK231 := cb BK231 hb; replace HB := bs HB hb; (try clear hb); (try clear hb2); (try clear hk); (try clear hi)) | ((with_reducible refine gate_dst (N := 7) rfl ?_); refine bx (N := 7) (cs := #[.int .i64 0, .int .i64 0, .int .i64 0, .int .i64 0]) (t := 25) ?_; intro gb240 hg w127 hbox hb; have BK240 := Aside0.mk hbox; have GW240 := sz hg HB; have GE240 := GW240; have NB229_240 := nl hg BK229; have NB240_229 := ng hg BK229; have NB230_240 := nl hg BK230; have NB240_230 := ng hg BK230; have NB231_240 := nl hg BK231; have NB240_231 := ng hg BK231; replace BK229 := cb BK229 hb; replace BK230 := cb BK230 hb; replace BK231 := cb BK231 hb; replace HB := bs HB hb; clear hb hbox hg; have hnb128 := NB240_229.out; have hnc128 := NB229_240.out; have hnb129 := NB240_230.out; have hnc129 := NB230_240.out; have hnb130 := NB240_231.out; have hnc130 := NB231_240.out; obtain ⟨hcz131_0, hcz131_1, hcz131_2, hcz131_3, hfz131_0, hfz131_1, hfz131_2, hfz131_3⟩ := cel4 BK240; obtain ⟨hcz132_0, hcz132_1, hcz132_2, hcz132_3, hcz132_4, hfz132_0, hfz132_1, hfz132_2, hfz132_3, hfz132_4⟩ := cel5 BK230) | ((with_reducible refine gate_callee (f := 56) rfl ?_); refine gL (some 44) Try.func56 #[.agg #[.int .i64 a1_0, .int .i64 a1_1, .int .i64 a1_2, .int .i64 a1_3], .int .i64 (wrap64 (t234 - a1_4))] ?_; (with_reducible refine (spec_l3Up.calls kj2 a1_0 a1_1 a1_2 a1_3 (wrap64 (t234 - a1_4)) t241 t242 t243 t244 t245 _ A27.out).mono ?_); rintro e w133 ⟨rfl, hb⟩; refine ⟨_, rfl, ?_⟩; replace BK229 := cp BK229 hb; replace BK230 := cp BK230 hb; replace BK231 := cp BK231 hb; replace BK240 := cp BK240 hb; replace HB := bs HB hb; (try clear hb); (try clear hb2); (try clear hk); (try clear hi)) | ((with_reducible refine gate_dst (N := 9) rfl ?_); refine bx (N := 9) (cs := #[.int .i64 0, .int .i64 0, .int .i64 0, .int .i64 0]) (t := 25) ?_; intro gb246 hg w134 hbox hb; have BK246 := Aside0.mk hbox; have GW246 := sz hg HB; have GE246 := GW246; have NB229_246 := nl hg BK229; have NB246_229 := ng hg BK229; have NB230_246 := nl hg BK230; have NB246_230 := ng hg BK230; have NB231_246 := nl hg BK231; have NB246_231 := ng hg BK231; have NB240_246 := nl hg BK240; have NB246_240 := ng hg BK240; replace BK229 := cb BK229 hb; replace BK230 := cb BK230 hb; replace BK231 := cb BK231 hb; replace BK240 := cb BK240 hb; replace HB := bs HB hb; clear hb hbox hg; have hnb135 := NB246_229.out; have hnc135 := NB229_246.out; have hnb136 := NB246_230.out; have hnc136 := NB230_246.out; have hnb137 := NB246_231.out; have hnc137 := NB231_246.out; have hnb138 := NB246_240.out; have hnc138 := NB240_246.out; obtain ⟨hcz139_0, hcz139_1, hcz139_2, hcz139_3, hfz139_0, hfz139_1, hfz139_2, hfz139_3⟩ := cel4 BK246; obtain ⟨hcz140_0, hcz140_1, hcz140_2, hcz140_3, hfz140_0, hfz140_1, hfz140_2, hfz140_3⟩ := cel4 BK240) | ((with_reducible refine gate_callee (f := 57) rfl ?_); refine gL (some 50) Try.func57 #[.agg #[.int .i64 t235, .int .i64 t236, .int .i64 t237, .int .i64 t238], .agg #[.int .i64 t241, .int .i64 t242, .int .i64 t243, .int .i64 t244]] ?_; (with_reducible refine (spec_AddZOmega.calls t235 t236 t237 t238 t241 t242 t243 t244 t247 t248 t249 t250 t251 _ A28.out).mono ?_); rintro e w141 ⟨rfl, hb⟩; refine ⟨_, rfl, ?_⟩; replace BK229 := cp BK229 hb; replace BK230 := cp BK230 hb; replace BK231 := cp BK231 hb; replace BK240 := cp BK240 hb; replace BK246 := cp BK246 hb; replace HB := bs HB hb; (try clear hb); (try clear hb2); (try clear hk); (try clear hi)) | ((with_reducible refine gate_dst (N := 11) rfl ?_); refine bx (N := 11) (cs := #[.int .i64 0, .int .i64 0, .int .i64 0, .int .i64 0]) (t := 25) ?_; intro gb252 hg w142 hbox hb; have BK252 := Aside0.mk hbox; have GW252 := sz hg HB; have GE252 := GW252; have NB229_252 := nl hg BK229; have NB252_229 := ng hg BK229; have NB230_252 := nl hg BK230; have NB252_230 := ng hg BK230; have NB231_252 := nl hg BK231; have NB252_231 := ng hg BK231; have NB240_252 := nl hg BK240; have NB252_240 := ng hg BK240; have NB246_252 := nl hg BK246; have NB252_246 := ng hg BK246; replace BK229 := cb BK229 hb; replace BK230 := cb BK230 hb; replace BK231 := cb BK231 hb; replace BK240 := cb BK240 hb; replace BK246 := cb BK246 hb; replace HB := bs HB hb; clear hb hbox hg; have hnb143 := NB252_229.out; have hnc143 := NB229_252.out; have hnb144 := NB252_230.out; have hnc144 := NB230_252.out; have hnb145 := NB252_231.out; have hnc145 := NB231_252.out; have hnb146 := NB252_240.out; have hnc146 := NB240_252.out; have hnb147 := NB252_246.out; have hnc147 := NB246_252.out; obtain ⟨hcz148_0, hcz148_1, hcz148_2, hcz148_3, hfz148_0, hfz148_1, hfz148_2, hfz148_3⟩ := cel4 BK252; obtain ⟨hcz149_0, hcz149_1, hcz149_2, hcz149_3, hcz149_4, hfz149_0, hfz149_1, hfz149_2, hfz149_3, hfz149_4⟩ := cel5 BK231))
     refine bodyPost_ret (results_ct rfl _ _ gb231 27 #[.int .i64 0, .int .i64 0, .int .i64 0, .int .i64 0, .int .i64 0] (0, 0) _ rfl (bp BK231) Try.underlying27 rfl (by kernel_rfl)) rfl ?_
     exact ⟨er, bl HB⟩
/-! ### spec_PhaseFactor: function 26 -/
def spec_PhaseFactor.f (a0 : Int) : Option (Int × Int × Int × Int × Int) := if (Int.tmod a0 8) < 0 then ((some (([(⟨1, 0, 0, 0⟩ : S25), (⟨0, 1, 0, 0⟩ : S25), (⟨0, 0, 1, 0⟩ : S25), (⟨0, 0, 0, 1⟩ : S25), (⟨(-1), 0, 0, 0⟩ : S25), (⟨0, (-1), 0, 0⟩ : S25), (⟨0, 0, (-1), 0⟩ : S25), (⟨0, 0, 0, (-1)⟩ : S25)] : List (S25)) : List (S25))).bind fun y260 => (if 0 ≤ (wrap64 ((Int.tmod a0 8) + 8)) then (if (wrap64 ((Int.tmod a0 8) + 8)) < (y260.length : Int) then (some ((rd_T25 y260 (wrap64 ((Int.tmod a0 8) + 8))).f0, (rd_T25 y260 (wrap64 ((Int.tmod a0 8) + 8))).f1, (rd_T25 y260 (wrap64 ((Int.tmod a0 8) + 8))).f2, (rd_T25 y260 (wrap64 ((Int.tmod a0 8) + 8))).f3, 0)) else (none)) else (none))) else ((some (([(⟨1, 0, 0, 0⟩ : S25), (⟨0, 1, 0, 0⟩ : S25), (⟨0, 0, 1, 0⟩ : S25), (⟨0, 0, 0, 1⟩ : S25), (⟨(-1), 0, 0, 0⟩ : S25), (⟨0, (-1), 0, 0⟩ : S25), (⟨0, 0, (-1), 0⟩ : S25), (⟨0, 0, 0, (-1)⟩ : S25)] : List (S25)) : List (S25))).bind fun y264 => (if 0 ≤ (Int.tmod a0 8) then (if (Int.tmod a0 8) < (y264.length : Int) then (some ((rd_T25 y264 (Int.tmod a0 8)).f0, (rd_T25 y264 (Int.tmod a0 8)).f1, (rd_T25 y264 (Int.tmod a0 8)).f2, (rd_T25 y264 (Int.tmod a0 8)).f3, 0)) else (none)) else (none)))
set_option maxHeartbeats 8000000 in
set_option maxRecDepth 100000 in
theorem spec_PhaseFactor.calls (a0 : Int) (r1 : Int) (r2 : Int) (r3 : Int) (r4 : Int) (r5 : Int) (w : World) (h : spec_PhaseFactor.f a0 = some (r1, r2, r3, r4, r5)) :
  Calls Try.prog 26 #[.int .i64 a0] w fun e w' => e = .returned (.agg #[.int .i64 r1, .int .i64 r2, .int .i64 r3, .int .i64 r4, .int .i64 r5]) ∧ Below w.heap.size w w' := by
 have hu27 := Try.underlying27
 have hu25 := Try.underlying25
 have HB := Aside0.mk (Below.refl w.heap.size w)
 have H := h
 clear h
 unfold spec_PhaseFactor.f at H
 by_cases c2 : (Int.tmod a0 8) < 0
 ·rw [if_pos c2] at H
  have c2b0 : decide ((Int.tmod a0 8) < 0) = true := decide_eq_true c2
  clear c2
  obtain ⟨y260, hy260⟩ : ∃ y_ : List (S25), y_ = (([(⟨1, 0, 0, 0⟩ : S25), (⟨0, 1, 0, 0⟩ : S25), (⟨0, 0, 1, 0⟩ : S25), (⟨0, 0, 0, 1⟩ : S25), (⟨(-1), 0, 0, 0⟩ : S25), (⟨0, (-1), 0, 0⟩ : S25), (⟨0, 0, (-1), 0⟩ : S25), (⟨0, 0, 0, (-1)⟩ : S25)] : List (S25))) := ⟨_, rfl⟩
  replace H : (if 0 ≤ (wrap64 ((Int.tmod a0 8) + 8)) then (if (wrap64 ((Int.tmod a0 8) + 8)) < (y260.length : Int) then (some ((rd_T25 y260 (wrap64 ((Int.tmod a0 8) + 8))).f0, (rd_T25 y260 (wrap64 ((Int.tmod a0 8) + 8))).f1, (rd_T25 y260 (wrap64 ((Int.tmod a0 8) + 8))).f2, (rd_T25 y260 (wrap64 ((Int.tmod a0 8) + 8))).f3, 0)) else (none)) else (none)) = some (r1, r2, r3, r4, r5) := by first | (rw [hy260]; with_reducible exact H) | (have H2_ := (Option.bind_some _ _).symm.trans H; rw [hy260]; with_reducible exact H2_) | (have H2_ := (Option.bind_some _ _).symm.trans H; with_reducible exact H2_) | with_reducible exact H | (rw [hy260]; exact H) | exact H
  have Ny260 := Aside0.mk hy260
  clear hy260
  obtain ⟨ji3, hji3⟩ : ∃ j_ : Int, (wrap64 ((Int.tmod a0 8) + 8)) = j_ := ⟨_, rfl⟩
  replace H : (if 0 ≤ (ji3) then (if (ji3) < (y260.length : Int) then (some ((rd_T25 y260 (ji3)).f0, (rd_T25 y260 (ji3)).f1, (rd_T25 y260 (ji3)).f2, (rd_T25 y260 (ji3)).f3, 0)) else (none)) else (none)) = some (r1, r2, r3, r4, r5) := by first | (rw [hji3] at H; exact H) | (simp only [hji3] at H ⊢; exact H) | exact H
  have hji3w : (IntKind.i64.wrap ((Int.tmod a0 8) + 8)) = ji3 := (i64_w _).trans hji3
  by_cases c4 : 0 ≤ (ji3)
  ·rw [if_pos c4] at H
   have c4b0 : decide (0 ≤ (ji3)) = true := decide_eq_true c4
   clear c4
   by_cases c5 : (ji3) < (y260.length : Int)
   ·rw [if_pos c5] at H
    have c5b0 : decide ((ji3) < (y260.length : Int)) = true := decide_eq_true c5
    clear c5
    simp only [Option.some.injEq, Prod.mk.injEq] at H
    obtain ⟨rfl, rfl, rfl, rfl, rfl⟩ := H
    go_enter Try.func26, Try.ntmps26
    go_wp2_with (first | ((with_reducible refine gate_dst (N := 2) rfl ?_); refine bx (N := 2) (cs := #[.int .i64 0, .int .i64 0, .int .i64 0, .int .i64 0, .int .i64 0]) (t := 27) ?_; intro gb259 hg w6 hbox hb; have BK259 := Aside0.mk hbox; have GW259 := sz hg HB; have GE259 := GW259; replace HB := bs HB hb; clear hb hbox hg) | ((with_reducible refine gate_dst (N := 18) rfl ?_); refine Kd.R_lit k25 _ 25 ?hg (N := 18) ?hd (xs := ([(⟨1, 0, 0, 0⟩ : S25), (⟨0, 1, 0, 0⟩ : S25), (⟨0, 0, 1, 0⟩ : S25), (⟨0, 0, 0, 1⟩ : S25), (⟨(-1), 0, 0, 0⟩ : S25), (⟨0, (-1), 0, 0⟩ : S25), (⟨0, 0, (-1), 0⟩ : S25), (⟨0, 0, 0, (-1)⟩ : S25)] : List (S25))) (inner := [.int .i64 1, .int .i64 0, .int .i64 0, .int .i64 0, .int .i64 0, .int .i64 1, .int .i64 0, .int .i64 0, .int .i64 0, .int .i64 0, .int .i64 1, .int .i64 0, .int .i64 0, .int .i64 0, .int .i64 0, .int .i64 1, .int .i64 (-1), .int .i64 0, .int .i64 0, .int .i64 0, .int .i64 0, .int .i64 (-1), .int .i64 0, .int .i64 0, .int .i64 0, .int .i64 0, .int .i64 (-1), .int .i64 0, .int .i64 0, .int .i64 0, .int .i64 0, .int .i64 (-1)]) (ok := fun _ => True) (okp := fun _ => True) ?hr ?hp (fun _ hk => hk) trivial (Below.refl _ _) (Nat.le_refl _) (by simp) ?_; (case hd => rfl); (case hg => rfl); (case hr => first | (go_simp; done) | (go_simp; rfl)); (case hp => exact (Reps.c4 (show Kd.M k25 _ _ _ (⟨1, 0, 0, 0⟩ : S25) [.int .i64 1, .int .i64 0, .int .i64 0, .int .i64 0] from (k25_mkM _ _ _ (⟨1, 0, 0, 0⟩ : S25) )) (Reps.c4 (show Kd.M k25 _ _ _ (⟨0, 1, 0, 0⟩ : S25) [.int .i64 0, .int .i64 1, .int .i64 0, .int .i64 0] from (k25_mkM _ _ _ (⟨0, 1, 0, 0⟩ : S25) )) (Reps.c4 (show Kd.M k25 _ _ _ (⟨0, 0, 1, 0⟩ : S25) [.int .i64 0, .int .i64 0, .int .i64 1, .int .i64 0] from (k25_mkM _ _ _ (⟨0, 0, 1, 0⟩ : S25) )) (Reps.c4 (show Kd.M k25 _ _ _ (⟨0, 0, 0, 1⟩ : S25) [.int .i64 0, .int .i64 0, .int .i64 0, .int .i64 1] from (k25_mkM _ _ _ (⟨0, 0, 0, 1⟩ : S25) )) (Reps.c4 (show Kd.M k25 _ _ _ (⟨(-1), 0, 0, 0⟩ : S25) [.int .i64 (-1), .int .i64 0, .int .i64 0, .int .i64 0] from (k25_mkM _ _ _ (⟨(-1), 0, 0, 0⟩ : S25) )) (Reps.c4 (show Kd.M k25 _ _ _ (⟨0, (-1), 0, 0⟩ : S25) [.int .i64 0, .int .i64 (-1), .int .i64 0, .int .i64 0] from (k25_mkM _ _ _ (⟨0, (-1), 0, 0⟩ : S25) )) (Reps.c4 (show Kd.M k25 _ _ _ (⟨0, 0, (-1), 0⟩ : S25) [.int .i64 0, .int .i64 0, .int .i64 (-1), .int .i64 0] from (k25_mkM _ _ _ (⟨0, 0, (-1), 0⟩ : S25) )) (Reps.c4 (show Kd.M k25 _ _ _ (⟨0, 0, 0, (-1)⟩ : S25) [.int .i64 0, .int .i64 0, .int .i64 0, .int .i64 (-1)] from (k25_mkM _ _ _ (⟨0, 0, 0, (-1)⟩ : S25) )) (Reps.none _ _)))))))))); intro v261 w7 ho8 hb hg_ hnew_; clear hg_ hnew_; (first | rw [← Ny260.out] at ho8 | (simp only [Int.reduceToNat] at ho8; rw [← Ny260.out] at ho8)); have HO262 := Aside0.mk (Kd.R_lower ho8 (below_size (bl HB))); replace BK259 := cb BK259 hb; replace HB := bs HB hb; clear hb ho8; obtain ⟨Ao9, co9, eo9⟩ := Kd.R_slice HO262.out; subst eo9; have p263 : 0 ≤ ((ji3) : Int) := of_decide_eq_true da; have q263 : (ji3) < (y260.length : Int) := of_decide_eq_true da; obtain ⟨ad263, e263, hx263_0, hx263_1, hx263_2, hx263_3⟩ := at_T25 (Kd.R_reads' HO262.out).2.2 (ji3) p263 q263; cases e263; replace p263 := eq_true p263; replace q263 := eq_true q263; obtain ⟨hcz10_0, hcz10_1, hcz10_2, hcz10_3, hcz10_4, hfz10_0, hfz10_1, hfz10_2, hfz10_3, hfz10_4⟩ := cel5 BK259))
    refine bodyPost_ret (results_cell_row rfl _ _ gb259 27 #[.int .i64 ((rd_T25 y260 (ji3)).f0), .int .i64 ((rd_T25 y260 (ji3)).f1), .int .i64 ((rd_T25 y260 (ji3)).f2), .int .i64 ((rd_T25 y260 (ji3)).f3), .int .i64 0] (0, 0) _ rfl (bp BK259) Try.underlying27 rfl (by kernel_rfl)) rfl ?_
    exact ⟨by first | rfl | (simp [errW_none, errW_some] <;> rfl) | (simp only [← hji3]; first | rfl | (simp [errW_none, errW_some] <;> rfl)) | (simp [*, errW_none, errW_some] <;> rfl), bl HB⟩
   ·rw [if_neg c5] at H
    exact absurd H (by simp)
  ·rw [if_neg c4] at H
   exact absurd H (by simp)
 ·rw [if_neg c2] at H
  have c2b0 : decide ((Int.tmod a0 8) < 0) = false := decide_eq_false c2
  clear c2
  obtain ⟨y264, hy264⟩ : ∃ y_ : List (S25), y_ = (([(⟨1, 0, 0, 0⟩ : S25), (⟨0, 1, 0, 0⟩ : S25), (⟨0, 0, 1, 0⟩ : S25), (⟨0, 0, 0, 1⟩ : S25), (⟨(-1), 0, 0, 0⟩ : S25), (⟨0, (-1), 0, 0⟩ : S25), (⟨0, 0, (-1), 0⟩ : S25), (⟨0, 0, 0, (-1)⟩ : S25)] : List (S25))) := ⟨_, rfl⟩
  replace H : (if 0 ≤ (Int.tmod a0 8) then (if (Int.tmod a0 8) < (y264.length : Int) then (some ((rd_T25 y264 (Int.tmod a0 8)).f0, (rd_T25 y264 (Int.tmod a0 8)).f1, (rd_T25 y264 (Int.tmod a0 8)).f2, (rd_T25 y264 (Int.tmod a0 8)).f3, 0)) else (none)) else (none)) = some (r1, r2, r3, r4, r5) := by first | (rw [hy264]; with_reducible exact H) | (have H2_ := (Option.bind_some _ _).symm.trans H; rw [hy264]; with_reducible exact H2_) | (have H2_ := (Option.bind_some _ _).symm.trans H; with_reducible exact H2_) | with_reducible exact H | (rw [hy264]; exact H) | exact H
  have Ny264 := Aside0.mk hy264
  clear hy264
  obtain ⟨ji11, hji11⟩ : ∃ j_ : Int, (Int.tmod a0 8) = j_ := ⟨_, rfl⟩
  replace H : (if 0 ≤ (ji11) then (if (ji11) < (y264.length : Int) then (some ((rd_T25 y264 (ji11)).f0, (rd_T25 y264 (ji11)).f1, (rd_T25 y264 (ji11)).f2, (rd_T25 y264 (ji11)).f3, 0)) else (none)) else (none)) = some (r1, r2, r3, r4, r5) := by first | (rw [hji11] at H; exact H) | (simp only [hji11] at H ⊢; exact H) | exact H
  (try rw [hji11] at c2b0)
  by_cases c12 : 0 ≤ (ji11)
  ·rw [if_pos c12] at H
   have c12b0 : decide (0 ≤ (ji11)) = true := decide_eq_true c12
   clear c12
   by_cases c13 : (ji11) < (y264.length : Int)
   ·rw [if_pos c13] at H
    have c13b0 : decide ((ji11) < (y264.length : Int)) = true := decide_eq_true c13
    clear c13
    simp only [Option.some.injEq, Prod.mk.injEq] at H
    obtain ⟨rfl, rfl, rfl, rfl, rfl⟩ := H
    go_enter Try.func26, Try.ntmps26
    go_wp2_with (first | ((with_reducible refine gate_dst (N := 2) rfl ?_); refine bx (N := 2) (cs := #[.int .i64 0, .int .i64 0, .int .i64 0, .int .i64 0, .int .i64 0]) (t := 27) ?_; intro gb259 hg w14 hbox hb; have BK259 := Aside0.mk hbox; have GW259 := sz hg HB; have GE259 := GW259; replace HB := bs HB hb; clear hb hbox hg) | ((with_reducible refine gate_dst (N := 18) rfl ?_); refine Kd.R_lit k25 _ 25 ?hg (N := 18) ?hd (xs := ([(⟨1, 0, 0, 0⟩ : S25), (⟨0, 1, 0, 0⟩ : S25), (⟨0, 0, 1, 0⟩ : S25), (⟨0, 0, 0, 1⟩ : S25), (⟨(-1), 0, 0, 0⟩ : S25), (⟨0, (-1), 0, 0⟩ : S25), (⟨0, 0, (-1), 0⟩ : S25), (⟨0, 0, 0, (-1)⟩ : S25)] : List (S25))) (inner := [.int .i64 1, .int .i64 0, .int .i64 0, .int .i64 0, .int .i64 0, .int .i64 1, .int .i64 0, .int .i64 0, .int .i64 0, .int .i64 0, .int .i64 1, .int .i64 0, .int .i64 0, .int .i64 0, .int .i64 0, .int .i64 1, .int .i64 (-1), .int .i64 0, .int .i64 0, .int .i64 0, .int .i64 0, .int .i64 (-1), .int .i64 0, .int .i64 0, .int .i64 0, .int .i64 0, .int .i64 (-1), .int .i64 0, .int .i64 0, .int .i64 0, .int .i64 0, .int .i64 (-1)]) (ok := fun _ => True) (okp := fun _ => True) ?hr ?hp (fun _ hk => hk) trivial (Below.refl _ _) (Nat.le_refl _) (by simp) ?_; (case hd => rfl); (case hg => rfl); (case hr => first | (go_simp; done) | (go_simp; rfl)); (case hp => exact (Reps.c4 (show Kd.M k25 _ _ _ (⟨1, 0, 0, 0⟩ : S25) [.int .i64 1, .int .i64 0, .int .i64 0, .int .i64 0] from (k25_mkM _ _ _ (⟨1, 0, 0, 0⟩ : S25) )) (Reps.c4 (show Kd.M k25 _ _ _ (⟨0, 1, 0, 0⟩ : S25) [.int .i64 0, .int .i64 1, .int .i64 0, .int .i64 0] from (k25_mkM _ _ _ (⟨0, 1, 0, 0⟩ : S25) )) (Reps.c4 (show Kd.M k25 _ _ _ (⟨0, 0, 1, 0⟩ : S25) [.int .i64 0, .int .i64 0, .int .i64 1, .int .i64 0] from (k25_mkM _ _ _ (⟨0, 0, 1, 0⟩ : S25) )) (Reps.c4 (show Kd.M k25 _ _ _ (⟨0, 0, 0, 1⟩ : S25) [.int .i64 0, .int .i64 0, .int .i64 0, .int .i64 1] from (k25_mkM _ _ _ (⟨0, 0, 0, 1⟩ : S25) )) (Reps.c4 (show Kd.M k25 _ _ _ (⟨(-1), 0, 0, 0⟩ : S25) [.int .i64 (-1), .int .i64 0, .int .i64 0, .int .i64 0] from (k25_mkM _ _ _ (⟨(-1), 0, 0, 0⟩ : S25) )) (Reps.c4 (show Kd.M k25 _ _ _ (⟨0, (-1), 0, 0⟩ : S25) [.int .i64 0, .int .i64 (-1), .int .i64 0, .int .i64 0] from (k25_mkM _ _ _ (⟨0, (-1), 0, 0⟩ : S25) )) (Reps.c4 (show Kd.M k25 _ _ _ (⟨0, 0, (-1), 0⟩ : S25) [.int .i64 0, .int .i64 0, .int .i64 (-1), .int .i64 0] from (k25_mkM _ _ _ (⟨0, 0, (-1), 0⟩ : S25) )) (Reps.c4 (show Kd.M k25 _ _ _ (⟨0, 0, 0, (-1)⟩ : S25) [.int .i64 0, .int .i64 0, .int .i64 0, .int .i64 (-1)] from (k25_mkM _ _ _ (⟨0, 0, 0, (-1)⟩ : S25) )) (Reps.none _ _)))))))))); intro v265 w15 ho16 hb hg_ hnew_; clear hg_ hnew_; (first | rw [← Ny264.out] at ho16 | (simp only [Int.reduceToNat] at ho16; rw [← Ny264.out] at ho16)); have HO266 := Aside0.mk (Kd.R_lower ho16 (below_size (bl HB))); replace BK259 := cb BK259 hb; replace HB := bs HB hb; clear hb ho16; obtain ⟨Ao17, co17, eo17⟩ := Kd.R_slice HO266.out; subst eo17; have p267 : 0 ≤ ((ji11) : Int) := of_decide_eq_true da; have q267 : (ji11) < (y264.length : Int) := of_decide_eq_true da; obtain ⟨ad267, e267, hx267_0, hx267_1, hx267_2, hx267_3⟩ := at_T25 (Kd.R_reads' HO266.out).2.2 (ji11) p267 q267; cases e267; replace p267 := eq_true p267; replace q267 := eq_true q267; obtain ⟨hcz18_0, hcz18_1, hcz18_2, hcz18_3, hcz18_4, hfz18_0, hfz18_1, hfz18_2, hfz18_3, hfz18_4⟩ := cel5 BK259))
    refine bodyPost_ret (results_cell_row rfl _ _ gb259 27 #[.int .i64 ((rd_T25 y264 (ji11)).f0), .int .i64 ((rd_T25 y264 (ji11)).f1), .int .i64 ((rd_T25 y264 (ji11)).f2), .int .i64 ((rd_T25 y264 (ji11)).f3), .int .i64 0] (0, 0) _ rfl (bp BK259) Try.underlying27 rfl (by kernel_rfl)) rfl ?_
    exact ⟨by first | rfl | (simp [errW_none, errW_some] <;> rfl) | (simp only [← hji11]; first | rfl | (simp [errW_none, errW_some] <;> rfl)) | (simp [*, errW_none, errW_some] <;> rfl), bl HB⟩
   ·rw [if_neg c13] at H
    exact absurd H (by simp)
  ·rw [if_neg c12] at H
   exact absurd H (by simp)
/-! ### spec_MulDOmega: function 27 -/
def spec_MulDOmega.f (k : Nat) (a0_0 : Int) (a0_1 : Int) (a0_2 : Int) (a0_3 : Int) (a0_4 : Int) (a1_0 : Int) (a1_1 : Int) (a1_2 : Int) (a1_3 : Int) (a1_4 : Int) : Option (Int × Int × Int × Int × Int × Bool) := (spec_MulZOmega.f a0_0 a0_1 a0_2 a0_3 a1_0 a1_1 a1_2 a1_3).bind fun bt271 => ((spec_IsValidDOmega.f a0_0 a0_1 a0_2 a0_3 a0_4).bind fun t277 => (if t277 = true then ((spec_IsValidDOmega.f a1_0 a1_1 a1_2 a1_3 a1_4).bind fun t278 => (if t278 = true then (if bt271.2.2.2.2 = true then ((spec_NewDOmega.f k bt271.1 bt271.2.1 bt271.2.2.1 bt271.2.2.2.1 (wrap64 (a0_4 + a1_4))).bind fun bt279 => (some (bt279.1, bt279.2.1, bt279.2.2.1, bt279.2.2.2.1, bt279.2.2.2.2.1, bt279.2.2.2.2.2))) else (some (0, 0, 0, 0, 0, false))) else (some (0, 0, 0, 0, 0, false)))) else (some (0, 0, 0, 0, 0, false))))
set_option maxHeartbeats 8000000 in
set_option maxRecDepth 100000 in
theorem spec_MulDOmega.calls (k : Nat) (a0_0 : Int) (a0_1 : Int) (a0_2 : Int) (a0_3 : Int) (a0_4 : Int) (a1_0 : Int) (a1_1 : Int) (a1_2 : Int) (a1_3 : Int) (a1_4 : Int) (r1 : Int) (r2 : Int) (r3 : Int) (r4 : Int) (r5 : Int) (r6 : Bool) (w : World) (h : spec_MulDOmega.f k a0_0 a0_1 a0_2 a0_3 a0_4 a1_0 a1_1 a1_2 a1_3 a1_4 = some (r1, r2, r3, r4, r5, r6)) :
  Calls Try.prog 27 #[.agg #[.int .i64 a0_0, .int .i64 a0_1, .int .i64 a0_2, .int .i64 a0_3, .int .i64 a0_4], .agg #[.int .i64 a1_0, .int .i64 a1_1, .int .i64 a1_2, .int .i64 a1_3, .int .i64 a1_4]] w fun e w' => e = .returned (.tuple #[.agg #[.int .i64 r1, .int .i64 r2, .int .i64 r3, .int .i64 r4, .int .i64 r5], .bool r6]) ∧ Below w.heap.size w w' := by
 have hu27 := Try.underlying27
 have hu25 := Try.underlying25
 have HB := Aside0.mk (Below.refl w.heap.size w)
 have H := h
 clear h
 unfold spec_MulDOmega.f at H
 replace H := Option.bind_eq_some_iff.mp H
 obtain ⟨⟨t271, t272, t273, t274, t275⟩, A30, H⟩ := H
 try dsimp only at H
 have A3 := Aside0.mk A30
 clear A30
 replace H := Option.bind_eq_some_iff.mp H
 obtain ⟨t277, A40, H⟩ := H
 try dsimp only at H
 have A4 := Aside0.mk A40
 clear A40
 by_cases c5 : t277 = true
 ·subst c5
  rw [if_pos rfl] at H
  replace H := Option.bind_eq_some_iff.mp H
  obtain ⟨t278, A60, H⟩ := H
  try dsimp only at H
  have A6 := Aside0.mk A60
  clear A60
  by_cases c7 : t278 = true
  ·subst c7
   rw [if_pos rfl] at H
   by_cases c8 : t275 = true
   ·subst c8
    rw [if_pos rfl] at H
    replace H := Option.bind_eq_some_iff.mp H
    obtain ⟨⟨t279, t280, t281, t282, t283, t284⟩, A90, H⟩ := H
    try dsimp only at H
    have A9 := Aside0.mk A90
    clear A90
    simp only [Option.some.injEq, Prod.mk.injEq] at H
    obtain ⟨rfl, rfl, rfl, rfl, rfl, rfl⟩ := H
    go_enter Try.func27, Try.ntmps27
    go_wp2_with (first | ((with_reducible refine gate_dst (N := 2) rfl ?_); refine bx (N := 2) (cs := #[.int .i64 a0_0, .int .i64 a0_1, .int .i64 a0_2, .int .i64 a0_3, .int .i64 a0_4]) (t := 27) ?_; intro gb268 hg w10 hbox hb; have BK268 := Aside0.mk hbox; have GW268 := sz hg HB; have GE268 := GW268; replace HB := bs HB hb; clear hb hbox hg) | ((with_reducible refine gate_dst (N := 3) rfl ?_); refine bx (N := 3) (cs := #[.int .i64 a1_0, .int .i64 a1_1, .int .i64 a1_2, .int .i64 a1_3, .int .i64 a1_4]) (t := 27) ?_; intro gb269 hg w11 hbox hb; have BK269 := Aside0.mk hbox; have GW269 := sz hg HB; have GE269 := GW269; have NB268_269 := nl hg BK268; have NB269_268 := ng hg BK268; replace BK268 := cb BK268 hb; replace HB := bs HB hb; clear hb hbox hg) | ((with_reducible refine gate_dst (N := 4) rfl ?_); refine bx (N := 4) (cs := #[.int .i64 0, .int .i64 0, .int .i64 0, .int .i64 0, .int .i64 0]) (t := 27) ?_; intro gb270 hg w12 hbox hb; have BK270 := Aside0.mk hbox; have GW270 := sz hg HB; have GE270 := GW270; have NB268_270 := nl hg BK268; have NB270_268 := ng hg BK268; have NB269_270 := nl hg BK269; have NB270_269 := ng hg BK269; replace BK268 := cb BK268 hb; replace BK269 := cb BK269 hb; replace HB := bs HB hb; clear hb hbox hg; have hnb13 := NB268_269.out; have hnc13 := NB269_268.out; have hnb14 := NB268_270.out; have hnc14 := NB270_268.out; obtain ⟨hcz15_0, hcz15_1, hcz15_2, hcz15_3, hcz15_4, hfz15_0, hfz15_1, hfz15_2, hfz15_3, hfz15_4⟩ := cel5 BK268; have hnb16 := NB269_270.out; have hnc16 := NB270_269.out; obtain ⟨hcz17_0, hcz17_1, hcz17_2, hcz17_3, hcz17_4, hfz17_0, hfz17_1, hfz17_2, hfz17_3, hfz17_4⟩ := cel5 BK269) | ((with_reducible refine gate_callee (f := 59) rfl ?_); refine gL (some 13) Try.func59 #[.agg #[.int .i64 a0_0, .int .i64 a0_1, .int .i64 a0_2, .int .i64 a0_3], .agg #[.int .i64 a1_0, .int .i64 a1_1, .int .i64 a1_2, .int .i64 a1_3]] ?_; (with_reducible refine (spec_MulZOmega.calls a0_0 a0_1 a0_2 a0_3 a1_0 a1_1 a1_2 a1_3 t271 t272 t273 t274 true _ A3.out).mono ?_); rintro e w18 ⟨rfl, hb⟩; refine ⟨_, rfl, ?_⟩; replace BK268 := cb BK268 hb; replace BK269 := cb BK269 hb; replace BK270 := cb BK270 hb; replace HB := bs HB hb; (try clear hb); (try clear hb2); (try clear hk); (try clear hi)) | ((with_reducible refine gate_dst (N := 6) rfl ?_); refine bx (N := 6) (cs := #[.int .i64 0, .int .i64 0, .int .i64 0, .int .i64 0]) (t := 25) ?_; intro gb276 hg w19 hbox hb; have BK276 := Aside0.mk hbox; have GW276 := sz hg HB; have GE276 := GW276; have NB268_276 := nl hg BK268; have NB276_268 := ng hg BK268; have NB269_276 := nl hg BK269; have NB276_269 := ng hg BK269; have NB270_276 := nl hg BK270; have NB276_270 := ng hg BK270; replace BK268 := cb BK268 hb; replace BK269 := cb BK269 hb; replace BK270 := cb BK270 hb; replace HB := bs HB hb; clear hb hbox hg; have hnb20 := NB276_268.out; have hnc20 := NB268_276.out; have hnb21 := NB276_269.out; have hnc21 := NB269_276.out; have hnb22 := NB276_270.out; have hnc22 := NB270_276.out; obtain ⟨hcz23_0, hcz23_1, hcz23_2, hcz23_3, hfz23_0, hfz23_1, hfz23_2, hfz23_3⟩ := cel4 BK276; obtain ⟨hcz24_0, hcz24_1, hcz24_2, hcz24_3, hcz24_4, hfz24_0, hfz24_1, hfz24_2, hfz24_3, hfz24_4⟩ := cel5 BK268) | ((with_reducible refine gate_callee (f := 54) rfl ?_); refine gL (some 17) Try.func54 #[.agg #[.int .i64 a0_0, .int .i64 a0_1, .int .i64 a0_2, .int .i64 a0_3, .int .i64 a0_4]] ?_; (with_reducible refine (spec_IsValidDOmega.calls a0_0 a0_1 a0_2 a0_3 a0_4 true _ A4.out).mono ?_); rintro e w25 ⟨rfl, hb⟩; refine ⟨_, rfl, ?_⟩; replace BK268 := cp BK268 hb; replace BK269 := cp BK269 hb; replace BK270 := cp BK270 hb; replace BK276 := cp BK276 hb; replace HB := bs HB hb; (try clear hb); (try clear hb2); (try clear hk); (try clear hi); obtain ⟨hcz26_0, hcz26_1, hcz26_2, hcz26_3, hcz26_4, hfz26_0, hfz26_1, hfz26_2, hfz26_3, hfz26_4⟩ := cel5 BK269) | (go_at_call 54; (with_reducible refine (spec_IsValidDOmega.calls a1_0 a1_1 a1_2 a1_3 a1_4 true _ A6.out).mono ?_); rintro e w27 ⟨rfl, hb⟩; replace BK268 := cb BK268 hb; replace BK269 := cb BK269 hb; replace BK270 := cb BK270 hb; replace BK276 := cb BK276 hb; replace HB := bs HB hb; (try clear hb); (try clear hb2); (try clear hk); (try clear hi); obtain ⟨hcz28_0, hcz28_1, hcz28_2, hcz28_3, hfz28_0, hfz28_1, hfz28_2, hfz28_3⟩ := cel4 BK276; obtain ⟨hcz29_0, hcz29_1, hcz29_2, hcz29_3, hcz29_4, hfz29_0, hfz29_1, hfz29_2, hfz29_3, hfz29_4⟩ := cel5 BK268; obtain ⟨hcz30_0, hcz30_1, hcz30_2, hcz30_3, hcz30_4, hfz30_0, hfz30_1, hfz30_2, hfz30_3, hfz30_4⟩ := cel5 BK269) | ((with_reducible refine gate_callee (f := 58) rfl ?_); refine gL (some 35) Try.func58 #[.agg #[.int .i64 t271, .int .i64 t272, .int .i64 t273, .int .i64 t274], .int .i64 (wrap64 (a0_4 + a1_4))] ?_; (with_reducible refine (spec_NewDOmega.calls k t271 t272 t273 t274 (wrap64 (a0_4 + a1_4)) t279 t280 t281 t282 t283 t284 _ A9.out).mono ?_); rintro e w31 ⟨rfl, hb⟩; refine ⟨_, rfl, ?_⟩; replace BK268 := cb BK268 hb; replace BK269 := cb BK269 hb; replace BK270 := cb BK270 hb; replace BK276 := cb BK276 hb; replace HB := bs HB hb; (try clear hb); (try clear hb2); (try clear hk); (try clear hi); obtain ⟨hcz32_0, hcz32_1, hcz32_2, hcz32_3, hcz32_4, hfz32_0, hfz32_1, hfz32_2, hfz32_3, hfz32_4⟩ := cel5 BK270))
    refine bodyPost_ret (results_ct rfl _ _ gb270 27 #[.int .i64 t279, .int .i64 t280, .int .i64 t281, .int .i64 t282, .int .i64 t283] (0, 0) _ rfl (bp BK270) Try.underlying27 rfl (by kernel_rfl)) rfl ?_
    exact ⟨er, bl HB⟩
   ·replace c8 := Bool.eq_false_iff.mpr c8
    subst c8
    rw [nf] at H
    simp only [Option.some.injEq, Prod.mk.injEq] at H
    obtain ⟨rfl, rfl, rfl, rfl, rfl, rfl⟩ := H
    go_enter Try.func27, Try.ntmps27
    go_wp2_with (first | ((with_reducible refine gate_dst (N := 2) rfl ?_); refine bx (N := 2) (cs := #[.int .i64 a0_0, .int .i64 a0_1, .int .i64 a0_2, .int .i64 a0_3, .int .i64 a0_4]) (t := 27) ?_; intro gb268 hg w33 hbox hb; have BK268 := Aside0.mk hbox; have GW268 := sz hg HB; have GE268 := GW268; replace HB := bs HB hb; clear hb hbox hg) | ((with_reducible refine gate_dst (N := 3) rfl ?_); refine bx (N := 3) (cs := #[.int .i64 a1_0, .int .i64 a1_1, .int .i64 a1_2, .int .i64 a1_3, .int .i64 a1_4]) (t := 27) ?_; intro gb269 hg w34 hbox hb; have BK269 := Aside0.mk hbox; have GW269 := sz hg HB; have GE269 := GW269; have NB268_269 := nl hg BK268; have NB269_268 := ng hg BK268; replace BK268 := cb BK268 hb; replace HB := bs HB hb; clear hb hbox hg) | ((with_reducible refine gate_dst (N := 4) rfl ?_); refine bx (N := 4) (cs := #[.int .i64 0, .int .i64 0, .int .i64 0, .int .i64 0, .int .i64 0]) (t := 27) ?_; intro gb270 hg w35 hbox hb; have BK270 := Aside0.mk hbox; have GW270 := sz hg HB; have GE270 := GW270; have NB268_270 := nl hg BK268; have NB270_268 := ng hg BK268; have NB269_270 := nl hg BK269; have NB270_269 := ng hg BK269; replace BK268 := cb BK268 hb; replace BK269 := cb BK269 hb; replace HB := bs HB hb; clear hb hbox hg; have hnb36 := NB268_269.out; have hnc36 := NB269_268.out; have hnb37 := NB268_270.out; have hnc37 := NB270_268.out; obtain ⟨hcz38_0, hcz38_1, hcz38_2, hcz38_3, hcz38_4, hfz38_0, hfz38_1, hfz38_2, hfz38_3, hfz38_4⟩ := cel5 BK268; have hnb39 := NB269_270.out; have hnc39 := NB270_269.out; obtain ⟨hcz40_0, hcz40_1, hcz40_2, hcz40_3, hcz40_4, hfz40_0, hfz40_1, hfz40_2, hfz40_3, hfz40_4⟩ := cel5 BK269) | ((with_reducible refine gate_callee (f := 59) rfl ?_); refine gL (some 13) Try.func59 #[.agg #[.int .i64 a0_0, .int .i64 a0_1, .int .i64 a0_2, .int .i64 a0_3], .agg #[.int .i64 a1_0, .int .i64 a1_1, .int .i64 a1_2, .int .i64 a1_3]] ?_; (with_reducible refine (spec_MulZOmega.calls a0_0 a0_1 a0_2 a0_3 a1_0 a1_1 a1_2 a1_3 t271 t272 t273 t274 false _ A3.out).mono ?_); rintro e w41 ⟨rfl, hb⟩; refine ⟨_, rfl, ?_⟩; replace BK268 := cb BK268 hb; replace BK269 := cb BK269 hb; replace BK270 := cb BK270 hb; replace HB := bs HB hb; (try clear hb); (try clear hb2); (try clear hk); (try clear hi)) | ((with_reducible refine gate_dst (N := 6) rfl ?_); refine bx (N := 6) (cs := #[.int .i64 0, .int .i64 0, .int .i64 0, .int .i64 0]) (t := 25) ?_; intro gb276 hg w42 hbox hb; have BK276 := Aside0.mk hbox; have GW276 := sz hg HB; have GE276 := GW276; have NB268_276 := nl hg BK268; have NB276_268 := ng hg BK268; have NB269_276 := nl hg BK269; have NB276_269 := ng hg BK269; have NB270_276 := nl hg BK270; have NB276_270 := ng hg BK270; replace BK268 := cb BK268 hb; replace BK269 := cb BK269 hb; replace BK270 := cb BK270 hb; replace HB := bs HB hb; clear hb hbox hg; have hnb43 := NB276_268.out; have hnc43 := NB268_276.out; have hnb44 := NB276_269.out; have hnc44 := NB269_276.out; have hnb45 := NB276_270.out; have hnc45 := NB270_276.out; obtain ⟨hcz46_0, hcz46_1, hcz46_2, hcz46_3, hfz46_0, hfz46_1, hfz46_2, hfz46_3⟩ := cel4 BK276; obtain ⟨hcz47_0, hcz47_1, hcz47_2, hcz47_3, hcz47_4, hfz47_0, hfz47_1, hfz47_2, hfz47_3, hfz47_4⟩ := cel5 BK268) | ((with_reducible refine gate_callee (f := 54) rfl ?_); refine gL (some 17) Try.func54 #[.agg #[.int .i64 a0_0, .int .i64 a0_1, .int .i64 a0_2, .int .i64 a0_3, .int .i64 a0_4]] ?_; (with_reducible refine (spec_IsValidDOmega.calls a0_0 a0_1 a0_2 a0_3 a0_4 true _ A4.out).mono ?_); rintro e w48 ⟨rfl, hb⟩; refine ⟨_, rfl, ?_⟩; replace BK268 := cp BK268 hb; replace BK269 := cp BK269 hb; replace BK270 := cp BK270 hb; replace BK276 := cp BK276 hb; replace HB := bs HB hb; (try clear hb); (try clear hb2); (try clear hk); (try clear hi); obtain ⟨hcz49_0, hcz49_1, hcz49_2, hcz49_3, hcz49_4, hfz49_0, hfz49_1, hfz49_2, hfz49_3, hfz49_4⟩ := cel5 BK269) | (go_at_call 54; (with_reducible refine (spec_IsValidDOmega.calls a1_0 a1_1 a1_2 a1_3 a1_4 true _ A6.out).mono ?_); rintro e w50 ⟨rfl, hb⟩; replace BK268 := cb BK268 hb; replace BK269 := cb BK269 hb; replace BK270 := cb BK270 hb; replace BK276 := cb BK276 hb; replace HB := bs HB hb; (try clear hb); (try clear hb2); (try clear hk); (try clear hi); obtain ⟨hcz51_0, hcz51_1, hcz51_2, hcz51_3, hcz51_4, hfz51_0, hfz51_1, hfz51_2, hfz51_3, hfz51_4⟩ := cel5 BK270))
    refine bodyPost_ret (results_ct rfl _ _ gb270 27 #[.int .i64 0, .int .i64 0, .int .i64 0, .int .i64 0, .int .i64 0] (0, 0) _ rfl (bp BK270) Try.underlying27 rfl (by kernel_rfl)) rfl ?_
    exact ⟨er, bl HB⟩
  ·replace c7 := Bool.eq_false_iff.mpr c7
   subst c7
   rw [nf] at H
   simp only [Option.some.injEq, Prod.mk.injEq] at H
   obtain ⟨rfl, rfl, rfl, rfl, rfl, rfl⟩ := H
   go_enter Try.func27, Try.ntmps27
   go_wp2_with (first | ((with_reducible refine gate_dst (N := 2) rfl ?_); refine bx (N := 2) (cs := #[.int .i64 a0_0, .int .i64 a0_1, .int .i64 a0_2, .int .i64 a0_3, .int .i64 a0_4]) (t := 27) ?_; intro gb268 hg w52 hbox hb; have BK268 := Aside0.mk hbox; have GW268 := sz hg HB; have GE268 := GW268; replace HB := bs HB hb; clear hb hbox hg) | ((with_reducible refine gate_dst (N := 3) rfl ?_); refine bx (N := 3) (cs := #[.int .i64 a1_0, .int .i64 a1_1, .int .i64 a1_2, .int .i64 a1_3, .int .i64 a1_4]) (t := 27) ?_; intro gb269 hg w53 hbox hb; have BK269 := Aside0.mk hbox; have GW269 := sz hg HB; have GE269 := GW269; have NB268_269 := nl hg BK268; have NB269_268 := ng hg BK268; replace BK268 := cb BK268 hb; replace HB := bs HB hb; clear hb hbox hg) | ((with_reducible refine gate_dst (N := 4) rfl ?_); refine bx (N := 4) (cs := #[.int .i64 0, .int .i64 0, .int .i64 0, .int .i64 0, .int .i64 0]) (t := 27) ?_; intro gb270 hg w54 hbox hb; have BK270 := Aside0.mk hbox; have GW270 := sz hg HB; have GE270 := GW270; have NB268_270 := nl hg BK268; have NB270_268 := ng hg BK268; have NB269_270 := nl hg BK269; have NB270_269 := ng hg BK269; replace BK268 := cb BK268 hb; replace BK269 := cb BK269 hb; replace HB := bs HB hb; clear hb hbox hg; have hnb55 := NB268_269.out; have hnc55 := NB269_268.out; have hnb56 := NB268_270.out; have hnc56 := NB270_268.out; obtain ⟨hcz57_0, hcz57_1, hcz57_2, hcz57_3, hcz57_4, hfz57_0, hfz57_1, hfz57_2, hfz57_3, hfz57_4⟩ := cel5 BK268; have hnb58 := NB269_270.out; have hnc58 := NB270_269.out; obtain ⟨hcz59_0, hcz59_1, hcz59_2, hcz59_3, hcz59_4, hfz59_0, hfz59_1, hfz59_2, hfz59_3, hfz59_4⟩ := cel5 BK269) | ((with_reducible refine gate_callee (f := 59) rfl ?_); refine gL (some 13) Try.func59 #[.agg #[.int .i64 a0_0, .int .i64 a0_1, .int .i64 a0_2, .int .i64 a0_3], .agg #[.int .i64 a1_0, .int .i64 a1_1, .int .i64 a1_2, .int .i64 a1_3]] ?_; (with_reducible refine (spec_MulZOmega.calls a0_0 a0_1 a0_2 a0_3 a1_0 a1_1 a1_2 a1_3 t271 t272 t273 t274 t275 _ A3.out).mono ?_); rintro e w60 ⟨rfl, hb⟩; refine ⟨_, rfl, ?_⟩; replace BK268 := cb BK268 hb; replace BK269 := cb BK269 hb; replace BK270 := cb BK270 hb; replace HB := bs HB hb; (try clear hb); (try clear hb2); (try clear hk); (try clear hi)) | ((with_reducible refine gate_dst (N := 6) rfl ?_); refine bx (N := 6) (cs := #[.int .i64 0, .int .i64 0, .int .i64 0, .int .i64 0]) (t := 25) ?_; intro gb276 hg w61 hbox hb; have BK276 := Aside0.mk hbox; have GW276 := sz hg HB; have GE276 := GW276; have NB268_276 := nl hg BK268; have NB276_268 := ng hg BK268; have NB269_276 := nl hg BK269; have NB276_269 := ng hg BK269; have NB270_276 := nl hg BK270; have NB276_270 := ng hg BK270; replace BK268 := cb BK268 hb; replace BK269 := cb BK269 hb; replace BK270 := cb BK270 hb; replace HB := bs HB hb; clear hb hbox hg; have hnb62 := NB276_268.out; have hnc62 := NB268_276.out; have hnb63 := NB276_269.out; have hnc63 := NB269_276.out; have hnb64 := NB276_270.out; have hnc64 := NB270_276.out; obtain ⟨hcz65_0, hcz65_1, hcz65_2, hcz65_3, hfz65_0, hfz65_1, hfz65_2, hfz65_3⟩ := cel4 BK276; obtain ⟨hcz66_0, hcz66_1, hcz66_2, hcz66_3, hcz66_4, hfz66_0, hfz66_1, hfz66_2, hfz66_3, hfz66_4⟩ := cel5 BK268) | ((with_reducible refine gate_callee (f := 54) rfl ?_); refine gL (some 17) Try.func54 #[.agg #[.int .i64 a0_0, .int .i64 a0_1, .int .i64 a0_2, .int .i64 a0_3, .int .i64 a0_4]] ?_; (with_reducible refine (spec_IsValidDOmega.calls a0_0 a0_1 a0_2 a0_3 a0_4 true _ A4.out).mono ?_); rintro e w67 ⟨rfl, hb⟩; refine ⟨_, rfl, ?_⟩; replace BK268 := cp BK268 hb; replace BK269 := cp BK269 hb; replace BK270 := cp BK270 hb; replace BK276 := cp BK276 hb; replace HB := bs HB hb; (try clear hb); (try clear hb2); (try clear hk); (try clear hi); obtain ⟨hcz68_0, hcz68_1, hcz68_2, hcz68_3, hcz68_4, hfz68_0, hfz68_1, hfz68_2, hfz68_3, hfz68_4⟩ := cel5 BK269) | (go_at_call 54; (with_reducible refine (spec_IsValidDOmega.calls a1_0 a1_1 a1_2 a1_3 a1_4 false _ A6.out).mono ?_); rintro e w69 ⟨rfl, hb⟩; replace BK268 := cb BK268 hb; replace BK269 := cb BK269 hb; replace BK270 := cb BK270 hb; replace BK276 := cb BK276 hb; replace HB := bs HB hb; (try clear hb); (try clear hb2); (try clear hk); (try clear hi); obtain ⟨hcz70_0, hcz70_1, hcz70_2, hcz70_3, hcz70_4, hfz70_0, hfz70_1, hfz70_2, hfz70_3, hfz70_4⟩ := cel5 BK270))
   refine bodyPost_ret (results_ct rfl _ _ gb270 27 #[.int .i64 0, .int .i64 0, .int .i64 0, .int .i64 0, .int .i64 0] (0, 0) _ rfl (bp BK270) Try.underlying27 rfl (by kernel_rfl)) rfl ?_
   exact ⟨er, bl HB⟩
 ·replace c5 := Bool.eq_false_iff.mpr c5
  subst c5
  rw [nf] at H
  simp only [Option.some.injEq, Prod.mk.injEq] at H
  obtain ⟨rfl, rfl, rfl, rfl, rfl, rfl⟩ := H
  go_enter Try.func27, Try.ntmps27
  go_wp2_with (first | ((with_reducible refine gate_dst (N := 2) rfl ?_); refine bx (N := 2) (cs := #[.int .i64 a0_0, .int .i64 a0_1, .int .i64 a0_2, .int .i64 a0_3, .int .i64 a0_4]) (t := 27) ?_; intro gb268 hg w71 hbox hb; have BK268 := Aside0.mk hbox; have GW268 := sz hg HB; have GE268 := GW268; replace HB := bs HB hb; clear hb hbox hg) | ((with_reducible refine gate_dst (N := 3) rfl ?_); refine bx (N := 3) (cs := #[.int .i64 a1_0, .int .i64 a1_1, .int .i64 a1_2, .int .i64 a1_3, .int .i64 a1_4]) (t := 27) ?_; intro gb269 hg w72 hbox hb; have BK269 := Aside0.mk hbox; have GW269 := sz hg HB; have GE269 := GW269; have NB268_269 := nl hg BK268; have NB269_268 := ng hg BK268; replace BK268 := cb BK268 hb; replace HB := bs HB hb; clear hb hbox hg) | ((with_reducible refine gate_dst (N := 4) rfl ?_); refine bx (N := 4) (cs := #[.int .i64 0, .int .i64 0, .int .i64 0, .int .i64 0, .int .i64 0]) (t := 27) ?_; intro gb270 hg w73 hbox hb; have BK270 := Aside0.mk hbox; have GW270 := sz hg HB; have GE270 := GW270; have NB268_270 := nl hg BK268; have NB270_268 := ng hg BK268; have NB269_270 := nl hg BK269; have NB270_269 := ng hg BK269; replace BK268 := cb BK268 hb; replace BK269 := cb BK269 hb; replace HB := bs HB hb; clear hb hbox hg; have hnb74 := NB268_269.out; have hnc74 := NB269_268.out; have hnb75 := NB268_270.out; have hnc75 := NB270_268.out; obtain ⟨hcz76_0, hcz76_1, hcz76_2, hcz76_3, hcz76_4, hfz76_0, hfz76_1, hfz76_2, hfz76_3, hfz76_4⟩ := cel5 BK268; have hnb77 := NB269_270.out; have hnc77 := NB270_269.out; obtain ⟨hcz78_0, hcz78_1, hcz78_2, hcz78_3, hcz78_4, hfz78_0, hfz78_1, hfz78_2, hfz78_3, hfz78_4⟩ := cel5 BK269) | ((with_reducible refine gate_callee (f := 59) rfl ?_); refine gL (some 13) Try.func59 #[.agg #[.int .i64 a0_0, .int .i64 a0_1, .int .i64 a0_2, .int .i64 a0_3], .agg #[.int .i64 a1_0, .int .i64 a1_1, .int .i64 a1_2, .int .i64 a1_3]] ?_; (with_reducible refine (spec_MulZOmega.calls a0_0 a0_1 a0_2 a0_3 a1_0 a1_1 a1_2 a1_3 t271 t272 t273 t274 t275 _ A3.out).mono ?_); rintro e w79 ⟨rfl, hb⟩; refine ⟨_, rfl, ?_⟩; replace BK268 := cb BK268 hb; replace BK269 := cb BK269 hb; replace BK270 := cb BK270 hb; replace HB := bs HB hb; (try clear hb); (try clear hb2); (try clear hk); (try clear hi)) | ((with_reducible refine gate_dst (N := 6) rfl ?_); refine bx (N := 6) (cs := #[.int .i64 0, .int .i64 0, .int .i64 0, .int .i64 0]) (t := 25) ?_; intro gb276 hg w80 hbox hb; have BK276 := Aside0.mk hbox; have GW276 := sz hg HB; have GE276 := GW276; have NB268_276 := nl hg BK268; have NB276_268 := ng hg BK268; have NB269_276 := nl hg BK269; have NB276_269 := ng hg BK269; have NB270_276 := nl hg BK270; have NB276_270 := ng hg BK270; replace BK268 := cb BK268 hb; replace BK269 := cb BK269 hb; replace BK270 := cb BK270 hb; replace HB := bs HB hb; clear hb hbox hg; have hnb81 := NB276_268.out; have hnc81 := NB268_276.out; have hnb82 := NB276_269.out; have hnc82 := NB269_276.out; have hnb83 := NB276_270.out; have hnc83 := NB270_276.out; obtain ⟨hcz84_0, hcz84_1, hcz84_2, hcz84_3, hfz84_0, hfz84_1, hfz84_2, hfz84_3⟩ := cel4 BK276; obtain ⟨hcz85_0, hcz85_1, hcz85_2, hcz85_3, hcz85_4, hfz85_0, hfz85_1, hfz85_2, hfz85_3, hfz85_4⟩ := cel5 BK268) | ((with_reducible refine gate_callee (f := 54) rfl ?_); refine gL (some 17) Try.func54 #[.agg #[.int .i64 a0_0, .int .i64 a0_1, .int .i64 a0_2, .int .i64 a0_3, .int .i64 a0_4]] ?_; (with_reducible refine (spec_IsValidDOmega.calls a0_0 a0_1 a0_2 a0_3 a0_4 false _ A4.out).mono ?_); rintro e w86 ⟨rfl, hb⟩; refine ⟨_, rfl, ?_⟩; replace BK268 := cp BK268 hb; replace BK269 := cp BK269 hb; replace BK270 := cp BK270 hb; replace BK276 := cp BK276 hb; replace HB := bs HB hb; (try clear hb); (try clear hb2); (try clear hk); (try clear hi); obtain ⟨hcz87_0, hcz87_1, hcz87_2, hcz87_3, hcz87_4, hfz87_0, hfz87_1, hfz87_2, hfz87_3, hfz87_4⟩ := cel5 BK270))
  refine bodyPost_ret (results_ct rfl _ _ gb270 27 #[.int .i64 0, .int .i64 0, .int .i64 0, .int .i64 0, .int .i64 0] (0, 0) _ rfl (bp BK270) Try.underlying27 rfl (by kernel_rfl)) rfl ?_
  exact ⟨er, bl HB⟩
/-! ### spec_InvSqrt2Power: function 28 -/
def spec_InvSqrt2Power.f (a0 : Int) : Option (Int × Int × Int × Int × Int) := (spec_l1In.f a0 0 60).bind fun t286 => (if t286 = true then (some (1, 0, 0, 0, a0)) else (some (0, 0, 0, 0, 0)))
set_option maxHeartbeats 8000000 in
set_option maxRecDepth 100000 in
theorem spec_InvSqrt2Power.calls (a0 : Int) (r1 : Int) (r2 : Int) (r3 : Int) (r4 : Int) (r5 : Int) (w : World) (h : spec_InvSqrt2Power.f a0 = some (r1, r2, r3, r4, r5)) :
  Calls Try.prog 28 #[.int .i64 a0] w fun e w' => e = .returned (.agg #[.int .i64 r1, .int .i64 r2, .int .i64 r3, .int .i64 r4, .int .i64 r5]) ∧ Below w.heap.size w w' := by
 have hu27 := Try.underlying27
 have hu25 := Try.underlying25
 have HB := Aside0.mk (Below.refl w.heap.size w)
 have H := h
 clear h
 unfold spec_InvSqrt2Power.f at H
 replace H := Option.bind_eq_some_iff.mp H
 obtain ⟨t286, A20, H⟩ := H
 try dsimp only at H
 have A2 := Aside0.mk A20
 clear A20
 by_cases c3 : t286 = true
 ·subst c3
  rw [if_pos rfl] at H
  simp only [Option.some.injEq, Prod.mk.injEq] at H
  obtain ⟨rfl, rfl, rfl, rfl, rfl⟩ := H
  go_enter Try.func28, Try.ntmps28
  go_wp2_with (first | ((with_reducible refine gate_dst (N := 2) rfl ?_); refine bx (N := 2) (cs := #[.int .i64 0, .int .i64 0, .int .i64 0, .int .i64 0, .int .i64 0]) (t := 27) ?_; intro gb285 hg w4 hbox hb; have BK285 := Aside0.mk hbox; have GW285 := sz hg HB; have GE285 := GW285; replace HB := bs HB hb; clear hb hbox hg) | ((with_reducible refine gate_callee (f := 22) rfl ?_); refine gL (some 4) Try.func22 #[.int .i64 a0, .int .i64 0, .int .i64 60] ?_; (with_reducible refine (spec_l1In.calls a0 0 60 true _ A2.out).mono ?_); rintro e w' ⟨rfl, ⟨nd, rfl⟩⟩; refine ⟨_, rfl, ?_⟩; obtain ⟨hcz5_0, hcz5_1, hcz5_2, hcz5_3, hcz5_4, hfz5_0, hfz5_1, hfz5_2, hfz5_3, hfz5_4⟩ := cel5 BK285))
  refine bodyPost_ret (results_cell_row rfl _ _ gb285 27 #[.int .i64 1, .int .i64 0, .int .i64 0, .int .i64 0, .int .i64 a0] (0, 0) _ rfl (bp BK285) Try.underlying27 rfl (by kernel_rfl)) rfl ?_
  exact ⟨er, bl HB⟩
 ·replace c3 := Bool.eq_false_iff.mpr c3
  subst c3
  rw [nf] at H
  simp only [Option.some.injEq, Prod.mk.injEq] at H
  obtain ⟨rfl, rfl, rfl, rfl, rfl⟩ := H
  go_enter Try.func28, Try.ntmps28
  go_wp2_with (first | ((with_reducible refine gate_dst (N := 2) rfl ?_); refine bx (N := 2) (cs := #[.int .i64 0, .int .i64 0, .int .i64 0, .int .i64 0, .int .i64 0]) (t := 27) ?_; intro gb285 hg w6 hbox hb; have BK285 := Aside0.mk hbox; have GW285 := sz hg HB; have GE285 := GW285; replace HB := bs HB hb; clear hb hbox hg) | ((with_reducible refine gate_callee (f := 22) rfl ?_); refine gL (some 4) Try.func22 #[.int .i64 a0, .int .i64 0, .int .i64 60] ?_; (with_reducible refine (spec_l1In.calls a0 0 60 false _ A2.out).mono ?_); rintro e w' ⟨rfl, ⟨nd, rfl⟩⟩; refine ⟨_, rfl, ?_⟩; obtain ⟨hcz7_0, hcz7_1, hcz7_2, hcz7_3, hcz7_4, hfz7_0, hfz7_1, hfz7_2, hfz7_3, hfz7_4⟩ := cel5 BK285))
  refine bodyPost_ret (results_cell_row rfl _ _ gb285 27 #[.int .i64 0, .int .i64 0, .int .i64 0, .int .i64 0, .int .i64 0] (0, 0) _ rfl (bp BK285) Try.underlying27 rfl (by kernel_rfl)) rfl ?_
  exact ⟨er, bl HB⟩
end Go.Proofs.Ytmkpngbfbfpffaa.P
