/- The row of laws.FnExactPathSumAmplitude: a slice of gates (structs of four whole numbers) and three whole numbers. -/
import Derived.Test.YtmkpngbfbfpffaaRows
import Derived.WalkKit
import Derived.ProofKit
import Derived.OpenShut
import Derived.ShutString
import Derived.ChangeOld
import Derived.Below
import Derived.SizedLaws
import Derived.Deep.Slices
import Derived.Lib.SmallJoins
import Derived.Test.YtmkpngbfbfpffaaAPlain
namespace Go.Proofs.Ytmkpngbfbfpffaa.fnExactPathSumAmplitude
open Go.ChangeShapes Go.WideShapes Go.ChangeAt Go.RowKit Go.Deep Go.Proofs.YtmkpngbfbfpffaaW.PrintWords
set_option linter.unusedVariables false
instance : Inhabited P.S64 := ⟨P.z64⟩
/-- A slice of structs of four ints: it reads as a row of gates, and is no longer than its weight allows. -/
theorem gates {H : Type} {enc : TypeId × Value → H} {W : World} {base : Nat} {spare : Nat → Bool} {held : Bool} {t e : TypeId} {f0 f1 f2 f3 : Field} {Pr : Program} {B : Nat} {a : Option Addr} {len cap : Nat} {d : DataW H} {ps : List MemPlace} {ts : List TypeId} {ds : List (DataW H)} {j : Nat}
    (ht : Pr.underlying t = some (.slice e)) (he : Pr.underlying e = some (.struct #[f0, f1, f2, f3])) (hc : Pr.cellsOf e = 4) (hB : Pr.bytesOf e = B)
    (o0 : f0.offset = 0) (o1 : f1.offset = 1) (o2 : f2.offset = 2) (o3 : f3.offset = 3) (c0 : Pr.cellsOf f0.type = 1) (c1 : Pr.cellsOf f1.type = 1) (c2 : Pr.cellsOf f2.type = 1) (c3 : Pr.cellsOf f3.type = 1)
    (i0 : Pr.underlying f0.type = some (.int .i64)) (i1 : Pr.underlying f1.type = some (.int .i64)) (i2 : Pr.underlying f2.type = some (.int .i64)) (i3 : Pr.underlying f3.type = some (.int .i64))
    (hsz : (DataW.weightsEach Pr ts ds).all (· ≤ reachBytes) = true) (hj : ts[j]? = some t) (hd : ds[j]? = some d)
    (h : DataW.Trod enc Pr W base spare held t (.slice a len cap) d ps) :
    ∃ l : List P.S64, l.length = len ∧ Kd.C P.k64 W a l.length l ∧ l.length ≤ cap ∧ l.length * B ≤ 140737488351232 := by
  obtain ⟨fuel, hf⟩ := h
  rcases open_slice ht hf with ⟨hcs, _⟩ | ⟨x, l, c, m, n, D, Pl, hcs, hb, hl, hm, hmm, hx, hel⟩
  · simp [Value.cells] at hcs
    obtain ⟨rfl, rfl, rfl⟩ := hcs
    exact ⟨[], rfl, ⟨rfl, by simp, fun h => by simp at h⟩, by simp, by simp⟩
  · simp [Value.cells] at hcs
    obtain ⟨rfl, rfl, rfl⟩ := hcs
    obtain ⟨hx, _⟩ := Prod.mk.inj hx
    subst hx
    have z := sized_slice hsz hj hd ht
    rw [hB] at z
    simp only [List.length_map, List.length_range] at z
    have hlm : len ≤ m := by rw [hmm]; split <;> omega
    have hlen : len * B ≤ 140737488351232 := Nat.le_trans (Nat.mul_le_mul_right _ (by omega)) z
    have key : ∀ i, i < len → ∃ g : P.S64, ∀ r u, [Value.int .i64 g.f0, .int .i64 g.f1, .int .i64 g.f2, .int .i64 g.f3][r]? = some u → W.cell? (x.add (i * 4 + r)) = some u := by
      intro i hi
      obtain ⟨cs', h1, h2⟩ := hel i (by omega)
      rw [hc] at h1
      obtain ⟨_, h3, h4⟩ := World.cells?_some h1
      obtain ⟨y0, y1, y2, y3, q, _, _, g0, g1, g2, g3⟩ := Go.Joins.trod_struct4 he h2
      match cs', h3 with
      | [v0, v1, v2, v3], _ =>
        rw [o0, c0] at g0
        rw [o1, c1] at g1
        rw [o2, c2] at g2
        rw [o3, c3] at g3
        obtain ⟨n0, e0, _⟩ := DataW.trod_int i0 g0
        obtain ⟨n1, e1, _⟩ := DataW.trod_int i1 g1
        obtain ⟨n2, e2, _⟩ := DataW.trod_int i2 g2
        obtain ⟨n3, e3, _⟩ := DataW.trod_int i3 g3
        simp only [List.drop_zero, List.drop_succ_cons, List.take_succ_cons, List.take_zero, List.cons.injEq, and_true] at e0 e1 e2 e3
        subst e0 e1 e2 e3
        refine ⟨⟨n0, n1, n2, n3⟩, fun r u hr => ?_⟩
        have hr4 : r < 4 := by
          have := (List.getElem?_eq_some_iff.1 hr).1
          simpa using this
        rw [← Go.Deep.add_add, h4 r hr4]
        exact hr
    obtain ⟨f, hf⟩ := Go.Deep.choose_lt (α := P.S64) (p := fun i g => ∀ r u, [Value.int .i64 g.f0, .int .i64 g.f1, .int .i64 g.f2, .int .i64 g.f3][r]? = some u → W.cell? (x.add (i * 4 + r)) = some u) key
    refine ⟨(List.range len).map f, by simp, ⟨rfl, ?_, fun _ => ⟨x, rfl, fun i g hg => ?_⟩⟩, by simpa using hl, by simpa using hlen⟩
    · have : maxLen ≤ 9223372036854775807 := by decide
      simp; omega
    · obtain ⟨h1, h2⟩ := List.getElem?_eq_some_iff.1 hg
      simp at h1 h2
      subst h2
      exact ⟨_, rfl, P.k64_mk _ _, hf i h1⟩
theorem own : ownKnob Try.prog.godebug = none := by kernel_rfl
theorem laidOut : laidOutB Try.prog = true := by kernel_rfl
set_option maxRecDepth 100000 in
theorem lifted (os : Os) (started : os.Started) (H : Type) (enc : TypeId × Value → H) :
    ReturnsInHanded {} Try.checked os 3 .any (Rows.fnExactPathSumAmplitudeSpec.pre6 enc Try.prog Try.f3 Rows.fnExactPathSumAmplitudeRow.domain false) (Rows.fnExactPathSumAmplitudeSpec.post enc Try.prog Try.f3 false true false false) := by
  refine returnsInHanded_of_change_sized (C := Try.checked) own started (by kernel_rfl) Try.func3
    (ChangeSpec.witness6 (enc := enc) (C := Try.checked) false ⟨#[], #[.slice none 0 0, .int .i64 0, .int .i64 0, .int .i64 0], []⟩ 8 (by kernel_rfl) (by kernel_rfl) (by kernel_rfl) (by kernel_rfl)) ?_
  intro W base args ds gs before hval0 hW hcnd hsz0 _
  have hsz : (DataW.weightsEach Try.prog (Try.f3.params.toList ++ Rows.fnExactPathSumAmplitudeSpec.plain.varTypes Try.prog) (ds ++ gs)).all (· ≤ reachBytes) = true := hsz0
  have hval : ∀ (j : Nat) t v, Try.f3.params[j]? = some t → args[j]? = some v → Value.okWide Try.prog W .any base t v := hval0
  have hW' := hW
  obtain ⟨p, q, hA0, hV, rfl, hfz, hnd⟩ := hW
  have hA : DataW.TrodAll enc Try.prog W 0 (fun _ => true) true Try.f3.params.toList args.toList ds p := hA0
  rw [Try.params3] at hA hval hsz
  obtain ⟨v0, vs0, d0, ds0, p0, q0, hargs, rfl, rfl, h0, r0⟩ := trodAll_cons hA
  obtain ⟨v1, vs1, d1, ds1, p1, q1, rfl, rfl, rfl, h1, r1⟩ := trodAll_cons r0
  obtain ⟨v2, vs2, d2, ds2, p2, q2, rfl, rfl, rfl, h2, r2⟩ := trodAll_cons r1
  obtain ⟨v3, vs3, d3, ds3, p3, q3, rfl, rfl, rfl, h3, r3⟩ := trodAll_cons r2
  obtain ⟨rfl, rfl, rfl⟩ := trodAll_nil r3
  obtain rfl : args = #[v0, v1, v2, v3] := by cases args; simp_all
  obtain ⟨rfl, rfl⟩ := trodVars_none hV
  obtain ⟨a0, len0, cap0, rfl⟩ := okWide_slice Try.underlying22 (hval 0 22 v0 rfl rfl)
  have k0 := h0
  have lt0 : ∀ x ∈ p0, x.block < W.heap.size := by obtain ⟨m, hm⟩ := k0; exact DataW.trod_lt m _ _ _ hm
  obtain ⟨l0, rfl, w0, c0, y0⟩ := gates Try.underlying22 Try.underlying64 (by kernel_rfl) (B := 32) (by kernel_rfl) rfl rfl rfl rfl (by kernel_rfl) (by kernel_rfl) (by kernel_rfl) (by kernel_rfl) Try.underlying3 Try.underlying3 Try.underlying3 Try.underlying3 hsz (j := 0) rfl rfl h0
  obtain ⟨a1, rfl, rfl, rfl, w1⟩ := open_int Try.underlying3 (hval 1 3 v1 rfl rfl) h1
  obtain ⟨a2, rfl, rfl, rfl, w2⟩ := open_int Try.underlying3 (hval 2 3 v2 rfl rfl) h2
  obtain ⟨a3, rfl, rfl, rfl, w3⟩ := open_int Try.underlying3 (hval 3 3 v3 rfl rfl) h3
  clear hA0 hval0 hsz0 hsz
  obtain ⟨k, hk⟩ := P.laws_FnExactPathSumAmplitude.true l0 a1 a2 a3 (by omega)
  refine (P.laws_FnExactPathSumAmplitude.calls k a0 cap0 l0 a1 a2 a3 true W w0 c0 hk).mono fun e W' ⟨he, bel⟩ => ?_
  subst he
  exact ⟨_, rfl, _, _, _, [], _, [], hW', trodAll_mk1 (shut_bool Try.underlying4 _), (trodAll_cons_mk (Below.trod laidOut (by kernel_rfl) (of_decide_eq_true (by kernel_rfl)) k0 bel lt0) (trodAll_cons_mk (shut_int Try.underlying3 w1) (trodAll_cons_mk (shut_int Try.underlying3 w2) (trodAll_cons_mk (shut_int Try.underlying3 w3) trodAll_mk0)))), rfl, bel.frame _, fun h => by cases h⟩
theorem over : Rows.fnExactPathSumAmplitudeRow.holds Try.pinned (OpenSpec.ofChange Rows.fnExactPathSumAmplitudeSpec) :=
  OpenClaim.holds_of_wide 3 Try.f3 rfl rfl rfl rfl rfl rfl rfl ⟨rfl, rfl, rfl, rfl, rfl⟩ rfl rfl rfl rfl rfl (by kernel_rfl) Try.func3 (by kernel_rfl)
    (of_decide_eq_true (by kernel_rfl)) (by unfold Func.isWrapper; first | (rw [if_pos (by decide +kernel)]; kernel_rfl) | (rw [if_neg (by decide +kernel)]; exact ⟨rfl, rfl⟩))
    (fun os started H enc _ => lifted os started H enc)
theorem proved : Rows.FnExactPathSumAmplitudeSaid := over
#print axioms proved
end Go.Proofs.Ytmkpngbfbfpffaa.fnExactPathSumAmplitude
namespace Go.Proofs.Ytmkpngbfbfpffaa
/-- The row, under a short name, for the claim. -/
theorem fnExactPathSumAmplitude_holds : Rows.FnExactPathSumAmplitudeSaid := fnExactPathSumAmplitude.proved
end Go.Proofs.Ytmkpngbfbfpffaa
