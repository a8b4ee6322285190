/- The plain law: what both sides compute is the same, in plain words. -/
import Derived.RowKit
import Derived.Test.YtmkpngbfbfpffaaA8
section
set_option linter.unusedVariables false
set_option linter.unusedSimpArgs false
namespace Go.Proofs.Ytmkpngbfbfpffaa.Q
open Go.RowKit

def inB (x lo hi : Int) : Bool := decide (lo ≤ x) && decide (x ≤ hi)
abbrev Z4 := Int × Int × Int × Int
abbrev Z5 := Int × Int × Int × Int × Bool
abbrev D5 := Int × Int × Int × Int × Int
abbrev D6 := Int × Int × Int × Int × Int × Bool
def okZ (x : Z4) : Bool := inB x.1 (-1073741824) 1073741824 && inB x.2.1 (-1073741824) 1073741824 && inB x.2.2.1 (-1073741824) 1073741824 && inB x.2.2.2 (-1073741824) 1073741824
def no5 : Z5 := (0, 0, 0, 0, false)
def no6 : D6 := (0, 0, 0, 0, 0, false)
/-- A number that is valid, or none. -/
def chk (x : Z4) : Z5 := if okZ x = true then (x.1, x.2.1, x.2.2.1, x.2.2.2, true) else no5
def addZ (x y : Z4) : Z5 := if okZ x = true then (if okZ y = true then chk (wrap64 (x.1 + y.1), wrap64 (x.2.1 + y.2.1), wrap64 (x.2.2.1 + y.2.2.1), wrap64 (x.2.2.2 + y.2.2.2)) else no5) else no5
def mulZ (x y : Z4) : Z5 := if okZ x = true then (if okZ y = true then chk (
  wrap64 ((wrap64 ((wrap64 ((wrap64 (x.1 * y.1)) - (wrap64 (x.2.1 * y.2.2.2)))) - (wrap64 (x.2.2.1 * y.2.2.1)))) - (wrap64 (x.2.2.2 * y.2.1))),
  wrap64 ((wrap64 ((wrap64 ((wrap64 (x.1 * y.2.1)) + (wrap64 (x.2.1 * y.1)))) - (wrap64 (x.2.2.1 * y.2.2.2)))) - (wrap64 (x.2.2.2 * y.2.2.1))),
  wrap64 ((wrap64 ((wrap64 ((wrap64 (x.1 * y.2.2.1)) + (wrap64 (x.2.1 * y.2.1)))) + (wrap64 (x.2.2.1 * y.1)))) - (wrap64 (x.2.2.2 * y.2.2.2))),
  wrap64 ((wrap64 ((wrap64 ((wrap64 (x.1 * y.2.2.2)) + (wrap64 (x.2.1 * y.2.2.1)))) + (wrap64 (x.2.2.1 * y.2.1)))) + (wrap64 (x.2.2.2 * y.1)))) else no5) else no5
def divS (x : Z4) : Z5 := if okZ x = true then
  (if (Int.tmod (wrap64 (x.2.1 - x.2.2.2)) 2) = 0 then (if (Int.tmod (wrap64 (x.1 + x.2.2.1)) 2) = 0 then (if (Int.tmod (wrap64 (x.2.1 + x.2.2.2)) 2) = 0 then (if (Int.tmod (wrap64 (x.2.2.1 - x.1)) 2) = 0 then
    (wrap64 (Int.tdiv (wrap64 (x.2.1 - x.2.2.2)) 2), wrap64 (Int.tdiv (wrap64 (x.1 + x.2.2.1)) 2), wrap64 (Int.tdiv (wrap64 (x.2.1 + x.2.2.2)) 2), wrap64 (Int.tdiv (wrap64 (x.2.2.1 - x.1)) 2), true)
    else no5) else no5) else no5) else no5) else no5
def z4 (r : Z5) : Z4 := (r.1, r.2.1, r.2.2.1, r.2.2.2.1)
def ok5 (r : Z5) : Bool := r.2.2.2.2
def d5 (r : D6) : D5 := (r.1, r.2.1, r.2.2.1, r.2.2.2.1, r.2.2.2.2.1)
def ok6 (r : D6) : Bool := r.2.2.2.2.2
def num (x : D5) : Z4 := (x.1, x.2.1, x.2.2.1, x.2.2.2.1)
def ex (x : D5) : Int := x.2.2.2.2
def okD (x : D5) : Bool := okZ (num x) && inB (ex x) 0 60 && (ex x == 0 || !(ok5 (divS (num x))))
/-- Divided by the root of 2 as often as may be. -/
def redL : Nat → Z4 → Z4 × Nat
  | 0, n => (n, 0)
  | k + 1, n => if ok5 (divS n) = true then redL k (z4 (divS n)) else (n, k + 1)
theorem redL_pos {k : Nat} {n : Z4} (h : ok5 (divS n) = true) : redL (k + 1) n = redL k (z4 (divS n)) := by rw [redL, if_pos h]
theorem redL_neg {k : Nat} {n : Z4} (h : ¬ ok5 (divS n) = true) : redL (k + 1) n = (n, k + 1) := by rw [redL, if_neg h]
theorem redL_le : ∀ k n, (redL k n).2 ≤ k
  | 0, n => Nat.le_refl _
  | k + 1, n => by
    unfold redL
    split
    · exact Nat.le_succ_of_le (redL_le k _)
    · exact Nat.le_refl _
def newD (n : Z4) (k : Int) : D6 := if okZ n = true ∧ inB k 0 120 = true then
  (if ((redL k.toNat n).2 : Int) > 60 then no6 else ((redL k.toNat n).1.1, (redL k.toNat n).1.2.1, (redL k.toNat n).1.2.2.1, (redL k.toNat n).1.2.2.2, ((redL k.toNat n).2 : Int), true)) else no6
/-- Times the root of 2, m times. -/
def upZ : Nat → Z4 → Z5
  | 0, n => (n.1, n.2.1, n.2.2.1, n.2.2.2, true)
  | m + 1, n => if ok5 (mulZ n (0, 1, 0, -1)) = true then upZ m (z4 (mulZ n (0, 1, 0, -1))) else no5
theorem upZ_pos {m : Nat} {n : Z4} (h : ok5 (mulZ n (0, 1, 0, -1)) = true) : upZ (m + 1) n = upZ m (z4 (mulZ n (0, 1, 0, -1))) := by rw [upZ, if_pos h]
theorem upZ_neg {m : Nat} {n : Z4} (h : ¬ ok5 (mulZ n (0, 1, 0, -1)) = true) : upZ (m + 1) n = no5 := by rw [upZ, if_neg h]
def addUp (x y : D5) : D6 :=   -- the exponent of y is the smaller one
  if ok5 (upZ (ex x - ex y).toNat (num y)) = true then
    (if ok5 (addZ (num x) (z4 (upZ (ex x - ex y).toNat (num y)))) = true then newD (z4 (addZ (num x) (z4 (upZ (ex x - ex y).toNat (num y))))) (ex x) else no6) else no6
def addD (x y : D5) : D6 := if okD x = true ∧ okD y = true then (if ex x < ex y then addUp y x else addUp x y) else no6
def mulD (x y : D5) : D6 := if okD x = true ∧ okD y = true ∧ ok5 (mulZ (num x) (num y)) = true then newD (z4 (mulZ (num x) (num y))) (ex x + ex y) else no6
def phN (i j : Int) : Int := if i % 8 = j then 1 else if i % 8 = j + 4 then -1 else 0
def phD (i : Int) : D5 := (phN i 0, phN i 1, phN i 2, phN i 3, 0)
def invD (k : Int) : D5 := if inB k 0 60 = true then (1, 0, 0, 0, k) else (0, 0, 0, 0, 0)

theorem inB_iff {x lo hi : Int} : inB x lo hi = true ↔ lo ≤ x ∧ x ≤ hi := by simp [inB]
theorem okZ_iff {x : Z4} : okZ x = true ↔ (-1073741824 ≤ x.1 ∧ x.1 ≤ 1073741824) ∧ (-1073741824 ≤ x.2.1 ∧ x.2.1 ≤ 1073741824) ∧ (-1073741824 ≤ x.2.2.1 ∧ x.2.2.1 ≤ 1073741824) ∧ (-1073741824 ≤ x.2.2.2 ∧ x.2.2.2 ≤ 1073741824) := by
  simp [okZ, inB, and_assoc]
theorem w64 {x : Int} (h1 : -9223372036854775808 ≤ x) (h2 : x ≤ 9223372036854775807) : wrap64 x = x := by unfold wrap64; omega
theorem addZ_comm (x y : Z4) : addZ x y = addZ y x := by
  unfold addZ
  rw [Int.add_comm x.1, Int.add_comm x.2.1, Int.add_comm x.2.2.1, Int.add_comm x.2.2.2]
  by_cases h1 : okZ x = true <;> by_cases h2 : okZ y = true <;> simp [h1, h2]
theorem chk_ok {x : Z4} (h : ok5 (chk x) = true) : okZ x = true ∧ chk x = (x.1, x.2.1, x.2.2.1, x.2.2.2, true) := by
  unfold chk at h ⊢
  by_cases e : okZ x = true
  · rw [if_pos e] at h ⊢; exact ⟨e, rfl⟩
  · rw [if_neg e] at h; simp [ok5, no5] at h
theorem z4_chk {x : Z4} (h : ok5 (chk x) = true) : z4 (chk x) = x ∧ okZ (z4 (chk x)) = true := by
  obtain ⟨h1, h2⟩ := chk_ok h
  rw [h2]; exact ⟨rfl, h1⟩
theorem mulZ_ok {x y : Z4} (h : ok5 (mulZ x y) = true) : okZ x = true ∧ okZ y = true ∧ okZ (z4 (mulZ x y)) = true := by
  unfold mulZ at h ⊢
  by_cases h1 : okZ x = true
  · by_cases h2 : okZ y = true
    · rw [if_pos h1, if_pos h2] at h ⊢; exact ⟨h1, h2, (z4_chk h).2⟩
    · rw [if_pos h1, if_neg h2] at h; simp [ok5, no5] at h
  · rw [if_neg h1] at h; simp [ok5, no5] at h
theorem addZ_ok {x y : Z4} (h : ok5 (addZ x y) = true) : okZ x = true ∧ okZ y = true ∧ okZ (z4 (addZ x y)) = true := by
  unfold addZ at h ⊢
  by_cases h1 : okZ x = true
  · by_cases h2 : okZ y = true
    · rw [if_pos h1, if_pos h2] at h ⊢; exact ⟨h1, h2, (z4_chk h).2⟩
    · rw [if_pos h1, if_neg h2] at h; simp [ok5, no5] at h
  · rw [if_neg h1] at h; simp [ok5, no5] at h
end Go.Proofs.Ytmkpngbfbfpffaa.Q

end
section
set_option linter.unusedVariables false
set_option linter.unusedSimpArgs false
namespace Go.Proofs.Ytmkpngbfbfpffaa.P
open Go.RowKit Go.Proofs.Ytmkpngbfbfpffaa.Q

theorem spec_l1In.eq (x lo hi : Int) : spec_l1In.f x lo hi = some (inB x lo hi) := by
  unfold spec_l1In.f inB
  by_cases h : lo ≤ x <;> simp [h]

theorem spec_l2Near.eq (x : Int) : spec_l2Near.f x = some (inB x (-1073741824) 1073741824) := by
  unfold spec_l2Near.f; rw [spec_l1In.eq]; rfl

theorem spec_IsValidZOmega.eq (a b c d : Int) : spec_IsValidZOmega.f a b c d = some (okZ (a, b, c, d)) := by
  unfold spec_IsValidZOmega.f okZ
  simp only [spec_l2Near.eq, Option.bind_some]
  by_cases h1 : inB a (-1073741824) 1073741824 = true <;> by_cases h2 : inB b (-1073741824) 1073741824 = true <;> by_cases h3 : inB c (-1073741824) 1073741824 = true <;> simp [h1, h2, h3]
theorem spec_DivSqrt2.eq (a b c d : Int) : spec_DivSqrt2.f a b c d = some (divS (a, b, c, d)) := by
  unfold spec_DivSqrt2.f divS no5
  simp only [spec_IsValidZOmega.eq, Option.bind_some]
  split
  · split
    · split
      · split
        · split <;> rfl
        · rfl
      · rfl
    · rfl
  · rfl
theorem spec_IsValidDOmega.eq (a b c d e : Int) : spec_IsValidDOmega.f a b c d e = some (okD (a, b, c, d, e)) := by
  unfold spec_IsValidDOmega.f okD num ex
  simp only [spec_IsValidZOmega.eq, spec_DivSqrt2.eq, spec_l1In.eq, Option.bind_some]
  show _ = some (okZ (a, b, c, d) && inB e 0 60 && (e == 0 || !(ok5 (divS (a, b, c, d)))))
  by_cases h4 : e = 0
  · subst h4
    have h2 : inB 0 0 60 = true := by decide
    by_cases h1 : okZ (a, b, c, d) = true <;> by_cases h3 : ok5 (divS (a, b, c, d)) = true <;> (have h3' := h3; unfold ok5 at h3'; simp [h1, h2, h3, h3'])
  · by_cases h1 : okZ (a, b, c, d) = true <;> by_cases h2 : inB e 0 60 = true <;> by_cases h3 : ok5 (divS (a, b, c, d)) = true <;> (have h3' := h3; unfold ok5 at h3'; simp [h1, h2, h3, h3', h4])
theorem spec_l2If.eq (a b c d : Int) : spec_l2If.f a b c d = some (chk (a, b, c, d)) := by
  unfold spec_l2If.f chk no5
  simp only [spec_IsValidZOmega.eq, Option.bind_some]
  split <;> rfl
theorem spec_AddZOmega.eq (a b c d a' b' c' d' : Int) : spec_AddZOmega.f a b c d a' b' c' d' = some (addZ (a, b, c, d) (a', b', c', d')) := by
  unfold spec_AddZOmega.f addZ no5
  simp only [spec_IsValidZOmega.eq, spec_l2If.eq, Option.bind_some]
  split
  · split <;> rfl
  · rfl
theorem spec_MulZOmega.eq (a b c d a' b' c' d' : Int) : spec_MulZOmega.f a b c d a' b' c' d' = some (mulZ (a, b, c, d) (a', b', c', d')) := by
  unfold spec_MulZOmega.f mulZ no5
  simp only [spec_IsValidZOmega.eq, spec_l2If.eq, Option.bind_some]
  split
  · split <;> rfl
  · rfl
theorem spec_NewDOmega.loop : ∀ (m k : Nat) (n : Z4), m < k → (m : Int) ≤ 120 → spec_NewDOmega.l0 k m n.1 n.2.1 n.2.2.1 n.2.2.2 = some (if ((redL m n).2 : Int) > 60 then no6 else ((redL m n).1.1, (redL m n).1.2.1, (redL m n).1.2.2.1, (redL m n).1.2.2.2, ((redL m n).2 : Int), true)) := by
  intro m
  induction m with
  | zero =>
    intro k n hk hm
    obtain ⟨k, rfl⟩ : ∃ j, k = j + 1 := ⟨k - 1, by omega⟩
    simp only [spec_NewDOmega.l0, redL]
    rfl
  | succ m ih =>
    intro k n hk hm
    obtain ⟨k, rfl⟩ : ∃ j, k = j + 1 := ⟨k - 1, by omega⟩
    simp only [spec_NewDOmega.l0, spec_DivSqrt2.eq, Option.bind_some]
    have hp : ((m + 1 : Nat) : Int) > 0 := by omega
    have hw : wrap64 (((m + 1 : Nat) : Int) - 1) = (m : Int) := by rw [w64 (by omega) (by omega)]; omega
    rw [if_pos hp, hw]
    by_cases h : ok5 (divS n) = true
    · have h' : (divS (n.1, n.2.1, n.2.2.1, n.2.2.2)).2.2.2.2 = true := h
      rw [redL_pos h, if_pos h']
      exact ih k (z4 (divS n)) (by omega) (by omega)
    · have h' : ¬ (divS (n.1, n.2.1, n.2.2.1, n.2.2.2)).2.2.2.2 = true := h
      rw [redL_neg h, if_neg h']
      by_cases h6 : ((m + 1 : Nat) : Int) > 60
      · rw [if_pos h6, if_pos h6]; rfl
      · rw [if_neg h6, if_neg h6]
theorem spec_NewDOmega.eq (k : Nat) (hk : 125 ≤ k) (a b c d e : Int) : spec_NewDOmega.f k a b c d e = some (newD (a, b, c, d) e) := by
  unfold spec_NewDOmega.f newD
  obtain ⟨k, rfl⟩ : ∃ j, k = j + 1 := ⟨k - 1, by omega⟩
  simp only [spec_IsValidZOmega.eq, spec_l1In.eq, Option.bind_some, spec_NewDOmega.j0]
  by_cases h1 : okZ (a, b, c, d) = true
  · rw [if_pos h1]
    by_cases h2 : inB e 0 120 = true
    · rw [if_neg (by simp [h2]), if_pos ⟨h1, h2⟩]
      obtain ⟨h3, h4⟩ := inB_iff.1 h2
      obtain ⟨m, rfl⟩ := Int.eq_ofNat_of_zero_le h3
      exact spec_NewDOmega.loop m k (a, b, c, d) (by omega) h4
    · rw [if_pos (by simp [h2]), if_neg (fun h => h2 h.2)]; rfl
  · simp [h1, no6]

theorem spec_InvSqrt2Power.eq (e : Int) : spec_InvSqrt2Power.f e = some (invD e) := by
  unfold spec_InvSqrt2Power.f invD
  simp only [spec_l1In.eq, Option.bind_some]
  split <;> rfl

theorem impl_in.eq (x lo hi : Int) : impl_in.f x lo hi = some (inB x lo hi) := by
  unfold impl_in.f inB
  by_cases h : lo ≤ x <;> simp [h]

theorem impl_IsValidZOmega.eq (a b c d : Int) : impl_IsValidZOmega.f a b c d = some (okZ (a, b, c, d)) := by
  unfold impl_IsValidZOmega.f okZ
  simp only [impl_in.eq, Option.bind_some]
  by_cases h1 : inB a (-1073741824) 1073741824 = true <;> by_cases h2 : inB b (-1073741824) 1073741824 = true <;> by_cases h3 : inB c (-1073741824) 1073741824 = true <;> simp [h1, h2, h3]
theorem impl_DivSqrt2.eq (a b c d : Int) : impl_DivSqrt2.f a b c d = some (divS (a, b, c, d)) := by
  unfold impl_DivSqrt2.f divS no5
  simp only [impl_IsValidZOmega.eq, Option.bind_some]
  split
  · split
    · split
      · split
        · split <;> rfl
        · rfl
      · rfl
    · rfl
  · rfl
theorem impl_IsValidDOmega.eq (a b c d e : Int) : impl_IsValidDOmega.f a b c d e = some (okD (a, b, c, d, e)) := by
  unfold impl_IsValidDOmega.f okD num ex
  simp only [impl_IsValidZOmega.eq, impl_DivSqrt2.eq, impl_in.eq, Option.bind_some]
  show _ = some (okZ (a, b, c, d) && inB e 0 60 && (e == 0 || !(ok5 (divS (a, b, c, d)))))
  by_cases h4 : e = 0
  · subst h4
    have h2 : inB 0 0 60 = true := by decide
    by_cases h1 : okZ (a, b, c, d) = true <;> by_cases h3 : ok5 (divS (a, b, c, d)) = true <;> (have h3' := h3; unfold ok5 at h3'; simp [h1, h2, h3, h3'])
  · by_cases h1 : okZ (a, b, c, d) = true <;> by_cases h2 : inB e 0 60 = true <;> by_cases h3 : ok5 (divS (a, b, c, d)) = true <;> (have h3' := h3; unfold ok5 at h3'; simp [h1, h2, h3, h3', h4])
theorem impl_checked.eq (a b c d : Int) : impl_checked.f a b c d = some (chk (a, b, c, d)) := by
  unfold impl_checked.f chk no5
  simp only [impl_IsValidZOmega.eq, Option.bind_some]
  split <;> rfl
theorem impl_AddZOmega.eq (a b c d a' b' c' d' : Int) : impl_AddZOmega.f a b c d a' b' c' d' = some (addZ (a, b, c, d) (a', b', c', d')) := by
  unfold impl_AddZOmega.f addZ no5
  simp only [impl_IsValidZOmega.eq, impl_checked.eq, Option.bind_some]
  split
  · split <;> rfl
  · rfl
theorem impl_MulZOmega.eq (a b c d a' b' c' d' : Int) : impl_MulZOmega.f a b c d a' b' c' d' = some (mulZ (a, b, c, d) (a', b', c', d')) := by
  unfold impl_MulZOmega.f mulZ no5
  simp only [impl_IsValidZOmega.eq, impl_checked.eq, Option.bind_some]
  split
  · split <;> rfl
  · rfl
theorem impl_NewDOmega.loop : ∀ (m k : Nat) (n : Z4), m < k → (m : Int) ≤ 120 → impl_NewDOmega.l0 k m n.1 n.2.1 n.2.2.1 n.2.2.2 = some (if ((redL m n).2 : Int) > 60 then no6 else ((redL m n).1.1, (redL m n).1.2.1, (redL m n).1.2.2.1, (redL m n).1.2.2.2, ((redL m n).2 : Int), true)) := by
  intro m
  induction m with
  | zero =>
    intro k n hk hm
    obtain ⟨k, rfl⟩ : ∃ j, k = j + 1 := ⟨k - 1, by omega⟩
    simp only [impl_NewDOmega.l0, redL]
    rfl
  | succ m ih =>
    intro k n hk hm
    obtain ⟨k, rfl⟩ : ∃ j, k = j + 1 := ⟨k - 1, by omega⟩
    simp only [impl_NewDOmega.l0, impl_DivSqrt2.eq, Option.bind_some]
    have hp : ((m + 1 : Nat) : Int) > 0 := by omega
    have hw : wrap64 (((m + 1 : Nat) : Int) - 1) = (m : Int) := by rw [w64 (by omega) (by omega)]; omega
    rw [if_pos hp, hw]
    by_cases h : ok5 (divS n) = true
    · have h' : (divS (n.1, n.2.1, n.2.2.1, n.2.2.2)).2.2.2.2 = true := h
      rw [redL_pos h, if_pos h']
      exact ih k (z4 (divS n)) (by omega) (by omega)
    · have h' : ¬ (divS (n.1, n.2.1, n.2.2.1, n.2.2.2)).2.2.2.2 = true := h
      rw [redL_neg h, if_neg h']
      by_cases h6 : ((m + 1 : Nat) : Int) > 60
      · rw [if_pos h6, if_pos h6]; rfl
      · rw [if_neg h6, if_neg h6]
theorem impl_NewDOmega.eq (k : Nat) (hk : 125 ≤ k) (a b c d e : Int) : impl_NewDOmega.f k a b c d e = some (newD (a, b, c, d) e) := by
  unfold impl_NewDOmega.f newD
  obtain ⟨k, rfl⟩ : ∃ j, k = j + 1 := ⟨k - 1, by omega⟩
  simp only [impl_IsValidZOmega.eq, impl_in.eq, Option.bind_some, impl_NewDOmega.j0]
  by_cases h1 : okZ (a, b, c, d) = true
  · rw [if_pos h1]
    by_cases h2 : inB e 0 120 = true
    · rw [if_neg (by simp [h2]), if_pos ⟨h1, h2⟩]
      obtain ⟨h3, h4⟩ := inB_iff.1 h2
      obtain ⟨m, rfl⟩ := Int.eq_ofNat_of_zero_le h3
      exact impl_NewDOmega.loop m k (a, b, c, d) (by omega) h4
    · rw [if_pos (by simp [h2]), if_neg (fun h => h2 h.2)]; rfl
  · simp [h1, no6]

theorem impl_InvSqrt2Power.eq (e : Int) : impl_InvSqrt2Power.f e = some (invD e) := by
  unfold impl_InvSqrt2Power.f invD
  simp only [impl_in.eq, Option.bind_some]
  split <;> rfl

theorem spec_MulDOmega.eq (k : Nat) (hk : 130 ≤ k) (a b c d e a' b' c' d' e' : Int) : spec_MulDOmega.f k a b c d e a' b' c' d' e' = some (mulD (a, b, c, d, e) (a', b', c', d', e')) := by
  unfold spec_MulDOmega.f mulD
  simp only [spec_MulZOmega.eq, spec_IsValidDOmega.eq, Option.bind_some, spec_NewDOmega.eq k (by omega)]
  show _ = some (if okD (a, b, c, d, e) = true ∧ okD (a', b', c', d', e') = true ∧ (mulZ (a, b, c, d) (a', b', c', d')).2.2.2.2 = true then newD (z4 (mulZ (a, b, c, d) (a', b', c', d'))) (e + e') else no6)
  by_cases h1 : okD (a, b, c, d, e) = true
  · by_cases h2 : okD (a', b', c', d', e') = true
    · have hw : wrap64 (e + e') = e + e' := by
        have e1 : inB e 0 60 = true := by have := h1; simp only [okD, Bool.and_eq_true] at this; exact this.1.2
        have e2 : inB e' 0 60 = true := by have := h2; simp only [okD, Bool.and_eq_true] at this; exact this.1.2
        obtain ⟨_, _⟩ := inB_iff.1 e1; obtain ⟨_, _⟩ := inB_iff.1 e2
        exact w64 (by omega) (by omega)
      by_cases h3 : (mulZ (a, b, c, d) (a', b', c', d')).2.2.2.2 = true
      · rw [if_pos h1, if_pos h2, if_pos h3, if_pos ⟨h1, h2, h3⟩, hw]; rfl
      · rw [if_pos h1, if_pos h2, if_neg h3, if_neg (fun h => h3 h.2.2)]; rfl
    · rw [if_pos h1, if_neg h2, if_neg (fun h => h2 h.2.1)]; rfl
  · rw [if_neg h1, if_neg (fun h => h1 h.1)]; rfl
theorem impl_MulDOmega.eq (k : Nat) (hk : 130 ≤ k) (a b c d e a' b' c' d' e' : Int) : impl_MulDOmega.f k a b c d e a' b' c' d' e' = some (mulD (a, b, c, d, e) (a', b', c', d', e')) := by
  unfold impl_MulDOmega.f mulD
  obtain ⟨k, rfl⟩ : ∃ j, k = j + 1 := ⟨k - 1, by omega⟩
  simp only [impl_MulZOmega.eq, impl_IsValidDOmega.eq, Option.bind_some, impl_MulDOmega.j0, impl_NewDOmega.eq k (by omega)]
  show _ = some (if okD (a, b, c, d, e) = true ∧ okD (a', b', c', d', e') = true ∧ (mulZ (a, b, c, d) (a', b', c', d')).2.2.2.2 = true then newD (z4 (mulZ (a, b, c, d) (a', b', c', d'))) (e + e') else no6)
  by_cases h1 : okD (a, b, c, d, e) = true
  · by_cases h2 : okD (a', b', c', d', e') = true
    · have hw : wrap64 (e + e') = e + e' := by
        have e1 : inB e 0 60 = true := by have := h1; simp only [okD, Bool.and_eq_true] at this; exact this.1.2
        have e2 : inB e' 0 60 = true := by have := h2; simp only [okD, Bool.and_eq_true] at this; exact this.1.2
        obtain ⟨_, _⟩ := inB_iff.1 e1; obtain ⟨_, _⟩ := inB_iff.1 e2
        exact w64 (by omega) (by omega)
      by_cases h3 : (mulZ (a, b, c, d) (a', b', c', d')).2.2.2.2 = true
      · rw [if_pos h1, if_neg (by simp [h2]), if_pos h3, if_pos ⟨h1, h2, h3⟩, hw]; rfl
      · rw [if_pos h1, if_neg (by simp [h2]), if_neg h3, if_neg (fun h => h3 h.2.2)]; rfl
    · rw [if_pos h1, if_pos (by simp [h2]), if_neg (fun h => h2 h.2.1)]; rfl
  · simp [h1, no6]
theorem spec_l3Up.loop : ∀ (m k : Nat) (t i : Int) (n : Z4), 0 ≤ i → i + m = t → t ≤ 1000 → m < k → spec_l3Up.l0 k t i n.1 n.2.1 n.2.2.1 n.2.2.2 = some (upZ m n) := by
  intro m
  induction m with
  | zero =>
    intro k t i n hi ht hs hk
    obtain ⟨k, rfl⟩ : ∃ j, k = j + 1 := ⟨k - 1, by omega⟩
    simp only [spec_l3Up.l0, upZ]
    rw [if_neg (by omega)]
  | succ m ih =>
    intro k t i n hi ht hs hk
    obtain ⟨k, rfl⟩ : ∃ j, k = j + 1 := ⟨k - 1, by omega⟩
    simp only [spec_l3Up.l0, spec_MulZOmega.eq, Option.bind_some]
    rw [if_pos (by omega), w64 (by omega) (by omega)]
    by_cases h : ok5 (mulZ n (0, 1, 0, -1)) = true
    · have h' : (mulZ (n.1, n.2.1, n.2.2.1, n.2.2.2) (0, 1, 0, -1)).2.2.2.2 = true := h
      rw [upZ_pos h, if_pos h']
      exact ih k t (i + 1) (z4 (mulZ n (0, 1, 0, -1))) (by omega) (by omega) hs (by omega)
    · have h' : ¬ (mulZ (n.1, n.2.1, n.2.2.1, n.2.2.2) (0, 1, 0, -1)).2.2.2.2 = true := h
      rw [upZ_neg h, if_neg h']; rfl
theorem spec_l3Up.eq (k : Nat) (hk : 70 ≤ k) (n : Z4) (t : Int) (h0 : 0 ≤ t) (h1 : t ≤ 60) : spec_l3Up.f k n.1 n.2.1 n.2.2.1 n.2.2.2 t = some (upZ t.toNat n) := by
  unfold spec_l3Up.f
  exact spec_l3Up.loop t.toNat k t 0 n (by omega) (by omega) (by omega) (by omega)
theorem impl_AddDOmega.loop : ∀ (m k : Nat) (i : Int) (x : D5) (n : Z4), 0 ≤ i → i + m = ex x → ex x ≤ 60 → m + 130 < k → impl_AddDOmega.l0 k i x.1 x.2.1 x.2.2.1 x.2.2.2.1 x.2.2.2.2 n.1 n.2.1 n.2.2.1 n.2.2.2 =
    some (if ok5 (upZ m n) = true then (if ok5 (addZ (num x) (z4 (upZ m n))) = true then newD (z4 (addZ (num x) (z4 (upZ m n)))) (ex x) else no6) else no6) := by
  intro m
  induction m with
  | zero =>
    intro k i x n hi ht hs hk
    obtain ⟨k, rfl⟩ : ∃ j, k = j + 1 := ⟨k - 1, by omega⟩
    have hx : ex x = x.2.2.2.2 := rfl
    simp only [impl_AddDOmega.l0, impl_AddZOmega.eq, Option.bind_some, impl_NewDOmega.eq k (by omega)]
    rw [if_neg (by omega), if_pos (show ok5 (upZ 0 n) = true from rfl)]
    show (if (addZ (num x) n).2.2.2.2 = true then some (newD (z4 (addZ (num x) n)) (ex x)) else some no6) = some (if (addZ (num x) n).2.2.2.2 = true then newD (z4 (addZ (num x) n)) (ex x) else no6)
    split <;> rfl
  | succ m ih =>
    intro k i x n hi ht hs hk
    obtain ⟨k, rfl⟩ : ∃ j, k = j + 1 := ⟨k - 1, by omega⟩
    have hx : ex x = x.2.2.2.2 := rfl
    simp only [impl_AddDOmega.l0, impl_MulZOmega.eq, impl_root.f, Option.bind_some]
    rw [if_pos (by omega), w64 (by omega) (by omega)]
    by_cases h : ok5 (mulZ n (0, 1, 0, -1)) = true
    · have h' : (mulZ (n.1, n.2.1, n.2.2.1, n.2.2.2) (0, 1, 0, -1)).2.2.2.2 = true := h
      rw [upZ_pos h, if_pos h']
      exact ih k (i + 1) x (z4 (mulZ n (0, 1, 0, -1))) (by omega) (by omega) hs (by omega)
    · have h' : ¬ (mulZ (n.1, n.2.1, n.2.2.1, n.2.2.2) (0, 1, 0, -1)).2.2.2.2 = true := h
      rw [upZ_neg h, if_neg h']; rfl
theorem okD_ex {x : D5} (h : okD x = true) : 0 ≤ ex x ∧ ex x ≤ 60 := by
  simp only [okD, Bool.and_eq_true] at h
  exact inB_iff.1 h.1.2
theorem impl_AddDOmega.eq (k : Nat) (hk : 200 ≤ k) (x y : D5) : impl_AddDOmega.f k x.1 x.2.1 x.2.2.1 x.2.2.2.1 x.2.2.2.2 y.1 y.2.1 y.2.2.1 y.2.2.2.1 y.2.2.2.2 = some (addD x y) := by
  unfold impl_AddDOmega.f addD
  obtain ⟨k, rfl⟩ : ∃ j, k = j + 2 := ⟨k - 2, by omega⟩
  simp only [impl_IsValidDOmega.eq, Option.bind_some, impl_AddDOmega.j0, impl_AddDOmega.j1]
  show (if okD x = true then _ else _) = _
  by_cases h1 : okD x = true
  · rw [if_pos h1]
    by_cases h2 : okD y = true
    · have h2' : okD (y.1, y.2.1, y.2.2.1, y.2.2.2.1, y.2.2.2.2) = true := h2
      obtain ⟨a1, a2⟩ := okD_ex h1
      obtain ⟨b1, b2⟩ := okD_ex h2
      have e1 : ex x = x.2.2.2.2 := rfl
      have e2 : ex y = y.2.2.2.2 := rfl
      rw [if_neg (by simp [h2']), if_pos (show okD x = true ∧ okD y = true from ⟨h1, h2⟩), ← e1, ← e2]
      unfold addUp
      by_cases h3 : ex x < ex y
      · rw [if_pos h3, if_pos h3]
        exact impl_AddDOmega.loop (ex y - ex x).toNat k (ex x) y (num x) a1 (by omega) b2 (by omega)
      · rw [if_neg h3, if_neg h3]
        exact impl_AddDOmega.loop (ex x - ex y).toNat k (ex y) x (num y) b1 (by omega) a2 (by omega)
    · have h2' : ¬ okD (y.1, y.2.1, y.2.2.1, y.2.2.2.1, y.2.2.2.2) = true := h2
      rw [if_pos (by simp [h2']), if_neg (fun h => h2 h.2)]; rfl
  · simp [h1, no6]
theorem spec_AddDOmega.eq (k : Nat) (hk : 200 ≤ k) (x y : D5) : spec_AddDOmega.f k x.1 x.2.1 x.2.2.1 x.2.2.2.1 x.2.2.2.2 y.1 y.2.1 y.2.2.1 y.2.2.2.1 y.2.2.2.2 = some (addD x y) := by
  unfold spec_AddDOmega.f addD
  obtain ⟨k, rfl⟩ : ∃ j, k = j + 2 := ⟨k - 2, by omega⟩
  simp only [spec_IsValidDOmega.eq, Option.bind_some, spec_AddDOmega.j0, spec_l1Max.f]
  show (if okD x = true then _ else _) = _
  by_cases h1 : okD x = true
  · rw [if_pos h1]
    by_cases h2 : okD y = true
    · have h2' : okD (y.1, y.2.1, y.2.2.1, y.2.2.2.1, y.2.2.2.2) = true := h2
      obtain ⟨a1, a2⟩ := okD_ex h1
      obtain ⟨b1, b2⟩ := okD_ex h2
      have e1 : ex x = x.2.2.2.2 := rfl
      have e2 : ex y = y.2.2.2.2 := rfl
      rw [if_neg (by simp [h2']), if_pos (show okD x = true ∧ okD y = true from ⟨h1, h2⟩), ← e1, ← e2]
      have u0 : ∀ n : Z4, upZ 0 n = (n.1, n.2.1, n.2.2.1, n.2.2.2, true) := fun n => rfl
      unfold addUp
      by_cases h3 : ex x < ex y
      · rw [if_pos h3, if_neg (by omega)]
        simp only [Option.bind_some]
        rw [w64 (x := ex y - ex x) (by omega) (by omega), w64 (x := ex y - ex y) (by omega) (by omega)]
        have q1 := spec_l3Up.eq (k + 1) (by omega) (num x) (ex y - ex x) (by omega) (by omega)
        have q2 := spec_l3Up.eq (k + 1) (by omega) (num y) (ex y - ex y) (by omega) (by omega)
        rw [show (ex y - ex y).toNat = 0 by omega, u0] at q2
        rw [show spec_l3Up.f (k + 1) x.1 x.2.1 x.2.2.1 x.2.2.2.1 (ex y - ex x) = _ from q1, show spec_l3Up.f (k + 1) y.1 y.2.1 y.2.2.1 y.2.2.2.1 (ex y - ex y) = _ from q2]
        simp only [Option.bind_some, spec_AddZOmega.eq, spec_NewDOmega.eq (k + 1) (by omega)]
        have hc : addZ ((upZ (ex y - ex x).toNat (num x)).1, (upZ (ex y - ex x).toNat (num x)).2.1, (upZ (ex y - ex x).toNat (num x)).2.2.1, (upZ (ex y - ex x).toNat (num x)).2.2.2.1) ((num y).1, (num y).2.1, (num y).2.2.1, (num y).2.2.2) = addZ (num y) (z4 (upZ (ex y - ex x).toNat (num x))) := addZ_comm _ _
        rw [hc]
        by_cases h4 : ok5 (upZ (ex y - ex x).toNat (num x)) = true
        · rw [if_pos h4, if_pos (show (upZ (ex y - ex x).toNat (num x)).2.2.2.2 = true from h4)]
          simp only [if_true]
          by_cases h5 : ok5 (addZ (num y) (z4 (upZ (ex y - ex x).toNat (num x)))) = true
          · rw [if_pos h5, if_pos (show (addZ (num y) (z4 (upZ (ex y - ex x).toNat (num x)))).2.2.2.2 = true from h5)]; rfl
          · rw [if_neg h5, if_neg (show ¬ (addZ (num y) (z4 (upZ (ex y - ex x).toNat (num x)))).2.2.2.2 = true from h5)]; rfl
        · rw [if_neg h4, if_neg (show ¬ (upZ (ex y - ex x).toNat (num x)).2.2.2.2 = true from h4)]; rfl
      · have hmx : (if ex x > ex y then (some (ex x) : Option Int) else some (ex y)) = some (ex x) := by
          by_cases h6 : ex x > ex y
          · rw [if_pos h6]
          · rw [if_neg h6, show ex y = ex x by omega]
        rw [if_neg h3, hmx]
        simp only [Option.bind_some]
        rw [w64 (x := ex x - ex y) (by omega) (by omega), w64 (x := ex x - ex x) (by omega) (by omega)]
        have q1 := spec_l3Up.eq (k + 1) (by omega) (num y) (ex x - ex y) (by omega) (by omega)
        have q2 := spec_l3Up.eq (k + 1) (by omega) (num x) (ex x - ex x) (by omega) (by omega)
        rw [show (ex x - ex x).toNat = 0 by omega, u0] at q2
        rw [show spec_l3Up.f (k + 1) y.1 y.2.1 y.2.2.1 y.2.2.2.1 (ex x - ex y) = _ from q1, show spec_l3Up.f (k + 1) x.1 x.2.1 x.2.2.1 x.2.2.2.1 (ex x - ex x) = _ from q2]
        simp only [Option.bind_some, spec_AddZOmega.eq, spec_NewDOmega.eq (k + 1) (by omega)]
        simp only [if_true]
        have hc : addZ ((num x).1, (num x).2.1, (num x).2.2.1, (num x).2.2.2) ((upZ (ex x - ex y).toNat (num y)).1, (upZ (ex x - ex y).toNat (num y)).2.1, (upZ (ex x - ex y).toNat (num y)).2.2.1, (upZ (ex x - ex y).toNat (num y)).2.2.2.1) = addZ (num x) (z4 (upZ (ex x - ex y).toNat (num y))) := rfl
        rw [hc]
        by_cases h4 : ok5 (upZ (ex x - ex y).toNat (num y)) = true
        · rw [if_pos h4, if_pos (show (upZ (ex x - ex y).toNat (num y)).2.2.2.2 = true from h4)]
          by_cases h5 : ok5 (addZ (num x) (z4 (upZ (ex x - ex y).toNat (num y)))) = true
          · rw [if_pos h5, if_pos (show (addZ (num x) (z4 (upZ (ex x - ex y).toNat (num y)))).2.2.2.2 = true from h5)]; rfl
          · rw [if_neg h5, if_neg (show ¬ (addZ (num x) (z4 (upZ (ex x - ex y).toNat (num y)))).2.2.2.2 = true from h5)]; rfl
        · rw [if_neg h4, if_neg (show ¬ (upZ (ex x - ex y).toNat (num y)).2.2.2.2 = true from h4)]; rfl
    · have h2' : ¬ okD (y.1, y.2.1, y.2.2.1, y.2.2.2.1, y.2.2.2.2) = true := h2
      rw [if_pos (by simp [h2']), if_neg (fun h => h2 h.2)]; rfl
  · simp [h1, no6]
theorem impl_PhaseFactor.eq (i : Int) : impl_PhaseFactor.f i = some (phD i) := rfl

end Go.Proofs.Ytmkpngbfbfpffaa.P

end
section
set_option linter.unusedVariables false
set_option linter.unusedSimpArgs false
namespace Go.Proofs.Ytmkpngbfbfpffaa.P
open Go.RowKit Go.Proofs.Ytmkpngbfbfpffaa.Q Go.Proofs.YtmkpngbfbfpffaaW.PrintWords Go.Proofs.YtmkpngbfbfpffaaW.PrintLast Go.Proofs.YtmkpngbfbfpffaaW.PrintMore

/-! ### bits of small numbers -/
def bq (i q : Int) : Int := i / 2 ^ q.toNat % 2
def fl (i q : Int) : Int := if bq i q = 1 then i - 2 ^ q.toNat else i + 2 ^ q.toNat
theorem fin16 {i : Int} (h0 : 0 ≤ i) (h1 : i < 16) : ∃ j : Fin 16, ((j.val : Nat) : Int) = i := ⟨⟨i.toNat, by omega⟩, by simp; omega⟩
theorem fin4 {i : Int} (h0 : 0 ≤ i) (h1 : i < 4) : ∃ j : Fin 4, ((j.val : Nat) : Int) = i := ⟨⟨i.toNat, by omega⟩, by simp; omega⟩
theorem fin2 {i : Int} (h0 : 0 ≤ i) (h1 : i < 2) : ∃ j : Fin 2, ((j.val : Nat) : Int) = i := ⟨⟨i.toNat, by omega⟩, by simp; omega⟩
theorem tab1 : ∀ i : Fin 16, ∀ q : Fin 4, Go.bits .and .i64 (shr .i64 (i.val : Nat) (q.val : Nat)) 1 = bq (i.val : Nat) (q.val : Nat) := by decide +kernel
theorem tab2 : ∀ i : Fin 16, ∀ q : Fin 4, Go.bits .xor .i64 (i.val : Nat) (shl .i64 1 (q.val : Nat)) = fl (i.val : Nat) (q.val : Nat) := by decide +kernel
theorem tab3 : ∀ i : Fin 16, ∀ q : Fin 4, ∀ b : Fin 2, Go.bits .or .i64 (Go.bits .andNot .i64 (i.val : Nat) (shl .i64 1 (q.val : Nat))) (shl .i64 (b.val : Nat) (q.val : Nat)) = if bq (i.val : Nat) (q.val : Nat) = (b.val : Nat) then ((i.val : Nat) : Int) else fl (i.val : Nat) (q.val : Nat) := by decide +kernel
theorem tab4 : ∀ i : Fin 16, ∀ q : Fin 4, ∀ b : Fin 2, Go.bits .xor .i64 (i.val : Nat) (shl .i64 (b.val : Nat) (q.val : Nat)) = if ((b.val : Nat) : Int) = 1 then fl (i.val : Nat) (q.val : Nat) else ((i.val : Nat) : Int) := by decide +kernel
theorem tab5 : ∀ i : Fin 16, ∀ q : Fin 4, 0 ≤ fl (i.val : Nat) (q.val : Nat) ∧ fl (i.val : Nat) (q.val : Nat) < 16 := by decide +kernel
theorem tab6 : ∀ a b : Fin 2, Go.bits .xor .i64 (a.val : Nat) (b.val : Nat) = (if ((a.val : Nat) : Int) = (b.val : Nat) then 0 else 1) ∧ Go.bits .and .i64 (a.val : Nat) (b.val : Nat) = ((a.val : Nat) : Int) * (b.val : Nat) := by decide +kernel
theorem bq01 (i q : Int) : bq i q = 0 ∨ bq i q = 1 := by unfold bq; omega
theorem bq_at {i q : Int} (h0 : 0 ≤ i) (h1 : i < 16) (h2 : 0 ≤ q) (h3 : q < 4) : Go.bits .and .i64 (shr .i64 i q) 1 = bq i q := by
  obtain ⟨i, rfl⟩ := fin16 h0 h1; obtain ⟨q, rfl⟩ := fin4 h2 h3; exact tab1 i q
theorem fl_at {i q : Int} (h0 : 0 ≤ i) (h1 : i < 16) (h2 : 0 ≤ q) (h3 : q < 4) : Go.bits .xor .i64 i (shl .i64 1 q) = fl i q := by
  obtain ⟨i, rfl⟩ := fin16 h0 h1; obtain ⟨q, rfl⟩ := fin4 h2 h3; exact tab2 i q
theorem set_at {i q b : Int} (h0 : 0 ≤ i) (h1 : i < 16) (h2 : 0 ≤ q) (h3 : q < 4) (h4 : 0 ≤ b) (h5 : b < 2) : Go.bits .or .i64 (Go.bits .andNot .i64 i (shl .i64 1 q)) (shl .i64 b q) = if bq i q = b then i else fl i q := by
  obtain ⟨i, rfl⟩ := fin16 h0 h1; obtain ⟨q, rfl⟩ := fin4 h2 h3; obtain ⟨b, rfl⟩ := fin2 h4 h5; exact tab3 i q b
theorem flb_at {i q b : Int} (h0 : 0 ≤ i) (h1 : i < 16) (h2 : 0 ≤ q) (h3 : q < 4) (h4 : b = 0 ∨ b = 1) : Go.bits .xor .i64 i (shl .i64 b q) = if b = 1 then fl i q else i := by
  obtain ⟨i, rfl⟩ := fin16 h0 h1; obtain ⟨q, rfl⟩ := fin4 h2 h3; obtain ⟨b, rfl⟩ := fin2 (i := b) (by omega) (by omega); exact tab4 i q b
theorem fl_in {i q : Int} (h0 : 0 ≤ i) (h1 : i < 16) (h2 : 0 ≤ q) (h3 : q < 4) : 0 ≤ fl i q ∧ fl i q < 16 := by
  obtain ⟨i, rfl⟩ := fin16 h0 h1; obtain ⟨q, rfl⟩ := fin4 h2 h3; exact tab5 i q
theorem xor01 {a b : Int} (h1 : a = 0 ∨ a = 1) (h2 : b = 0 ∨ b = 1) : Go.bits .xor .i64 a b = if a = b then 0 else 1 := by
  obtain ⟨a, rfl⟩ := fin2 (i := a) (by omega) (by omega); obtain ⟨b, rfl⟩ := fin2 (i := b) (by omega) (by omega); exact (tab6 a b).1
theorem and01 {a b : Int} (h1 : a = 0 ∨ a = 1) (h2 : b = 0 ∨ b = 1) : Go.bits .and .i64 a b = a * b := by
  obtain ⟨a, rfl⟩ := fin2 (i := a) (by omega) (by omega); obtain ⟨b, rfl⟩ := fin2 (i := b) (by omega) (by omega); exact (tab6 a b).2
theorem u64_id {x : Int} (h0 : 0 ≤ x) (h1 : x < 1000) : IntKind.u64.wrap x = x := by simp [IntKind.wrap, IntKind.bits, IntKind.signed]; omega
/-! ### valid gates -/
def vG (k a b c n : Int) : Bool := decide (1 ≤ n) && decide (n ≤ 4) && (arI k != 0) && ivOk (arI k) n [a, b, c] 0 && ivOk (arI k) n [a, b, c] 1 && ivOk (arI k) n [a, b, c] 2
theorem impl_IsValidGate.eq (k a b c n : Int) : impl_IsValidGate.f k a b c n = some (vG k a b c n) := rfl
theorem spec_Arity.eq (k : Int) : spec_Arity.f k = some (arI k) := by
  unfold spec_Arity.f spec_l1In.f arI
  by_cases h1 : 1 ≤ k <;> by_cases h2 : k ≤ 8 <;> by_cases h3 : 9 ≤ k <;> by_cases h4 : k ≤ 11 <;> by_cases h5 : k = 12 <;> simp [h1, h2, h3, h4, h5] <;> omega
theorem arI_cases (k : Int) : arI k = 0 ∨ arI k = 1 ∨ arI k = 2 ∨ arI k = 3 := by unfold arI; split <;> (try split) <;> (try split) <;> simp
theorem spec_GateQubits.eq (k a b c : Int) : spec_GateQubits.f k a b c = some ([a, b, c].take (arI k).toNat) := by
  unfold spec_GateQubits.f
  simp only [spec_Arity.eq, Option.bind_some]
  rcases arI_cases k with h | h | h | h <;> rw [h] <;> simp
theorem spec_l1HasInt.loop (l : List Int) (x : Int) (hl : l.length ≤ 1000) : ∀ (m k i : Nat), i + m = l.length → m < k → spec_l1HasInt.l0 k l x (i : Int) = some ((l.drop i).contains x) := by
  intro m
  induction m with
  | zero =>
    intro k i hi hk
    obtain ⟨k, rfl⟩ : ∃ j, k = j + 1 := ⟨k - 1, by omega⟩
    simp only [spec_l1HasInt.l0]
    rw [if_neg (by omega), List.drop_of_length_le (by omega)]
    rfl
  | succ m ih =>
    intro k i hi hk
    obtain ⟨k, rfl⟩ : ∃ j, k = j + 1 := ⟨k - 1, by omega⟩
    have hlt : i < l.length := by omega
    have hr : rd l (i : Int) = l[i] := by simp [rd, hlt]
    simp only [spec_l1HasInt.l0]
    rw [if_pos (by omega), if_pos (by omega), hr, w64 (by omega) (by omega), show (i : Int) + 1 = ((i + 1 : Nat) : Int) by omega, List.drop_eq_getElem_cons hlt, List.contains_cons]
    by_cases e : l[i] = x
    · rw [if_pos e]; simp [e]
    · rw [if_neg e, ih k (i + 1) (by omega) (by omega)]
      simp; intro h; exact absurd h.symm e
theorem spec_l1HasInt.eq (k : Nat) (l : List Int) (x : Int) (hl : l.length ≤ 1000) (hk : l.length < k) : spec_l1HasInt.f k l x = some (l.contains x) := by
  unfold spec_l1HasInt.f
  have := spec_l1HasInt.loop l x hl l.length k 0 (by omega) hk
  simpa using this

def stOk (ar hi : Int) (qs : List Int) (i : Nat) : Bool := if ar ≤ (i : Int) then qs.getD i 0 == 0 else inB (qs.getD i 0) 0 hi && !(qs.take i).contains (qs.getD i 0)
theorem spec_IsValidGate.step (k : Nat) (hk : 5 ≤ k) (n : Int) (a b c : Int) (ar : Nat) (har : ar ≤ 3) (i : Nat) (hi : i < 3) :
    spec_IsValidGate.l0 (k + 1) n ([a, b, c].take ar) [a, b, c] (i : Int) = if stOk ar (wrap64 (n - 1)) [a, b, c] i = true then spec_IsValidGate.l0 k n ([a, b, c].take ar) [a, b, c] ((i + 1 : Nat) : Int) else some false := by
  have hl : ([a, b, c].take ar).length = ar := by simp; omega
  have hr : rd [a, b, c] (i : Int) = [a, b, c].getD i 0 := by simp [rd]
  have hw : wrap64 ((i : Int) + 1) = ((i + 1 : Nat) : Int) := by rw [w64 (by omega) (by omega)]; omega
  have ht : i < ar → ([a, b, c].take ar).take ((i : Int)).toNat = [a, b, c].take i := fun h => by rw [List.take_take]; congr 1; simp; omega
  have hh : ∀ x : Int, spec_l1HasInt.f k ([a, b, c].take i) x = some (([a, b, c].take i).contains x) := fun x => spec_l1HasInt.eq k _ x (by simp; omega) (by simp; omega)
  simp only [spec_IsValidGate.l0, spec_l1In.eq, Option.bind_some, hl, hw, hr]
  rw [if_pos (by omega)]
  unfold stOk
  by_cases h1 : (ar : Int) ≤ (i : Int)
  · rw [if_pos (show (i : Int) ≥ (ar : Int) from h1), if_pos (by omega), if_pos (by simp; omega), if_pos h1, if_neg (show ¬ (i : Int) < (ar : Int) by omega)]
    by_cases h2 : [a, b, c].getD i 0 = 0
    · rw [if_pos h2, if_pos (by rw [h2]; rfl)]
    · rw [if_neg h2, if_neg (by simpa using h2)]
  · rw [if_neg (show ¬ (i : Int) ≥ (ar : Int) from h1), if_pos (by omega), if_pos (by omega), if_pos (by simp; omega), if_neg h1, ht (by omega), hh]
    by_cases h2 : inB ([a, b, c].getD i 0) 0 (wrap64 (n - 1)) = true
    · rw [if_pos h2, if_pos (by omega)]
      simp only [Option.bind_some]
      by_cases h3 : ([a, b, c].take i).contains ([a, b, c].getD i 0) = true
      · rw [if_pos h3, if_neg (by simp only [Bool.not_eq_true, Bool.and_eq_false_iff]; right; rw [h3]; rfl)]
      · rw [if_neg h3, if_pos (by simp only [Bool.and_eq_true]; exact ⟨h2, by simpa using h3⟩)]
    · rw [if_neg h2, if_neg (by simp only [Bool.not_eq_true] at h2; rw [h2]; simp)]
theorem spec_IsValidGate.eq (k : Nat) (hk : 10 ≤ k) (K a b c n : Int) : spec_IsValidGate.f k K a b c n = some (vG K a b c n) := by
  unfold spec_IsValidGate.f
  simp only [spec_GateQubits.eq, Option.bind_some]
  have har : (arI K).toNat ≤ 3 := by rcases arI_cases K with h | h | h | h <;> rw [h] <;> decide
  have hcast : (((arI K).toNat : Nat) : Int) = arI K := by rcases arI_cases K with h | h | h | h <;> rw [h] <;> rfl
  obtain ⟨k, rfl⟩ : ∃ j, k = j + 4 := ⟨k - 4, by omega⟩
  have s0 := spec_IsValidGate.step (k + 3) (by omega) n a b c (arI K).toNat har 0 (by omega)
  have s1 := spec_IsValidGate.step (k + 2) (by omega) n a b c (arI K).toNat har 1 (by omega)
  have s2 := spec_IsValidGate.step (k + 1) (by omega) n a b c (arI K).toNat har 2 (by omega)
  rw [hcast] at s0 s1 s2
  have s3 : spec_IsValidGate.l0 (k + 1) n ([a, b, c].take (arI K).toNat) [a, b, c] ((3 : Nat) : Int) = some ((arI K != 0) && inB n 1 4) := by
    have hl : ([a, b, c].take (arI K).toNat).length = (arI K).toNat := by simp; omega
    simp only [spec_IsValidGate.l0, spec_l1In.eq, Option.bind_some, hl]
    rw [if_neg (by omega), hcast]
    by_cases h : arI K > 0
    · rw [if_pos h]
      have : (arI K != 0) = true := by simp; omega
      rw [this]; simp
    · rw [if_neg h]
      have : arI K = 0 := by rcases arI_cases K with h | h | h | h <;> omega
      rw [this]; rfl
  refine s0.trans ?_
  rw [show ((0 + 1 : Nat) : Int) = ((1 : Nat) : Int) from rfl, s1, show ((1 + 1 : Nat) : Int) = ((2 : Nat) : Int) from rfl, s2, show ((2 + 1 : Nat) : Int) = ((3 : Nat) : Int) from rfl, s3]
  unfold vG
  by_cases hn : 1 ≤ n ∧ n ≤ 4
  · have hs : ∀ i, stOk (arI K) (wrap64 (n - 1)) [a, b, c] i = ivOk (arI K) n [a, b, c] i := by
      intro i; unfold stOk ivOk inB
      rw [w64 (by omega) (by omega)]
    rw [hs, hs, hs]
    have hb : inB n 1 4 = true := inB_iff.2 hn
    rw [hb]
    cases ivOk (arI K) n [a, b, c] 0 <;> cases ivOk (arI K) n [a, b, c] 1 <;> cases ivOk (arI K) n [a, b, c] 2 <;> simp [hn.1, hn.2]
  · have hb : inB n 1 4 = false := by simpa [inB] using hn
    have hv : (decide (1 ≤ n) && decide (n ≤ 4)) = false := by simpa using hn
    rw [hb, hv]
    cases stOk (arI K) (wrap64 (n - 1)) [a, b, c] 0 <;> cases stOk (arI K) (wrap64 (n - 1)) [a, b, c] 1 <;> cases stOk (arI K) (wrap64 (n - 1)) [a, b, c] 2 <;> simp

end Go.Proofs.Ytmkpngbfbfpffaa.P

end
section
set_option linter.unusedVariables false
set_option linter.unusedSimpArgs false
namespace Go.Proofs.Ytmkpngbfbfpffaa.P
open Go.RowKit Go.Proofs.Ytmkpngbfbfpffaa.Q Go.Proofs.YtmkpngbfbfpffaaW.PrintWords Go.Proofs.YtmkpngbfbfpffaaW.PrintLast Go.Proofs.YtmkpngbfbfpffaaW.PrintMore

theorem spec_l32Rest.eq (n : Int) : spec_l32Rest.f n = some (n % 8) := by
  obtain ⟨h1, h2, h3⟩ := tmod8 n
  unfold spec_l32Rest.f
  rw [w64 (by omega) (by omega)]
  split
  · rw [show n.tmod 8 + 8 = n % 8 by omega]
  · rw [show n.tmod 8 = n % 8 by omega]
theorem impl_mod8.eq (n : Int) : impl_mod8.f n = some (n % 8) := by
  obtain ⟨h1, h2, h3⟩ := tmod8 n
  unfold impl_mod8.f
  rw [w64 (by omega) (by omega), Int.tmod_eq_emod_of_nonneg (by omega), h3]
/-- Where a gate moves a basis state; the power of omega. -/
def psI (K A B C i bit : Int) : Int :=
  if K = 1 ∨ K = 2 then fl i A else if K = 4 then (if bq i A = bit then i else fl i A) else if K = 9 then (if bq i A = 1 then fl i B else i)
  else if K = 11 then (if bq i A = bq i B then i else fl (fl i A) B) else if K = 12 then (if bq i A * bq i B = 1 then fl i C else i) else i
def psP (K A B i bit : Int) : Int :=
  if K = 2 then 2 + 4 * bq i A else if K = 3 then 4 * bq i A else if K = 4 then 4 * bq i A * bit else if K = 5 then 2 * bq i A else if K = 6 then 6 * bq i A else if K = 7 then bq i A
  else if K = 8 then 7 * bq i A else if K = 10 then 4 * bq i A * bq i B else 0
theorem mul01 {a b : Int} (h1 : a = 0 ∨ a = 1) (h2 : b = 0 ∨ b = 1) : a * b = 0 ∨ a * b = 1 := by rcases h1 with h | h <;> rcases h2 with h' | h' <;> subst h <;> subst h' <;> simp
theorem psP_in {K A B i bit : Int} (hb : bit = 0 ∨ bit = 1) : 0 ≤ psP K A B i bit ∧ psP K A B i bit ≤ 7 := by
  have ha := bq01 i A
  have h1 := mul01 ha hb
  have h2 := mul01 ha (bq01 i B)
  unfold psP
  rw [Int.mul_assoc, Int.mul_assoc]
  generalize bq i A * bit = u at *
  generalize bq i A * bq i B = v at *
  generalize bq i A = a at *
  repeat' split
  all_goals omega
theorem psI_in {K A B C i bit : Int} (hi : 0 ≤ i ∧ i < 16) (hA : 0 ≤ A ∧ A < 4) (hB : 0 ≤ B ∧ B < 4) (hC : 0 ≤ C ∧ C < 4) : 0 ≤ psI K A B C i bit ∧ psI K A B C i bit < 16 := by
  have fA := fl_in hi.1 hi.2 hA.1 hA.2
  have fB := fl_in hi.1 hi.2 hB.1 hB.2
  have fC := fl_in hi.1 hi.2 hC.1 hC.2
  have fAB := fl_in fA.1 fA.2 hB.1 hB.2
  unfold psI
  repeat' split
  all_goals assumption
theorem impl_moved.eq {K A B C i : Int} (hK : 1 ≤ K ∧ K ≤ 12) (h4 : K ≠ 4) (hi : 0 ≤ i ∧ i < 16) (hA : 0 ≤ A ∧ A < 4) (hB : 0 ≤ B ∧ B < 4) (hC : 0 ≤ C ∧ C < 4) :
    impl_moved.f K A B C i = some (psI K A B C i 0, psP K A B i 0) := by
  have fA := fl_in hi.1 hi.2 hA.1 hA.2
  have a01 := bq01 i A
  have b01 := bq01 i B
  have ab := mul01 a01 b01
  unfold impl_moved.f
  rw [if_pos hA.1, if_pos hB.1, if_pos hC.1, bq_at hi.1 hi.2 hA.1 hA.2, bq_at hi.1 hi.2 hB.1 hB.2, fl_at hi.1 hi.2 hA.1 hA.2, fl_at fA.1 fA.2 hB.1 hB.2, flb_at hi.1 hi.2 hB.1 hB.2 a01,
    w64 (x := 4 * bq i A) (by omega) (by omega), w64 (x := 2 * bq i A) (by omega) (by omega), w64 (x := 6 * bq i A) (by omega) (by omega), w64 (x := 7 * bq i A) (by omega) (by omega), w64 (x := 2 + 4 * bq i A) (by omega) (by omega),
    w64 (x := 4 * bq i A * bq i B) (by rw [Int.mul_assoc]; omega) (by rw [Int.mul_assoc]; omega), w64 (x := bq i A * bq i B) (by omega) (by omega), flb_at hi.1 hi.2 hC.1 hC.2 ab]
  rcases (by omega : K = 1 ∨ K = 2 ∨ K = 3 ∨ K = 5 ∨ K = 6 ∨ K = 7 ∨ K = 8 ∨ K = 9 ∨ K = 10 ∨ K = 11 ∨ K = 12) with h | h | h | h | h | h | h | h | h | h | h <;> subst h <;> simp [psI, psP]
  split <;> rfl
theorem impl_PathSumStep.core {K A B C i ph bit : Int} (k : Nat) (hK : 1 ≤ K ∧ K ≤ 12) (hi : 0 ≤ i ∧ i < 16) (hp : 0 ≤ ph ∧ ph < 8) (hb : bit = 0 ∨ bit = 1) (hA : 0 ≤ A ∧ A < 4) (hB : 0 ≤ B ∧ B < 4) (hC : 0 ≤ C ∧ C < 4) :
    impl_PathSumStep.j0 (k + 2) i ph bit false K A B C = some (psI K A B C i bit, (ph + psP K A B i bit) % 8) := by
  have a01 := bq01 i A
  simp only [impl_PathSumStep.j0, impl_PathSumStep.j1, impl_mod8.eq, Option.bind_some, Bool.false_eq_true, if_false]
  by_cases h4 : K = 4
  · subst h4
    rw [if_pos rfl, if_pos hA.1, bq_at hi.1 hi.2 hA.1 hA.2, if_pos hA.1, if_pos hA.1, set_at hi.1 hi.2 hA.1 hA.2 (by omega) (by omega), w64 (by omega) (by omega)]
    rcases a01 with h | h <;> rcases hb with h' | h' <;> subst h' <;> simp [psI, psP, h]
  · rw [if_neg h4, impl_moved.eq hK h4 hi hA hB hC]
    simp only [Option.bind_some]
    have q := psP_in (K := K) (A := A) (B := B) (i := i) (bit := 0) (.inl rfl)
    rw [w64 (by omega) (by omega)]
    have e1 : psI K A B C i 0 = psI K A B C i bit := by simp [psI, h4]
    have e2 : psP K A B i 0 = psP K A B i bit := by simp [psP, h4]
    rw [e1, e2]
theorem spec_RotationUnits.eq (K : Int) : spec_RotationUnits.f K = some (if K = 7 then 1 else if K = 5 then 2 else if K = 3 then 4 else if K = 6 then 6 else if K = 8 then 7 else 0) := by
  unfold spec_RotationUnits.f; repeat' split
  all_goals rfl
theorem spec_PathSumStep.core {K A B C i ph bit : Int} (k : Nat) (hK : 1 ≤ K ∧ K ≤ 12) (hi : 0 ≤ i ∧ i < 16) (hp : 0 ≤ ph ∧ ph < 8) (hb : bit = 0 ∨ bit = 1) (hA : 0 ≤ A ∧ A < 4) (hB : 0 ≤ B ∧ B < 4) (hC : 0 ≤ C ∧ C < 4) :
    spec_PathSumStep.j0 (k + 1) i ph bit false K A B C = some (psI K A B C i bit, (ph + psP K A B i bit) % 8) := by
  have a01 := bq01 i A
  have b01 := bq01 i B
  have ab := mul01 a01 b01
  have fA := fl_in hi.1 hi.2 hA.1 hA.2
  have e0 : ph % 8 = ph := by omega
  simp only [spec_PathSumStep.j0, spec_l32Rest.eq, spec_RotationUnits.eq, Option.bind_some, Bool.false_eq_true, if_false, u64_id hA.1 (Int.lt_trans hA.2 (by decide)), u64_id hB.1 (Int.lt_trans hB.2 (by decide)), u64_id hC.1 (Int.lt_trans hC.2 (by decide))]
  have x01 := xor01 a01 b01
  rw [if_pos hA.1, if_pos hB.1, if_pos hC.1, bq_at hi.1 hi.2 hA.1 hA.2, bq_at hi.1 hi.2 hB.1 hB.2, fl_at hi.1 hi.2 hA.1 hA.2, set_at hi.1 hi.2 hA.1 hA.2 (by omega) (by omega), flb_at hi.1 hi.2 hB.1 hB.2 a01, x01, and01 a01 b01, flb_at hi.1 hi.2 hC.1 hC.2 ab]
  rcases (by omega : K = 1 ∨ K = 2 ∨ K = 3 ∨ K = 4 ∨ K = 5 ∨ K = 6 ∨ K = 7 ∨ K = 8 ∨ K = 9 ∨ K = 10 ∨ K = 11 ∨ K = 12) with h | h | h | h | h | h | h | h | h | h | h | h <;> subst h
  · simp [psI, psP, e0]
  · simp [psI, psP]; rw [w64 (by rw [w64 (by omega) (by omega), w64 (by omega) (by omega)]; omega) (by rw [w64 (by omega) (by omega), w64 (by omega) (by omega)]; omega), w64 (by omega) (by omega), w64 (by omega) (by omega)]; omega
  · simp [psI, psP]; rw [w64 (x := bq i A * 4) (by omega) (by omega), w64 (by omega) (by omega), Int.mul_comm]
  · simp [psI, psP]; rw [w64 (x := 4 * bq i A) (by omega) (by omega)]; rcases mul01 a01 hb with h | h <;> rw [Int.mul_assoc, h] <;> (rw [w64 (x := 4 * _) (by omega) (by omega), w64 (by omega) (by omega)])
  · simp [psI, psP]; rw [w64 (x := bq i A * 2) (by omega) (by omega), w64 (by omega) (by omega), Int.mul_comm]
  · simp [psI, psP]; rw [w64 (x := bq i A * 6) (by omega) (by omega), w64 (by omega) (by omega), Int.mul_comm]
  · simp [psI, psP]; rw [w64 (x := bq i A) (by omega) (by omega), w64 (by omega) (by omega)]
  · simp [psI, psP]; rw [w64 (x := bq i A * 7) (by omega) (by omega), w64 (by omega) (by omega), Int.mul_comm]
  · simp [psI, psP, e0]
  · simp [psI, psP]; rw [w64 (x := 4 * bq i A) (by omega) (by omega), Int.mul_assoc]; rcases ab with h | h <;> rw [h] <;> (rw [w64 (x := 4 * _) (by omega) (by omega), w64 (by omega) (by omega)])
  · simp [psI, psP, e0]
    by_cases h : bq i A = bq i B
    · simp only [h, if_true]
      rw [flb_at hi.1 hi.2 hA.1 hA.2 (.inl rfl), if_neg (by decide), flb_at hi.1 hi.2 hB.1 hB.2 (.inl rfl), if_neg (by decide)]
    · simp only [h, if_false]
      rw [flb_at hi.1 hi.2 hA.1 hA.2 (.inr rfl), if_pos rfl, flb_at fA.1 fA.2 hB.1 hB.2 (.inr rfl), if_pos rfl]
  · simp [psI, psP, e0]
/-! ### valid gates' bounds -/
theorem vG_bd {K A B C n : Int} (h : vG K A B C n = true) : (1 ≤ n ∧ n ≤ 4) ∧ (1 ≤ K ∧ K ≤ 12) ∧ (0 ≤ A ∧ A < 4) ∧ (0 ≤ B ∧ B < 4) ∧ (0 ≤ C ∧ C < 4) ∧ vG K A B C 4 = true := by
  have h0 := h
  unfold vG at h ⊢
  simp only [Bool.and_eq_true, decide_eq_true_eq] at h ⊢
  obtain ⟨⟨⟨⟨⟨h1, h2⟩, h3⟩, g0⟩, g1⟩, g2⟩ := h
  have one : ∀ j : Nat, ivOk (arI K) n [A, B, C] j = true → (0 ≤ [A, B, C].getD j 0 ∧ [A, B, C].getD j 0 < 4) ∧ ivOk (arI K) 4 [A, B, C] j = true := by
    intro j hj
    unfold ivOk at hj ⊢
    split at hj
    · rename_i hh
      rw [if_pos hh]
      have : [A, B, C].getD j 0 = 0 := by simpa using hj
      exact ⟨by omega, by rw [this]; rfl⟩
    · rename_i hh
      rw [if_neg hh]
      simp only [Bool.and_eq_true, decide_eq_true_eq] at hj ⊢
      exact ⟨by omega, ⟨by omega, by omega⟩, hj.2⟩
  have q0 := one 0 g0
  have q1 := one 1 g1
  have q2 := one 2 g2
  refine ⟨⟨h1, h2⟩, ?_, q0.1, q1.1, q2.1, ⟨⟨⟨⟨by omega, by omega⟩, h3⟩, q0.2⟩, q1.2⟩, q2.2⟩
  unfold arI at h3
  split at h3
  · omega
  · split at h3
    · omega
    · split at h3
      · omega
      · simp at h3
theorem impl_PathSumStep.eq {K A B C n i ph bit : Int} (k : Nat) (hk : 3 ≤ k) (hv : vG K A B C n = true) (hi : 0 ≤ i ∧ i < 16) (hp : 0 ≤ ph ∧ ph < 8) (hb : bit = 0 ∨ bit = 1) :
    impl_PathSumStep.f k K A B C i ph bit = some (psI K A B C i bit, (ph + psP K A B i bit) % 8) := by
  obtain ⟨_, hK, hA, hB, hC, hv4⟩ := vG_bd hv
  obtain ⟨k, rfl⟩ : ∃ j, k = j + 2 := ⟨k - 2, by omega⟩
  unfold impl_PathSumStep.f
  have hin : inB bit 0 1 = true := inB_iff.2 (by omega)
  simp only [impl_IsValidGate.eq, impl_in.eq, Option.bind_some, hv4, hin, Bool.not_true, if_true]
  exact impl_PathSumStep.core k hK hi hp hb hA hB hC
theorem spec_PathSumStep.eq {K A B C n i ph bit : Int} (k : Nat) (hk : 12 ≤ k) (hv : vG K A B C n = true) (hi : 0 ≤ i ∧ i < 16) (hp : 0 ≤ ph ∧ ph < 8) (hb : bit = 0 ∨ bit = 1) :
    spec_PathSumStep.f k K A B C i ph bit = some (psI K A B C i bit, (ph + psP K A B i bit) % 8) := by
  obtain ⟨_, hK, hA, hB, hC, hv4⟩ := vG_bd hv
  obtain ⟨k, rfl⟩ : ∃ j, k = j + 1 := ⟨k - 1, by omega⟩
  unfold spec_PathSumStep.f
  have hin : inB bit 0 1 = true := inB_iff.2 (by omega)
  simp only [spec_IsValidGate.eq (k + 1) (by omega), spec_l32Rest.eq, spec_l1In.eq, Option.bind_some, hv4, hin, Bool.not_true, if_true]
  rw [show ph % 8 = ph by omega]
  exact spec_PathSumStep.core k hK hi hp hb hA hB hC
/-! ### lists of gates -/
abbrev GT := S62
def vg (n : Int) (g : GT) : Bool := vG g.f0 g.f1 g.f2 g.f3 n
theorem rd_at (l : List GT) (i : Nat) (h : i < l.length) : rd_T62 l (i : Int) = l[i] := by simp [rd_T62, rdOf, h]
def hc : List GT → Nat
  | [] => 0
  | g :: l => (if g.f0 = 4 then 1 else 0) + hc l
theorem hc_le : ∀ l, hc l ≤ l.length
  | [] => Nat.le_refl _
  | g :: l => by have := hc_le l; simp only [hc, List.length_cons]; split <;> omega

end Go.Proofs.Ytmkpngbfbfpffaa.P

end
section
set_option linter.unusedVariables false
set_option linter.unusedSimpArgs false
namespace Go.Proofs.Ytmkpngbfbfpffaa.P
open Go.RowKit Go.Proofs.Ytmkpngbfbfpffaa.Q Go.Proofs.YtmkpngbfbfpffaaW.PrintWords Go.Proofs.YtmkpngbfbfpffaaW.PrintLast Go.Proofs.YtmkpngbfbfpffaaW.PrintMore

theorem spec_CountGates.loop (l : List GT) (n0 : Int) (hl : l.length ≤ 9000000000000000000) : ∀ (m k i : Nat) (c : Int), i + m = l.length → m < k → 0 ≤ c → c ≤ i →
    spec_CountGates.l0 k 4 c (i : Int) n0 l = some (c + hc (l.drop i)) := by
  intro m
  induction m with
  | zero =>
    intro k i c hi hk h0 h1
    obtain ⟨k, rfl⟩ : ∃ j, k = j + 1 := ⟨k - 1, by omega⟩
    simp only [spec_CountGates.l0]
    rw [if_neg (by omega), List.drop_of_length_le (by omega)]
    simp [hc]
  | succ m ih =>
    intro k i c hi hk h0 h1
    obtain ⟨k, rfl⟩ : ∃ j, k = j + 1 := ⟨k - 1, by omega⟩
    have hlt : i < l.length := by omega
    simp only [spec_CountGates.l0]
    rw [if_pos (by omega), if_pos (by omega), rd_at l i hlt, w64 (x := (i : Int) + 1) (by omega) (by omega), w64 (x := c + 1) (by omega) (by omega), show (i : Int) + 1 = ((i + 1 : Nat) : Int) by omega, List.drop_eq_getElem_cons hlt, hc]
    by_cases e : l[i].f0 = 4
    · rw [if_pos e, if_pos e, ih k (i + 1) (c + 1) (by omega) (by omega) (by omega) (by omega)]; congr 1; omega
    · rw [if_neg e, if_neg e, ih k (i + 1) c (by omega) (by omega) (by omega) (by omega)]; congr 1; omega
theorem spec_HadamardCount.eq (k : Nat) (l : List GT) (hl : l.length ≤ 9000000000000000000) (hk : l.length < k) : spec_HadamardCount.f k l = some (hc l : Int) := by
  unfold spec_HadamardCount.f spec_CountGates.f
  have this : spec_CountGates.l0 k 4 0 0 0 l = some (0 + hc (l.drop 0)) := spec_CountGates.loop l 0 hl l.length k 0 0 (by omega) hk (by omega) (by omega)
  rw [this]; simp
theorem impl_HadamardCount.loop (l : List GT) (hl : l.length ≤ 9000000000000000000) : ∀ (m k i : Nat) (c : Int), i + m = l.length → m < k → 0 ≤ c → c ≤ i →
    impl_HadamardCount.l0 k c l (l.length : Int) (i : Int) = some (c + hc (l.drop i)) := by
  intro m
  induction m with
  | zero =>
    intro k i c hi hk h0 h1
    obtain ⟨k, rfl⟩ : ∃ j, k = j + 1 := ⟨k - 1, by omega⟩
    simp only [impl_HadamardCount.l0]
    rw [if_neg (by omega), List.drop_of_length_le (by omega)]
    simp [hc]
  | succ m ih =>
    intro k i c hi hk h0 h1
    obtain ⟨k, rfl⟩ : ∃ j, k = j + 1 := ⟨k - 1, by omega⟩
    have hlt : i < l.length := by omega
    simp only [impl_HadamardCount.l0]
    rw [if_pos (by omega), if_pos (by omega), if_pos (by omega), rd_at l i hlt, w64 (x := (i : Int) + 1) (by omega) (by omega), w64 (x := c + 1) (by omega) (by omega), show (i : Int) + 1 = ((i + 1 : Nat) : Int) by omega, List.drop_eq_getElem_cons hlt, hc]
    by_cases e : l[i].f0 = 4
    · rw [if_pos e, if_pos e, ih k (i + 1) (c + 1) (by omega) (by omega) (by omega) (by omega)]; congr 1; omega
    · rw [if_neg e, if_neg e, ih k (i + 1) c (by omega) (by omega) (by omega) (by omega)]; congr 1; omega
theorem impl_HadamardCount.eq (k : Nat) (l : List GT) (hl : l.length ≤ 9000000000000000000) (hk : l.length < k) : impl_HadamardCount.f k l = some (hc l : Int) := by
  unfold impl_HadamardCount.f
  have := impl_HadamardCount.loop l hl l.length k 0 0 (by omega) hk (by omega) (by omega)
  rw [show ((0 : Nat) : Int) = 0 from rfl] at this
  rw [this]; simp
theorem spec_l44Right.loop (l : List GT) (n : Int) (hl : l.length ≤ 9000000000000000000) : ∀ (m k i : Nat), i + m = l.length → m + 15 < k → spec_l44Right.l0 k l n (i : Int) = some ((l.drop i).all (vg n)) := by
  intro m
  induction m with
  | zero =>
    intro k i hi hk
    obtain ⟨k, rfl⟩ : ∃ j, k = j + 1 := ⟨k - 1, by omega⟩
    simp only [spec_l44Right.l0]
    rw [if_neg (by omega), List.drop_of_length_le (by omega)]
    rfl
  | succ m ih =>
    intro k i hi hk
    obtain ⟨k, rfl⟩ : ∃ j, k = j + 1 := ⟨k - 1, by omega⟩
    have hlt : i < l.length := by omega
    simp only [spec_l44Right.l0]
    rw [if_pos (by omega), if_pos (by omega), rd_at l i hlt, spec_IsValidGate.eq k (by omega), w64 (x := (i : Int) + 1) (by omega) (by omega), show (i : Int) + 1 = ((i + 1 : Nat) : Int) by omega, List.drop_eq_getElem_cons hlt, List.all_cons]
    simp only [Option.bind_some]
    have hv : vG l[i].f0 l[i].f1 l[i].f2 l[i].f3 n = vg n l[i] := rfl
    rw [hv]
    by_cases e : vg n l[i] = true
    · rw [if_pos e, ih k (i + 1) (by omega) (by omega), e]; rfl
    · rw [if_neg e]; simp [e]
theorem spec_l44Right.eq (k : Nat) (l : List GT) (n : Int) (hl : l.length ≤ 9000000000000000000) (hk : l.length + 15 < k) : spec_l44Right.f k l n = some (l.all (vg n)) := by
  unfold spec_l44Right.f
  have := spec_l44Right.loop l n hl l.length k 0 (by omega) hk
  rw [show ((0 : Nat) : Int) = 0 from rfl] at this
  rw [this]; simp
/-! ### a path's end -/
def bitAt (ch m : Int) : Int := if m < 62 then Go.bits .and .i64 (shr .i64 ch m) 1 else 0
theorem and1 (x : Int) : Go.bits .and .i64 x 1 = 0 ∨ Go.bits .and .i64 x 1 = 1 := by
  have h : (BitVec.ofInt 64 x &&& BitVec.ofInt 64 1).toNat = 0 ∨ (BitVec.ofInt 64 x &&& BitVec.ofInt 64 1).toNat = 1 := by
    rw [BitVec.toNat_and, show (BitVec.ofInt 64 1).toNat = 1 from rfl, Nat.and_one_is_mod]
    omega
  have e : Go.bits .and .i64 x 1 = IntKind.i64.wrap (((BitVec.ofInt 64 x &&& BitVec.ofInt 64 1).toNat : Nat) : Int) := rfl
  rw [e]
  rcases h with h | h <;> rw [h]
  · exact .inl rfl
  · exact .inr rfl
theorem bitAt01 (ch m : Int) : bitAt ch m = 0 ∨ bitAt ch m = 1 := by
  unfold bitAt; split
  · exact and1 _
  · exact .inl rfl
def peL (ch : Int) : List GT → Int → Int → Int → Int × Int
  | [], i, ph, m => (i, ph)
  | g :: l, i, ph, m => if g.f0 = 4 then peL ch l (psI g.f0 g.f1 g.f2 g.f3 i (bitAt ch m)) ((ph + psP g.f0 g.f1 g.f2 i (bitAt ch m)) % 8) (m + 1)
    else peL ch l (psI g.f0 g.f1 g.f2 g.f3 i 0) ((ph + psP g.f0 g.f1 g.f2 i 0) % 8) m
theorem spec_PathEnd.loop (n ch : Int) (l : List GT) (hl : l.length ≤ 9000000000000000000) (hv : l.all (vg n) = true) : ∀ (r k j : Nat) (i ph m : Int), j + r = l.length → r + 15 < k → 0 ≤ i ∧ i < 16 → 0 ≤ ph ∧ ph < 8 → 0 ≤ m ∧ m ≤ j →
    spec_PathEnd.l0 k l ch i ph m (j : Int) = some (peL ch (l.drop j) i ph m) := by
  intro r
  induction r with
  | zero =>
    intro k j i ph m hj hk hi hp hm
    obtain ⟨k, rfl⟩ : ∃ j, k = j + 1 := ⟨k - 1, by omega⟩
    simp only [spec_PathEnd.l0]
    rw [if_neg (by omega), List.drop_of_length_le (by omega)]
    rfl
  | succ r ih =>
    intro k j i ph m hj hk hi hp hm
    obtain ⟨k, rfl⟩ : ∃ j, k = j + 1 := ⟨k - 1, by omega⟩
    have hlt : j < l.length := by omega
    have hg : vG l[j].f0 l[j].f1 l[j].f2 l[j].f3 n = true := List.all_eq_true.1 hv l[j] (List.getElem_mem hlt)
    obtain ⟨_, hK, hA, hB, hC, _⟩ := vG_bd hg
    simp only [spec_PathEnd.l0]
    rw [if_pos (by omega), if_pos (by omega), rd_at l j hlt, w64 (x := (j : Int) + 1) (by omega) (by omega), w64 (x := m + 1) (by omega) (by omega), show (j : Int) + 1 = ((j + 1 : Nat) : Int) by omega, List.drop_eq_getElem_cons hlt, peL]
    by_cases e : l[j].f0 = 4
    · rw [if_pos e, if_pos e]
      have hb := bitAt01 ch m
      by_cases e2 : m < 62
      · have eb : bitAt ch m = Go.bits .and .i64 (shr .i64 ch m) 1 := by unfold bitAt; rw [if_pos e2]
        rw [if_pos e2, u64_id hm.1 (by omega), if_pos hm.1, ← eb, spec_PathSumStep.eq k (by omega) hg hi hp hb]
        simp only [Option.bind_some]
        exact ih k (j + 1) _ _ (m + 1) (by omega) (by omega) (psI_in hi hA hB hC) (by omega) (by omega)
      · have eb : bitAt ch m = 0 := by unfold bitAt; rw [if_neg e2]
        rw [if_neg e2, eb, spec_PathSumStep.eq k (by omega) hg hi hp (.inl rfl)]
        simp only [Option.bind_some]
        exact ih k (j + 1) _ _ (m + 1) (by omega) (by omega) (psI_in hi hA hB hC) (by omega) (by omega)
    · rw [if_neg e, if_neg e, spec_PathSumStep.eq k (by omega) hg hi hp (.inl rfl)]
      simp only [Option.bind_some]
      exact ih k (j + 1) _ _ m (by omega) (by omega) (psI_in hi hA hB hC) (by omega) (by omega)
theorem spec_PathEnd.eq (k : Nat) (n ch i : Int) (l : List GT) (hl : l.length ≤ 9000000000000000000) (hk : l.length + 20 < k) (hv : l.all (vg n) = true) (hi : 0 ≤ i ∧ i < 16) (hch : 0 ≤ ch) :
    spec_PathEnd.f k l n i ch = some (peL ch l i 0 0) := by
  unfold spec_PathEnd.f
  obtain ⟨k, rfl⟩ : ∃ j, k = j + 1 := ⟨k - 1, by omega⟩
  rw [spec_l44Right.eq (k + 1) l n hl (by omega), hv]
  simp only [Option.bind_some, if_true, spec_PathEnd.j0]
  rw [if_neg (by simp; omega)]
  have := spec_PathEnd.loop n ch l hl hv l.length k 0 i 0 0 (by omega) (by omega) hi (by omega) (by omega)
  rw [show ((0 : Nat) : Int) = 0 from rfl] at this
  rw [this]; simp
theorem impl_PathEnd.loop1 (n ch : Int) (l : List GT) (hl : l.length ≤ 9000000000000000000) (hv : l.all (vg n) = true) : ∀ (r k j : Nat) (i ph m : Int), j + r = l.length → r + 15 < k → 0 ≤ i ∧ i < 16 → 0 ≤ ph ∧ ph < 8 → 0 ≤ m ∧ m ≤ j →
    impl_PathEnd.l1 k i ch ph m l (l.length : Int) (j : Int) = some (peL ch (l.drop j) i ph m) := by
  intro r
  induction r with
  | zero =>
    intro k j i ph m hj hk hi hp hm
    obtain ⟨k, rfl⟩ : ∃ j, k = j + 1 := ⟨k - 1, by omega⟩
    simp only [impl_PathEnd.l1]
    rw [if_neg (by omega), List.drop_of_length_le (by omega)]
    rfl
  | succ r ih =>
    intro k j i ph m hj hk hi hp hm
    obtain ⟨k, rfl⟩ : ∃ j, k = j + 1 := ⟨k - 1, by omega⟩
    have hlt : j < l.length := by omega
    have hg : vG l[j].f0 l[j].f1 l[j].f2 l[j].f3 n = true := List.all_eq_true.1 hv l[j] (List.getElem_mem hlt)
    obtain ⟨_, hK, hA, hB, hC, _⟩ := vG_bd hg
    simp only [impl_PathEnd.l1]
    rw [if_pos (by omega), if_pos (by omega), if_pos (by omega), rd_at l j hlt, w64 (x := (j : Int) + 1) (by omega) (by omega), w64 (x := m + 1) (by omega) (by omega), show (j : Int) + 1 = ((j + 1 : Nat) : Int) by omega, List.drop_eq_getElem_cons hlt, peL]
    by_cases e : l[j].f0 = 4
    · rw [if_pos e, if_pos e]
      have hb := bitAt01 ch m
      by_cases e2 : m < 62
      · have eb : bitAt ch m = Go.bits .and .i64 (shr .i64 ch m) 1 := by unfold bitAt; rw [if_pos e2]
        rw [if_pos (by omega), if_pos hm.1, ← eb, impl_PathSumStep.eq k (by omega) hg hi hp hb]
        simp only [Option.bind_some]
        exact ih k (j + 1) _ _ (m + 1) (by omega) (by omega) (psI_in hi hA hB hC) (by omega) (by omega)
      · have eb : bitAt ch m = 0 := by unfold bitAt; rw [if_neg e2]
        rw [if_neg (by omega), eb, impl_PathSumStep.eq k (by omega) hg hi hp (.inl rfl)]
        simp only [Option.bind_some]
        exact ih k (j + 1) _ _ (m + 1) (by omega) (by omega) (psI_in hi hA hB hC) (by omega) (by omega)
    · rw [if_neg e, if_neg e, impl_PathSumStep.eq k (by omega) hg hi hp (.inl rfl)]
      simp only [Option.bind_some]
      exact ih k (j + 1) _ _ m (by omega) (by omega) (psI_in hi hA hB hC) (by omega) (by omega)
theorem impl_PathEnd.loop0 (n ch i0 : Int) (l : List GT) (hl : l.length ≤ 9000000000000000000) (hv : l.all (vg n) = true) (hch : 0 ≤ ch) (hi : 0 ≤ i0 ∧ i0 < 16) : ∀ (r k j : Nat), j + r = l.length → r + l.length + 20 < k →
    impl_PathEnd.l0 k l n i0 ch l (l.length : Int) (j : Int) = some (peL ch l i0 0 0) := by
  intro r
  induction r with
  | zero =>
    intro k j hj hk
    obtain ⟨k, rfl⟩ : ∃ j, k = j + 1 := ⟨k - 1, by omega⟩
    simp only [impl_PathEnd.l0]
    rw [if_neg (by omega), if_neg (by omega)]
    have := impl_PathEnd.loop1 n ch l hl hv l.length k 0 i0 0 0 (by omega) (by omega) hi (by omega) (by omega)
    rw [show ((0 : Nat) : Int) = 0 from rfl] at this
    rw [this]; simp
  | succ r ih =>
    intro k j hj hk
    obtain ⟨k, rfl⟩ : ∃ j, k = j + 1 := ⟨k - 1, by omega⟩
    have hlt : j < l.length := by omega
    have hg : vG l[j].f0 l[j].f1 l[j].f2 l[j].f3 n = true := List.all_eq_true.1 hv l[j] (List.getElem_mem hlt)
    simp only [impl_PathEnd.l0]
    rw [if_pos (by omega), if_pos (by omega), if_pos (by omega), rd_at l j hlt, impl_IsValidGate.eq, hg, w64 (x := (j : Int) + 1) (by omega) (by omega), show (j : Int) + 1 = ((j + 1 : Nat) : Int) by omega]
    simp only [Option.bind_some, if_true]
    exact ih k (j + 1) (by omega) (by omega)
theorem impl_PathEnd.eq (k : Nat) (n ch i : Int) (l : List GT) (hl : l.length ≤ 9000000000000000000) (hk : 2 * l.length + 20 < k) (hv : l.all (vg n) = true) (hi : 0 ≤ i ∧ i < 16) (hch : 0 ≤ ch) :
    impl_PathEnd.f k l n i ch = some (peL ch l i 0 0) := by
  unfold impl_PathEnd.f
  exact impl_PathEnd.loop0 n ch i l hl hv hch hi l.length k 0 (by omega) (by omega)
/-! ### the path sum -/
def sumL (l : List GT) (i o : Int) (h : Int) : Nat → Int → D5 → D6
  | 0, _, s => mulD s (invD h)
  | r + 1, ch, s => if (peL ch l i 0 0).1 = o then (if ok6 (addD s (phD (peL ch l i 0 0).2)) = true then sumL l i o h r (ch + 1) (d5 (addD s (phD (peL ch l i 0 0).2))) else no6) else sumL l i o h r (ch + 1) s
def PSok (l : List GT) (n i o : Int) : Prop := hc l ≤ 10 ∧ inB n 1 4 = true ∧ l.all (vg n) = true ∧ inB i 0 (2 ^ n.toNat - 1) = true ∧ inB o 0 (2 ^ n.toNat - 1) = true
instance (l : List GT) (n i o : Int) : Decidable (PSok l n i o) := by unfold PSok; infer_instance
def psA (l : List GT) (n i o : Int) : D6 :=
  if PSok l n i o then sumL l i o (hc l) (2 ^ hc l) 0 (0, 0, 0, 0, 0) else no6
theorem shl1 {h : Int} (h0 : 0 ≤ h) (h1 : h ≤ 10) : shl .i64 1 h = ((2 ^ h.toNat : Nat) : Int) := by
  have tab : ∀ j : Fin 11, shl .i64 1 (j.val : Nat) = ((2 ^ j.val : Nat) : Int) := by decide +kernel
  obtain ⟨j, rfl⟩ := Int.eq_ofNat_of_zero_le h0
  have := tab ⟨j, by omega⟩
  simpa using this
theorem pow_le (h : Nat) (hh : h ≤ 10) : 2 ^ h ≤ 1024 := by
  have : 2 ^ h ≤ 2 ^ 10 := Nat.pow_le_pow_right (by decide) hh
  simpa using this
theorem spec_PhaseFactor.eq (i : Int) : spec_PhaseFactor.f i = some (phD i) := by
  obtain ⟨h1, h2, h3⟩ := tmod8 i
  have e8 : i % 8 = 0 ∨ i % 8 = 1 ∨ i % 8 = 2 ∨ i % 8 = 3 ∨ i % 8 = 4 ∨ i % 8 = 5 ∨ i % 8 = 6 ∨ i % 8 = 7 := by omega
  unfold spec_PhaseFactor.f phD Q.phN
  rw [w64 (by omega) (by omega)]
  by_cases h : i.tmod 8 < 0
  · rw [if_pos h, show i.tmod 8 + 8 = i % 8 by omega]
    rcases e8 with e | e | e | e | e | e | e | e <;> rw [e] <;> rfl
  · rw [if_neg h, show i.tmod 8 = i % 8 by omega]
    rcases e8 with e | e | e | e | e | e | e | e <;> rw [e] <;> rfl

theorem spec_PathSumAmplitude.loop (l : List GT) (n i o : Int) (h : Nat) (hl : l.length ≤ 9000000000000000000) (hh : h ≤ 10) (hv : l.all (vg n) = true) (hi : 0 ≤ i ∧ i < 16) : ∀ (r k : Nat) (ch : Int) (s : D5), 0 ≤ ch → ch + r = ((2 ^ h : Nat) : Int) → r + 2 * l.length + 250 < k →
    spec_PathSumAmplitude.l0 k l n i o (h : Int) ch s.1 s.2.1 s.2.2.1 s.2.2.2.1 s.2.2.2.2 = some (sumL l i o h r ch s) := by
  have hp := pow_le h hh
  intro r
  induction r with
  | zero =>
    intro k ch s h0 hr hk
    obtain ⟨k, rfl⟩ : ∃ j, k = j + 1 := ⟨k - 1, by omega⟩
    simp only [spec_PathSumAmplitude.l0]
    rw [u64_id (by omega) (by omega), if_pos (by omega), shl1 (by omega) (by omega), if_neg (by simp only [Int.toNat_natCast]; omega), spec_InvSqrt2Power.eq]
    simp only [Option.bind_some, spec_MulDOmega.eq k (by omega)]
    rfl
  | succ r ih =>
    intro k ch s h0 hr hk
    obtain ⟨k, rfl⟩ : ∃ j, k = j + 1 := ⟨k - 1, by omega⟩
    simp only [spec_PathSumAmplitude.l0]
    rw [u64_id (by omega) (by omega), if_pos (by omega), shl1 (by omega) (by omega), if_pos (by simp only [Int.toNat_natCast]; omega), spec_PathEnd.eq k n ch i l hl (by omega) hv hi h0]
    simp only [Option.bind_some]
    rw [w64 (x := ch + 1) (by omega) (by omega), sumL]
    by_cases e : (peL ch l i 0 0).1 = o
    · rw [if_pos e, if_pos e, spec_PhaseFactor.eq]
      simp only [Option.bind_some]
      rw [spec_AddDOmega.eq k (by omega) s (phD (peL ch l i 0 0).2)]
      simp only [Option.bind_some]
      by_cases e2 : ok6 (addD s (phD (peL ch l i 0 0).2)) = true
      · rw [if_pos e2, if_pos (show (addD s (phD (peL ch l i 0 0).2)).2.2.2.2.2 = true from e2)]
        exact ih k (ch + 1) (d5 (addD s (phD (peL ch l i 0 0).2))) (by omega) (by omega) (by omega)
      · rw [if_neg e2, if_neg (show ¬ (addD s (phD (peL ch l i 0 0).2)).2.2.2.2.2 = true from e2)]; rfl
    · rw [if_neg e, if_neg e]
      exact ih k (ch + 1) s (by omega) (by omega) (by omega)

theorem impl_PathSumAmplitude.loop (l : List GT) (n i o : Int) (h : Nat) (hl : l.length ≤ 9000000000000000000) (hh : h ≤ 10) (hv : l.all (vg n) = true) (hi : 0 ≤ i ∧ i < 16) : ∀ (r k : Nat) (ch : Int) (s : D5), 0 ≤ ch → ch + r = ((2 ^ h : Nat) : Int) → r + 2 * l.length + 250 < k →
    impl_PathSumAmplitude.l1 k l n i o (h : Int) ch s.1 s.2.1 s.2.2.1 s.2.2.2.1 s.2.2.2.2 = some (sumL l i o h r ch s) := by
  have hp := pow_le h hh
  intro r
  induction r with
  | zero =>
    intro k ch s h0 hr hk
    obtain ⟨k, rfl⟩ : ∃ j, k = j + 1 := ⟨k - 1, by omega⟩
    simp only [impl_PathSumAmplitude.l1]
    rw [if_pos (by omega), shl1 (by omega) (by omega), if_neg (by simp only [Int.toNat_natCast]; omega), impl_InvSqrt2Power.eq]
    simp only [Option.bind_some, impl_MulDOmega.eq k (by omega)]
    rfl
  | succ r ih =>
    intro k ch s h0 hr hk
    obtain ⟨k, rfl⟩ : ∃ j, k = j + 1 := ⟨k - 1, by omega⟩
    simp only [impl_PathSumAmplitude.l1]
    rw [if_pos (by omega), shl1 (by omega) (by omega), if_pos (by simp only [Int.toNat_natCast]; omega), impl_PathEnd.eq k n ch i l hl (by omega) hv hi h0]
    simp only [Option.bind_some]
    rw [w64 (x := ch + 1) (by omega) (by omega), sumL]
    by_cases e : (peL ch l i 0 0).1 = o
    · rw [if_pos e, if_pos e, impl_PhaseFactor.eq]
      simp only [Option.bind_some]
      rw [impl_AddDOmega.eq k (by omega) s (phD (peL ch l i 0 0).2)]
      simp only [Option.bind_some]
      by_cases e2 : ok6 (addD s (phD (peL ch l i 0 0).2)) = true
      · rw [if_pos e2, if_pos (show (addD s (phD (peL ch l i 0 0).2)).2.2.2.2.2 = true from e2)]
        exact ih k (ch + 1) (d5 (addD s (phD (peL ch l i 0 0).2))) (by omega) (by omega) (by omega)
      · rw [if_neg e2, if_neg (show ¬ (addD s (phD (peL ch l i 0 0).2)).2.2.2.2.2 = true from e2)]; rfl
    · rw [if_neg e, if_neg e]
      exact ih k (ch + 1) s (by omega) (by omega) (by omega)

theorem impl_PathSumAmplitude.valid (l : List GT) (n i o : Int) (h : Int) (hl : l.length ≤ 9000000000000000000) : ∀ (r k j : Nat), j + r = l.length → r < k → ∃ k', k ≤ k' + r + 1 ∧
    impl_PathSumAmplitude.l0 k l n i o h l (l.length : Int) (j : Int) = if (l.drop j).all (vg n) = true then impl_PathSumAmplitude.l1 k' l n i o h 0 0 0 0 0 0 else some no6 := by
  intro r
  induction r with
  | zero =>
    intro k j hj hk
    obtain ⟨k, rfl⟩ : ∃ j, k = j + 1 := ⟨k - 1, by omega⟩
    refine ⟨k, by omega, ?_⟩
    simp only [impl_PathSumAmplitude.l0]
    rw [if_neg (by omega), List.drop_of_length_le (by omega)]
    rfl
  | succ r ih =>
    intro k j hj hk
    obtain ⟨k, rfl⟩ : ∃ j, k = j + 1 := ⟨k - 1, by omega⟩
    have hlt : j < l.length := by omega
    obtain ⟨k', hk', e'⟩ := ih k (j + 1) (by omega) (by omega)
    refine ⟨k', by omega, ?_⟩
    simp only [impl_PathSumAmplitude.l0]
    rw [if_pos (by omega), if_pos (by omega), if_pos (by omega), rd_at l j hlt, impl_IsValidGate.eq, w64 (x := (j : Int) + 1) (by omega) (by omega), show (j : Int) + 1 = ((j + 1 : Nat) : Int) by omega, List.drop_eq_getElem_cons hlt, List.all_cons]
    simp only [Option.bind_some]
    have hv : vG l[j].f0 l[j].f1 l[j].f2 l[j].f3 n = vg n l[j] := rfl
    rw [hv]
    by_cases e : vg n l[j] = true
    · rw [if_pos e, e', e]; rfl
    · rw [if_neg e]; simp [e, no6]
theorem two_pow4 {n : Int} (h : inB n 1 4 = true) : 0 ≤ n ∧ shl .i64 1 n = ((2 ^ n.toNat : Nat) : Int) ∧ 2 ^ n.toNat ≤ 16 ∧ 1 ≤ 2 ^ n.toNat ∧ wrap64 (((2 ^ n.toNat : Nat) : Int) - 1) = (2 ^ n.toNat : Int) - 1 ∧ n < 1000 := by
  obtain ⟨h0, h1⟩ := inB_iff.1 h
  rcases (by omega : n = 1 ∨ n = 2 ∨ n = 3 ∨ n = 4) with e | e | e | e <;> subst e <;> decide +kernel
theorem impl_PathSumAmplitude.eq (k : Nat) (l : List GT) (n i o : Int) (hl : l.length ≤ 9000000000000000000) (hk : 3 * l.length + 1400 < k) : impl_PathSumAmplitude.f k l n i o = some (psA l n i o) := by
  unfold impl_PathSumAmplitude.f psA
  obtain ⟨k, rfl⟩ : ∃ j, k = j + 1 := ⟨k - 1, by omega⟩
  rw [impl_HadamardCount.eq (k + 1) l hl (by omega)]
  simp only [Option.bind_some, impl_in.eq, impl_PathSumAmplitude.j0]
  by_cases h1 : hc l ≤ 10
  · rw [if_neg (by omega)]
    by_cases h2 : inB n 1 4 = true
    · obtain ⟨n0, s1, p1, p2, w1, n1⟩ := two_pow4 h2
      rw [if_pos h2, if_pos n0, s1, w1]
      by_cases h3 : inB i 0 (2 ^ n.toNat - 1) = true
      · rw [if_pos h3]
        by_cases h4 : inB o 0 (2 ^ n.toNat - 1) = true
        · rw [if_neg (by simp [h4])]
          obtain ⟨k', hk', e'⟩ := impl_PathSumAmplitude.valid l n i o (hc l) hl l.length k 0 (by omega) (by omega)
          rw [show ((0 : Nat) : Int) = 0 from rfl, List.drop_zero] at e'
          rw [e']
          by_cases h5 : l.all (vg n) = true
          · rw [if_pos h5, if_pos (show PSok l n i o from ⟨h1, h2, h5, h3, h4⟩)]
            have hi := inB_iff.1 h3
            have p1' : ((2 : Int) ^ n.toNat) ≤ 16 := by exact_mod_cast p1
            have hp := pow_le (hc l) h1
            exact impl_PathSumAmplitude.loop l n i o (hc l) hl h1 h5 (by omega) (2 ^ hc l) k' 0 (0, 0, 0, 0, 0) (by omega) (by omega) (by omega)
          · rw [if_neg h5, if_neg (show ¬ PSok l n i o from fun h => h5 h.2.2.1)]
        · rw [if_pos (by simp [h4]), if_neg (show ¬ PSok l n i o from fun h => h4 h.2.2.2.2)]; rfl
      · rw [if_neg h3, if_neg (show ¬ PSok l n i o from fun h => h3 h.2.2.2.1)]; simp [no6]
    · rw [if_neg h2, if_neg (show ¬ PSok l n i o from fun h => h2 h.2.1)]; simp [no6]
  · rw [if_pos (by omega), if_neg (show ¬ PSok l n i o from fun h => h1 h.1)]; simp [no6]
theorem spec_PathSumAmplitude.eq (k : Nat) (l : List GT) (n i o : Int) (hl : l.length ≤ 9000000000000000000) (hk : 3 * l.length + 1400 < k) : spec_PathSumAmplitude.f k l n i o = some (psA l n i o) := by
  unfold spec_PathSumAmplitude.f psA
  obtain ⟨k, rfl⟩ : ∃ j, k = j + 1 := ⟨k - 1, by omega⟩
  rw [spec_HadamardCount.eq (k + 1) l hl (by omega)]
  simp only [Option.bind_some, spec_l1In.eq, spec_PathSumAmplitude.j0, spec_l44Right.eq (k + 1) l n hl (by omega)]
  by_cases h1 : hc l ≤ 10
  · rw [if_neg (by omega)]
    by_cases h2 : inB n 1 4 = true
    · obtain ⟨n0, s1, p1, p2, w1, n1⟩ := two_pow4 h2
      rw [if_pos h2]
      by_cases h5 : l.all (vg n) = true
      · rw [if_pos h5, u64_id n0 n1, if_pos n0, s1, w1]
        by_cases h3 : inB i 0 (2 ^ n.toNat - 1) = true
        · rw [if_pos h3]
          by_cases h4 : inB o 0 (2 ^ n.toNat - 1) = true
          · rw [if_neg (by simp [h4]), if_pos (show PSok l n i o from ⟨h1, h2, h5, h3, h4⟩)]
            have hi := inB_iff.1 h3
            have p1' : ((2 : Int) ^ n.toNat) ≤ 16 := by exact_mod_cast p1
            have hp := pow_le (hc l) h1
            exact spec_PathSumAmplitude.loop l n i o (hc l) hl h1 h5 (by omega) (2 ^ hc l) k 0 (0, 0, 0, 0, 0) (by omega) (by omega) (by omega)
          · rw [if_pos (by simp [h4]), if_neg (show ¬ PSok l n i o from fun h => h4 h.2.2.2.2)]; rfl
        · rw [if_neg h3, if_neg (show ¬ PSok l n i o from fun h => h3 h.2.2.2.1)]; simp [no6]
      · rw [if_neg h5, if_neg (show ¬ PSok l n i o from fun h => h5 h.2.2.1)]; simp [no6]
    · rw [if_neg h2, if_neg (show ¬ PSok l n i o from fun h => h2 h.2.1)]; simp [no6]
  · rw [if_pos (by omega), if_neg (show ¬ PSok l n i o from fun h => h1 h.1)]; simp [no6]
/-! ### the law -/
theorem laws_eqDOmega.refl (x : D6) : laws_eqDOmega.f x.1 x.2.1 x.2.2.1 x.2.2.2.1 x.2.2.2.2.1 x.1 x.2.1 x.2.2.1 x.2.2.2.1 x.2.2.2.2.1 = some true := by
  unfold laws_eqDOmega.f laws_eqZOmega.f; simp
theorem laws_eqGateS.loop (l : List GT) (hl : l.length ≤ 9000000000000000000) : ∀ (m k i : Nat), i + m = l.length → m < k → laws_eqGateS.l0 k l l (i : Int) = some true := by
  intro m
  induction m with
  | zero =>
    intro k i hi hk
    obtain ⟨k, rfl⟩ : ∃ j, k = j + 1 := ⟨k - 1, by omega⟩
    simp only [laws_eqGateS.l0]
    rw [if_neg (by omega)]
  | succ m ih =>
    intro k i hi hk
    obtain ⟨k, rfl⟩ : ∃ j, k = j + 1 := ⟨k - 1, by omega⟩
    simp only [laws_eqGateS.l0]
    rw [if_pos (by omega), if_pos (by omega), if_pos (by omega), w64 (x := (i : Int) + 1) (by omega) (by omega), show (i : Int) + 1 = ((i + 1 : Nat) : Int) by omega]
    have : ∀ a b c d : Int, laws_eqGate.f a b c d a b c d = some true := by intro a b c d; unfold laws_eqGate.f; simp
    rw [this]
    simp only [Option.bind_some, if_true]
    exact ih k (i + 1) (by omega) (by omega)
theorem laws_eqGateS.refl (k : Nat) (l : List GT) (hl : l.length ≤ 9000000000000000000) (hk : l.length < k) : laws_eqGateS.f k l l = some true := by
  unfold laws_eqGateS.f
  rw [if_pos rfl]
  exact laws_eqGateS.loop l hl l.length k 0 (by omega) hk
abbrev LT := S64
def toG (g : LT) : GT := ⟨g.f0, g.f1, g.f2, g.f3⟩
theorem rdL_at (l : List LT) (i : Nat) (h : i < l.length) : rd_T64 l (i : Int) = l[i] := by simp [rd_T64, rdOf, h]
theorem laws_toGateS.loop (l : List LT) (hl : l.length ≤ 9000000000000000000) : ∀ (m k i : Nat) (r : List GT), i + m = l.length → m < k → r.length = l.length → r.take i = (l.map toG).take i → laws_toGateS.l0 k l r (i : Int) = some (l.map toG) := by
  intro m
  induction m with
  | zero =>
    intro k i r hi hk hr ht
    obtain ⟨k, rfl⟩ : ∃ j, k = j + 1 := ⟨k - 1, by omega⟩
    simp only [laws_toGateS.l0]
    rw [if_neg (by omega)]
    rw [List.take_of_length_le (by omega), List.take_of_length_le (by simp; omega)] at ht
    rw [ht]
  | succ m ih =>
    intro k i r hi hk hr ht
    obtain ⟨k, rfl⟩ : ∃ j, k = j + 1 := ⟨k - 1, by omega⟩
    have hlt : i < l.length := by omega
    simp only [laws_toGateS.l0, laws_toGate.f, Option.bind_some]
    rw [if_pos (by omega), if_pos (by omega), if_pos (by omega), rdL_at l i hlt, w64 (x := (i : Int) + 1) (by omega) (by omega), show (i : Int) + 1 = ((i + 1 : Nat) : Int) by omega, Int.toNat_natCast]
    refine ih k (i + 1) _ (by omega) (by omega) (by simpa using hr) ?_
    rw [List.take_succ_eq_append_getElem (by simp; omega), List.take_succ_eq_append_getElem (by simp; omega), List.take_set_of_le (by omega), ht]
    simp [toG]
theorem laws_toGateS.eq (k : Nat) (l : List LT) (hl : l.length ≤ 8796093022208) (hk : l.length < k) : laws_toGateS.f k l = some (l.map toG) := by
  unfold laws_toGateS.f
  rw [if_pos (by omega), if_pos (by simpa using hl)]
  exact laws_toGateS.loop l (by omega) l.length k 0 _ (by omega) hk (by simp) (by simp)
theorem laws_FnExactPathSumAmplitude.true (l : List LT) (n i o : Int) (hl : l.length ≤ 8796093022208) : ∃ k, laws_FnExactPathSumAmplitude.f k l n i o = some true := by
  refine ⟨3 * l.length + 1500, ?_⟩
  unfold laws_FnExactPathSumAmplitude.f laws_szGateS.f
  rw [w64 (by omega) (by omega)]
  by_cases h : (1048576 : Int) - l.length < 0
  · rw [if_pos h]; rfl
  · rw [if_neg h]
    simp only [Option.bind_some]
    rw [if_neg h, laws_toGateS.eq _ l hl (by omega)]
    simp only [Option.bind_some]
    have hm : (l.map toG).length = l.length := by simp
    rw [spec_PathSumAmplitude.eq _ (l.map toG) n i o (by omega) (by omega), impl_PathSumAmplitude.eq _ (l.map toG) n i o (by omega) (by omega)]
    simp only [Option.bind_some, laws_eqDOmega.refl, if_true, bne_self_eq_false, laws_FnExactPathSumAmplitude.j0, Bool.false_eq_true, if_false]
    rw [laws_toGateS.eq _ l hl (by omega)]
    simp only [Option.bind_some]
    rw [laws_eqGateS.refl _ _ (by omega) (by omega)]
    rfl

end Go.Proofs.Ytmkpngbfbfpffaa.P

end