/- Contracts of the integers' functions: Bezout, bytes, reading; the law's fixed examples hold (sane). -/
import Derived.Test.YthhjcfejgoddlaaGreatDoorKd
import Derived.Test.YthhjcfejgoddlaaGreatDoorSb
section
set_option linter.unusedSimpArgs false
set_option linter.unusedVariables false
set_option maxRecDepth 100000
namespace Go.Proofs.YthhjcfejgoddlaaGreatDoor
open Go Go.Abs
attribute [local go_sem] wrap64 Int.tdiv_eq_ediv_of_nonneg Int.tmod_eq_emod_of_nonneg eq_self Bool.false_eq_true Bool.true_eq_false Bool.not_true Bool.not_false
attribute [local go_sem_proc] Nat.reduceAdd Nat.reduceMul Nat.reduceEqDiff Nat.reduceLT Nat.reduceLeDiff Int.reduceEq Int.reduceNeg Int.reduceToNat reduceCtorEq Int.reduceBNe Int.reduceBEq

set_option maxHeartbeats 1000000 in
theorem next_pc (u v q : Int) (lu : lenZ u ≤ 100) (lv : lenZ v ≤ 100) (lq : lenZ q ≤ 100) : PC Tryz.prog 92 [Z u, Z v, .dat (cZ q)] (Z (u - v * q)) := by
  have l1 := lenZ_mul v q
  have hm1 := mul_Z v q (by unfold lenZ at *; omega) (by unfold lenZ at *; omega)
  have ho := opposite_Z (v * q) (by unfold lenZ at *; omega)
  have l2 : lenZ (-(v * q)) = lenZ (v * q) := by unfold lenZ; rw [Int.natAbs_neg]
  have hs := sum_Z u (-(v * q)) (by unfold lenZ at *; omega) (by unfold lenZ at *; omega)
  rw [← Int.sub_eq_add_neg] at hs
  simp only [cZ]
  refine PCr.pc (PCr.of tab_ok Tryz.func92 rfl rfl rfl fun c hc hm => ?_)
  rw [show Tryz.f92.ntmps = _ from Tryz.ntmps92] at hc
  simp only [Tryz.f92]
  repeat' first | (refine AWp.seq fun K hK => ?_) | ((first | refine AWp.draw (id := 1) [.take 0, .take 1, .take 2, .take 3, .take 4, .take 5, .grp [6]] mixed_ok (by kernel_rfl) (by rw [hc]; rfl) ?_ | refine AWp.region (by rw [hc]; rfl) ?_ | refine AWp.skip ?_ | refine AWp.exit ?_ | refine AWp.label ?_ | refine AWp.ret ?_ | refine appK_g ?_); simp -implicitDefEqProofs (maxSteps := 1000000) (disch := omega) only [go_sem, ↓reduceIte]) | ((first | refine hK _ ?_ | (clear hK; first | refine hK _ ?_ | (clear hK; first | refine hK _ ?_ | (clear hK; refine hK _ ?_)))); clear hK) | (refine AWp.cond ?_; simp -implicitDefEqProofs (maxSteps := 1000000) (disch := omega) only [go_sem, ↓reduceIte]; try (refine ⟨fun hlt => ?_, fun hlt => ?_⟩ <;> (try simp only [cla, clb, ne_eq, reduceCtorEq] at hlt) <;> (try exact hlt.elim))) | (refine AWp.block ?_) | ((first | refine gdO_split (fun hlt => ?_) (fun hlt => ?_) | refine tkO_split (fun hlt => ?_) (fun hlt => ?_) | refine opO_split (fun hlt => ?_) (fun hlt => ?_)) <;> have hgd := hlt <;> (try simp only [cla, clb, ne_eq, cld] at hlt) <;> (simp -implicitDefEqProofs (maxSteps := 1000000) (disch := omega) only [go_sem, ↓reduceIte, hgd]) <;> clear hgd) | (with_reducible refine And.intro ?_ ?_; · first | omega | assumption | exact ⟨_, _, rfl, rfl⟩) | ((first | refine ⟨_, hm1, ?_⟩ | refine ⟨_, ho, ?_⟩ | refine ⟨_, hs, ?_⟩); simp -implicitDefEqProofs (maxSteps := 1000000) (disch := omega) only [go_sem, ↓reduceIte]) | fail

def cL (g x y : Int) : List AV := [B (decide (g < 0)), L (D g.natAbs), B (decide (x < 0)), L (D x.natAbs), B (decide (y < 0)), L (D y.natAbs)]
structure BS where
  g0 : Int
  x0 : Int
  y0 : Int
  g1 : Int
  x1 : Int
  y1 : Int
def bz0 : Obj' := .box [B false, .nil] false
def F32 (t : BS) : St := ⟨[(4, .ptr 2 0), (5, .ptr 3 0), (6, .ptr 4 0), (9, .ptr 5 0), (10, .ptr 6 0)], [(6, .box (cL t.g1 t.x1 t.y1) false), (5, .box (cL t.g0 t.x0 t.y0) false), (4, bz0), (3, bz0), (2, bz0)], 7, 0⟩
def Jb (t : BS) : Prop := lenZ t.g0 ≤ 41 ∧ lenZ t.x0 ≤ 41 ∧ lenZ t.y0 ≤ 41 ∧ lenZ t.g1 ≤ 41 ∧ lenZ t.x1 ≤ 41 ∧ lenZ t.y1 ≤ 41
def bstep (t : BS) : BS := ⟨t.g1, t.x1, t.y1, t.g0 - t.g1 * t.g0.fdiv t.g1, t.x0 - t.x1 * t.g0.fdiv t.g1, t.y0 - t.y1 * t.g0.fdiv t.g1⟩
def bezT (t : BS) : AV := if t.g0 < 0 then .tup [Z (-t.g0), Z (-t.x0), Z (-t.y0), I 0] else .tup [Z t.g0, Z t.x0, Z t.y0, I 0]
theorem fdiv_small (a b : Int) : (a.fdiv b).natAbs ≤ a.natAbs := by
  have key : ∀ a b : Int, 0 < b → (a.fdiv b).natAbs ≤ a.natAbs := fun a b h => by
    have h1 := Int.mul_fdiv_add_fmod a b
    have h2 := Int.fmod_nonneg_of_pos a h
    have h3 := Int.fmod_lt_of_pos a h
    generalize a.fdiv b = q at *
    generalize a.fmod b = r at *
    rcases Int.lt_or_le 0 q with g | g
    · have : q ≤ b * q := by have := Int.mul_le_mul_of_nonneg_right (show 1 ≤ b by omega) (show 0 ≤ q by omega); omega
      omega
    · rcases Int.lt_or_le q 0 with g' | g'
      · have : b * (q + 1) ≤ 1 * (q + 1) := by
          have := Int.mul_le_mul_of_nonneg_right (show 1 ≤ b by omega) (show 0 ≤ -(q + 1) by omega)
          have e1 : b * -(q + 1) = -(b * (q + 1)) := by grind
          have e2 : 1 * -(q + 1) = -(1 * (q + 1)) := by grind
          omega
        have e3 : b * (q + 1) = b * q + b := by grind
        omega
      · omega
  rcases Int.lt_trichotomy b 0 with h | h | h
  · have := key (-a) (-b) (by omega)
    rw [Int.natAbs_neg, Int.neg_fdiv_neg] at this; exact this
  · subst h; simp
  · exact key a b h
theorem fmod_small (a b : Int) (hb : b ≠ 0) : (a - b * a.fdiv b).natAbs < b.natAbs := by
  have key : ∀ a b : Int, 0 < b → (a - b * a.fdiv b).natAbs < b.natAbs := fun a b h => by
    have h1 := Int.mul_fdiv_add_fmod a b
    have h2 := Int.fmod_nonneg_of_pos a h
    have h3 := Int.fmod_lt_of_pos a h
    omega
  rcases Int.lt_or_lt_of_ne hb with h | h
  · have := key (-a) (-b) (by omega)
    rw [Int.neg_fdiv_neg] at this
    have e : -a - -b * a.fdiv b = -(a - b * a.fdiv b) := by grind
    rw [e] at this; simpa using this
  · exact key a b h
def G32 (a b : Int) : St := ⟨[(4, .ptr 2 0), (5, .ptr 3 0), (6, .ptr 4 0), (9, .ptr 5 0), (10, .ptr 6 0)], [(6, .box [B (decide (b < 0)), L (D b.natAbs), B false, .nil, B (decide ((1 : Int) < 0)), L (D (Int.natAbs 1))] false), (5, .box [B (decide (a < 0)), L (D a.natAbs), B (decide ((1 : Int) < 0)), L (D (Int.natAbs 1)), B false, .nil] false), (4, bz0), (3, bz0), (2, bz0)], 7, 0⟩
def p1 (i : Nat) : Nat := if i < 5 then i else i + 1
def p2 (i : Nat) : Nat := if i < 5 then i else if i = 5 then 7 else 6
theorem p1_inj : ∀ i j, i < 7 → j < 7 → p1 i = p1 j → i = j := by
  intro i j h1 h2 h; unfold p1 at h; (split at h <;> split at h) <;> omega
theorem p2_inj : ∀ i j, i < 7 → j < 7 → p2 i = p2 j → i = j := by
  intro i j h1 h2 h; unfold p2 at h; (repeat' split at h) <;> omega
theorem p1s : p1 2 = 2 ∧ p1 3 = 3 ∧ p1 4 = 4 ∧ p1 5 = 6 ∧ p1 6 = 7 := by decide
theorem p2s : p2 2 = 2 ∧ p2 3 = 3 ∧ p2 4 = 4 ∧ p2 5 = 7 ∧ p2 6 = 6 := by decide
set_option maxHeartbeats 8000000 in
theorem Bezout_walk (a b : Int) (la : lenZ a ≤ 40) (lb : lenZ b ≤ 40) (Jm : BS → Prop) (hJ0 : Jm ⟨a, 1, 0, b, 0, 1⟩) (hJs : ∀ t, Jm t → t.g1 ≠ 0 → Jm (bstep t)) (hJb : ∀ t, Jm t → Jb t) :
    PCr Tryz.prog 32 [Z a, Z b] (fun r => ∃ t, Jm t ∧ t.g1 = 0 ∧ r = bezT t) := by
  have hare := are_pc [(decide (a < 0), D a.natAbs), (decide (b < 0), D b.natAbs)] (by simp) (by intro z hz; unfold lenZ at la lb; simp at hz; rcases hz with rfl | rfl <;> simp <;> omega)
  rw [if_pos (by intro z hz; simp at hz; rcases hz with rfl | rfl; exact okZ la; exact okZ lb), LZ2] at hare
  have hsg := signed_D (decide (a < 0)) a.natAbs (by unfold lenZ at la; omega)
  rw [Z_sg] at hsg
  have h1 := one_Z
  refine PCr.of tab_ok Tryz.func32 rfl rfl rfl fun c hc hm => ?_
  rw [show Tryz.f32.ntmps = _ from Tryz.ntmps32] at hc
  simp only [Tryz.f32]
  repeat' first | (refine AWp.drawT (id := 4) [0, 1, 2, 3, 4, 5, 6, 7, 9, 10] (.br 8 (.br 11 (.br 12 (.br 13 (.br 14 (.br 15 .fin .no) .no) .no) (.br 13 (.br 12 (.br 14 (.br 15 .fin .no) .no) .no) .no)) (.br 12 (.br 11 (.br 13 (.br 14 (.br 15 .fin .no) .no) .no) (.br 13 (.br 11 (.br 14 (.br 15 .fin .no) .no) (.br 14 (.br 11 (.br 15 .fin .no) .no) .no)) .no)) (.br 13 (.br 11 (.br 12 (.br 14 (.br 15 .fin .no) .no) .no) (.br 12 (.br 11 (.br 14 (.br 15 .fin .no) .no) (.br 14 (.br 11 (.br 15 .fin .no) .no) .no)) .no)) .no))) (.br 12 (.br 8 (.br 11 (.br 13 (.br 14 (.br 15 .fin .no) .no) .no) (.br 13 (.br 11 (.br 14 (.br 15 .fin .no) .no) (.br 14 (.br 11 (.br 15 .fin .no) .no) .no)) .no)) (.br 13 (.br 8 (.br 11 (.br 14 (.br 15 .fin .no) .no) (.br 14 (.br 11 (.br 15 .fin .no) .no) .no)) (.br 14 (.br 8 (.br 11 (.br 15 .fin .no) .no) .no) .no)) .no)) (.br 13 (.br 8 (.br 11 (.br 12 (.br 14 (.br 15 .fin .no) .no) .no) (.br 12 (.br 11 (.br 14 (.br 15 .fin .no) .no) (.br 14 (.br 11 (.br 15 .fin .no) .no) .no)) .no)) (.br 12 (.br 8 (.br 11 (.br 14 (.br 15 .fin .no) .no) (.br 14 (.br 11 (.br 15 .fin .no) .no) .no)) (.br 14 (.br 8 (.br 11 (.br 15 .fin .no) .no) .no) .no)) .no)) .no))) 6 mixed_ok (by kernel_rfl) (by rw [hc]; rfl) ?_; simp -implicitDefEqProofs (maxSteps := 1000000) (disch := omega) only [go_sem, ↓reduceIte]) | (refine AWp.cut (x := .region 4 _ true) (G32 a b) ?_ ?_) | (refine AWp.seq fun K hK => ?_) | ((first | refine AWp.draw (id := 4) [.take 0, .take 1, .take 2, .take 3, .take 4, .take 5, .take 6, .take 7, .take 9, .take 10, .grp [8, 12, 13], .take 11, .grp [14], .grp [15]] mixed_ok (by kernel_rfl) (by rw [hc]; rfl) ?_ | refine AWp.draw (id := 8) [.take 0, .take 1, .take 2, .take 3, .take 4, .take 5, .take 6, .take 7, .take 8, .take 9, .take 10, .take 11, .take 12, .take 13, .take 14, .take 15, .take 16, .take 17, .take 18, .take 19, .grp [20], .grp [21]] mixed_ok (by kernel_rfl) (by rw [hc]; rfl) ?_ | refine AWp.draw (id := 10) [.take 0, .take 1, .take 2, .take 3, .take 4, .take 5, .take 6, .take 7, .take 8, .take 9, .grp [10]] mixed_ok (by kernel_rfl) (by rw [hc]; rfl) ?_ | refine AWp.draw (id := 11) [.take 0, .take 1, .take 2, .take 3, .take 4, .take 5, .take 6, .take 7, .take 9, .grp [8, 10, 11], .grp [12], .grp [13], .take 14] mixed_ok (by kernel_rfl) (by rw [hc]; rfl) ?_ | refine AWp.region (by rw [hc]; rfl) ?_ | refine AWp.skip ?_ | refine AWp.exit ?_ | refine AWp.label ?_ | refine AWp.ret ?_ | refine appK_g ?_); simp -implicitDefEqProofs (maxSteps := 1000000) (disch := omega) only [go_sem, ↓reduceIte]) | ((first | refine hK _ ?_ | (clear hK; first | refine hK _ ?_ | (clear hK; first | refine hK _ ?_ | (clear hK; refine hK _ ?_)))); clear hK) | (refine AWp.cond ?_; simp -implicitDefEqProofs (maxSteps := 1000000) (disch := omega) only [go_sem, ↓reduceIte]; try (refine ⟨fun hlt => ?_, fun hlt => ?_⟩ <;> (try simp only [cla, clb, ne_eq, reduceCtorEq] at hlt) <;> (try exact hlt.elim))) | (refine AWp.block ?_) | ((first | refine gdO_split (fun hlt => ?_) (fun hlt => ?_) | refine tkO_split (fun hlt => ?_) (fun hlt => ?_) | refine opO_split (fun hlt => ?_) (fun hlt => ?_)) <;> have hgd := hlt <;> (try simp only [cla, clb, ne_eq, cld] at hlt) <;> (simp -implicitDefEqProofs (maxSteps := 1000000) (disch := omega) only [go_sem, ↓reduceIte, hgd]) <;> clear hgd) | (with_reducible refine And.intro ?_ ?_; · first | omega | assumption | exact ⟨_, _, rfl, rfl⟩) | ((first | refine ⟨_, hare, ?_⟩ | refine ⟨_, parts_pc _ _, ?_⟩ | refine ⟨_, hsg, ?_⟩ | refine ⟨_, h1, ?_⟩); simp -implicitDefEqProofs (maxSteps := 1000000) (disch := omega) only [go_sem, ↓reduceIte]) | (with_reducible refine And.intro ?_ ?_) | fail
  all_goals (try (
    show Sub c _ _
    first
      | (refine Sub.of0 hm p1 rfl ?_ ?_ p1_inj <;> (simp -implicitDefEqProofs only [G32, bz0, go_sem, p1s, Nat.reduceAdd, Nat.reduceEqDiff, Nat.blt_eq, Nat.reduceLT, ↓reduceIte, and_true, true_and, reduceCtorEq, Option.some.injEq]) <;> done)
      | (refine Sub.of0 hm p2 rfl ?_ ?_ p2_inj <;> (simp -implicitDefEqProofs only [G32, bz0, go_sem, p2s, Nat.reduceAdd, Nat.reduceEqDiff, Nat.blt_eq, Nat.reduceLT, ↓reduceIte, and_true, true_and, reduceCtorEq, Option.some.injEq]) <;> done)))
  refine AWp.sub (Sub.nilBox (σ := G32 a b) 6 3 rfl rfl) ?_
  refine AWp.sub (Sub.nilBox 5 5 rfl rfl) ?_
  repeat' first | (refine AWp.seq fun K hK => ?_) | ((first | refine AWp.draw (id := 4) [.take 0, .take 1, .take 2, .take 3, .take 4, .take 5, .take 6, .take 7, .take 9, .take 10, .grp [8, 12, 13], .take 11, .grp [14], .grp [15]] mixed_ok (by kernel_rfl) (by rw [hc]; rfl) ?_ | refine AWp.draw (id := 8) [.take 0, .take 1, .take 2, .take 3, .take 4, .take 5, .take 6, .take 7, .take 8, .take 9, .take 10, .take 11, .take 12, .take 13, .take 14, .take 15, .take 16, .take 17, .take 18, .take 19, .grp [20], .grp [21]] mixed_ok (by kernel_rfl) (by rw [hc]; rfl) ?_ | refine AWp.draw (id := 10) [.take 0, .take 1, .take 2, .take 3, .take 4, .take 5, .take 6, .take 7, .take 8, .take 9, .grp [10]] mixed_ok (by kernel_rfl) (by rw [hc]; rfl) ?_ | refine AWp.draw (id := 11) [.take 0, .take 1, .take 2, .take 3, .take 4, .take 5, .take 6, .take 7, .take 9, .grp [8, 10, 11], .grp [12], .grp [13], .take 14] mixed_ok (by kernel_rfl) (by rw [hc]; rfl) ?_ | refine AWp.region (by rw [hc]; rfl) ?_ | refine AWp.skip ?_ | refine AWp.exit ?_ | refine AWp.label ?_ | refine AWp.ret ?_ | refine appK_g ?_); simp -implicitDefEqProofs (maxSteps := 1000000) (disch := omega) only [go_sem, ↓reduceIte]) | ((first | refine hK _ ?_ | (clear hK; first | refine hK _ ?_ | (clear hK; first | refine hK _ ?_ | (clear hK; refine hK _ ?_)))); clear hK) | (refine AWp.cond ?_; simp -implicitDefEqProofs (maxSteps := 1000000) (disch := omega) only [go_sem, ↓reduceIte]; try (refine ⟨fun hlt => ?_, fun hlt => ?_⟩ <;> (try simp only [cla, clb, ne_eq, reduceCtorEq] at hlt) <;> (try exact hlt.elim))) | (refine AWp.block ?_) | ((first | refine gdO_split (fun hlt => ?_) (fun hlt => ?_) | refine tkO_split (fun hlt => ?_) (fun hlt => ?_) | refine opO_split (fun hlt => ?_) (fun hlt => ?_)) <;> have hgd := hlt <;> (try simp only [cla, clb, ne_eq, cld] at hlt) <;> (simp -implicitDefEqProofs (maxSteps := 1000000) (disch := omega) only [go_sem, ↓reduceIte, hgd]) <;> clear hgd) | (with_reducible refine And.intro ?_ ?_; · first | omega | assumption | exact ⟨_, _, rfl, rfl⟩) | fail
  refine AWp.loopInv F32 (fun t => t.g1.natAbs) Jm ⟨a, 1, 0, b, 0, 1⟩ hJ0 (Sub.of0 hm id rfl ?_ ?_ (fun _ _ _ _ h => h)) ?_
  · simp -implicitDefEqProofs only [G32, F32, go_sem, id, Nat.reduceAdd, Nat.reduceEqDiff, Nat.blt_eq, Nat.reduceLT, ↓reduceIte, and_true, true_and]
  · simp -implicitDefEqProofs only [G32, F32, cL, bz0, go_sem, id, D_zero, Int.natAbs_zero, List.map_nil, Nat.reduceAdd, Nat.reduceEqDiff, Nat.blt_eq, Nat.reduceLT, ↓reduceIte, and_true, true_and, reduceCtorEq, Option.some.injEq]
    exact ⟨rfl, rfl⟩
  intro t hJ ih
  have hb := hJb t hJ
  obtain ⟨b1, b2, b3, b4, b5, b6⟩ := hb
  have hz : 0 < ((D t.g1.natAbs).length : Int) → t.g1 ≠ 0 := fun h e => by rw [e, Int.natAbs_zero, D_zero] at h; simp at h
  have lq : lenZ (t.g0.fdiv t.g1) ≤ 41 := Nat.le_trans (lenZ_le (fdiv_small _ _)) b1
  have d1 : 0 < ((D t.g1.natAbs).length : Int) → _ := fun h => divided_Z t.g0 t.g1 (hz h) (by unfold lenZ at b1; omega) (by unfold lenZ at b4; omega)
  have n1 := next_pc t.g0 t.g1 (t.g0.fdiv t.g1) (by omega) (by omega) (by omega)
  have n2 := next_pc t.x0 t.x1 (t.g0.fdiv t.g1) (by omega) (by omega) (by omega)
  have n3 := next_pc t.y0 t.y1 (t.g0.fdiv t.g1) (by omega) (by omega) (by omega)
  simp only [F32, cL, bz0]
  have o1 := opposite_Z t.g0 (by unfold lenZ at b1; omega)
  have o2 := opposite_Z t.x0 (by unfold lenZ at b2; omega)
  have o3 := opposite_Z t.y0 (by unfold lenZ at b3; omega)
  have s1 := signed_D (decide (t.g0 < 0)) t.g0.natAbs (by unfold lenZ at b1; omega)
  have s2 := signed_D (decide (-t.g0 < 0)) (-t.g0).natAbs (by rw [Int.natAbs_neg]; unfold lenZ at b1; omega)
  rw [Z_sg] at s1 s2
  repeat' first | (refine AWp.drawT (id := 11) [0, 1, 2, 3, 4, 5, 6, 7, 9] (.br 8 (.br 10 (.br 11 (.br 12 (.br 13 (.br 14 .fin .no) .no) .no) .no) (.br 11 (.br 10 (.br 12 (.br 13 (.br 14 .fin .no) .no) .no) (.br 12 (.br 10 (.br 13 (.br 14 .fin .no) .no) .no) .no)) .no)) (.br 10 (.br 8 (.br 11 (.br 12 (.br 13 (.br 14 .fin .no) .no) .no) .no) (.br 11 (.br 8 (.br 12 (.br 13 (.br 14 .fin .no) .no) .no) .no) .no)) (.br 11 (.br 8 (.br 10 (.br 12 (.br 13 (.br 14 .fin .no) .no) .no) (.br 12 (.br 10 (.br 13 (.br 14 .fin .no) .no) .no) .no)) (.br 10 (.br 8 (.br 12 (.br 13 (.br 14 .fin .no) .no) .no) .no) .no)) .no))) 6 mixed_ok (by kernel_rfl) (by rw [hc]; rfl) ?_; simp -implicitDefEqProofs (maxSteps := 1000000) (disch := omega) only [go_sem, ↓reduceIte]) | (refine AWp.sub (Sub.toDat 13 rfl) ?_; refine AWp.drawT (id := 8) [0, 1, 2, 3, 4, 5, 6, 7, 8, 9, 10, 11, 12, 13, 14, 15, 16, 17, 18, 19] (.br 20 (.br 21 .fin .no) .no) 2 mixed_ok (by kernel_rfl) (by rw [hc]; rfl) ?_; simp -implicitDefEqProofs (maxSteps := 1000000) (disch := omega) only [go_sem, ↓reduceIte]) | (refine AWp.seq fun K hK => ?_) | ((first | refine AWp.draw (id := 4) [.take 0, .take 1, .take 2, .take 3, .take 4, .take 5, .take 6, .take 7, .take 9, .take 10, .grp [8, 12, 13], .take 11, .grp [14], .grp [15]] mixed_ok (by kernel_rfl) (by rw [hc]; rfl) ?_ | refine AWp.draw (id := 8) [.take 0, .take 1, .take 2, .take 3, .take 4, .take 5, .take 6, .take 7, .take 8, .take 9, .take 10, .take 11, .take 12, .take 13, .take 14, .take 15, .take 16, .take 17, .take 18, .take 19, .grp [20], .grp [21]] mixed_ok (by kernel_rfl) (by rw [hc]; rfl) ?_ | refine AWp.draw (id := 10) [.take 0, .take 1, .take 2, .take 3, .take 4, .take 5, .take 6, .take 7, .take 8, .take 9, .grp [10]] mixed_ok (by kernel_rfl) (by rw [hc]; rfl) ?_ | refine AWp.draw (id := 11) [.take 0, .take 1, .take 2, .take 3, .take 4, .take 5, .take 6, .take 7, .take 9, .grp [8, 10, 11], .grp [12], .grp [13], .take 14] mixed_ok (by kernel_rfl) (by rw [hc]; rfl) ?_ | refine AWp.region (by rw [hc]; rfl) ?_ | refine AWp.skip ?_ | refine AWp.exit ?_ | refine AWp.label ?_ | refine AWp.ret ?_ | refine appK_g ?_); simp -implicitDefEqProofs (maxSteps := 1000000) (disch := omega) only [go_sem, ↓reduceIte]) | ((first | refine hK _ ?_ | (clear hK; first | refine hK _ ?_ | (clear hK; first | refine hK _ ?_ | (clear hK; refine hK _ ?_)))); clear hK) | (refine AWp.cond ?_; simp -implicitDefEqProofs (maxSteps := 1000000) (disch := omega) only [go_sem, ↓reduceIte]; try (refine ⟨fun hlt => ?_, fun hlt => ?_⟩ <;> (try simp only [cla, clb, ne_eq, reduceCtorEq] at hlt) <;> (try exact hlt.elim))) | (refine AWp.block ?_) | ((first | refine gdO_split (fun hlt => ?_) (fun hlt => ?_) | refine tkO_split (fun hlt => ?_) (fun hlt => ?_) | refine opO_split (fun hlt => ?_) (fun hlt => ?_)) <;> have hgd := hlt <;> (try simp only [cla, clb, ne_eq, cld] at hlt) <;> (simp -implicitDefEqProofs (maxSteps := 1000000) (disch := omega) only [go_sem, ↓reduceIte, hgd]) <;> clear hgd) | (with_reducible refine And.intro ?_ ?_; · first | omega | assumption | exact ⟨_, _, rfl, rfl⟩) | ((first | refine ⟨_, d1 (by assumption), ?_⟩ | refine ⟨_, o1, ?_⟩ | refine ⟨_, o2, ?_⟩ | refine ⟨_, o3, ?_⟩ | refine ⟨_, parts_pc _ _, ?_⟩ | refine ⟨_, s1, ?_⟩ | refine ⟨_, s2, ?_⟩ | refine ⟨_, n1, ?_⟩ | refine ⟨_, n2, ?_⟩ | refine ⟨_, n3, ?_⟩); simp -implicitDefEqProofs (maxSteps := 1000000) (disch := omega) only [go_sem, ↓reduceIte]) | (with_reducible refine And.intro ?_ ?_) | fail
  · refine ih (bstep t) _ (hJs t hJ (hz (by assumption))) (fmod_small _ _ (hz (by assumption))) (Sub.of0 hm id rfl ?_ ?_ (fun _ _ _ _ h => h))
    · simp -implicitDefEqProofs only [F32, go_sem, id, Nat.reduceAdd, Nat.reduceEqDiff, Nat.blt_eq, Nat.reduceLT, ↓reduceIte, and_true, true_and]
    · simp -implicitDefEqProofs only [F32, cL, bz0, bstep, go_sem, id, Nat.reduceAdd, Nat.reduceEqDiff, Nat.blt_eq, Nat.reduceLT, ↓reduceIte, and_true, true_and, reduceCtorEq, Option.some.injEq]
      exact ⟨rfl, rfl⟩
  all_goals
    have hg1 : t.g1 = 0 := by
      have h2 := D_nil (n := t.g1.natAbs)
      have h3 := h2.1 (List.eq_nil_of_length_eq_zero (by omega))
      omega
    refine ⟨t, hJ, hg1, ?_⟩
    first
      | (rw [bezT, if_pos (by assumption)]; done)
      | (rw [bezT, if_neg (by omega)]; done)
      | (rw [bezT, if_pos (by assumption)]; rfl)
      | (rw [bezT, if_neg (by omega)]; rfl)
end Go.Proofs.YthhjcfejgoddlaaGreatDoor
end

section
set_option linter.unusedSimpArgs false
set_option linter.unusedVariables false
set_option maxRecDepth 100000
namespace Go.Proofs.YthhjcfejgoddlaaGreatDoor
open Go Go.Abs

def Jx (t : BS) : Prop := t = ⟨240, 1, 0, 46, 0, 1⟩ ∨ t = ⟨46, 0, 1, 10, 1, -5⟩ ∨ t = ⟨10, 1, -5, 6, -4, 21⟩ ∨ t = ⟨6, -4, 21, 4, 5, -26⟩ ∨ t = ⟨4, 5, -26, 2, -9, 47⟩ ∨ t = ⟨2, -9, 47, 0, 23, -120⟩
theorem Bezout_240 : PC Tryz.prog 32 [Z 240, Z 46] (.tup [Z 2, Z (-9), Z 47, I 0]) := by
  have h := Bezout_walk 240 46 (Nat.le_trans (lenZ_small (by decide)) (by decide)) (Nat.le_trans (lenZ_small (by decide)) (by decide)) Jx (.inl rfl) (by
    intro t ht hne
    rcases ht with rfl | rfl | rfl | rfl | rfl | rfl
    · exact .inr (.inl rfl)
    · exact .inr (.inr (.inl rfl))
    · exact .inr (.inr (.inr (.inl rfl)))
    · exact .inr (.inr (.inr (.inr (.inl rfl))))
    · exact .inr (.inr (.inr (.inr (.inr rfl))))
    · exact absurd rfl hne) (by
    intro t ht
    have k : ∀ z : Int, z.natAbs < 1000000000 → lenZ z ≤ 41 := fun z hz => Nat.le_trans (lenZ_small hz) (by decide)
    rcases ht with rfl | rfl | rfl | rfl | rfl | rfl <;> exact ⟨k _ (by decide), k _ (by decide), k _ (by decide), k _ (by decide), k _ (by decide), k _ (by decide)⟩)
  refine PCr.pc ⟨h.1, fun w A vs hg hl hv => (h.2 w A vs hg hl hv).mono fun e w' ⟨v, r, he, hr, hb, hrv⟩ => ⟨v, r, he, ?_, hb, hrv⟩⟩
  obtain ⟨t, ht, hz, rfl⟩ := hr
  rcases ht with rfl | rfl | rfl | rfl | rfl | rfl
  · exact absurd hz (by decide)
  · exact absurd hz (by decide)
  · exact absurd hz (by decide)
  · exact absurd hz (by decide)
  · exact absurd hz (by decide)
  · rfl
end Go.Proofs.YthhjcfejgoddlaaGreatDoor
end

section
set_option linter.unusedSimpArgs false
set_option linter.unusedVariables false
set_option maxRecDepth 100000
namespace Go.Proofs.YthhjcfejgoddlaaGreatDoor
open Go Go.Abs
attribute [local go_sem] wrap64 Int.tdiv_eq_ediv_of_nonneg Int.tmod_eq_emod_of_nonneg eq_self Bool.false_eq_true Bool.true_eq_false Bool.not_true Bool.not_false
attribute [local go_sem_proc] Nat.reduceAdd Nat.reduceMul Nat.reduceEqDiff Nat.reduceLT Nat.reduceLeDiff Int.reduceEq Int.reduceNeg Int.reduceToNat reduceCtorEq Int.reduceBNe Int.reduceBEq

theorem list_ne {xs ys : List Int} (hl : xs.length = ys.length) {i : Nat} (hi : i < xs.length) (h : xs.getD i 0 ≠ ys.getD i 0) : xs ≠ ys := fun e => h (by rw [e])
theorem list_eq {xs ys : List Int} (hl : xs.length = ys.length) (h : ∀ i, i < xs.length → xs.getD i 0 = ys.getD i 0) : xs = ys := by
  refine List.ext_getElem hl fun i h1 h2 => ?_
  have := h i h1
  simpa [List.getD, h1, h2] using this
def F74 (xs ys : List Int) (i : Nat) : St := ⟨[(0, L xs), (1, L ys), (4, B false), (12, I xs.length), (13, I i)], [], 0, 0⟩
set_option maxHeartbeats 1000000 in
theorem equalI_pc (xs ys : List Int) (lx : xs.length ≤ 1000000) (ly : ys.length ≤ 1000000) : PC Tryz.prog 74 [L xs, L ys] (B (decide (xs = ys))) := by
  refine PCr.pc (PCr.of tab_ok Tryz.func74 rfl rfl rfl fun c hc hm => ?_)
  rw [show Tryz.f74.ntmps = _ from Tryz.ntmps74] at hc
  simp only [Tryz.f74]
  repeat' first | (refine AWp.seq fun K hK => ?_) | ((first | refine AWp.draw (id := 6) [.take 0, .take 1, .take 2, .take 3, .take 4, .take 5, .take 6, .take 7, .take 8] mixed_ok (by kernel_rfl) (by rw [hc]; rfl) ?_ | refine AWp.region (by rw [hc]; rfl) ?_ | refine AWp.skip ?_ | refine AWp.exit ?_ | refine AWp.label ?_ | refine AWp.ret ?_ | refine appK_g ?_); simp -implicitDefEqProofs (maxSteps := 1000000) (disch := omega) only [go_sem, ↓reduceIte]) | ((first | refine hK _ ?_ | (clear hK; first | refine hK _ ?_ | (clear hK; first | refine hK _ ?_ | (clear hK; refine hK _ ?_)))); clear hK) | (refine AWp.cond ?_; simp -implicitDefEqProofs (maxSteps := 1000000) (disch := omega) only [go_sem, ↓reduceIte]; try (refine ⟨fun hlt => ?_, fun hlt => ?_⟩ <;> (try simp only [cla, clb, ne_eq, reduceCtorEq] at hlt) <;> (try exact hlt.elim))) | (refine AWp.block ?_) | ((first | refine gdO_split (fun hlt => ?_) (fun hlt => ?_) | refine tkO_split (fun hlt => ?_) (fun hlt => ?_) | refine opO_split (fun hlt => ?_) (fun hlt => ?_)) <;> have hgd := hlt <;> (try simp only [cla, clb, ne_eq, cld] at hlt) <;> (simp -implicitDefEqProofs (maxSteps := 1000000) (disch := omega) only [go_sem, ↓reduceIte, hgd]) <;> clear hgd) | (with_reducible refine And.intro ?_ ?_; · first | omega | assumption | exact ⟨_, _, rfl, rfl⟩) | fail
  · have : ¬ xs = ys := fun e => hlt (by rw [e])
    simp [this]
  · have hll : xs.length = ys.length := by omega
    refine AWp.loopInv (F74 xs ys) (fun i => xs.length - i) (fun i => i ≤ xs.length ∧ ∀ j, j < i → xs.getD j 0 = ys.getD j 0) 0 ⟨Nat.zero_le _, fun j h => absurd h (Nat.not_lt_zero _)⟩ (Sub.of0 hm id rfl ?_ ?_ (fun _ _ _ _ h => h)) ?_
    all_goals (try dsimp only)
    all_goals (first | omega | (simp -implicitDefEqProofs (maxSteps := 1000000) (disch := omega) only [F74, id, go_sem, Nat.blt_eq, Nat.reduceAdd, Nat.reduceSub, Nat.reduceEqDiff, Nat.reduceLT, ↓reduceIte, and_true, true_and, AV.dat.injEq, DV.int.injEq, DV.bool.injEq, DV.lst.injEq, eq_self_iff_true]; first | done | omega | (simp; done) | (simp; omega)) | (simp; done) | (simp; omega) | skip)
    rintro i ⟨h1, h2⟩ ih
    simp only [F74]
    repeat' first | (refine AWp.seq fun K hK => ?_) | ((first | refine AWp.draw (id := 6) [.take 0, .take 1, .take 2, .take 3, .take 4, .take 5, .take 6, .take 7, .take 8] mixed_ok (by kernel_rfl) (by rw [hc]; rfl) ?_ | refine AWp.region (by rw [hc]; rfl) ?_ | refine AWp.skip ?_ | refine AWp.exit ?_ | refine AWp.label ?_ | refine AWp.ret ?_ | refine appK_g ?_); simp -implicitDefEqProofs (maxSteps := 1000000) (disch := omega) only [go_sem, ↓reduceIte]) | ((first | refine hK _ ?_ | (clear hK; first | refine hK _ ?_ | (clear hK; first | refine hK _ ?_ | (clear hK; refine hK _ ?_)))); clear hK) | (refine AWp.cond ?_; simp -implicitDefEqProofs (maxSteps := 1000000) (disch := omega) only [go_sem, ↓reduceIte]; try (refine ⟨fun hlt => ?_, fun hlt => ?_⟩ <;> (try simp only [cla, clb, ne_eq, reduceCtorEq] at hlt) <;> (try exact hlt.elim))) | (refine AWp.block ?_) | ((first | refine gdO_split (fun hlt => ?_) (fun hlt => ?_) | refine tkO_split (fun hlt => ?_) (fun hlt => ?_) | refine opO_split (fun hlt => ?_) (fun hlt => ?_)) <;> have hgd := hlt <;> (try simp only [cla, clb, ne_eq, cld] at hlt) <;> (simp -implicitDefEqProofs (maxSteps := 1000000) (disch := omega) only [go_sem, ↓reduceIte, hgd]) <;> clear hgd) | (with_reducible refine And.intro ?_ ?_; · first | omega | assumption | exact ⟨_, _, rfl, rfl⟩) | fail
    · exact (decide_eq_false (list_ne hll (by omega) hlt)).symm
    · refine ih (i + 1) _ ⟨by omega, fun j hj => ?_⟩ (by omega) (Sub.of0 hm id rfl ?_ ?_ (fun _ _ _ _ h => h))
      · rcases Nat.lt_or_ge j i with h | h
        · exact h2 j h
        · rw [show j = i by omega]; exact hlt
      all_goals (try dsimp only)
      all_goals (first | omega | (simp -implicitDefEqProofs (maxSteps := 1000000) (disch := omega) only [F74, id, go_sem, Nat.blt_eq, Nat.reduceAdd, Nat.reduceSub, Nat.reduceEqDiff, Nat.reduceLT, ↓reduceIte, and_true, true_and, AV.dat.injEq, DV.int.injEq, DV.bool.injEq, DV.lst.injEq, eq_self_iff_true]; first | done | omega | (simp; done) | (simp; omega)) | (simp; done) | (simp; omega) | skip)
    · exact (decide_eq_true (list_eq hll (fun j hj => h2 j (by omega)))).symm
def eB (n : Int) : List DV := [.int .u8 n]
@[reducible] def LB (xs : List Int) : AV := .dat (.lst (xs.map eB))
theorem eltB (xs : List Int) (k : Nat) (h : k < xs.length) : (xs.map eB).getD k [] = eB (xs.getD k 0) := by
  simp [List.getD, h]
attribute [go_sem] eB eltB
def F71 (xs ys : List Int) (i : Nat) : St := ⟨[(0, LB xs), (1, LB ys), (4, B false), (12, I xs.length), (13, I i)], [], 0, 0⟩
set_option maxHeartbeats 1000000 in
theorem equalB_pc (xs ys : List Int) (lx : xs.length ≤ 1000000) (ly : ys.length ≤ 1000000) : PC Tryz.prog 71 [LB xs, LB ys] (B (decide (xs = ys))) := by
  refine PCr.pc (PCr.of tab_ok Tryz.func71 rfl rfl rfl fun c hc hm => ?_)
  rw [show Tryz.f71.ntmps = _ from Tryz.ntmps71] at hc
  simp only [Tryz.f71]
  repeat' first | (refine AWp.seq fun K hK => ?_) | ((first | refine AWp.draw (id := 6) [.take 0, .take 1, .take 2, .take 3, .take 4, .take 5, .take 6, .take 7, .take 8] mixed_ok (by kernel_rfl) (by rw [hc]; rfl) ?_ | refine AWp.region (by rw [hc]; rfl) ?_ | refine AWp.skip ?_ | refine AWp.exit ?_ | refine AWp.label ?_ | refine AWp.ret ?_ | refine appK_g ?_); simp -implicitDefEqProofs (maxSteps := 1000000) (disch := omega) only [go_sem, ↓reduceIte]) | ((first | refine hK _ ?_ | (clear hK; first | refine hK _ ?_ | (clear hK; first | refine hK _ ?_ | (clear hK; refine hK _ ?_)))); clear hK) | (refine AWp.cond ?_; simp -implicitDefEqProofs (maxSteps := 1000000) (disch := omega) only [go_sem, ↓reduceIte]; try (refine ⟨fun hlt => ?_, fun hlt => ?_⟩ <;> (try simp only [cla, clb, ne_eq, reduceCtorEq] at hlt) <;> (try exact hlt.elim))) | (refine AWp.block ?_) | ((first | refine gdO_split (fun hlt => ?_) (fun hlt => ?_) | refine tkO_split (fun hlt => ?_) (fun hlt => ?_) | refine opO_split (fun hlt => ?_) (fun hlt => ?_)) <;> have hgd := hlt <;> (try simp only [cla, clb, ne_eq, cld] at hlt) <;> (simp -implicitDefEqProofs (maxSteps := 1000000) (disch := omega) only [go_sem, ↓reduceIte, hgd]) <;> clear hgd) | (with_reducible refine And.intro ?_ ?_; · first | omega | assumption | exact ⟨_, _, rfl, rfl⟩) | fail
  · have : ¬ xs = ys := fun e => hlt (by rw [e])
    simp [this]
  · have hll : xs.length = ys.length := by omega
    refine AWp.loopInv (F71 xs ys) (fun i => xs.length - i) (fun i => i ≤ xs.length ∧ ∀ j, j < i → xs.getD j 0 = ys.getD j 0) 0 ⟨Nat.zero_le _, fun j h => absurd h (Nat.not_lt_zero _)⟩ (Sub.of0 hm id rfl ?_ ?_ (fun _ _ _ _ h => h)) ?_
    all_goals (try dsimp only)
    all_goals (first | omega | (simp -implicitDefEqProofs (maxSteps := 1000000) (disch := omega) only [F71, id, go_sem, Nat.blt_eq, Nat.reduceAdd, Nat.reduceSub, Nat.reduceEqDiff, Nat.reduceLT, ↓reduceIte, and_true, true_and, AV.dat.injEq, DV.int.injEq, DV.bool.injEq, DV.lst.injEq, eq_self_iff_true]; first | done | omega | (simp; done) | (simp; omega)) | (simp; done) | (simp; omega) | skip)
    rintro i ⟨h1, h2⟩ ih
    simp only [F71]
    repeat' first | (refine AWp.seq fun K hK => ?_) | ((first | refine AWp.draw (id := 6) [.take 0, .take 1, .take 2, .take 3, .take 4, .take 5, .take 6, .take 7, .take 8] mixed_ok (by kernel_rfl) (by rw [hc]; rfl) ?_ | refine AWp.region (by rw [hc]; rfl) ?_ | refine AWp.skip ?_ | refine AWp.exit ?_ | refine AWp.label ?_ | refine AWp.ret ?_ | refine appK_g ?_); simp -implicitDefEqProofs (maxSteps := 1000000) (disch := omega) only [go_sem, ↓reduceIte]) | ((first | refine hK _ ?_ | (clear hK; first | refine hK _ ?_ | (clear hK; first | refine hK _ ?_ | (clear hK; refine hK _ ?_)))); clear hK) | (refine AWp.cond ?_; simp -implicitDefEqProofs (maxSteps := 1000000) (disch := omega) only [go_sem, ↓reduceIte]; try (refine ⟨fun hlt => ?_, fun hlt => ?_⟩ <;> (try simp only [cla, clb, ne_eq, reduceCtorEq] at hlt) <;> (try exact hlt.elim))) | (refine AWp.block ?_) | ((first | refine gdO_split (fun hlt => ?_) (fun hlt => ?_) | refine tkO_split (fun hlt => ?_) (fun hlt => ?_) | refine opO_split (fun hlt => ?_) (fun hlt => ?_)) <;> have hgd := hlt <;> (try simp only [cla, clb, ne_eq, cld] at hlt) <;> (simp -implicitDefEqProofs (maxSteps := 1000000) (disch := omega) only [go_sem, ↓reduceIte, hgd]) <;> clear hgd) | (with_reducible refine And.intro ?_ ?_; · first | omega | assumption | exact ⟨_, _, rfl, rfl⟩) | fail
    · exact (decide_eq_false (list_ne hll (by omega) hlt)).symm
    · refine ih (i + 1) _ ⟨by omega, fun j hj => ?_⟩ (by omega) (Sub.of0 hm id rfl ?_ ?_ (fun _ _ _ _ h => h))
      · rcases Nat.lt_or_ge j i with h | h
        · exact h2 j h
        · rw [show j = i by omega]; exact hlt
      all_goals (try dsimp only)
      all_goals (first | omega | (simp -implicitDefEqProofs (maxSteps := 1000000) (disch := omega) only [F71, id, go_sem, Nat.blt_eq, Nat.reduceAdd, Nat.reduceSub, Nat.reduceEqDiff, Nat.reduceLT, ↓reduceIte, and_true, true_and, AV.dat.injEq, DV.int.injEq, DV.bool.injEq, DV.lst.injEq, eq_self_iff_true]; first | done | omega | (simp; done) | (simp; omega)) | (simp; done) | (simp; omega) | skip)
    · exact (decide_eq_true (list_eq hll (fun j hj => h2 j (by omega)))).symm
end Go.Proofs.YthhjcfejgoddlaaGreatDoor
end

section
set_option linter.unusedSimpArgs false
set_option linter.unusedVariables false
set_option maxRecDepth 100000
namespace Go.Proofs.YthhjcfejgoddlaaGreatDoor
open Go Go.Abs
attribute [local go_sem] wrap64 Int.tdiv_eq_ediv_of_nonneg Int.tmod_eq_emod_of_nonneg eq_self Bool.false_eq_true Bool.true_eq_false Bool.not_true Bool.not_false
attribute [local go_sem_proc] Nat.reduceAdd Nat.reduceMul Nat.reduceEqDiff Nat.reduceLT Nat.reduceLeDiff Int.reduceEq Int.reduceNeg Int.reduceToNat reduceCtorEq Int.reduceBNe Int.reduceBEq

def q4 (d : List Int) (k : Nat) : List (List DV) := [[.int .u8 (IntKind.wrap .u8 ((d.getD (d.length - 1 - k) 0).fdiv (2 ^ min 24 64)))], [.int .u8 (IntKind.wrap .u8 ((d.getD (d.length - 1 - k) 0).fdiv (2 ^ min 16 64)))], [.int .u8 (IntKind.wrap .u8 ((d.getD (d.length - 1 - k) 0).fdiv (2 ^ min 8 64)))], [.int .u8 (IntKind.wrap .u8 (d.getD (d.length - 1 - k) 0))]]
theorem q4_len (d : List Int) {n : Nat} (pre : List (Fin n)) : (pre.flatMap (fun k => q4 d k.val)).length = 4 * pre.length := by
  induction pre with
  | nil => rfl
  | cons k pre ih => rw [List.flatMap_cons, List.length_append, ih, List.length_cons, show (q4 d k.val).length = 4 from rfl]; omega
def bytesP (x : Int) : AV := .tup [.dat (.lst ([.int .u8 (IntKind.wrap .u8 ((D x.natAbs).length : Int))] :: (List.range (D x.natAbs).length).flatMap (q4 (D x.natAbs)))), I 0]
set_option maxHeartbeats 4000000 in
theorem Bytes_pos (x : Int) (hx : 0 ≤ x) (lx : lenZ x ≤ 40) : PC Tryz.prog 69 [Z x] (bytesP x) := by
  have hd := dig_D x.natAbs
  have hchk := Check_pc (decide (x < 0)) (D x.natAbs) (by unfold lenZ at lx; omega)
  rw [if_pos (okZ lx)] at hchk
  have e1 : decide (x < 0) = false := decide_eq_false (by omega)
  rw [e1] at hchk
  have hN := downE_len (D x.natAbs)
  unfold lenZ at lx
  refine PCr.pc (PCr.of tab_ok Tryz.func69 rfl rfl rfl fun c hc hm => ?_)
  rw [show Tryz.f69.ntmps = _ from Tryz.ntmps69] at hc
  simp only [Tryz.f69]
  repeat' first | (refine AWp.seq fun K hK => ?_) | ((first | refine AWp.region (by rw [hc]; rfl) ?_ | refine AWp.skip ?_ | refine AWp.exit ?_ | refine AWp.label ?_ | refine AWp.ret ?_ | refine appK_g ?_); simp -implicitDefEqProofs (maxSteps := 1000000) (disch := omega) only [go_sem, ↓reduceIte, e1]) | ((first | refine hK _ ?_ | (clear hK; first | refine hK _ ?_ | (clear hK; first | refine hK _ ?_ | (clear hK; refine hK _ ?_)))); clear hK) | (refine AWp.cond ?_; simp -implicitDefEqProofs (maxSteps := 1000000) (disch := omega) only [go_sem, ↓reduceIte, e1]; try (refine ⟨fun hlt => ?_, fun hlt => ?_⟩ <;> (try simp only [cla, clb, ne_eq, reduceCtorEq] at hlt) <;> (try exact hlt.elim))) | (refine AWp.block ?_) | ((first | refine gdO_split (fun hlt => ?_) (fun hlt => ?_) | refine tkO_split (fun hlt => ?_) (fun hlt => ?_) | refine opO_split (fun hlt => ?_) (fun hlt => ?_)) <;> have hgd := hlt <;> (try simp only [cla, clb, ne_eq, cld] at hlt) <;> (simp -implicitDefEqProofs (maxSteps := 1000000) (disch := omega) only [go_sem, ↓reduceIte, e1, hgd]) <;> clear hgd) | (with_reducible refine And.intro ?_ ?_; · first | omega | assumption | exact ⟨_, _, rfl, rfl⟩) | ((first | refine ⟨_, hchk, ?_⟩ | refine ⟨_, parts_pc _ _, ?_⟩ | refine ⟨_, down_pc _, ?_⟩); simp -implicitDefEqProofs (maxSteps := 1000000) (disch := omega) only [go_sem, ↓reduceIte, e1]) | fail
  refine AWp.rangeF 140 [.cptr [dL (D x.natAbs)]] (downE (D x.natAbs)) [(7, 29)] (by simp [go_sem]) (down_it (D x.natAbs) (by omega)) (fun el hel => ?_) (by rw [hc]; rfl) (.one _ _ _ _ _ _) (by rw [hc]; rfl) hm.2
      (fun pre s n => ∃ k, k ≠ 0 ∧ k ≠ 2 ∧ k < n ∧ s = [(2, .box [.own k] false), (k, .row 5 1 ([.int .u8 (IntKind.wrap .u8 ((D x.natAbs).length : Int))] :: pre.flatMap (fun k => q4 (D x.natAbs) k.val)) false), (0, .box [B false, L (D x.natAbs)] false)])
      (fun code pre s n => False) ⟨1, Nat.one_ne_zero, by omega, by show 1 < 3; omega, rfl⟩ ?_ ?_ ?_
  · obtain ⟨k, _, rfl⟩ := List.mem_map.1 hel; rfl
  · intro c' l pre k s n hc' hm' hlen hn hI
    have hc := hc'.trans hc
    have hpl := q4_len (D x.natAbs) pre
    have hk : k.val < (D x.natAbs).length := by have := k.isLt; omega
    rw [downE_get]
    simp only at hm' hn
    obtain ⟨j, hj0, hj2, hjn, rfl⟩ := hI
    refine AWp.postSub ?_
    have g1 : ¬ n = j := by omega
    have g2 : ¬ 2 = j := by omega
    have g3 : ¬ 0 = j := by omega
    have g4 : ¬ n = 1 := by omega
    have g5 : ¬ n = 2 := by omega
    have g6 : ¬ n = 0 := by omega
    have g7 : ¬ 2 = n := by omega
    have g8 : ¬ 0 = n := by omega
    have g9 : ¬ n + 1 = j := by omega
    simp -implicitDefEqProofs (maxSteps := 1000000) (disch := omega) only [go_sem, ↓reduceIte]
    repeat' first | (refine AWp.seq fun K hK => ?_) | ((first | refine AWp.region (by rw [hc]; rfl) ?_ | refine AWp.skip ?_ | refine AWp.exit ?_ | refine AWp.label ?_ | refine AWp.ret ?_ | refine appK_g ?_); simp -implicitDefEqProofs (maxSteps := 1000000) (disch := omega) only [go_sem, ↓reduceIte, hj0, hj2, g1, g2, g3, g4, g5, g6, g7, g8, g9]) | ((first | refine hK _ ?_ | (clear hK; first | refine hK _ ?_ | (clear hK; first | refine hK _ ?_ | (clear hK; refine hK _ ?_)))); clear hK) | (refine AWp.cond ?_; simp -implicitDefEqProofs (maxSteps := 1000000) (disch := omega) only [go_sem, ↓reduceIte, hj0, hj2, g1, g2, g3, g4, g5, g6, g7, g8, g9]; try (refine ⟨fun hlt => ?_, fun hlt => ?_⟩ <;> (try simp only [cla, clb, ne_eq, reduceCtorEq] at hlt) <;> (try exact hlt.elim))) | (refine AWp.block ?_) | ((first | refine gdO_split (fun hlt => ?_) (fun hlt => ?_) | refine tkO_split (fun hlt => ?_) (fun hlt => ?_) | refine opO_split (fun hlt => ?_) (fun hlt => ?_)) <;> have hgd := hlt <;> (try simp only [cla, clb, ne_eq, cld] at hlt) <;> (simp -implicitDefEqProofs (maxSteps := 1000000) (disch := omega) only [go_sem, ↓reduceIte, hj0, hj2, g1, g2, g3, g4, g5, g6, g7, g8, g9, hgd]) <;> clear hgd) | (with_reducible refine And.intro ?_ ?_; · first | omega | assumption | exact ⟨_, _, rfl, rfl⟩) | fail
    refine ⟨⟨[], [(2, .box [.own (n + 1)] false), (n + 1, .row 5 1 ([.int .u8 (IntKind.wrap .u8 ((D x.natAbs).length : Int))] :: (pre ++ [k]).flatMap (fun k => q4 (D x.natAbs) k.val)) false), (0, .box [B false, L (D x.natAbs)] false)], n + 1 + 1, 0⟩, Sub.of (fun i => i) ⟨by rw [hm']; simp only; omega, fun _ _ => rfl⟩ rfl trivial ?_ (fun _ _ _ _ h => h), n + 1, by omega, by omega, by simp only; omega, rfl⟩
    have g10 : ¬ n + 1 = 2 := by omega
    have g11 : ¬ n + 1 = 0 := by omega
    simp only [List.flatMap_append, List.flatMap_cons, List.flatMap_nil, List.append_nil, q4]
    simp only [Abs.subS, Abs.get_cons, g4, g5, g6, g10, g11, ↓reduceIte, Abs.renO, Abs.okO, List.map_cons, List.map_nil, Abs.ren, Abs.okR]
    refine ⟨by simp only [List.all_cons, List.all_nil, Bool.and_true]; show Nat.blt (n + 1) (n + 1 + 1) = true; rw [Nat.blt_eq]; omega, by rw [Nat.blt_eq]; omega, rfl, trivial, by rw [Nat.blt_eq]; omega, trivial, rfl, by rw [Nat.blt_eq]; omega, rfl, trivial⟩
  · intro s n hI
    obtain ⟨j, hj0, hj2, hjn, rfl⟩ := hI
    have g2 : ¬ 2 = j := by omega
    have g3 : ¬ 0 = j := by omega
    simp -implicitDefEqProofs (maxSteps := 1000000) (disch := omega) only [go_sem, ↓reduceIte]
    repeat' first | (refine AWp.seq fun K hK => ?_) | ((first | refine AWp.region (by rw [hc]; rfl) ?_ | refine AWp.skip ?_ | refine AWp.exit ?_ | refine AWp.label ?_ | refine AWp.ret ?_ | refine appK_g ?_); simp -implicitDefEqProofs (maxSteps := 1000000) (disch := omega) only [go_sem, ↓reduceIte, hj0, hj2, g2, g3]) | ((first | refine hK _ ?_ | (clear hK; first | refine hK _ ?_ | (clear hK; first | refine hK _ ?_ | (clear hK; refine hK _ ?_)))); clear hK) | (refine AWp.cond ?_; simp -implicitDefEqProofs (maxSteps := 1000000) (disch := omega) only [go_sem, ↓reduceIte, hj0, hj2, g2, g3]; try (refine ⟨fun hlt => ?_, fun hlt => ?_⟩ <;> (try simp only [cla, clb, ne_eq, reduceCtorEq] at hlt) <;> (try exact hlt.elim))) | (refine AWp.block ?_) | ((first | refine gdO_split (fun hlt => ?_) (fun hlt => ?_) | refine tkO_split (fun hlt => ?_) (fun hlt => ?_) | refine opO_split (fun hlt => ?_) (fun hlt => ?_)) <;> have hgd := hlt <;> (try simp only [cla, clb, ne_eq, cld] at hlt) <;> (simp -implicitDefEqProofs (maxSteps := 1000000) (disch := omega) only [go_sem, ↓reduceIte, hj0, hj2, g2, g3, hgd]) <;> clear hgd) | (with_reducible refine And.intro ?_ ?_; · first | omega | assumption | exact ⟨_, _, rfl, rfl⟩) | fail
    rw [fin_flat, hN]; rfl
  · intro code pre s n hpf hI
    exact hI.elim
end Go.Proofs.YthhjcfejgoddlaaGreatDoor
end

section
set_option linter.unusedSimpArgs false
set_option linter.unusedVariables false
set_option maxRecDepth 100000
namespace Go.Proofs.YthhjcfejgoddlaaGreatDoor
open Go Go.Abs Go.RowKit
attribute [local go_sem] wrap64 Int.tdiv_eq_ediv_of_nonneg Int.tmod_eq_emod_of_nonneg eq_self Bool.false_eq_true Bool.true_eq_false Bool.not_true Bool.not_false
attribute [local go_sem_proc] Nat.reduceAdd Nat.reduceMul Nat.reduceEqDiff Nat.reduceLT Nat.reduceLeDiff Int.reduceEq Int.reduceNeg Int.reduceToNat reduceCtorEq Int.reduceBNe Int.reduceBEq

theorem notDig_pc (n : Int) : PC Tryz.prog 145 [.dat (.int .i32 n)] (B (decide (n < 48 ∨ 57 < n))) := by
  refine PCr.pc (PCr.of tab_ok Tryz.func145 rfl rfl rfl fun c hc hm => ?_)
  rw [show Tryz.f145.ntmps = _ from Tryz.ntmps145] at hc
  simp only [Tryz.f145]
  repeat' first | (refine AWp.seq fun K hK => ?_) | ((first | refine AWp.region (by rw [hc]; rfl) ?_ | refine AWp.skip ?_ | refine AWp.exit ?_ | refine AWp.label ?_ | refine AWp.ret ?_ | refine appK_g ?_); simp -implicitDefEqProofs (maxSteps := 1000000) (disch := omega) only [go_sem, ↓reduceIte]) | ((first | refine hK _ ?_ | (clear hK; first | refine hK _ ?_ | (clear hK; first | refine hK _ ?_ | (clear hK; refine hK _ ?_)))); clear hK) | (refine AWp.cond ?_; simp -implicitDefEqProofs (maxSteps := 1000000) (disch := omega) only [go_sem, ↓reduceIte]; try (refine ⟨fun hlt => ?_, fun hlt => ?_⟩ <;> (try simp only [cla, clb, ne_eq, reduceCtorEq] at hlt) <;> (try exact hlt.elim))) | (refine AWp.block ?_) | ((first | refine gdO_split (fun hlt => ?_) (fun hlt => ?_) | refine tkO_split (fun hlt => ?_) (fun hlt => ?_) | refine opO_split (fun hlt => ?_) (fun hlt => ?_)) <;> have hgd := hlt <;> (try simp only [cla, clb, ne_eq, cld] at hlt) <;> (simp -implicitDefEqProofs (maxSteps := 1000000) (disch := omega) only [go_sem, ↓reduceIte, hgd]) <;> clear hgd) | (with_reducible refine And.intro ?_ ?_; · first | omega | assumption | exact ⟨_, _, rfl, rfl⟩) | fail
  · simp [hlt]
  · exact decide_eq_decide.2 ⟨fun h => .inr h, fun h => h.elim (fun h => by omega) id⟩

theorem cut_pc (s p : ByteArray) : PC Tryz.prog 116 [.dat (.str s), .dat (.str p)] (.tup [.dat (.str ⟨(Lib.trimPrefix s.data.toList p.data.toList).toArray⟩), B (Lib.hasPrefix s.data.toList p.data.toList)]) := by
  refine ⟨enters_of' Tryz.func116 rfl rfl, fun w A vs hgw hl hv => ?_⟩
  match vs, hl with
  | [v0, v1], _ =>
  have h := hv 0 _ rfl
  have h' := hv 1 _ rfl
  simp only [List.getD_cons_zero, List.getD_cons_succ] at h h'
  have e0 : v0 = .string s := by cases h with | dat _ _ hd => cases hd; rfl
  have e1 : v1 = .string p := by cases h' with | dat _ _ hd => cases hd; rfl
  subst e0; subst e1
  refine (Tryz.strings_CutPrefix s p w).mono ?_
  rintro e w' ⟨rfl, rfl⟩
  refine ⟨_, rfl, Below.refl _ _, .tup _ _ rfl (fun j y hj => ?_)⟩
  match j, hj with
  | 0, hj => simp at hj; subst hj; exact .dat _ _ (.str _)
  | 1, hj => simp at hj; subst hj; exact .dat _ _ (.bool _)
  | j + 2, hj => simp at hj

theorem atoi_pc (s : ByteArray) (hmax : s.size ≤ 1000000) (v : Int) (h : Lib.atoiAll s.data.toList = .ok v) : PC Tryz.prog 118 [.dat (.str s)] (.tup [I v, .dat .inil]) := by
  refine ⟨enters_of' Tryz.func118 rfl rfl, fun w A vs hgw hl hv => ?_⟩
  match vs, hl with
  | [v0], _ =>
  have g0 := hv 0 _ rfl
  simp only [List.getD_cons_zero] at g0
  have e0 : v0 = .string s := by cases g0 with | dat _ _ hd => cases hd; rfl
  subst e0
  refine (Tryz.strconv_Atoi_ok s (by omega) v h w).mono ?_
  rintro e w' ⟨rfl, hw⟩
  have hb : Below w.heap.size w w' := by
    rcases hw with rfl | ⟨t, rfl⟩
    · exact Below.refl _ _
    · exact below_bytes w t
  refine ⟨_, rfl, hb, .tup _ _ rfl (fun j y hj => ?_)⟩
  match j, hj with
  | 0, hj => simp at hj; subst hj; exact .dat _ _ (.int _ _)
  | 1, hj => simp at hj; subst hj; exact .dat _ _ .inil
  | j + 2, hj => simp at hj

def pD (x : Nat) : Bool := decide ((x : Int) < 48 ∨ 57 < (x : Int))
theorem idxS_pc (s : ByteArray) : PC Tryz.prog 144 [.dat (.str s), .dat (.fn 145 [])] (I (Lib.idxFunc pD true s)) := by
  refine ⟨enters_of' Tryz.func144 rfl rfl, fun w A vs hgw hl hv => ?_⟩
  match vs, hl with
  | [v0, v1], _ =>
  have h := hv 0 _ rfl
  have h' := hv 1 _ rfl
  simp only [List.getD_cons_zero, List.getD_cons_succ] at h h'
  have e0 : v0 = .string s := by cases h with | dat _ _ hd => cases hd; rfl
  have e1 : v1 = .func (.func 145) #[] #[] := by
    cases h' with
    | dat _ _ hd =>
      cases hd with
      | fn _ _ vs hl _ =>
        have : vs = [] := List.eq_nil_of_length_eq_zero (by simpa using hl)
        subst this; rfl
  subst e0; subst e1
  refine (Tryz.strings_IndexFunc_grows 145 #[] (enters_of' Tryz.func145 rfl rfl) pD s w ?_).mono ?_
  · intro W x hx hb
    have kp : Keeps A w A W := fun b o v ha hv => ⟨ha, by rw [hb.cell (World.block_lt_of_cell? _ _ hv)]; exact hv⟩
    refine ((notDig_pc x).2 W A [.int .i32 x] (hgw.keep kp hb) rfl (fun j y hj => ?_)).mono ?_
    · match j, hj with
      | 0, hj => simp at hj; subst hj; exact .dat _ _ (.int _ _)
      | j + 1, hj => simp at hj
    · rintro e w' ⟨v, rfl, hb', hrv⟩
      refine ⟨?_, hb'⟩
      cases hrv with
      | dat _ _ hd => cases hd; rfl
  · rintro e w' ⟨rfl, hb⟩
    exact ⟨_, rfl, hb, .dat _ _ (.int _ _)⟩
def digN (s : ByteArray) : Int := if Lib.idxFunc pD true s < 0 then s.size else Lib.idxFunc pD true s
theorem digits_pc (s : ByteArray) : PC Tryz.prog 117 [.dat (.str s)] (I (digN s)) := by
  have h := idxS_pc s
  unfold digN
  refine PCr.pc (PCr.of tab_ok Tryz.func117 rfl rfl rfl fun c hc hm => ?_)
  rw [show Tryz.f117.ntmps = _ from Tryz.ntmps117] at hc
  simp only [Tryz.f117]
  repeat' first | (refine AWp.seq fun K hK => ?_) | ((first | refine AWp.region (by rw [hc]; rfl) ?_ | refine AWp.skip ?_ | refine AWp.exit ?_ | refine AWp.label ?_ | refine AWp.ret ?_ | refine appK_g ?_); simp -implicitDefEqProofs (maxSteps := 1000000) (disch := omega) only [go_sem, ↓reduceIte]) | ((first | refine hK _ ?_ | (clear hK; first | refine hK _ ?_ | (clear hK; first | refine hK _ ?_ | (clear hK; refine hK _ ?_)))); clear hK) | (refine AWp.cond ?_; simp -implicitDefEqProofs (maxSteps := 1000000) (disch := omega) only [go_sem, ↓reduceIte]; try (refine ⟨fun hlt => ?_, fun hlt => ?_⟩ <;> (try simp only [cla, clb, ne_eq, reduceCtorEq] at hlt) <;> (try exact hlt.elim))) | (refine AWp.block ?_) | ((first | refine gdO_split (fun hlt => ?_) (fun hlt => ?_) | refine tkO_split (fun hlt => ?_) (fun hlt => ?_) | refine opO_split (fun hlt => ?_) (fun hlt => ?_)) <;> have hgd := hlt <;> (try simp only [cla, clb, ne_eq, cld] at hlt) <;> (simp -implicitDefEqProofs (maxSteps := 1000000) (disch := omega) only [go_sem, ↓reduceIte, hgd]) <;> clear hgd) | (with_reducible refine And.intro ?_ ?_; · first | omega | assumption | exact ⟨_, _, rfl, rfl⟩) | ((first | refine ⟨_, h, ?_⟩); simp -implicitDefEqProofs (maxSteps := 1000000) (disch := omega) only [go_sem, ↓reduceIte]) | fail
  · rw [if_pos hlt]
  · rw [if_neg (by omega)]
end Go.Proofs.YthhjcfejgoddlaaGreatDoor
end

section
set_option linter.unusedSimpArgs false
set_option linter.unusedVariables false
set_option maxRecDepth 100000
namespace Go.Proofs.YthhjcfejgoddlaaGreatDoor
open Go Go.Abs
attribute [local go_sem] wrap64 Int.tdiv_eq_ediv_of_nonneg Int.tmod_eq_emod_of_nonneg eq_self Bool.false_eq_true Bool.true_eq_false Bool.not_true Bool.not_false
attribute [local go_sem_proc] Nat.reduceAdd Nat.reduceMul Nat.reduceEqDiff Nat.reduceLT Nat.reduceLeDiff Int.reduceEq Int.reduceNeg Int.reduceToNat reduceCtorEq Int.reduceBNe Int.reduceBEq

theorem Read_007 : PC Tryz.prog 67 [.dat (.str ⟨#[48, 48, 55]⟩)] (.tup [Zr false [], I 12]) := by
  have hcut := cut_pc ⟨#[48, 48, 55]⟩ ⟨#[45]⟩
  rw [show Lib.trimPrefix (⟨#[48, 48, 55]⟩ : ByteArray).data.toList (⟨#[45]⟩ : ByteArray).data.toList = [48, 48, 55] by decide, show Lib.hasPrefix (⟨#[48, 48, 55]⟩ : ByteArray).data.toList (⟨#[45]⟩ : ByteArray).data.toList = false by decide] at hcut
  have hdig := digits_pc ⟨#[48, 48, 55]⟩
  rw [show digN ⟨#[48, 48, 55]⟩ = 3 by decide] at hdig
  refine PCr.pc (PCr.of tab_ok Tryz.func67 rfl rfl rfl fun c hc hm => ?_)
  rw [show Tryz.f67.ntmps = _ from Tryz.ntmps67] at hc
  simp only [Tryz.f67]
  repeat' first | (exact absurd hlt (by decide)) | (refine AWp.seq fun K hK => ?_) | ((first | refine AWp.region (by rw [hc]; rfl) ?_ | refine AWp.skip ?_ | refine AWp.exit ?_ | refine AWp.label ?_ | refine AWp.ret ?_ | refine appK_g ?_); simp -implicitDefEqProofs (maxSteps := 1000000) (disch := omega) only [go_sem, ↓reduceIte, Int.reduceBEq]) | ((first | refine hK _ ?_ | (clear hK; first | refine hK _ ?_ | (clear hK; first | refine hK _ ?_ | (clear hK; refine hK _ ?_)))); clear hK) | (refine AWp.cond ?_; simp -implicitDefEqProofs (maxSteps := 1000000) (disch := omega) only [go_sem, ↓reduceIte, Int.reduceBEq]; try (refine ⟨fun hlt => ?_, fun hlt => ?_⟩ <;> (try simp only [cla, clb, ne_eq, reduceCtorEq] at hlt) <;> (try exact hlt.elim))) | (refine AWp.block ?_) | ((first | refine gdO_split (fun hlt => ?_) (fun hlt => ?_) | refine tkO_split (fun hlt => ?_) (fun hlt => ?_) | refine opO_split (fun hlt => ?_) (fun hlt => ?_)) <;> have hgd := hlt <;> (try simp only [cla, clb, ne_eq, cld] at hlt) <;> (simp -implicitDefEqProofs (maxSteps := 1000000) (disch := omega) only [go_sem, ↓reduceIte, Int.reduceBEq, hgd]) <;> clear hgd) | (with_reducible refine And.intro ?_ ?_; · first | omega | assumption | exact ⟨_, _, rfl, rfl⟩) | (refine ⟨_, hcut, ?_⟩; simp -implicitDefEqProofs (maxSteps := 1000000) (disch := omega) only [go_sem, ↓reduceIte]) | (refine ⟨_, hdig, ?_⟩; simp -implicitDefEqProofs (maxSteps := 1000000) (disch := omega) only [go_sem, ↓reduceIte]) | fail
theorem Read_m0 : PC Tryz.prog 67 [.dat (.str ⟨#[45, 48]⟩)] (.tup [Zr false [], I 12]) := by
  have hcut := cut_pc ⟨#[45, 48]⟩ ⟨#[45]⟩
  rw [show Lib.trimPrefix (⟨#[45, 48]⟩ : ByteArray).data.toList (⟨#[45]⟩ : ByteArray).data.toList = [48] by decide, show Lib.hasPrefix (⟨#[45, 48]⟩ : ByteArray).data.toList (⟨#[45]⟩ : ByteArray).data.toList = true by decide] at hcut
  have hdig := digits_pc ⟨#[48]⟩
  rw [show digN ⟨#[48]⟩ = 1 by decide] at hdig
  refine PCr.pc (PCr.of tab_ok Tryz.func67 rfl rfl rfl fun c hc hm => ?_)
  rw [show Tryz.f67.ntmps = _ from Tryz.ntmps67] at hc
  simp only [Tryz.f67]
  repeat' first | (exact absurd hlt (by decide)) | (refine AWp.seq fun K hK => ?_) | ((first | refine AWp.region (by rw [hc]; rfl) ?_ | refine AWp.skip ?_ | refine AWp.exit ?_ | refine AWp.label ?_ | refine AWp.ret ?_ | refine appK_g ?_); simp -implicitDefEqProofs (maxSteps := 1000000) (disch := omega) only [go_sem, ↓reduceIte, Int.reduceBEq]) | ((first | refine hK _ ?_ | (clear hK; first | refine hK _ ?_ | (clear hK; first | refine hK _ ?_ | (clear hK; refine hK _ ?_)))); clear hK) | (refine AWp.cond ?_; simp -implicitDefEqProofs (maxSteps := 1000000) (disch := omega) only [go_sem, ↓reduceIte, Int.reduceBEq]; try (refine ⟨fun hlt => ?_, fun hlt => ?_⟩ <;> (try simp only [cla, clb, ne_eq, reduceCtorEq] at hlt) <;> (try exact hlt.elim))) | (refine AWp.block ?_) | ((first | refine gdO_split (fun hlt => ?_) (fun hlt => ?_) | refine tkO_split (fun hlt => ?_) (fun hlt => ?_) | refine opO_split (fun hlt => ?_) (fun hlt => ?_)) <;> have hgd := hlt <;> (try simp only [cla, clb, ne_eq, cld] at hlt) <;> (simp -implicitDefEqProofs (maxSteps := 1000000) (disch := omega) only [go_sem, ↓reduceIte, Int.reduceBEq, hgd]) <;> clear hgd) | (with_reducible refine And.intro ?_ ?_; · first | omega | assumption | exact ⟨_, _, rfl, rfl⟩) | (refine ⟨_, hcut, ?_⟩; simp -implicitDefEqProofs (maxSteps := 1000000) (disch := omega) only [go_sem, ↓reduceIte]) | (refine ⟨_, hdig, ?_⟩; simp -implicitDefEqProofs (maxSteps := 1000000) (disch := omega) only [go_sem, ↓reduceIte]) | fail
end Go.Proofs.YthhjcfejgoddlaaGreatDoor
end

section
set_option linter.unusedSimpArgs false
set_option linter.unusedVariables false
set_option maxRecDepth 100000
namespace Go.Proofs.YthhjcfejgoddlaaGreatDoor
open Go Go.Abs
attribute [local go_sem] wrap64 Int.tdiv_eq_ediv_of_nonneg Int.tmod_eq_emod_of_nonneg eq_self Bool.false_eq_true Bool.true_eq_false Bool.not_true Bool.not_false
attribute [local go_sem_proc] Nat.reduceAdd Nat.reduceMul Nat.reduceEqDiff Nat.reduceLT Nat.reduceLeDiff Int.reduceEq Int.reduceNeg Int.reduceToNat reduceCtorEq Int.reduceBNe Int.reduceBEq

def s11 : ByteArray := ⟨#[49, 50, 51, 52, 53, 54, 55, 56, 57, 48, 49]⟩
def F67 (l : List Int) (e : Int) : St := ⟨[(2, .ptr 0 0), (3, I 0), (4, .dat (.str s11)), (5, B true), (6, I 11), (7, gL 1 (l.map eI)), (8, I e)], (0, .box [B false, .nil] false) :: gS 3 1 1 (l.map eI) false [], 2, 0⟩
def G67 : Nat → St
  | 0 => F67 [] 11
  | 1 => F67 [345678901] 2
  | _ => F67 [345678901, 12] (-7)
set_option maxHeartbeats 4000000 in
theorem Read_12 : PC Tryz.prog 67 [.dat (.str ⟨#[45, 49, 50, 51, 52, 53, 54, 55, 56, 57, 48, 49]⟩)] (.tup [Z (-12345678901), I 0]) := by
  have hcut := cut_pc ⟨#[45, 49, 50, 51, 52, 53, 54, 55, 56, 57, 48, 49]⟩ ⟨#[45]⟩
  rw [show (⟨(Lib.trimPrefix (⟨#[45, 49, 50, 51, 52, 53, 54, 55, 56, 57, 48, 49]⟩ : ByteArray).data.toList (⟨#[45]⟩ : ByteArray).data.toList).toArray⟩ : ByteArray) = s11 by decide, show Lib.hasPrefix (⟨#[45, 49, 50, 51, 52, 53, 54, 55, 56, 57, 48, 49]⟩ : ByteArray).data.toList (⟨#[45]⟩ : ByteArray).data.toList = true by decide] at hcut
  have hdig := digits_pc s11
  rw [show digN s11 = 11 by decide] at hdig
  refine PCr.pc (PCr.of tab_ok Tryz.func67 rfl rfl rfl fun c hc hm => ?_)
  rw [show Tryz.f67.ntmps = _ from Tryz.ntmps67] at hc
  simp only [Tryz.f67]
  repeat' first | (exact absurd hlt (by decide)) | (refine AWp.seq fun K hK => ?_) | ((first | refine AWp.region (by rw [hc]; rfl) ?_ | refine AWp.skip ?_ | refine AWp.exit ?_ | refine AWp.label ?_ | refine AWp.ret ?_ | refine appK_g ?_); simp -implicitDefEqProofs (maxSteps := 1000000) (disch := omega) only [go_sem, ↓reduceIte, Int.reduceBEq]) | ((first | refine hK _ ?_ | (clear hK; first | refine hK _ ?_ | (clear hK; first | refine hK _ ?_ | (clear hK; refine hK _ ?_)))); clear hK) | (refine AWp.cond ?_; simp -implicitDefEqProofs (maxSteps := 1000000) (disch := omega) only [go_sem, ↓reduceIte, Int.reduceBEq]; try (refine ⟨fun hlt => ?_, fun hlt => ?_⟩ <;> (try simp only [cla, clb, ne_eq, reduceCtorEq] at hlt) <;> (try exact hlt.elim))) | (refine AWp.block ?_) | ((first | refine gdO_split (fun hlt => ?_) (fun hlt => ?_) | refine tkO_split (fun hlt => ?_) (fun hlt => ?_) | refine opO_split (fun hlt => ?_) (fun hlt => ?_)) <;> have hgd := hlt <;> (try simp only [cla, clb, ne_eq, cld] at hlt) <;> (simp -implicitDefEqProofs (maxSteps := 1000000) (disch := omega) only [go_sem, ↓reduceIte, Int.reduceBEq, hgd]) <;> clear hgd) | (with_reducible refine And.intro ?_ ?_; · first | omega | assumption | exact ⟨_, _, rfl, rfl⟩) | (refine ⟨_, hcut, ?_⟩; simp -implicitDefEqProofs (maxSteps := 1000000) (disch := omega) only [go_sem, ↓reduceIte]) | (refine ⟨_, hdig, ?_⟩; simp -implicitDefEqProofs (maxSteps := 1000000) (disch := omega) only [go_sem, ↓reduceIte]) | fail
  have a1 := atoi_pc (s11.extract 2 11) (by decide) 345678901 (by decide)
  have a2 := atoi_pc (s11.extract 0 2) (by decide) 12 (by decide)
  have hsg := signed_pc true [345678901, 12] (by intro x hx; simp at hx; omega) (by decide)
  rw [show (if true = true then -val [345678901, 12] else val [345678901, 12]) = -12345678901 by decide] at hsg
  refine AWp.loopInv G67 (fun i => 2 - i) (fun i => i ≤ 2) 0 (by omega) (Sub.of0 hm id rfl ?_ ?_ (fun _ _ _ _ h => h)) ?_
  all_goals (try dsimp only)
  all_goals (first | omega | (simp -implicitDefEqProofs (maxSteps := 1000000) (disch := omega) only [G67, F67, id, go_sem, Nat.blt_eq, Nat.reduceAdd, Nat.reduceSub, Nat.reduceEqDiff, Nat.reduceLT, ↓reduceIte, and_true, true_and, AV.dat.injEq, DV.int.injEq, DV.bool.injEq, DV.lst.injEq, eq_self_iff_true]; first | done | omega | (simp; done) | (simp; omega)) | (simp; done) | (simp; omega) | skip)
  intro i hi ih
  rcases i with _ | _ | i
  · simp only [G67, F67, List.map_nil]
    repeat' first | (exact absurd hlt (by decide)) | (refine AWp.seq fun K hK => ?_) | ((first | refine AWp.region (by rw [hc]; rfl) ?_ | refine AWp.skip ?_ | refine AWp.exit ?_ | refine AWp.label ?_ | refine AWp.ret ?_ | refine appK_g ?_); simp -implicitDefEqProofs (maxSteps := 1000000) (disch := omega) only [go_sem, ↓reduceIte]) | ((first | refine hK _ ?_ | (clear hK; first | refine hK _ ?_ | (clear hK; first | refine hK _ ?_ | (clear hK; refine hK _ ?_)))); clear hK) | (refine AWp.cond ?_; simp -implicitDefEqProofs (maxSteps := 1000000) (disch := omega) only [go_sem, ↓reduceIte]; try (refine ⟨fun hlt => ?_, fun hlt => ?_⟩ <;> (try simp only [cla, clb, ne_eq, reduceCtorEq] at hlt) <;> (try exact hlt.elim))) | (refine AWp.block ?_) | ((first | refine gdO_split (fun hlt => ?_) (fun hlt => ?_) | refine tkO_split (fun hlt => ?_) (fun hlt => ?_) | refine opO_split (fun hlt => ?_) (fun hlt => ?_)) <;> have hgd := hlt <;> (try simp only [cla, clb, ne_eq, cld] at hlt) <;> (simp -implicitDefEqProofs (maxSteps := 1000000) (disch := omega) only [go_sem, ↓reduceIte, hgd]) <;> clear hgd) | (with_reducible refine And.intro ?_ ?_; · first | omega | assumption | exact ⟨_, _, rfl, rfl⟩) | ((first | refine ⟨_, a1, ?_⟩); simp -implicitDefEqProofs (maxSteps := 1000000) (disch := omega) only [go_sem, ↓reduceIte]) | fail
    refine ih 1 _ (by omega) (by omega) (Sub.of0 hm (fun i => if i = 0 then 0 else 3) rfl ?_ ?_ ?_)
    all_goals (try dsimp only)
    all_goals (first | omega | (simp -implicitDefEqProofs (maxSteps := 1000000) (disch := omega) only [G67, F67, id, go_sem, Nat.blt_eq, Nat.reduceAdd, Nat.reduceSub, Nat.reduceEqDiff, Nat.reduceLT, ↓reduceIte, and_true, true_and, AV.dat.injEq, DV.int.injEq, DV.bool.injEq, DV.lst.injEq, eq_self_iff_true]; first | done | omega | (simp; done) | (simp; omega)) | (simp; done) | (simp; omega) | skip)
    all_goals
      intro a b h1 h2 h
      change a < 2 at h1; change b < 2 at h2
      (split at h <;> split at h) <;> omega
  · simp only [G67, F67]
    repeat' first | (exact absurd hlt (by decide)) | (refine AWp.seq fun K hK => ?_) | ((first | refine AWp.region (by rw [hc]; rfl) ?_ | refine AWp.skip ?_ | refine AWp.exit ?_ | refine AWp.label ?_ | refine AWp.ret ?_ | refine appK_g ?_); simp -implicitDefEqProofs (maxSteps := 1000000) (disch := omega) only [go_sem, ↓reduceIte]) | ((first | refine hK _ ?_ | (clear hK; first | refine hK _ ?_ | (clear hK; first | refine hK _ ?_ | (clear hK; refine hK _ ?_)))); clear hK) | (refine AWp.cond ?_; simp -implicitDefEqProofs (maxSteps := 1000000) (disch := omega) only [go_sem, ↓reduceIte]; try (refine ⟨fun hlt => ?_, fun hlt => ?_⟩ <;> (try simp only [cla, clb, ne_eq, reduceCtorEq] at hlt) <;> (try exact hlt.elim))) | (refine AWp.block ?_) | ((first | refine gdO_split (fun hlt => ?_) (fun hlt => ?_) | refine tkO_split (fun hlt => ?_) (fun hlt => ?_) | refine opO_split (fun hlt => ?_) (fun hlt => ?_)) <;> have hgd := hlt <;> (try simp only [cla, clb, ne_eq, cld] at hlt) <;> (simp -implicitDefEqProofs (maxSteps := 1000000) (disch := omega) only [go_sem, ↓reduceIte, hgd]) <;> clear hgd) | (with_reducible refine And.intro ?_ ?_; · first | omega | assumption | exact ⟨_, _, rfl, rfl⟩) | ((first | refine ⟨_, a2, ?_⟩); simp -implicitDefEqProofs (maxSteps := 1000000) (disch := omega) only [go_sem, ↓reduceIte]) | fail
    refine ih 2 _ (by omega) (by omega) (Sub.of0 hm (fun i => if i = 0 then 0 else 3) rfl ?_ ?_ ?_)
    all_goals (try dsimp only)
    all_goals (first | omega | (simp -implicitDefEqProofs (maxSteps := 1000000) (disch := omega) only [G67, F67, id, go_sem, Nat.blt_eq, Nat.reduceAdd, Nat.reduceSub, Nat.reduceEqDiff, Nat.reduceLT, ↓reduceIte, and_true, true_and, AV.dat.injEq, DV.int.injEq, DV.bool.injEq, DV.lst.injEq, eq_self_iff_true]; first | done | omega | (simp; done) | (simp; omega)) | (simp; done) | (simp; omega) | skip)
    all_goals
      intro a b h1 h2 h
      change a < 2 at h1; change b < 2 at h2
      (split at h <;> split at h) <;> omega
  · simp only [G67, F67]
    repeat' first | (exact absurd hlt (by decide)) | (refine AWp.seq fun K hK => ?_) | ((first | refine AWp.region (by rw [hc]; rfl) ?_ | refine AWp.skip ?_ | refine AWp.exit ?_ | refine AWp.label ?_ | refine AWp.ret ?_ | refine appK_g ?_); simp -implicitDefEqProofs (maxSteps := 1000000) (disch := omega) only [go_sem, ↓reduceIte]) | ((first | refine hK _ ?_ | (clear hK; first | refine hK _ ?_ | (clear hK; first | refine hK _ ?_ | (clear hK; refine hK _ ?_)))); clear hK) | (refine AWp.cond ?_; simp -implicitDefEqProofs (maxSteps := 1000000) (disch := omega) only [go_sem, ↓reduceIte]; try (refine ⟨fun hlt => ?_, fun hlt => ?_⟩ <;> (try simp only [cla, clb, ne_eq, reduceCtorEq] at hlt) <;> (try exact hlt.elim))) | (refine AWp.block ?_) | ((first | refine gdO_split (fun hlt => ?_) (fun hlt => ?_) | refine tkO_split (fun hlt => ?_) (fun hlt => ?_) | refine opO_split (fun hlt => ?_) (fun hlt => ?_)) <;> have hgd := hlt <;> (try simp only [cla, clb, ne_eq, cld] at hlt) <;> (simp -implicitDefEqProofs (maxSteps := 1000000) (disch := omega) only [go_sem, ↓reduceIte, hgd]) <;> clear hgd) | (with_reducible refine And.intro ?_ ?_; · first | omega | assumption | exact ⟨_, _, rfl, rfl⟩) | ((first | refine ⟨_, hsg, ?_⟩); simp -implicitDefEqProofs (maxSteps := 1000000) (disch := omega) only [go_sem, ↓reduceIte]) | fail
end Go.Proofs.YthhjcfejgoddlaaGreatDoor
end

section
set_option linter.unusedSimpArgs false
set_option linter.unusedVariables false
set_option maxRecDepth 100000
namespace Go.Proofs.YthhjcfejgoddlaaGreatDoor
open Go Go.Abs

theorem D_small {n : Nat} (h0 : n ≠ 0) (h1 : n < 1000000000) : D n = [(n : Int)] := by
  rw [D_pos h0, show n / 1000000000 = 0 by omega, D_zero, show n % 1000000000 = n by omega]
theorem Z_pos {n : Int} (h0 : 0 < n) (h1 : n < 1000000000) : Z n = Zr false [n] := by
  show Zr (decide (n < 0)) (D n.natAbs) = _
  rw [D_small (by omega) (by omega), show decide (n < 0) = false from decide_eq_false (by omega), show ((n.natAbs : Nat) : Int) = n by omega]
theorem Z_neg {n : Int} (h0 : 0 < n) (h1 : n < 1000000000) : Z (-n) = Zr true [n] := by
  show Zr (decide (-n < 0)) (D (-n).natAbs) = _
  rw [D_small (by omega) (by omega), show decide (-n < 0) = true from decide_eq_true (by omega), show (((-n).natAbs : Nat) : Int) = n by omega]
theorem D_two {a b : Nat} (h0 : a < 1000000000) (h1 : b ≠ 0) (h2 : b < 1000000000) : D (a + 1000000000 * b) = [(a : Int), (b : Int)] := by
  rw [D_pos (by omega), show (a + 1000000000 * b) / 1000000000 = b by omega, D_small h1 h2, show (a + 1000000000 * b) % 1000000000 = a by omega]
theorem Z_a : Z (-1000000000) = Zr true [0, 1] := by
  show Zr (decide ((-1000000000 : Int) < 0)) (D (0 + 1000000000 * 1)) = _
  rw [D_two (by decide) (by decide) (by decide)]; rfl
theorem Z_b : Z (-12345678901) = Zr true [345678901, 12] := by
  show Zr (decide ((-12345678901 : Int) < 0)) (D (345678901 + 1000000000 * 12)) = _
  rw [D_two (by decide) (by decide) (by decide)]; rfl
theorem Z_c : Z 1000000001 = Zr false [1, 1] := by
  show Zr (decide ((1000000001 : Int) < 0)) (D (1 + 1000000000 * 1)) = _
  rw [D_two (by decide) (by decide) (by decide)]; rfl
theorem ofP {n : Int} (h0 : 0 < n) (h1 : n < 1000000000) : PC Tryz.prog 27 [I n] (Zr false [n]) := by
  rw [← Z_pos h0 h1]; exact of_pc n (by omega) (by omega)
theorem ofN {n : Int} (h0 : 0 < n) (h1 : n < 1000000000) : PC Tryz.prog 27 [I (-n)] (Zr true [n]) := by
  rw [← Z_neg h0 h1]; exact of_pc (-n) (by omega) (by omega)
theorem of0 : PC Tryz.prog 27 [I 0] (Zr false []) := by
  rw [← Z_zero]; exact of_pc 0 (by omega) (by omega)
theorem lenZ_s {z : Int} (h : z.natAbs < 1000000000) : lenZ z ≤ 40 := Nat.le_trans (lenZ_small h) (by decide)
theorem limR_s {z : Int} (h : z.natAbs < 1000000000) : limR z = .tup [Z z, I 0] := if_pos (lenZ_s h)

theorem GZn {n e : Int} (h0 : 0 < n) (h1 : n < 1000000000) : GZ (-n) e = Gr true [n] e := by
  show Gr (decide (-n < 0)) (D (-n).natAbs) e = _
  rw [D_small (by omega) (by omega), show decide (-n < 0) = true from decide_eq_true (by omega), show (((-n).natAbs : Nat) : Int) = n by omega]
theorem GZp {n e : Int} (h0 : 0 < n) (h1 : n < 1000000000) : GZ n e = Gr false [n] e := by
  show Gr (decide (n < 0)) (D n.natAbs) e = _
  rw [D_small (by omega) (by omega), show decide (n < 0) = false from decide_eq_false (by omega), show ((n.natAbs : Nat) : Int) = n by omega]
theorem dv1 : PC Tryz.prog 22 [Zr true [7], Zr false [2]] (.tup [Zr true [4], I 0]) := by
  have h := Div_ok (-7) 2 (by decide) (lenZ_s (by decide)) (lenZ_s (by decide))
  rwa [show (-7 : Int).fdiv 2 = -4 by decide, limR_s (by decide), Z_neg (by decide) (by decide), Z_pos (by decide) (by decide), Z_neg (by decide) (by decide)] at h
theorem md1 : PC Tryz.prog 34 [Zr true [7], Zr false [2]] (.tup [Zr false [1], I 0]) := by
  have h := Mod_ok (-7) 2 (by decide) (lenZ_s (by decide)) (lenZ_s (by decide))
  rwa [show (-7 : Int).fmod 2 = 1 by decide, limR_s (by decide), Z_neg (by decide) (by decide), Z_pos (n := 2) (by decide) (by decide), Z_pos (n := 1) (by decide) (by decide)] at h
theorem dv2 : PC Tryz.prog 22 [Zr false [7], Zr true [2]] (.tup [Zr true [4], I 0]) := by
  have h := Div_ok 7 (-2) (by decide) (lenZ_s (by decide)) (lenZ_s (by decide))
  rwa [show (7 : Int).fdiv (-2) = -4 by decide, limR_s (by decide), Z_neg (n := 2) (by decide) (by decide), Z_pos (n := 7) (by decide) (by decide), Z_neg (n := 4) (by decide) (by decide)] at h
theorem md2 : PC Tryz.prog 34 [Zr false [7], Zr true [2]] (.tup [Zr true [1], I 0]) := by
  have h := Mod_ok 7 (-2) (by decide) (lenZ_s (by decide)) (lenZ_s (by decide))
  rwa [show (7 : Int).fmod (-2) = -1 by decide, limR_s (by decide), Z_neg (n := 2) (by decide) (by decide), Z_pos (n := 7) (by decide) (by decide), Z_neg (n := 1) (by decide) (by decide)] at h
theorem dz7 : PC Tryz.prog 22 [Zr false [7], Zr false []] (.tup [Zr false [], I 11]) := by
  have h := Div_zero 7 (lenZ_s (by decide))
  rwa [Z_pos (n := 7) (by decide) (by decide), Z_zero] at h
theorem sm4 : PC Tryz.prog 26 [Gr true [4] 0, Gr true [4] 0] (B true) := by
  have h := same_Z (-4) (-4) 0 0 (Nat.le_trans (lenZ_small (by decide)) (by decide)) (Nat.le_trans (lenZ_small (by decide)) (by decide))
  rwa [GZn (by decide) (by decide), show decide ((0 : Int) = 0 ∧ (-4 : Int) = -4) = true by decide] at h
theorem sm1 : PC Tryz.prog 26 [Gr false [1] 0, Gr false [1] 0] (B true) := by
  have h := same_Z 1 1 0 0 (Nat.le_trans (lenZ_small (by decide)) (by decide)) (Nat.le_trans (lenZ_small (by decide)) (by decide))
  rwa [GZp (by decide) (by decide), show decide ((0 : Int) = 0 ∧ (1 : Int) = 1) = true by decide] at h
theorem smn1 : PC Tryz.prog 26 [Gr true [1] 0, Gr true [1] 0] (B true) := by
  have h := same_Z (-1) (-1) 0 0 (Nat.le_trans (lenZ_small (by decide)) (by decide)) (Nat.le_trans (lenZ_small (by decide)) (by decide))
  rwa [GZn (by decide) (by decide), show decide ((0 : Int) = 0 ∧ (-1 : Int) = -1) = true by decide] at h
theorem D_100 : D (2 ^ 100) = [703205376, 229401496, 650600228, 1267] := by
  rw [show 2 ^ 100 = 1267650600228229401496703205376 by decide, D_pos (by decide), show 1267650600228229401496703205376 / 1000000000 = 1267650600228229401496 by decide, D_pos (by decide), show 1267650600228229401496 / 1000000000 = 1267650600228 by decide, D_two (a := 650600228) (b := 1267) (by decide) (by decide) (by decide)]
  rfl
theorem Z_100 : Z (2 ^ 100) = Zr false [703205376, 229401496, 650600228, 1267] := by
  show Zr (decide ((2 : Int) ^ 100 < 0)) (D ((2 : Int) ^ 100).natAbs) = _
  rw [show ((2 : Int) ^ 100).natAbs = 2 ^ 100 by decide, D_100]; rfl
theorem lenZ_100 : lenZ (2 ^ 100) ≤ 40 := by
  unfold lenZ
  rw [show ((2 : Int) ^ 100).natAbs = 2 ^ 100 by decide, D_100]; decide
theorem pw100 : PC Tryz.prog 30 [Zr false [2], Zr false [100]] (.tup [Zr false [703205376, 229401496, 650600228, 1267], I 0]) := by
  have h := Pow_ok 2 100 (lenZ_s (by decide)) (lenZ_s (by decide))
  rwa [powR, if_neg (by decide), show (100 : Int).toNat = 100 from rfl, limR, if_pos lenZ_100, Z_100, Z_pos (n := 2) (by decide) (by decide), Z_pos (n := 100) (by decide) (by decide)] at h
theorem bz : PC Tryz.prog 32 [Zr false [240], Zr false [46]] (.tup [Zr false [2], Zr true [9], Zr false [47], I 0]) := by
  have h := Bezout_240
  rwa [Z_pos (n := 240) (by decide) (by decide), Z_pos (n := 46) (by decide) (by decide), Z_pos (n := 2) (by decide) (by decide), Z_pos (n := 47) (by decide) (by decide), Z_neg (n := 9) (by decide) (by decide)] at h
theorem sameP {n : Int} (h0 : 0 < n) (h1 : n < 1000000000) : PC Tryz.prog 36 [Zr false [n], Zr false [n]] (B true) := by
  have h := Same_Z n n (Nat.le_trans (lenZ_small (by omega)) (by decide)) (Nat.le_trans (lenZ_small (by omega)) (by decide))
  rwa [Z_pos h0 h1, show decide (n = n) = true from decide_eq_true rfl] at h
theorem sameN {n : Int} (h0 : 0 < n) (h1 : n < 1000000000) : PC Tryz.prog 36 [Zr true [n], Zr true [n]] (B true) := by
  have h := Same_Z (-n) (-n) (Nat.le_trans (lenZ_small (by omega)) (by decide)) (Nat.le_trans (lenZ_small (by omega)) (by decide))
  rwa [Z_neg h0 h1, show decide (-n = -n) = true from decide_eq_true rfl] at h
theorem cr1 : PC Tryz.prog 19 [Zr false [1], Zr false [3], Zr false [2], Zr false [6]] (.tup [I 0, I 0]) := by
  have h := Cross_ok 1 3 2 6 (lenZ_s (by decide)) (lenZ_s (by decide)) (lenZ_s (by decide)) (lenZ_s (by decide))
  rwa [crossR, if_neg (by decide), show cmpI (1 * 6) (2 * 3) = 0 by decide, Z_pos (n := 1) (by decide) (by decide), Z_pos (n := 3) (by decide) (by decide), Z_pos (n := 2) (by decide) (by decide), Z_pos (n := 6) (by decide) (by decide)] at h
theorem cr2 : PC Tryz.prog 19 [Zr true [1], Zr false [2], Zr false [1], Zr false []] (.tup [I 0, I 1]) := by
  have h := Cross_ok (-1) 2 1 0 (lenZ_s (by decide)) (lenZ_s (by decide)) (lenZ_s (by decide)) (lenZ_s (by decide))
  rwa [crossR, if_pos (by decide), Z_neg (n := 1) (by decide) (by decide), Z_pos (n := 2) (by decide) (by decide), Z_pos (n := 1) (by decide) (by decide), Z_zero] at h
def bnF (b : Nat) : Nat → Nat
  | 0 => 1
  | a + 1 => bnF b a * (a + b + 1) / (a + 1)
theorem bnF_eq (b : Nat) : ∀ a, bnF b a = bnm a b
  | 0 => by simp [bnF, bnm]
  | a + 1 => by
    rw [bnF, bnF_eq b a]
    have h := bnm_absorb _ a b (Nat.le_refl _)
    rw [Nat.mul_comm (bnm a b), ← h]
    exact Nat.mul_div_cancel_left _ (by omega)
theorem D_820 : D 137846528820 = [846528820, 137] := by
  rw [show 137846528820 = 846528820 + 1000000000 * 137 from rfl, D_two (by decide) (by decide) (by decide)]; rfl
theorem ch40 : PC Tryz.prog 25 [I 40, I 20] (.tup [Zr false [846528820, 137], I 0]) := by
  have h := Choose_pc 40 20 (by decide) (by decide) (by decide) (by decide)
  rwa [chooseR, if_neg (by decide), if_neg (by decide), show ((40 : Int) - 20).toNat = 20 from rfl, show (20 : Int).toNat = 20 from rfl, ← bnF_eq, show ((bnF 20 20 : Nat) : Int) = 137846528820 by decide, limR, if_pos (by unfold lenZ; rw [show (137846528820 : Int).natAbs = 137846528820 from rfl, D_820]; decide), show Z 137846528820 = Zr false [846528820, 137] by
    show Zr (decide ((137846528820 : Int) < 0)) (D 137846528820) = _
    rw [D_820]; rfl] at h
end Go.Proofs.YthhjcfejgoddlaaGreatDoor
end

section
set_option linter.unusedSimpArgs false
set_option linter.unusedVariables false
set_option maxRecDepth 100000
namespace Go.Proofs.YthhjcfejgoddlaaGreatDoor
open Go Go.Abs

theorem it1 : Lib.itoa 1267 = [49, 50, 54, 55] := by
  rw [itoa_dec (by decide), show (1267 : Int).toNat = 1267 from rfl, Lib.decDigits_eq, Lib.nDigits_unique 3 _ (by decide) (by decide)]; decide
theorem it2 : Lib.itoa 650600228 = [54, 53, 48, 54, 48, 48, 50, 50, 56] := by
  rw [itoa_dec (by decide), show (650600228 : Int).toNat = 650600228 from rfl, Lib.decDigits_eq, Lib.nDigits_unique 8 _ (by decide) (by decide)]; decide
theorem it3 : Lib.itoa 229401496 = [50, 50, 57, 52, 48, 49, 52, 57, 54] := by
  rw [itoa_dec (by decide), show (229401496 : Int).toNat = 229401496 from rfl, Lib.decDigits_eq, Lib.nDigits_unique 8 _ (by decide) (by decide)]; decide
theorem it4 : Lib.itoa 703205376 = [55, 48, 51, 50, 48, 53, 51, 55, 54] := by
  rw [itoa_dec (by decide), show (703205376 : Int).toNat = 703205376 from rfl, Lib.decDigits_eq, Lib.nDigits_unique 8 _ (by decide) (by decide)]; decide
def s100 : ByteArray := ⟨#[49, 50, 54, 55, 54, 53, 48, 54, 48, 48, 50, 50, 56, 50, 50, 57, 52, 48, 49, 52, 57, 54, 55, 48, 51, 50, 48, 53, 51, 55, 54]⟩
theorem wr100 : bs (wr false [703205376, 229401496, 650600228, 1267]) = s100 := by
  have e : wr false [703205376, 229401496, 650600228, 1267] = [] ++ (Lib.itoa 1267 ++ ((Lib.repeatL [48] (9 - (Lib.itoa 650600228).length) ++ Lib.itoa 650600228) ++ ((Lib.repeatL [48] (9 - (Lib.itoa 229401496).length) ++ Lib.itoa 229401496) ++ ((Lib.repeatL [48] (9 - (Lib.itoa 703205376).length) ++ Lib.itoa 703205376) ++ [])))) := rfl
  rw [e, it1, it2, it3, it4]; rfl
theorem tx100 : PC Tryz.prog 65 [Zr false [703205376, 229401496, 650600228, 1267]] (.tup [.dat (.str s100), I 0]) := by
  have h := Text_ok (2 ^ 100) lenZ_100
  rwa [textR, show ((2 : Int) ^ 100).natAbs = 2 ^ 100 by decide, D_100, show decide ((2 : Int) ^ 100 < 0) = false by decide, wr100, Z_100] at h
theorem o820 : PC Tryz.prog 27 [I 137846528820] (Zr false [846528820, 137]) := by
  have h := of_pc 137846528820 (by decide) (by decide)
  rwa [show Z 137846528820 = Zr false [846528820, 137] by
    show Zr (decide ((137846528820 : Int) < 0)) (D 137846528820) = _
    rw [D_820]; rfl] at h
theorem same820 : PC Tryz.prog 36 [Zr false [846528820, 137], Zr false [846528820, 137]] (B true) := by
  have h := Same_Z 137846528820 137846528820 (by unfold lenZ; rw [show (137846528820 : Int).natAbs = 137846528820 from rfl, D_820]; decide) (by unfold lenZ; rw [show (137846528820 : Int).natAbs = 137846528820 from rfl, D_820]; decide)
  rwa [show Z 137846528820 = Zr false [846528820, 137] by
    show Zr (decide ((137846528820 : Int) < 0)) (D 137846528820) = _
    rw [D_820]; rfl, show decide ((137846528820 : Int) = 137846528820) = true from decide_eq_true rfl] at h
theorem ofM (m n : Int) (h : m = -n) (h0 : 0 < n) (h1 : n < 1000000000) : PC Tryz.prog 27 [I m] (Zr true [n]) := by
  rw [h]; exact ofN h0 h1
end Go.Proofs.YthhjcfejgoddlaaGreatDoor
end

section
set_option linter.unusedSimpArgs false
set_option linter.unusedVariables false
set_option maxRecDepth 100000
namespace Go.Proofs.YthhjcfejgoddlaaGreatDoor
open Go Go.Abs
attribute [local go_sem] wrap64 Int.tdiv_eq_ediv_of_nonneg Int.tmod_eq_emod_of_nonneg eq_self Bool.false_eq_true Bool.true_eq_false Bool.not_true Bool.not_false
attribute [local go_sem_proc] Nat.reduceAdd Nat.reduceMul Nat.reduceEqDiff Nat.reduceLT Nat.reduceLeDiff Int.reduceEq Int.reduceNeg Int.reduceToNat reduceCtorEq Int.reduceBNe Int.reduceBEq

set_option maxHeartbeats 8000000 in
theorem sane_ok : PC Tryz.prog 16 [] (B true) := by
  have a1 : PC Tryz.prog 27 [I (-1000000000)] (Zr true [0, 1]) := by rw [← Z_a]; exact of_pc _ (by decide) (by decide)
  have a2 := Read_12
  rw [Z_b] at a2
  have a3 := equalI_pc [0, 1] [0, 1] (by decide) (by decide)
  have a4 := equalI_pc [345678901, 12] [345678901, 12] (by decide) (by decide)
  rw [decide_eq_true rfl] at a3 a4
  have a5 := Read_007
  have a6 := Read_m0
  have b1 : PC Tryz.prog 27 [I 1000000001] (Zr false [1, 1]) := by rw [← Z_c]; exact of_pc _ (by decide) (by decide)
  have b2 := Bytes_pos 1000000001 (by decide) (by unfold lenZ; rw [show (1000000001 : Int).natAbs = 1 + 1000000000 * 1 from rfl, D_two (by decide) (by decide) (by decide)]; decide)
  rw [Z_c, show bytesP 1000000001 = .tup [LB [2, 0, 0, 0, 1, 0, 0, 0, 1], I 0] by unfold bytesP; rw [show (1000000001 : Int).natAbs = 1 + 1000000000 * 1 from rfl, D_two (by decide) (by decide) (by decide)]; rfl] at b2
  have b3 := equalB_pc [2, 0, 0, 0, 1, 0, 0, 0, 1] [2, 0, 0, 0, 1, 0, 0, 0, 1] (by decide) (by decide)
  rw [decide_eq_true rfl] at b3
  have m7 := ofM (-7) 7 rfl (by decide) (by decide)
  have m4 := ofM (-4) 4 rfl (by decide) (by decide)
  have m2 := ofM (-2) 2 rfl (by decide) (by decide)
  have m1 := ofM (-1) 1 rfl (by decide) (by decide)
  have m9 := ofM (-9) 9 rfl (by decide) (by decide)
  have p7 := ofP (n := 7) (by decide) (by decide)
  have p2 := ofP (n := 2) (by decide) (by decide)
  have p1 := ofP (n := 1) (by decide) (by decide)
  have p3 := ofP (n := 3) (by decide) (by decide)
  have p6 := ofP (n := 6) (by decide) (by decide)
  have p47 := ofP (n := 47) (by decide) (by decide)
  have p46 := ofP (n := 46) (by decide) (by decide)
  have p240 := ofP (n := 240) (by decide) (by decide)
  have p100 := ofP (n := 100) (by decide) (by decide)
  have z0 := of0
  have q2 := sameP (n := 2) (by decide) (by decide)
  have q9 := sameN (n := 9) (by decide) (by decide)
  have q47 := sameP (n := 47) (by decide) (by decide)
  have gg4 : PC Tryz.prog 24 [Zr true [4], I 0] (.agg [B true, L [4], I 0]) := got_pc true [4] 0
  have gg1 : PC Tryz.prog 24 [Zr false [1], I 0] (.agg [B false, L [1], I 0]) := got_pc false [1] 0
  have ggn : PC Tryz.prog 24 [Zr true [1], I 0] (.agg [B true, L [1], I 0]) := got_pc true [1] 0
  refine PCr.pc (PCr.of tab_ok Tryz.func16 rfl rfl rfl fun c hc hm => ?_)
  rw [show Tryz.f16.ntmps = _ from Tryz.ntmps16] at hc
  simp only [Tryz.f16]
  repeat' first | (exact absurd hlt (by decide)) | (refine AWp.seq fun K hK => ?_) | ((first | refine AWp.draw (id := 18) [.take 0, .take 1, .take 2, .take 3, .take 4, .take 5, .take 6, .take 7, .take 8, .take 9, .take 10, .take 11, .take 12, .take 13, .take 14, .take 15, .take 16, .take 17, .take 18, .take 19] mixed_ok (by kernel_rfl) (by rw [hc]; rfl) ?_ | refine AWp.draw (id := 23) [.take 0, .take 1, .take 2, .take 3, .take 4, .take 5, .take 6, .take 7, .take 8, .take 9, .take 10, .take 11, .take 12, .take 13, .take 14, .take 15, .take 16, .take 17, .take 18, .take 19] mixed_ok (by kernel_rfl) (by rw [hc]; rfl) ?_ | refine AWp.region (by rw [hc]; rfl) ?_ | refine AWp.skip ?_ | refine AWp.exit ?_ | refine AWp.label ?_ | refine AWp.ret ?_ | refine appK_g ?_); simp -implicitDefEqProofs (maxSteps := 1000000) (disch := omega) only [go_sem, ↓reduceIte, Gr]) | ((first | refine hK _ ?_ | (clear hK; first | refine hK _ ?_ | (clear hK; first | refine hK _ ?_ | (clear hK; refine hK _ ?_)))); clear hK) | (refine AWp.cond ?_; simp -implicitDefEqProofs (maxSteps := 1000000) (disch := omega) only [go_sem, ↓reduceIte, Gr]; try (refine ⟨fun hlt => ?_, fun hlt => ?_⟩ <;> (try simp only [cla, clb, ne_eq, reduceCtorEq] at hlt) <;> (try exact hlt.elim))) | (refine AWp.block ?_) | ((first | refine gdO_split (fun hlt => ?_) (fun hlt => ?_) | refine tkO_split (fun hlt => ?_) (fun hlt => ?_) | refine opO_split (fun hlt => ?_) (fun hlt => ?_)) <;> have hgd := hlt <;> (try simp only [cla, clb, ne_eq, cld] at hlt) <;> (simp -implicitDefEqProofs (maxSteps := 1000000) (disch := omega) only [go_sem, ↓reduceIte, Gr, hgd]) <;> clear hgd) | (with_reducible refine And.intro ?_ ?_; · first | omega | assumption | exact ⟨_, _, rfl, rfl⟩) | ((first | refine ⟨_, a1, ?_⟩ | refine ⟨_, a2, ?_⟩ | refine ⟨_, a3, ?_⟩ | refine ⟨_, a4, ?_⟩ | refine ⟨_, a5, ?_⟩ | refine ⟨_, a6, ?_⟩ | refine ⟨_, b1, ?_⟩ | refine ⟨_, b2, ?_⟩ | refine ⟨_, b3, ?_⟩ | refine ⟨_, m7, ?_⟩ | refine ⟨_, m4, ?_⟩ | refine ⟨_, m2, ?_⟩ | refine ⟨_, m1, ?_⟩ | refine ⟨_, m9, ?_⟩ | refine ⟨_, p7, ?_⟩ | refine ⟨_, p2, ?_⟩ | refine ⟨_, p1, ?_⟩ | refine ⟨_, p3, ?_⟩ | refine ⟨_, p6, ?_⟩ | refine ⟨_, p47, ?_⟩ | refine ⟨_, p46, ?_⟩ | refine ⟨_, p240, ?_⟩ | refine ⟨_, p100, ?_⟩ | refine ⟨_, z0, ?_⟩ | refine ⟨_, q2, ?_⟩ | refine ⟨_, q9, ?_⟩ | refine ⟨_, q47, ?_⟩ | refine ⟨_, dv1, ?_⟩ | refine ⟨_, md1, ?_⟩ | refine ⟨_, dv2, ?_⟩ | refine ⟨_, md2, ?_⟩ | refine ⟨_, dz7, ?_⟩ | refine ⟨_, sm4, ?_⟩ | refine ⟨_, sm1, ?_⟩ | refine ⟨_, smn1, ?_⟩ | refine ⟨_, gg4, ?_⟩ | refine ⟨_, gg1, ?_⟩ | refine ⟨_, ggn, ?_⟩ | refine ⟨_, pw100, ?_⟩ | refine ⟨_, tx100, ?_⟩ | refine ⟨_, bz, ?_⟩ | refine ⟨_, cr1, ?_⟩ | refine ⟨_, cr2, ?_⟩ | refine ⟨_, ch40, ?_⟩ | refine ⟨_, o820, ?_⟩ | refine ⟨_, same820, ?_⟩); simp -implicitDefEqProofs (maxSteps := 1000000) (disch := omega) only [go_sem, ↓reduceIte, Gr]) | fail
  first
    | (simp only [s100, beq_self_eq_true, Bool.not_true, Bool.false_eq_true] at hlt; done)
    | (simp only [s100, beq_self_eq_true, Bool.not_true] at hlt; cases hlt)
    | (revert hlt; simp [s100]; done)
end Go.Proofs.YthhjcfejgoddlaaGreatDoor
end
