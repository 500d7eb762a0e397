/- Contracts of the integers' functions: the exported ones, texts, powers. -/
import Derived.Test.YthhjcfejgoddlaaGreatDoorKd
import Derived.Test.YthhjcfejgoddlaaGreatDoorSa
import Derived.Test.YthhjcfejgoddlaaGreatDoorKs
import Derived.WalkKit
import Derived.Shelf.RegionOpenPlain
import Derived.Lib.AppendIntMem
import Derived.Lib.ParseIntBCases
section
set_option linter.unusedSimpArgs false
set_option linter.unusedVariables false
set_option maxRecDepth 100000
namespace Go.Proofs.YthhjcfejgoddlaaGreatDoor
open Go Go.Abs
attribute [local go_sem] wrap64 Int.tdiv_eq_ediv_of_nonneg Int.tmod_eq_emod_of_nonneg eq_self Bool.false_eq_true Bool.true_eq_false Bool.not_true Bool.not_false
attribute [local go_sem_proc] Nat.reduceAdd Nat.reduceMul Nat.reduceEqDiff Nat.reduceLT Nat.reduceLeDiff Int.reduceEq Int.reduceNeg Int.reduceToNat reduceCtorEq Int.reduceBNe Int.reduceBEq

theorem limR_cases (v : Int) : limR v = .tup [Z v, I 0] ∨ limR v = .tup [Zr false [], I 2] := by
  unfold limR; split
  · exact .inl rfl
  · exact .inr rfl

theorem Add_ok (x y : Int) (lx : lenZ x ≤ 40) (ly : lenZ y ≤ 40) : PC Tryz.prog 40 [Z x, Z y] (limR (x + y)) := by
  have h := combined_ok 43 x y (x + y) (by unfold isOp; omega) lx ly (.inl rfl) (sum_Z x y (by unfold lenZ at lx; omega) (by unfold lenZ at ly; omega))
  rcases limR_cases (x + y) with hk | hk
  all_goals
    rw [hk] at h ⊢
    refine PCr.pc (PCr.of tab_ok Tryz.func40 rfl rfl rfl fun c hc hm => ?_)
    rw [show Tryz.f40.ntmps = _ from Tryz.ntmps40] at hc
    simp only [Tryz.f40]
    repeat' first | (refine AWp.seq fun K hK => ?_) | ((first | refine AWp.region (by rw [hc]; rfl) ?_ | refine AWp.skip ?_ | refine AWp.exit ?_ | refine AWp.label ?_ | refine AWp.ret ?_ | refine appK_g ?_); simp -implicitDefEqProofs (maxSteps := 1000000) (disch := omega) only [go_sem, ↓reduceIte]) | ((first | refine hK _ ?_ | (clear hK; first | refine hK _ ?_ | (clear hK; first | refine hK _ ?_ | (clear hK; refine hK _ ?_)))); clear hK) | (refine AWp.cond ?_; simp -implicitDefEqProofs (maxSteps := 1000000) (disch := omega) only [go_sem, ↓reduceIte]; try (refine ⟨fun hlt => ?_, fun hlt => ?_⟩ <;> (try simp only [cla, clb, ne_eq, reduceCtorEq] at hlt) <;> (try exact hlt.elim))) | (refine AWp.block ?_) | ((first | refine gdO_split (fun hlt => ?_) (fun hlt => ?_) | refine tkO_split (fun hlt => ?_) (fun hlt => ?_) | refine opO_split (fun hlt => ?_) (fun hlt => ?_)) <;> have hgd := hlt <;> (try simp only [cla, clb, ne_eq, cld] at hlt) <;> (simp -implicitDefEqProofs (maxSteps := 1000000) (disch := omega) only [go_sem, ↓reduceIte, hgd]) <;> clear hgd) | (with_reducible refine And.intro ?_ ?_; · first | omega | assumption | exact ⟨_, _, rfl, rfl⟩) | ((first | refine ⟨_, h, ?_⟩); simp -implicitDefEqProofs (maxSteps := 1000000) (disch := omega) only [go_sem, ↓reduceIte]) | fail
theorem Add_bad (na nb : Bool) (a b : List Int) (la : a.length ≤ 1000000) (lb : b.length ≤ 1000000) (hb : ¬ (okI na a ∧ okI nb b)) : PC Tryz.prog 40 [Zr na a, Zr nb b] (.tup [Zr false [], I 10]) := by
  have h := combined_bad 43 na nb a b la lb hb
  refine PCr.pc (PCr.of tab_ok Tryz.func40 rfl rfl rfl fun c hc hm => ?_)
  rw [show Tryz.f40.ntmps = _ from Tryz.ntmps40] at hc
  simp only [Tryz.f40]
  repeat' first | (refine AWp.seq fun K hK => ?_) | ((first | refine AWp.region (by rw [hc]; rfl) ?_ | refine AWp.skip ?_ | refine AWp.exit ?_ | refine AWp.label ?_ | refine AWp.ret ?_ | refine appK_g ?_); simp -implicitDefEqProofs (maxSteps := 1000000) (disch := omega) only [go_sem, ↓reduceIte]) | ((first | refine hK _ ?_ | (clear hK; first | refine hK _ ?_ | (clear hK; first | refine hK _ ?_ | (clear hK; refine hK _ ?_)))); clear hK) | (refine AWp.cond ?_; simp -implicitDefEqProofs (maxSteps := 1000000) (disch := omega) only [go_sem, ↓reduceIte]; try (refine ⟨fun hlt => ?_, fun hlt => ?_⟩ <;> (try simp only [cla, clb, ne_eq, reduceCtorEq] at hlt) <;> (try exact hlt.elim))) | (refine AWp.block ?_) | ((first | refine gdO_split (fun hlt => ?_) (fun hlt => ?_) | refine tkO_split (fun hlt => ?_) (fun hlt => ?_) | refine opO_split (fun hlt => ?_) (fun hlt => ?_)) <;> have hgd := hlt <;> (try simp only [cla, clb, ne_eq, cld] at hlt) <;> (simp -implicitDefEqProofs (maxSteps := 1000000) (disch := omega) only [go_sem, ↓reduceIte, hgd]) <;> clear hgd) | (with_reducible refine And.intro ?_ ?_; · first | omega | assumption | exact ⟨_, _, rfl, rfl⟩) | ((first | refine ⟨_, h, ?_⟩); simp -implicitDefEqProofs (maxSteps := 1000000) (disch := omega) only [go_sem, ↓reduceIte]) | fail

theorem Sub_ok (x y : Int) (lx : lenZ x ≤ 40) (ly : lenZ y ≤ 40) : PC Tryz.prog 37 [Z x, Z y] (limR (x - y)) := by
  have h := combined_ok 45 x y (x - y) (by unfold isOp; omega) lx ly (.inl rfl) (sub_fn x y (by omega) (by omega))
  rcases limR_cases (x - y) with hk | hk
  all_goals
    rw [hk] at h ⊢
    refine PCr.pc (PCr.of tab_ok Tryz.func37 rfl rfl rfl fun c hc hm => ?_)
    rw [show Tryz.f37.ntmps = _ from Tryz.ntmps37] at hc
    simp only [Tryz.f37]
    repeat' first | (refine AWp.seq fun K hK => ?_) | ((first | refine AWp.region (by rw [hc]; rfl) ?_ | refine AWp.skip ?_ | refine AWp.exit ?_ | refine AWp.label ?_ | refine AWp.ret ?_ | refine appK_g ?_); simp -implicitDefEqProofs (maxSteps := 1000000) (disch := omega) only [go_sem, ↓reduceIte]) | ((first | refine hK _ ?_ | (clear hK; first | refine hK _ ?_ | (clear hK; first | refine hK _ ?_ | (clear hK; refine hK _ ?_)))); clear hK) | (refine AWp.cond ?_; simp -implicitDefEqProofs (maxSteps := 1000000) (disch := omega) only [go_sem, ↓reduceIte]; try (refine ⟨fun hlt => ?_, fun hlt => ?_⟩ <;> (try simp only [cla, clb, ne_eq, reduceCtorEq] at hlt) <;> (try exact hlt.elim))) | (refine AWp.block ?_) | ((first | refine gdO_split (fun hlt => ?_) (fun hlt => ?_) | refine tkO_split (fun hlt => ?_) (fun hlt => ?_) | refine opO_split (fun hlt => ?_) (fun hlt => ?_)) <;> have hgd := hlt <;> (try simp only [cla, clb, ne_eq, cld] at hlt) <;> (simp -implicitDefEqProofs (maxSteps := 1000000) (disch := omega) only [go_sem, ↓reduceIte, hgd]) <;> clear hgd) | (with_reducible refine And.intro ?_ ?_; · first | omega | assumption | exact ⟨_, _, rfl, rfl⟩) | ((first | refine ⟨_, h, ?_⟩); simp -implicitDefEqProofs (maxSteps := 1000000) (disch := omega) only [go_sem, ↓reduceIte]) | fail
theorem Sub_bad (na nb : Bool) (a b : List Int) (la : a.length ≤ 1000000) (lb : b.length ≤ 1000000) (hb : ¬ (okI na a ∧ okI nb b)) : PC Tryz.prog 37 [Zr na a, Zr nb b] (.tup [Zr false [], I 10]) := by
  have h := combined_bad 45 na nb a b la lb hb
  refine PCr.pc (PCr.of tab_ok Tryz.func37 rfl rfl rfl fun c hc hm => ?_)
  rw [show Tryz.f37.ntmps = _ from Tryz.ntmps37] at hc
  simp only [Tryz.f37]
  repeat' first | (refine AWp.seq fun K hK => ?_) | ((first | refine AWp.region (by rw [hc]; rfl) ?_ | refine AWp.skip ?_ | refine AWp.exit ?_ | refine AWp.label ?_ | refine AWp.ret ?_ | refine appK_g ?_); simp -implicitDefEqProofs (maxSteps := 1000000) (disch := omega) only [go_sem, ↓reduceIte]) | ((first | refine hK _ ?_ | (clear hK; first | refine hK _ ?_ | (clear hK; first | refine hK _ ?_ | (clear hK; refine hK _ ?_)))); clear hK) | (refine AWp.cond ?_; simp -implicitDefEqProofs (maxSteps := 1000000) (disch := omega) only [go_sem, ↓reduceIte]; try (refine ⟨fun hlt => ?_, fun hlt => ?_⟩ <;> (try simp only [cla, clb, ne_eq, reduceCtorEq] at hlt) <;> (try exact hlt.elim))) | (refine AWp.block ?_) | ((first | refine gdO_split (fun hlt => ?_) (fun hlt => ?_) | refine tkO_split (fun hlt => ?_) (fun hlt => ?_) | refine opO_split (fun hlt => ?_) (fun hlt => ?_)) <;> have hgd := hlt <;> (try simp only [cla, clb, ne_eq, cld] at hlt) <;> (simp -implicitDefEqProofs (maxSteps := 1000000) (disch := omega) only [go_sem, ↓reduceIte, hgd]) <;> clear hgd) | (with_reducible refine And.intro ?_ ?_; · first | omega | assumption | exact ⟨_, _, rfl, rfl⟩) | ((first | refine ⟨_, h, ?_⟩); simp -implicitDefEqProofs (maxSteps := 1000000) (disch := omega) only [go_sem, ↓reduceIte]) | fail

theorem Mul_ok (x y : Int) (lx : lenZ x ≤ 40) (ly : lenZ y ≤ 40) : PC Tryz.prog 41 [Z x, Z y] (limR (x * y)) := by
  have h := combined_ok 42 x y (x * y) (by unfold isOp; omega) lx ly (.inl rfl) (mul_Z x y (by unfold lenZ at lx; omega) (by unfold lenZ at ly; omega))
  rcases limR_cases (x * y) with hk | hk
  all_goals
    rw [hk] at h ⊢
    refine PCr.pc (PCr.of tab_ok Tryz.func41 rfl rfl rfl fun c hc hm => ?_)
    rw [show Tryz.f41.ntmps = _ from Tryz.ntmps41] at hc
    simp only [Tryz.f41]
    repeat' first | (refine AWp.seq fun K hK => ?_) | ((first | refine AWp.region (by rw [hc]; rfl) ?_ | refine AWp.skip ?_ | refine AWp.exit ?_ | refine AWp.label ?_ | refine AWp.ret ?_ | refine appK_g ?_); simp -implicitDefEqProofs (maxSteps := 1000000) (disch := omega) only [go_sem, ↓reduceIte]) | ((first | refine hK _ ?_ | (clear hK; first | refine hK _ ?_ | (clear hK; first | refine hK _ ?_ | (clear hK; refine hK _ ?_)))); clear hK) | (refine AWp.cond ?_; simp -implicitDefEqProofs (maxSteps := 1000000) (disch := omega) only [go_sem, ↓reduceIte]; try (refine ⟨fun hlt => ?_, fun hlt => ?_⟩ <;> (try simp only [cla, clb, ne_eq, reduceCtorEq] at hlt) <;> (try exact hlt.elim))) | (refine AWp.block ?_) | ((first | refine gdO_split (fun hlt => ?_) (fun hlt => ?_) | refine tkO_split (fun hlt => ?_) (fun hlt => ?_) | refine opO_split (fun hlt => ?_) (fun hlt => ?_)) <;> have hgd := hlt <;> (try simp only [cla, clb, ne_eq, cld] at hlt) <;> (simp -implicitDefEqProofs (maxSteps := 1000000) (disch := omega) only [go_sem, ↓reduceIte, hgd]) <;> clear hgd) | (with_reducible refine And.intro ?_ ?_; · first | omega | assumption | exact ⟨_, _, rfl, rfl⟩) | ((first | refine ⟨_, h, ?_⟩); simp -implicitDefEqProofs (maxSteps := 1000000) (disch := omega) only [go_sem, ↓reduceIte]) | fail
theorem Mul_bad (na nb : Bool) (a b : List Int) (la : a.length ≤ 1000000) (lb : b.length ≤ 1000000) (hb : ¬ (okI na a ∧ okI nb b)) : PC Tryz.prog 41 [Zr na a, Zr nb b] (.tup [Zr false [], I 10]) := by
  have h := combined_bad 42 na nb a b la lb hb
  refine PCr.pc (PCr.of tab_ok Tryz.func41 rfl rfl rfl fun c hc hm => ?_)
  rw [show Tryz.f41.ntmps = _ from Tryz.ntmps41] at hc
  simp only [Tryz.f41]
  repeat' first | (refine AWp.seq fun K hK => ?_) | ((first | refine AWp.region (by rw [hc]; rfl) ?_ | refine AWp.skip ?_ | refine AWp.exit ?_ | refine AWp.label ?_ | refine AWp.ret ?_ | refine appK_g ?_); simp -implicitDefEqProofs (maxSteps := 1000000) (disch := omega) only [go_sem, ↓reduceIte]) | ((first | refine hK _ ?_ | (clear hK; first | refine hK _ ?_ | (clear hK; first | refine hK _ ?_ | (clear hK; refine hK _ ?_)))); clear hK) | (refine AWp.cond ?_; simp -implicitDefEqProofs (maxSteps := 1000000) (disch := omega) only [go_sem, ↓reduceIte]; try (refine ⟨fun hlt => ?_, fun hlt => ?_⟩ <;> (try simp only [cla, clb, ne_eq, reduceCtorEq] at hlt) <;> (try exact hlt.elim))) | (refine AWp.block ?_) | ((first | refine gdO_split (fun hlt => ?_) (fun hlt => ?_) | refine tkO_split (fun hlt => ?_) (fun hlt => ?_) | refine opO_split (fun hlt => ?_) (fun hlt => ?_)) <;> have hgd := hlt <;> (try simp only [cla, clb, ne_eq, cld] at hlt) <;> (simp -implicitDefEqProofs (maxSteps := 1000000) (disch := omega) only [go_sem, ↓reduceIte, hgd]) <;> clear hgd) | (with_reducible refine And.intro ?_ ?_; · first | omega | assumption | exact ⟨_, _, rfl, rfl⟩) | ((first | refine ⟨_, h, ?_⟩); simp -implicitDefEqProofs (maxSteps := 1000000) (disch := omega) only [go_sem, ↓reduceIte]) | fail

theorem Div_ok (x y : Int) (hy : y ≠ 0) (lx : lenZ x ≤ 40) (ly : lenZ y ≤ 40) : PC Tryz.prog 22 [Z x, Z y] (limR (x.fdiv y)) := by
  have h := combined_ok 47 x y (x.fdiv y) (by unfold isOp; omega) lx ly (.inr hy) (div_fn x y hy (by omega) (by omega))
  rcases limR_cases (x.fdiv y) with hk | hk
  all_goals
    rw [hk] at h ⊢
    refine PCr.pc (PCr.of tab_ok Tryz.func22 rfl rfl rfl fun c hc hm => ?_)
    rw [show Tryz.f22.ntmps = _ from Tryz.ntmps22] at hc
    simp only [Tryz.f22]
    repeat' first | (refine AWp.seq fun K hK => ?_) | ((first | refine AWp.region (by rw [hc]; rfl) ?_ | refine AWp.skip ?_ | refine AWp.exit ?_ | refine AWp.label ?_ | refine AWp.ret ?_ | refine appK_g ?_); simp -implicitDefEqProofs (maxSteps := 1000000) (disch := omega) only [go_sem, ↓reduceIte]) | ((first | refine hK _ ?_ | (clear hK; first | refine hK _ ?_ | (clear hK; first | refine hK _ ?_ | (clear hK; refine hK _ ?_)))); clear hK) | (refine AWp.cond ?_; simp -implicitDefEqProofs (maxSteps := 1000000) (disch := omega) only [go_sem, ↓reduceIte]; try (refine ⟨fun hlt => ?_, fun hlt => ?_⟩ <;> (try simp only [cla, clb, ne_eq, reduceCtorEq] at hlt) <;> (try exact hlt.elim))) | (refine AWp.block ?_) | ((first | refine gdO_split (fun hlt => ?_) (fun hlt => ?_) | refine tkO_split (fun hlt => ?_) (fun hlt => ?_) | refine opO_split (fun hlt => ?_) (fun hlt => ?_)) <;> have hgd := hlt <;> (try simp only [cla, clb, ne_eq, cld] at hlt) <;> (simp -implicitDefEqProofs (maxSteps := 1000000) (disch := omega) only [go_sem, ↓reduceIte, hgd]) <;> clear hgd) | (with_reducible refine And.intro ?_ ?_; · first | omega | assumption | exact ⟨_, _, rfl, rfl⟩) | ((first | refine ⟨_, h, ?_⟩); simp -implicitDefEqProofs (maxSteps := 1000000) (disch := omega) only [go_sem, ↓reduceIte]) | fail
theorem Div_bad (na nb : Bool) (a b : List Int) (la : a.length ≤ 1000000) (lb : b.length ≤ 1000000) (hb : ¬ (okI na a ∧ okI nb b)) : PC Tryz.prog 22 [Zr na a, Zr nb b] (.tup [Zr false [], I 10]) := by
  have h := combined_bad 47 na nb a b la lb hb
  refine PCr.pc (PCr.of tab_ok Tryz.func22 rfl rfl rfl fun c hc hm => ?_)
  rw [show Tryz.f22.ntmps = _ from Tryz.ntmps22] at hc
  simp only [Tryz.f22]
  repeat' first | (refine AWp.seq fun K hK => ?_) | ((first | refine AWp.region (by rw [hc]; rfl) ?_ | refine AWp.skip ?_ | refine AWp.exit ?_ | refine AWp.label ?_ | refine AWp.ret ?_ | refine appK_g ?_); simp -implicitDefEqProofs (maxSteps := 1000000) (disch := omega) only [go_sem, ↓reduceIte]) | ((first | refine hK _ ?_ | (clear hK; first | refine hK _ ?_ | (clear hK; first | refine hK _ ?_ | (clear hK; refine hK _ ?_)))); clear hK) | (refine AWp.cond ?_; simp -implicitDefEqProofs (maxSteps := 1000000) (disch := omega) only [go_sem, ↓reduceIte]; try (refine ⟨fun hlt => ?_, fun hlt => ?_⟩ <;> (try simp only [cla, clb, ne_eq, reduceCtorEq] at hlt) <;> (try exact hlt.elim))) | (refine AWp.block ?_) | ((first | refine gdO_split (fun hlt => ?_) (fun hlt => ?_) | refine tkO_split (fun hlt => ?_) (fun hlt => ?_) | refine opO_split (fun hlt => ?_) (fun hlt => ?_)) <;> have hgd := hlt <;> (try simp only [cla, clb, ne_eq, cld] at hlt) <;> (simp -implicitDefEqProofs (maxSteps := 1000000) (disch := omega) only [go_sem, ↓reduceIte, hgd]) <;> clear hgd) | (with_reducible refine And.intro ?_ ?_; · first | omega | assumption | exact ⟨_, _, rfl, rfl⟩) | ((first | refine ⟨_, h, ?_⟩); simp -implicitDefEqProofs (maxSteps := 1000000) (disch := omega) only [go_sem, ↓reduceIte]) | fail
theorem Div_zero (x : Int) (lx : lenZ x ≤ 40) : PC Tryz.prog 22 [Z x, Z 0] (.tup [Zr false [], I 11]) := by
  have h := combined_zero 47 x (by omega) lx
  rw [Z_zero]
  refine PCr.pc (PCr.of tab_ok Tryz.func22 rfl rfl rfl fun c hc hm => ?_)
  rw [show Tryz.f22.ntmps = _ from Tryz.ntmps22] at hc
  simp only [Tryz.f22]
  repeat' first | (refine AWp.seq fun K hK => ?_) | ((first | refine AWp.region (by rw [hc]; rfl) ?_ | refine AWp.skip ?_ | refine AWp.exit ?_ | refine AWp.label ?_ | refine AWp.ret ?_ | refine appK_g ?_); simp -implicitDefEqProofs (maxSteps := 1000000) (disch := omega) only [go_sem, ↓reduceIte]) | ((first | refine hK _ ?_ | (clear hK; first | refine hK _ ?_ | (clear hK; first | refine hK _ ?_ | (clear hK; refine hK _ ?_)))); clear hK) | (refine AWp.cond ?_; simp -implicitDefEqProofs (maxSteps := 1000000) (disch := omega) only [go_sem, ↓reduceIte]; try (refine ⟨fun hlt => ?_, fun hlt => ?_⟩ <;> (try simp only [cla, clb, ne_eq, reduceCtorEq] at hlt) <;> (try exact hlt.elim))) | (refine AWp.block ?_) | ((first | refine gdO_split (fun hlt => ?_) (fun hlt => ?_) | refine tkO_split (fun hlt => ?_) (fun hlt => ?_) | refine opO_split (fun hlt => ?_) (fun hlt => ?_)) <;> have hgd := hlt <;> (try simp only [cla, clb, ne_eq, cld] at hlt) <;> (simp -implicitDefEqProofs (maxSteps := 1000000) (disch := omega) only [go_sem, ↓reduceIte, hgd]) <;> clear hgd) | (with_reducible refine And.intro ?_ ?_; · first | omega | assumption | exact ⟨_, _, rfl, rfl⟩) | ((first | refine ⟨_, h, ?_⟩); simp -implicitDefEqProofs (maxSteps := 1000000) (disch := omega) only [go_sem, ↓reduceIte]) | fail

theorem Mod_ok (x y : Int) (hy : y ≠ 0) (lx : lenZ x ≤ 40) (ly : lenZ y ≤ 40) : PC Tryz.prog 34 [Z x, Z y] (limR (x.fmod y)) := by
  have h := combined_ok 37 x y (x.fmod y) (by unfold isOp; omega) lx ly (.inr hy) (mod_fn x y hy (by omega) (by omega))
  rcases limR_cases (x.fmod y) with hk | hk
  all_goals
    rw [hk] at h ⊢
    refine PCr.pc (PCr.of tab_ok Tryz.func34 rfl rfl rfl fun c hc hm => ?_)
    rw [show Tryz.f34.ntmps = _ from Tryz.ntmps34] at hc
    simp only [Tryz.f34]
    repeat' first | (refine AWp.seq fun K hK => ?_) | ((first | refine AWp.region (by rw [hc]; rfl) ?_ | refine AWp.skip ?_ | refine AWp.exit ?_ | refine AWp.label ?_ | refine AWp.ret ?_ | refine appK_g ?_); simp -implicitDefEqProofs (maxSteps := 1000000) (disch := omega) only [go_sem, ↓reduceIte]) | ((first | refine hK _ ?_ | (clear hK; first | refine hK _ ?_ | (clear hK; first | refine hK _ ?_ | (clear hK; refine hK _ ?_)))); clear hK) | (refine AWp.cond ?_; simp -implicitDefEqProofs (maxSteps := 1000000) (disch := omega) only [go_sem, ↓reduceIte]; try (refine ⟨fun hlt => ?_, fun hlt => ?_⟩ <;> (try simp only [cla, clb, ne_eq, reduceCtorEq] at hlt) <;> (try exact hlt.elim))) | (refine AWp.block ?_) | ((first | refine gdO_split (fun hlt => ?_) (fun hlt => ?_) | refine tkO_split (fun hlt => ?_) (fun hlt => ?_) | refine opO_split (fun hlt => ?_) (fun hlt => ?_)) <;> have hgd := hlt <;> (try simp only [cla, clb, ne_eq, cld] at hlt) <;> (simp -implicitDefEqProofs (maxSteps := 1000000) (disch := omega) only [go_sem, ↓reduceIte, hgd]) <;> clear hgd) | (with_reducible refine And.intro ?_ ?_; · first | omega | assumption | exact ⟨_, _, rfl, rfl⟩) | ((first | refine ⟨_, h, ?_⟩); simp -implicitDefEqProofs (maxSteps := 1000000) (disch := omega) only [go_sem, ↓reduceIte]) | fail
theorem Mod_bad (na nb : Bool) (a b : List Int) (la : a.length ≤ 1000000) (lb : b.length ≤ 1000000) (hb : ¬ (okI na a ∧ okI nb b)) : PC Tryz.prog 34 [Zr na a, Zr nb b] (.tup [Zr false [], I 10]) := by
  have h := combined_bad 37 na nb a b la lb hb
  refine PCr.pc (PCr.of tab_ok Tryz.func34 rfl rfl rfl fun c hc hm => ?_)
  rw [show Tryz.f34.ntmps = _ from Tryz.ntmps34] at hc
  simp only [Tryz.f34]
  repeat' first | (refine AWp.seq fun K hK => ?_) | ((first | refine AWp.region (by rw [hc]; rfl) ?_ | refine AWp.skip ?_ | refine AWp.exit ?_ | refine AWp.label ?_ | refine AWp.ret ?_ | refine appK_g ?_); simp -implicitDefEqProofs (maxSteps := 1000000) (disch := omega) only [go_sem, ↓reduceIte]) | ((first | refine hK _ ?_ | (clear hK; first | refine hK _ ?_ | (clear hK; first | refine hK _ ?_ | (clear hK; refine hK _ ?_)))); clear hK) | (refine AWp.cond ?_; simp -implicitDefEqProofs (maxSteps := 1000000) (disch := omega) only [go_sem, ↓reduceIte]; try (refine ⟨fun hlt => ?_, fun hlt => ?_⟩ <;> (try simp only [cla, clb, ne_eq, reduceCtorEq] at hlt) <;> (try exact hlt.elim))) | (refine AWp.block ?_) | ((first | refine gdO_split (fun hlt => ?_) (fun hlt => ?_) | refine tkO_split (fun hlt => ?_) (fun hlt => ?_) | refine opO_split (fun hlt => ?_) (fun hlt => ?_)) <;> have hgd := hlt <;> (try simp only [cla, clb, ne_eq, cld] at hlt) <;> (simp -implicitDefEqProofs (maxSteps := 1000000) (disch := omega) only [go_sem, ↓reduceIte, hgd]) <;> clear hgd) | (with_reducible refine And.intro ?_ ?_; · first | omega | assumption | exact ⟨_, _, rfl, rfl⟩) | ((first | refine ⟨_, h, ?_⟩); simp -implicitDefEqProofs (maxSteps := 1000000) (disch := omega) only [go_sem, ↓reduceIte]) | fail
theorem Mod_zero (x : Int) (lx : lenZ x ≤ 40) : PC Tryz.prog 34 [Z x, Z 0] (.tup [Zr false [], I 11]) := by
  have h := combined_zero 37 x (by omega) lx
  rw [Z_zero]
  refine PCr.pc (PCr.of tab_ok Tryz.func34 rfl rfl rfl fun c hc hm => ?_)
  rw [show Tryz.f34.ntmps = _ from Tryz.ntmps34] at hc
  simp only [Tryz.f34]
  repeat' first | (refine AWp.seq fun K hK => ?_) | ((first | refine AWp.region (by rw [hc]; rfl) ?_ | refine AWp.skip ?_ | refine AWp.exit ?_ | refine AWp.label ?_ | refine AWp.ret ?_ | refine appK_g ?_); simp -implicitDefEqProofs (maxSteps := 1000000) (disch := omega) only [go_sem, ↓reduceIte]) | ((first | refine hK _ ?_ | (clear hK; first | refine hK _ ?_ | (clear hK; first | refine hK _ ?_ | (clear hK; refine hK _ ?_)))); clear hK) | (refine AWp.cond ?_; simp -implicitDefEqProofs (maxSteps := 1000000) (disch := omega) only [go_sem, ↓reduceIte]; try (refine ⟨fun hlt => ?_, fun hlt => ?_⟩ <;> (try simp only [cla, clb, ne_eq, reduceCtorEq] at hlt) <;> (try exact hlt.elim))) | (refine AWp.block ?_) | ((first | refine gdO_split (fun hlt => ?_) (fun hlt => ?_) | refine tkO_split (fun hlt => ?_) (fun hlt => ?_) | refine opO_split (fun hlt => ?_) (fun hlt => ?_)) <;> have hgd := hlt <;> (try simp only [cla, clb, ne_eq, cld] at hlt) <;> (simp -implicitDefEqProofs (maxSteps := 1000000) (disch := omega) only [go_sem, ↓reduceIte, hgd]) <;> clear hgd) | (with_reducible refine And.intro ?_ ?_; · first | omega | assumption | exact ⟨_, _, rfl, rfl⟩) | ((first | refine ⟨_, h, ?_⟩); simp -implicitDefEqProofs (maxSteps := 1000000) (disch := omega) only [go_sem, ↓reduceIte]) | fail

theorem Neg_ok (x : Int) (lx : lenZ x ≤ 40) : PC Tryz.prog 43 [Z x] (.tup [Z (-x), I 0]) := by
  have h := Check_pc (decide (x < 0)) (D x.natAbs) (by unfold lenZ at lx; omega)
  rw [if_pos (okZ lx)] at h
  have o := opposite_Z x (by unfold lenZ at lx; omega)
  refine PCr.pc (PCr.of tab_ok Tryz.func43 rfl rfl rfl fun c hc hm => ?_)
  rw [show Tryz.f43.ntmps = _ from Tryz.ntmps43] at hc
  simp only [Tryz.f43]
  repeat' first | (refine AWp.seq fun K hK => ?_) | ((first | refine AWp.region (by rw [hc]; rfl) ?_ | refine AWp.skip ?_ | refine AWp.exit ?_ | refine AWp.label ?_ | refine AWp.ret ?_ | refine appK_g ?_); simp -implicitDefEqProofs (maxSteps := 1000000) (disch := omega) only [go_sem, ↓reduceIte]) | ((first | refine hK _ ?_ | (clear hK; first | refine hK _ ?_ | (clear hK; first | refine hK _ ?_ | (clear hK; refine hK _ ?_)))); clear hK) | (refine AWp.cond ?_; simp -implicitDefEqProofs (maxSteps := 1000000) (disch := omega) only [go_sem, ↓reduceIte]; try (refine ⟨fun hlt => ?_, fun hlt => ?_⟩ <;> (try simp only [cla, clb, ne_eq, reduceCtorEq] at hlt) <;> (try exact hlt.elim))) | (refine AWp.block ?_) | ((first | refine gdO_split (fun hlt => ?_) (fun hlt => ?_) | refine tkO_split (fun hlt => ?_) (fun hlt => ?_) | refine opO_split (fun hlt => ?_) (fun hlt => ?_)) <;> have hgd := hlt <;> (try simp only [cla, clb, ne_eq, cld] at hlt) <;> (simp -implicitDefEqProofs (maxSteps := 1000000) (disch := omega) only [go_sem, ↓reduceIte, hgd]) <;> clear hgd) | (with_reducible refine And.intro ?_ ?_; · first | omega | assumption | exact ⟨_, _, rfl, rfl⟩) | (refine ⟨_, h, ?_⟩; simp -implicitDefEqProofs (maxSteps := 1000000) (disch := omega) only [go_sem, ↓reduceIte]) | (refine ⟨_, o, ?_⟩; simp -implicitDefEqProofs (maxSteps := 1000000) (disch := omega) only [go_sem, ↓reduceIte]) | fail
theorem Neg_bad (neg : Bool) (d : List Int) (ld : d.length ≤ 1000000) (hb : ¬ okI neg d) : PC Tryz.prog 43 [Zr neg d] (.tup [Zr false [], I 10]) := by
  have h := Check_pc neg d ld
  rw [if_neg hb] at h
  refine PCr.pc (PCr.of tab_ok Tryz.func43 rfl rfl rfl fun c hc hm => ?_)
  rw [show Tryz.f43.ntmps = _ from Tryz.ntmps43] at hc
  simp only [Tryz.f43]
  repeat' first | (refine AWp.seq fun K hK => ?_) | ((first | refine AWp.region (by rw [hc]; rfl) ?_ | refine AWp.skip ?_ | refine AWp.exit ?_ | refine AWp.label ?_ | refine AWp.ret ?_ | refine appK_g ?_); simp -implicitDefEqProofs (maxSteps := 1000000) (disch := omega) only [go_sem, ↓reduceIte]) | ((first | refine hK _ ?_ | (clear hK; first | refine hK _ ?_ | (clear hK; first | refine hK _ ?_ | (clear hK; refine hK _ ?_)))); clear hK) | (refine AWp.cond ?_; simp -implicitDefEqProofs (maxSteps := 1000000) (disch := omega) only [go_sem, ↓reduceIte]; try (refine ⟨fun hlt => ?_, fun hlt => ?_⟩ <;> (try simp only [cla, clb, ne_eq, reduceCtorEq] at hlt) <;> (try exact hlt.elim))) | (refine AWp.block ?_) | ((first | refine gdO_split (fun hlt => ?_) (fun hlt => ?_) | refine tkO_split (fun hlt => ?_) (fun hlt => ?_) | refine opO_split (fun hlt => ?_) (fun hlt => ?_)) <;> have hgd := hlt <;> (try simp only [cla, clb, ne_eq, cld] at hlt) <;> (simp -implicitDefEqProofs (maxSteps := 1000000) (disch := omega) only [go_sem, ↓reduceIte, hgd]) <;> clear hgd) | (with_reducible refine And.intro ?_ ?_; · first | omega | assumption | exact ⟨_, _, rfl, rfl⟩) | (refine ⟨_, h, ?_⟩; simp -implicitDefEqProofs (maxSteps := 1000000) (disch := omega) only [go_sem, ↓reduceIte]) | fail
end Go.Proofs.YthhjcfejgoddlaaGreatDoor
end

section
set_option linter.unusedSimpArgs false
set_option linter.unusedVariables false
set_option maxRecDepth 100000
namespace Go.Proofs.YthhjcfejgoddlaaGreatDoor
open Go Go.Abs
attribute [local go_sem] wrap64 Int.tdiv_eq_ediv_of_nonneg Int.tmod_eq_emod_of_nonneg eq_self Bool.false_eq_true Bool.true_eq_false Bool.not_true Bool.not_false
attribute [local go_sem_proc] Nat.reduceAdd Nat.reduceMul Nat.reduceEqDiff Nat.reduceLT Nat.reduceLeDiff Int.reduceEq Int.reduceNeg Int.reduceToNat reduceCtorEq Int.reduceBNe Int.reduceBEq

theorem wrapu {n : Int} (h : 0 ≤ n ∧ n < 18446744073709551616) : IntKind.wrap .u64 n = n := by
  simp only [IntKind.wrap, IntKind.bits, IntKind.signed]
  have e : (2 : Int) ^ 64 = 18446744073709551616 := by decide
  simp only [e, Bool.false_and, decide_eq_true_eq]
  simp; omega
theorem wrapun {n : Int} (h : -18446744073709551616 ≤ n ∧ n < 0) : IntKind.wrap .u64 n = n + 18446744073709551616 := by
  simp only [IntKind.wrap, IntKind.bits, IntKind.signed]
  have e : (2 : Int) ^ 64 = 18446744073709551616 := by decide
  simp only [e, Bool.false_and, decide_eq_true_eq]
  simp; omega

def F63 (n : Int) : Int × List Int → St := fun ⟨r, d⟩ => ⟨[(0, I n), (2, .ptr 0 0), (3, .dat (.int .u64 r)), (4, gL 1 (d.map eI))], (0, .box [B false, .nil] false) :: gS 3 1 1 (d.map eI) false [], 2, 0⟩
set_option maxHeartbeats 2000000 in
theorem FromInt_pc (n : Int) (h0 : -9223372036854775808 ≤ n) (h1 : n ≤ 9223372036854775807) : PC Tryz.prog 63 [I n] (Z n) := by
  refine PCr.pc (PCr.of tab_ok Tryz.func63 rfl rfl rfl fun c hc hm => ?_)
  rw [show Tryz.f63.ntmps = _ from Tryz.ntmps63] at hc
  simp only [Tryz.f63]
  repeat' first | (refine AWp.seq fun K hK => ?_) | ((first | refine AWp.region (by rw [hc]; rfl) ?_ | refine AWp.skip ?_ | refine AWp.exit ?_ | refine AWp.label ?_ | refine AWp.ret ?_ | refine appK_g ?_); simp -implicitDefEqProofs (maxSteps := 1000000) (disch := omega) only [go_sem, ↓reduceIte, wrapu, wrapun]) | ((first | refine hK _ ?_ | (clear hK; first | refine hK _ ?_ | (clear hK; first | refine hK _ ?_ | (clear hK; refine hK _ ?_)))); clear hK) | (refine AWp.cond ?_; simp -implicitDefEqProofs (maxSteps := 1000000) (disch := omega) only [go_sem, ↓reduceIte, wrapu, wrapun]; try (refine ⟨fun hlt => ?_, fun hlt => ?_⟩ <;> (try simp only [cla, clb, ne_eq, reduceCtorEq] at hlt) <;> (try exact hlt.elim))) | (refine AWp.block ?_) | ((first | refine gdO_split (fun hlt => ?_) (fun hlt => ?_) | refine tkO_split (fun hlt => ?_) (fun hlt => ?_) | refine opO_split (fun hlt => ?_) (fun hlt => ?_)) <;> have hgd := hlt <;> (try simp only [cla, clb, ne_eq, cld] at hlt) <;> (simp -implicitDefEqProofs (maxSteps := 1000000) (disch := omega) only [go_sem, ↓reduceIte, wrapu, wrapun, hgd]) <;> clear hgd) | (with_reducible refine And.intro ?_ ?_; · first | omega | assumption | exact ⟨_, _, rfl, rfl⟩) | fail
  all_goals
    refine AWp.loopInv (F63 n) (fun a => a.1.toNat) (fun a => 0 ≤ a.1 ∧ a.1 ≤ 9223372036854775808 ∧ dig a.2 ∧ (a.1 : Int) * Bp a.2.length ≤ 9223372036854775808 ∧ val a.2 + Bp a.2.length * a.1 = n.natAbs ∧ a.2.length ≤ 20) ((n.natAbs : Int), []) ?_ (Sub.of0 hm id rfl ?_ ?_ ?_) ?_
  all_goals (try (intro i j _ _ h; exact h))
  all_goals (try (refine ⟨by simp only; omega, by simp only; omega, dig_nil, by simp [Bp_zero]; omega, by simp [val, Bp_zero], by simp⟩))
  all_goals (try dsimp only)
  all_goals (first | omega | (simp -implicitDefEqProofs (maxSteps := 1000000) (disch := omega) only [F63, id, go_sem, Nat.blt_eq, Nat.reduceAdd, Nat.reduceSub, Nat.reduceEqDiff, Nat.reduceLT, ↓reduceIte, and_true, true_and, AV.dat.injEq, DV.int.injEq, DV.bool.injEq, DV.lst.injEq, eq_self_iff_true]; first | done | omega | (simp; done) | (simp; omega)) | (simp; done) | (simp; omega) | skip)
  all_goals
    rintro ⟨r, d⟩ ⟨g1, g2, g3, g4, g5, g6⟩ ih
    simp only at g1 g2 g3 g4 g5 g6
    have hlen : 0 < r → d.length ≤ 2 := fun hr => by
      rcases Nat.lt_or_ge 2 d.length with h | h
      · have e1 := Bp_mono (show 3 ≤ d.length by omega)
        have e2 : Bp 3 = 1000000000000000000000000000 := by decide
        have e3 : 1 * Bp d.length ≤ r * Bp d.length := Int.mul_le_mul_of_nonneg_right (by omega) (by have := Bp_pos d.length; omega)
        omega
      · exact h
    have hs : r ≤ 0 → PC Tryz.prog 91 [B (decide (n < 0)), L d] (Z n) := fun h => by
      have hr0 : r = 0 := by omega
      subst hr0
      have hv : val d = (n.natAbs : Int) := by rw [← g5]; simp
      have hs := signed_v (decide (n < 0)) d n.natAbs g3 (by omega) hv
      rwa [Z_sg] at hs
    simp only [F63]
    repeat' first | (refine AWp.seq fun K hK => ?_) | ((first | refine AWp.region (by rw [hc]; rfl) ?_ | refine AWp.skip ?_ | refine AWp.exit ?_ | refine AWp.label ?_ | refine AWp.ret ?_ | refine appK_g ?_); simp -implicitDefEqProofs (maxSteps := 1000000) (disch := omega) only [go_sem, ↓reduceIte, wrapu, wrapun]) | ((first | refine hK _ ?_ | (clear hK; first | refine hK _ ?_ | (clear hK; first | refine hK _ ?_ | (clear hK; refine hK _ ?_)))); clear hK) | (refine AWp.cond ?_; simp -implicitDefEqProofs (maxSteps := 1000000) (disch := omega) only [go_sem, ↓reduceIte, wrapu, wrapun]; try (refine ⟨fun hlt => ?_, fun hlt => ?_⟩ <;> (try simp only [cla, clb, ne_eq, reduceCtorEq] at hlt) <;> (try exact hlt.elim))) | (refine AWp.block ?_) | ((first | refine gdO_split (fun hlt => ?_) (fun hlt => ?_) | refine tkO_split (fun hlt => ?_) (fun hlt => ?_) | refine opO_split (fun hlt => ?_) (fun hlt => ?_)) <;> have hgd := hlt <;> (try simp only [cla, clb, ne_eq, cld] at hlt) <;> (simp -implicitDefEqProofs (maxSteps := 1000000) (disch := omega) only [go_sem, ↓reduceIte, wrapu, wrapun, hgd]) <;> clear hgd) | (with_reducible refine And.intro ?_ ?_; · first | omega | assumption | exact ⟨_, _, rfl, rfl⟩) | ((first | refine ⟨_, hs (by assumption), ?_⟩); simp -implicitDefEqProofs (maxSteps := 1000000) (disch := omega) only [go_sem, ↓reduceIte, wrapu, wrapun]) | fail
  all_goals
    have hl2 := hlen (by assumption)
    refine ih (r / 1000000000, d ++ [r % 1000000000]) _ ⟨by simp only; omega, by simp only; omega, dig_snoc g3 ⟨by omega, by omega⟩, ?_, ?_, by simp only [List.length_append, List.length_cons, List.length_nil]; omega⟩ ?_ (Sub.of0 hm (fun i => if i = 0 then 0 else 3) rfl ?_ ?_ ?_)
    · simp only [List.length_append, List.length_cons, List.length_nil, Bp_succ]
      have hB := Bp_pos d.length
      have e1 : 1000000000 * (r / 1000000000) ≤ r := by omega
      have e2 : (1000000000 * (r / 1000000000)) * Bp d.length ≤ r * Bp d.length := Int.mul_le_mul_of_nonneg_right e1 (by omega)
      have e3 : r / 1000000000 * (1000000000 * Bp d.length) = (1000000000 * (r / 1000000000)) * Bp d.length := by grind
      try simp only [Nat.zero_add]
      omega
    · simp only [List.length_append, List.length_cons, List.length_nil, Nat.zero_add, Bp_succ, val_append, val]
      have e1 : r = 1000000000 * (r / 1000000000) + r % 1000000000 := by omega
      rw [← g5]
      grind
    all_goals (try dsimp only)
    all_goals (first | omega | (simp -implicitDefEqProofs (maxSteps := 1000000) (disch := omega) only [F63, id, go_sem, Nat.blt_eq, Nat.reduceAdd, Nat.reduceSub, Nat.reduceEqDiff, Nat.reduceLT, ↓reduceIte, and_true, true_and, AV.dat.injEq, DV.int.injEq, DV.bool.injEq, DV.lst.injEq, eq_self_iff_true]; first | done | omega | (simp; done) | (simp; omega)) | (simp; done) | (simp; omega) | skip)
  all_goals
    intro a b h1 h2 h
    change a < 2 at h1; change b < 2 at h2
    (split at h <;> split at h) <;> omega
end Go.Proofs.YthhjcfejgoddlaaGreatDoor
end

section
set_option linter.unusedSimpArgs false
set_option linter.unusedVariables false
set_option maxRecDepth 100000
namespace Go.Proofs.YthhjcfejgoddlaaGreatDoor
open Go Go.Abs
attribute [local go_sem] wrap64 Int.tdiv_eq_ediv_of_nonneg Int.tmod_eq_emod_of_nonneg eq_self Bool.false_eq_true Bool.true_eq_false Bool.not_true Bool.not_false
attribute [local go_sem_proc] Nat.reduceAdd Nat.reduceMul Nat.reduceEqDiff Nat.reduceLT Nat.reduceLeDiff Int.reduceEq Int.reduceNeg Int.reduceToNat reduceCtorEq Int.reduceBNe Int.reduceBEq

def F102 (xs ys : List Int) (k : Nat) : St := ⟨[(0, L xs), (1, L ys), (4, I 0), (5, I ((k : Int) - 1))], [], 0, 0⟩
set_option maxHeartbeats 1000000 in
theorem size_pc (xs ys : List Int) (lx : xs.length ≤ 1000000) (ly : ys.length ≤ 1000000) : PC Tryz.prog 102 [L xs, L ys] (I (cmpL xs ys)) := by
  unfold cmpL
  refine PCr.pc (PCr.of tab_ok Tryz.func102 rfl rfl rfl fun c hc hm => ?_)
  rw [show Tryz.f102.ntmps = _ from Tryz.ntmps102] at hc
  simp only [Tryz.f102]
  repeat' first | (refine AWp.seq fun K hK => ?_) | ((first | refine AWp.draw (id := 8) [.take 0, .take 1, .take 2, .take 3, .take 4, .take 5, .take 6, .take 7, .take 8] mixed_ok (by kernel_rfl) (by rw [hc]; rfl) ?_ | refine AWp.draw (id := 10) [.take 0, .take 1, .take 2, .take 3, .take 4, .take 5, .take 6, .take 7, .take 8] mixed_ok (by kernel_rfl) (by rw [hc]; rfl) ?_ | refine AWp.region (by rw [hc]; rfl) ?_ | refine AWp.skip ?_ | refine AWp.exit ?_ | refine AWp.label ?_ | refine AWp.ret ?_ | refine appK_g ?_); simp -implicitDefEqProofs (maxSteps := 1000000) (disch := omega) only [go_sem, ↓reduceIte]) | ((first | refine hK _ ?_ | (clear hK; first | refine hK _ ?_ | (clear hK; first | refine hK _ ?_ | (clear hK; refine hK _ ?_)))); clear hK) | (refine AWp.cond ?_; simp -implicitDefEqProofs (maxSteps := 1000000) (disch := omega) only [go_sem, ↓reduceIte]; try (refine ⟨fun hlt => ?_, fun hlt => ?_⟩ <;> (try simp only [cla, clb, ne_eq, reduceCtorEq] at hlt) <;> (try exact hlt.elim))) | (refine AWp.block ?_) | ((first | refine gdO_split (fun hlt => ?_) (fun hlt => ?_) | refine tkO_split (fun hlt => ?_) (fun hlt => ?_) | refine opO_split (fun hlt => ?_) (fun hlt => ?_)) <;> have hgd := hlt <;> (try simp only [cla, clb, ne_eq, cld] at hlt) <;> (simp -implicitDefEqProofs (maxSteps := 1000000) (disch := omega) only [go_sem, ↓reduceIte, hgd]) <;> clear hgd) | (with_reducible refine And.intro ?_ ?_; · first | omega | assumption | exact ⟨_, _, rfl, rfl⟩) | fail
  · simp only [cmpI]; (repeat' split) <;> omega
  · simp only [cmpI]; (repeat' split) <;> omega
  · have hll : ys.length = xs.length := by omega
    have hcc : cmpI (xs.length : Int) (ys.length : Int) = 0 := by simp only [cmpI]; (repeat' split) <;> omega
    simp only [hcc, ↓reduceIte]
    refine AWp.loopInv (F102 xs ys) (fun k => k) (fun k => k ≤ xs.length ∧ cmpD xs ys k = cmpD xs ys xs.length) xs.length ⟨Nat.le_refl _, rfl⟩ (Sub.of0 hm id rfl ?_ ?_ (fun _ _ _ _ h => h)) ?_
    all_goals (try dsimp only)
    all_goals (first | omega | (simp -implicitDefEqProofs (maxSteps := 1000000) (disch := omega) only [F102, id, go_sem, Nat.blt_eq, Nat.reduceAdd, Nat.reduceSub, Nat.reduceEqDiff, Nat.reduceLT, ↓reduceIte, and_true, true_and, AV.dat.injEq, DV.int.injEq, DV.bool.injEq, DV.lst.injEq, eq_self_iff_true]; first | done | omega | (simp; done) | (simp; omega)) | (simp; done) | (simp; omega) | skip)
    rintro k ⟨h1, h2⟩ ih
    simp only [F102]
    rcases k with _ | k
    · repeat' first | (refine AWp.seq fun K hK => ?_) | ((first | refine AWp.draw (id := 8) [.take 0, .take 1, .take 2, .take 3, .take 4, .take 5, .take 6, .take 7, .take 8] mixed_ok (by kernel_rfl) (by rw [hc]; rfl) ?_ | refine AWp.draw (id := 10) [.take 0, .take 1, .take 2, .take 3, .take 4, .take 5, .take 6, .take 7, .take 8] mixed_ok (by kernel_rfl) (by rw [hc]; rfl) ?_ | refine AWp.region (by rw [hc]; rfl) ?_ | refine AWp.skip ?_ | refine AWp.exit ?_ | refine AWp.label ?_ | refine AWp.ret ?_ | refine appK_g ?_); simp -implicitDefEqProofs (maxSteps := 1000000) (disch := omega) only [go_sem, ↓reduceIte]) | ((first | refine hK _ ?_ | (clear hK; first | refine hK _ ?_ | (clear hK; first | refine hK _ ?_ | (clear hK; refine hK _ ?_)))); clear hK) | (refine AWp.cond ?_; simp -implicitDefEqProofs (maxSteps := 1000000) (disch := omega) only [go_sem, ↓reduceIte]; try (refine ⟨fun hlt => ?_, fun hlt => ?_⟩ <;> (try simp only [cla, clb, ne_eq, reduceCtorEq] at hlt) <;> (try exact hlt.elim))) | (refine AWp.block ?_) | ((first | refine gdO_split (fun hlt => ?_) (fun hlt => ?_) | refine tkO_split (fun hlt => ?_) (fun hlt => ?_) | refine opO_split (fun hlt => ?_) (fun hlt => ?_)) <;> have hgd := hlt <;> (try simp only [cla, clb, ne_eq, cld] at hlt) <;> (simp -implicitDefEqProofs (maxSteps := 1000000) (disch := omega) only [go_sem, ↓reduceIte, hgd]) <;> clear hgd) | (with_reducible refine And.intro ?_ ?_; · first | omega | assumption | exact ⟨_, _, rfl, rfl⟩) | fail
      all_goals first | (exfalso; omega) | skip
      rw [if_pos hcc, ← h2]; rfl
    · have e1 : ((k + 1 : Nat) : Int) - 1 = (k : Int) := by omega
      have hu : cmpD xs ys (k + 1) = if cmpI (xs.getD k 0) (ys.getD k 0) = 0 then cmpD xs ys k else cmpI (xs.getD k 0) (ys.getD k 0) := rfl
      simp only [e1]
      repeat' first | (refine AWp.seq fun K hK => ?_) | ((first | refine AWp.draw (id := 8) [.take 0, .take 1, .take 2, .take 3, .take 4, .take 5, .take 6, .take 7, .take 8] mixed_ok (by kernel_rfl) (by rw [hc]; rfl) ?_ | refine AWp.draw (id := 10) [.take 0, .take 1, .take 2, .take 3, .take 4, .take 5, .take 6, .take 7, .take 8] mixed_ok (by kernel_rfl) (by rw [hc]; rfl) ?_ | refine AWp.region (by rw [hc]; rfl) ?_ | refine AWp.skip ?_ | refine AWp.exit ?_ | refine AWp.label ?_ | refine AWp.ret ?_ | refine appK_g ?_); simp -implicitDefEqProofs (maxSteps := 1000000) (disch := omega) only [go_sem, ↓reduceIte]) | ((first | refine hK _ ?_ | (clear hK; first | refine hK _ ?_ | (clear hK; first | refine hK _ ?_ | (clear hK; refine hK _ ?_)))); clear hK) | (refine AWp.cond ?_; simp -implicitDefEqProofs (maxSteps := 1000000) (disch := omega) only [go_sem, ↓reduceIte]; try (refine ⟨fun hlt => ?_, fun hlt => ?_⟩ <;> (try simp only [cla, clb, ne_eq, reduceCtorEq] at hlt) <;> (try exact hlt.elim))) | (refine AWp.block ?_) | ((first | refine gdO_split (fun hlt => ?_) (fun hlt => ?_) | refine tkO_split (fun hlt => ?_) (fun hlt => ?_) | refine opO_split (fun hlt => ?_) (fun hlt => ?_)) <;> have hgd := hlt <;> (try simp only [cla, clb, ne_eq, cld] at hlt) <;> (simp -implicitDefEqProofs (maxSteps := 1000000) (disch := omega) only [go_sem, ↓reduceIte, hgd]) <;> clear hgd) | (with_reducible refine And.intro ?_ ?_; · first | omega | assumption | exact ⟨_, _, rfl, rfl⟩) | fail
      all_goals first | (exfalso; omega) | skip
      · rw [← h2, hu]; simp only [cmpI]; (repeat' split) <;> omega
      · rw [← h2, hu]; simp only [cmpI]; (repeat' split) <;> omega
      · refine ih k _ ⟨by omega, ?_⟩ (by omega) (Sub.of0 hm id rfl ?_ ?_ (fun _ _ _ _ h => h))
        all_goals (try dsimp only)
        all_goals (first | omega | (simp -implicitDefEqProofs (maxSteps := 1000000) (disch := omega) only [F102, id, go_sem, Nat.blt_eq, Nat.reduceAdd, Nat.reduceSub, Nat.reduceEqDiff, Nat.reduceLT, ↓reduceIte, and_true, true_and, AV.dat.injEq, DV.int.injEq, DV.bool.injEq, DV.lst.injEq, eq_self_iff_true]; first | done | omega | (simp; done) | (simp; omega)) | (simp; done) | (simp; omega) | skip)
        · rw [← h2, hu, if_pos]; simp only [cmpI]; (repeat' split) <;> omega

theorem of_pc (n : Int) (h0 : -9223372036854775808 ≤ n) (h1 : n ≤ 9223372036854775807) : PC Tryz.prog 27 [I n] (Z n) := by
  refine PCr.pc (PCr.of tab_ok Tryz.func27 rfl rfl rfl fun c hc hm => ?_)
  rw [show Tryz.f27.ntmps = _ from Tryz.ntmps27] at hc
  simp only [Tryz.f27]
  repeat' first | (refine AWp.seq fun K hK => ?_) | ((first | refine AWp.region (by rw [hc]; rfl) ?_ | refine AWp.skip ?_ | refine AWp.exit ?_ | refine AWp.label ?_ | refine AWp.ret ?_ | refine appK_g ?_); simp -implicitDefEqProofs (maxSteps := 1000000) (disch := omega) only [go_sem, ↓reduceIte]) | ((first | refine hK _ ?_ | (clear hK; first | refine hK _ ?_ | (clear hK; first | refine hK _ ?_ | (clear hK; refine hK _ ?_)))); clear hK) | (refine AWp.cond ?_; simp -implicitDefEqProofs (maxSteps := 1000000) (disch := omega) only [go_sem, ↓reduceIte]; try (refine ⟨fun hlt => ?_, fun hlt => ?_⟩ <;> (try simp only [cla, clb, ne_eq, reduceCtorEq] at hlt) <;> (try exact hlt.elim))) | (refine AWp.block ?_) | ((first | refine gdO_split (fun hlt => ?_) (fun hlt => ?_) | refine tkO_split (fun hlt => ?_) (fun hlt => ?_) | refine opO_split (fun hlt => ?_) (fun hlt => ?_)) <;> have hgd := hlt <;> (try simp only [cla, clb, ne_eq, cld] at hlt) <;> (simp -implicitDefEqProofs (maxSteps := 1000000) (disch := omega) only [go_sem, ↓reduceIte, hgd]) <;> clear hgd) | (with_reducible refine And.intro ?_ ?_; · first | omega | assumption | exact ⟨_, _, rfl, rfl⟩) | ((first | refine ⟨_, FromInt_pc n h0 h1, ?_⟩); simp -implicitDefEqProofs (maxSteps := 1000000) (disch := omega) only [go_sem, ↓reduceIte]) | fail

def Gr (neg : Bool) (d : List Int) (e : Int) : AV := .agg [B neg, L d, I e]
def GZ (x e : Int) : AV := Gr (decide (x < 0)) (D x.natAbs) e

theorem got_pc (neg : Bool) (d : List Int) (e : Int) : PC Tryz.prog 24 [Zr neg d, I e] (Gr neg d e) := by
  refine PCr.pc (PCr.of tab_ok Tryz.func24 rfl rfl rfl fun c hc hm => ?_)
  rw [show Tryz.f24.ntmps = _ from Tryz.ntmps24] at hc
  simp only [Tryz.f24]
  repeat' first | (refine AWp.seq fun K hK => ?_) | ((first | refine AWp.region (by rw [hc]; rfl) ?_ | refine AWp.skip ?_ | refine AWp.exit ?_ | refine AWp.label ?_ | refine AWp.ret ?_ | refine appK_g ?_); simp -implicitDefEqProofs (maxSteps := 1000000) (disch := omega) only [go_sem, ↓reduceIte]) | ((first | refine hK _ ?_ | (clear hK; first | refine hK _ ?_ | (clear hK; first | refine hK _ ?_ | (clear hK; refine hK _ ?_)))); clear hK) | (refine AWp.cond ?_; simp -implicitDefEqProofs (maxSteps := 1000000) (disch := omega) only [go_sem, ↓reduceIte]; try (refine ⟨fun hlt => ?_, fun hlt => ?_⟩ <;> (try simp only [cla, clb, ne_eq, reduceCtorEq] at hlt) <;> (try exact hlt.elim))) | (refine AWp.block ?_) | ((first | refine gdO_split (fun hlt => ?_) (fun hlt => ?_) | refine tkO_split (fun hlt => ?_) (fun hlt => ?_) | refine opO_split (fun hlt => ?_) (fun hlt => ?_)) <;> have hgd := hlt <;> (try simp only [cla, clb, ne_eq, cld] at hlt) <;> (simp -implicitDefEqProofs (maxSteps := 1000000) (disch := omega) only [go_sem, ↓reduceIte, hgd]) <;> clear hgd) | (with_reducible refine And.intro ?_ ?_; · first | omega | assumption | exact ⟨_, _, rfl, rfl⟩) | fail
  rfl
theorem val_pc (neg : Bool) (d : List Int) : PC Tryz.prog 21 [Zr neg d] (Gr neg d 0) := by
  refine PCr.pc (PCr.of tab_ok Tryz.func21 rfl rfl rfl fun c hc hm => ?_)
  rw [show Tryz.f21.ntmps = _ from Tryz.ntmps21] at hc
  simp only [Tryz.f21]
  repeat' first | (refine AWp.seq fun K hK => ?_) | ((first | refine AWp.region (by rw [hc]; rfl) ?_ | refine AWp.skip ?_ | refine AWp.exit ?_ | refine AWp.label ?_ | refine AWp.ret ?_ | refine appK_g ?_); simp -implicitDefEqProofs (maxSteps := 1000000) (disch := omega) only [go_sem, ↓reduceIte]) | ((first | refine hK _ ?_ | (clear hK; first | refine hK _ ?_ | (clear hK; first | refine hK _ ?_ | (clear hK; refine hK _ ?_)))); clear hK) | (refine AWp.cond ?_; simp -implicitDefEqProofs (maxSteps := 1000000) (disch := omega) only [go_sem, ↓reduceIte]; try (refine ⟨fun hlt => ?_, fun hlt => ?_⟩ <;> (try simp only [cla, clb, ne_eq, reduceCtorEq] at hlt) <;> (try exact hlt.elim))) | (refine AWp.block ?_) | ((first | refine gdO_split (fun hlt => ?_) (fun hlt => ?_) | refine tkO_split (fun hlt => ?_) (fun hlt => ?_) | refine opO_split (fun hlt => ?_) (fun hlt => ?_)) <;> have hgd := hlt <;> (try simp only [cla, clb, ne_eq, cld] at hlt) <;> (simp -implicitDefEqProofs (maxSteps := 1000000) (disch := omega) only [go_sem, ↓reduceIte, hgd]) <;> clear hgd) | (with_reducible refine And.intro ?_ ?_; · first | omega | assumption | exact ⟨_, _, rfl, rfl⟩) | fail
  rfl

theorem refCompare_pc (na nb : Bool) (a b : List Int) (la : a.length ≤ 1000000) (lb : b.length ≤ 1000000) : PC Tryz.prog 53 [Zr na a, Zr nb b] (I (if na then (if nb then cmpL b a else -1) else if nb then 1 else cmpL a b)) := by
  cases na <;> cases nb
  all_goals
    simp only [Bool.false_eq_true, ↓reduceIte, Zr]
    refine PCr.pc (PCr.of tab_ok Tryz.func53 rfl rfl rfl fun c hc hm => ?_)
    rw [show Tryz.f53.ntmps = _ from Tryz.ntmps53] at hc
    simp only [Tryz.f53]
    repeat' first | (refine AWp.seq fun K hK => ?_) | ((first | refine AWp.region (by rw [hc]; rfl) ?_ | refine AWp.skip ?_ | refine AWp.exit ?_ | refine AWp.label ?_ | refine AWp.ret ?_ | refine appK_g ?_); simp -implicitDefEqProofs (maxSteps := 1000000) (disch := omega) only [go_sem, ↓reduceIte]) | ((first | refine hK _ ?_ | (clear hK; first | refine hK _ ?_ | (clear hK; first | refine hK _ ?_ | (clear hK; refine hK _ ?_)))); clear hK) | (refine AWp.cond ?_; simp -implicitDefEqProofs (maxSteps := 1000000) (disch := omega) only [go_sem, ↓reduceIte]; try (refine ⟨fun hlt => ?_, fun hlt => ?_⟩ <;> (try simp only [cla, clb, ne_eq, reduceCtorEq] at hlt) <;> (try exact hlt.elim))) | (refine AWp.block ?_) | ((first | refine gdO_split (fun hlt => ?_) (fun hlt => ?_) | refine tkO_split (fun hlt => ?_) (fun hlt => ?_) | refine opO_split (fun hlt => ?_) (fun hlt => ?_)) <;> have hgd := hlt <;> (try simp only [cla, clb, ne_eq, cld] at hlt) <;> (simp -implicitDefEqProofs (maxSteps := 1000000) (disch := omega) only [go_sem, ↓reduceIte, hgd]) <;> clear hgd) | (with_reducible refine And.intro ?_ ?_; · first | omega | assumption | exact ⟨_, _, rfl, rfl⟩) | ((first | refine ⟨_, size_pc _ _ (by omega) (by omega), ?_⟩); simp -implicitDefEqProofs (maxSteps := 1000000) (disch := omega) only [go_sem, ↓reduceIte]) | fail
  all_goals contradiction

theorem cmpZ (x y : Int) : (if decide (x < 0) then (if decide (y < 0) then cmpL (D y.natAbs) (D x.natAbs) else -1) else if decide (y < 0) then 1 else cmpL (D x.natAbs) (D y.natAbs)) = cmpI x y := by
  simp only [cmp_D, cmpI, decide_eq_true_eq]; (repeat' split) <;> omega
theorem Compare_Z (x y : Int) (lx : lenZ x ≤ 1000000) (ly : lenZ y ≤ 1000000) : PC Tryz.prog 23 [Z x, Z y] (I (cmpI x y)) := by
  have h := Compare_pc (decide (x < 0)) (decide (y < 0)) (D x.natAbs) (D y.natAbs) lx ly
  rw [cmpZ] at h; exact h
theorem refCompare_Z (x y : Int) (lx : lenZ x ≤ 1000000) (ly : lenZ y ≤ 1000000) : PC Tryz.prog 53 [Z x, Z y] (I (cmpI x y)) := by
  have h := refCompare_pc (decide (x < 0)) (decide (y < 0)) (D x.natAbs) (D y.natAbs) lx ly
  rw [cmpZ] at h; exact h
theorem Same_Z (x y : Int) (lx : lenZ x ≤ 1000000) (ly : lenZ y ≤ 1000000) : PC Tryz.prog 36 [Z x, Z y] (B (decide (x = y))) := by
  have h := refCompare_Z x y lx ly
  refine PCr.pc (PCr.of tab_ok Tryz.func36 rfl rfl rfl fun c hc hm => ?_)
  rw [show Tryz.f36.ntmps = _ from Tryz.ntmps36] at hc
  simp only [Tryz.f36]
  repeat' first | (refine AWp.seq fun K hK => ?_) | ((first | refine AWp.region (by rw [hc]; rfl) ?_ | refine AWp.skip ?_ | refine AWp.exit ?_ | refine AWp.label ?_ | refine AWp.ret ?_ | refine appK_g ?_); simp -implicitDefEqProofs (maxSteps := 1000000) (disch := omega) only [go_sem, ↓reduceIte]) | ((first | refine hK _ ?_ | (clear hK; first | refine hK _ ?_ | (clear hK; first | refine hK _ ?_ | (clear hK; refine hK _ ?_)))); clear hK) | (refine AWp.cond ?_; simp -implicitDefEqProofs (maxSteps := 1000000) (disch := omega) only [go_sem, ↓reduceIte]; try (refine ⟨fun hlt => ?_, fun hlt => ?_⟩ <;> (try simp only [cla, clb, ne_eq, reduceCtorEq] at hlt) <;> (try exact hlt.elim))) | (refine AWp.block ?_) | ((first | refine gdO_split (fun hlt => ?_) (fun hlt => ?_) | refine tkO_split (fun hlt => ?_) (fun hlt => ?_) | refine opO_split (fun hlt => ?_) (fun hlt => ?_)) <;> have hgd := hlt <;> (try simp only [cla, clb, ne_eq, cld] at hlt) <;> (simp -implicitDefEqProofs (maxSteps := 1000000) (disch := omega) only [go_sem, ↓reduceIte, hgd]) <;> clear hgd) | (with_reducible refine And.intro ?_ ?_; · first | omega | assumption | exact ⟨_, _, rfl, rfl⟩) | ((first | refine ⟨_, h, ?_⟩); simp -implicitDefEqProofs (maxSteps := 1000000) (disch := omega) only [go_sem, ↓reduceIte]) | fail
  rcases Int.lt_trichotomy x y with g | g | g
  · simp only [cmpI, if_pos g, show ¬ x = y by omega]; decide
  · simp only [cmpI, g, Int.lt_irrefl, ↓reduceIte]; decide
  · simp only [cmpI, show ¬ x = y by omega, show ¬ x < y by omega, ↓reduceIte]; decide
theorem same_Z (x y e f : Int) (lx : lenZ x ≤ 1000000) (ly : lenZ y ≤ 1000000) : PC Tryz.prog 26 [GZ x e, GZ y f] (B (decide (e = f ∧ x = y))) := by
  have h := Same_Z x y lx ly
  simp only [GZ, Gr]
  refine PCr.pc (PCr.of tab_ok Tryz.func26 rfl rfl rfl fun c hc hm => ?_)
  rw [show Tryz.f26.ntmps = _ from Tryz.ntmps26] at hc
  simp only [Tryz.f26]
  repeat' first | (refine AWp.seq fun K hK => ?_) | ((first | refine AWp.region (by rw [hc]; rfl) ?_ | refine AWp.skip ?_ | refine AWp.exit ?_ | refine AWp.label ?_ | refine AWp.ret ?_ | refine appK_g ?_); simp -implicitDefEqProofs (maxSteps := 1000000) (disch := omega) only [go_sem, ↓reduceIte]) | ((first | refine hK _ ?_ | (clear hK; first | refine hK _ ?_ | (clear hK; first | refine hK _ ?_ | (clear hK; refine hK _ ?_)))); clear hK) | (refine AWp.cond ?_; simp -implicitDefEqProofs (maxSteps := 1000000) (disch := omega) only [go_sem, ↓reduceIte]; try (refine ⟨fun hlt => ?_, fun hlt => ?_⟩ <;> (try simp only [cla, clb, ne_eq, reduceCtorEq] at hlt) <;> (try exact hlt.elim))) | (refine AWp.block ?_) | ((first | refine gdO_split (fun hlt => ?_) (fun hlt => ?_) | refine tkO_split (fun hlt => ?_) (fun hlt => ?_) | refine opO_split (fun hlt => ?_) (fun hlt => ?_)) <;> have hgd := hlt <;> (try simp only [cla, clb, ne_eq, cld] at hlt) <;> (simp -implicitDefEqProofs (maxSteps := 1000000) (disch := omega) only [go_sem, ↓reduceIte, hgd]) <;> clear hgd) | (with_reducible refine And.intro ?_ ?_; · first | omega | assumption | exact ⟨_, _, rfl, rfl⟩) | ((first | refine ⟨_, h, ?_⟩); simp -implicitDefEqProofs (maxSteps := 1000000) (disch := omega) only [go_sem, ↓reduceIte]) | fail
  · simp only [hlt, true_and]
  · simp only [hlt, false_and, decide_false]
end Go.Proofs.YthhjcfejgoddlaaGreatDoor
end

section
set_option linter.unusedSimpArgs false
set_option linter.unusedVariables false
set_option maxRecDepth 100000
namespace Go.Proofs.YthhjcfejgoddlaaGreatDoor
open Go Go.Abs
attribute [local go_sem] wrap64 Int.tdiv_eq_ediv_of_nonneg Int.tmod_eq_emod_of_nonneg eq_self Bool.false_eq_true Bool.true_eq_false Bool.not_true Bool.not_false
attribute [local go_sem_proc] Nat.reduceAdd Nat.reduceMul Nat.reduceEqDiff Nat.reduceLT Nat.reduceLeDiff Int.reduceEq Int.reduceNeg Int.reduceToNat reduceCtorEq Int.reduceBNe Int.reduceBEq

def sgI (x : Int) : Int := if x = 0 then 0 else if x < 0 then -1 else 1
theorem Sign_Z (x : Int) : PC Tryz.prog 18 [Z x] (I (sgI x)) := by
  have h := Sign_pc (decide (x < 0)) (D x.natAbs)
  have e : (if D x.natAbs = [] then (0 : Int) else if decide (x < 0) then -1 else 1) = sgI x := by
    unfold sgI
    by_cases hx : x = 0
    · subst hx; simp [D_zero]
    · rw [if_neg (by rw [D_nil]; omega), if_neg hx]; simp only [decide_eq_true_eq]
  rw [e] at h; exact h
theorem sgI_le (x : Int) : sgI x ≤ 0 ↔ x ≤ 0 := by unfold sgI; (repeat' split) <;> omega

theorem LZ4 (na nb nc nd : Bool) (a b c d : List Int) : LZ [(na, a), (nb, b), (nc, c), (nd, d)] = .dat (.lst [[.bool na, .lst (a.map eI)], [.bool nb, .lst (b.map eI)], [.bool nc, .lst (c.map eI)], [.bool nd, .lst (d.map eI)]]) := rfl

def crossR (a b p q : Int) : AV := if b ≤ 0 ∨ q ≤ 0 then .tup [I 0, I 1] else .tup [I (cmpI (a * q) (p * b)), I 0]
set_option maxHeartbeats 1000000 in
theorem Cross_ok (a b p q : Int) (la : lenZ a ≤ 40) (lb : lenZ b ≤ 40) (lp : lenZ p ≤ 40) (lq : lenZ q ≤ 40) : PC Tryz.prog 19 [Z a, Z b, Z p, Z q] (crossR a b p q) := by
  have hare := are_pc [(decide (a < 0), D a.natAbs), (decide (b < 0), D b.natAbs), (decide (p < 0), D p.natAbs), (decide (q < 0), D q.natAbs)] (by simp) (by intro z hz; unfold lenZ at *; simp at hz; rcases hz with rfl | rfl | rfl | rfl <;> simp <;> omega)
  rw [if_pos (by intro z hz; simp at hz; rcases hz with rfl | rfl | rfl | rfl; exact okZ la; exact okZ lb; exact okZ lp; exact okZ lq), LZ4] at hare
  have hm1 := mul_Z a q (by unfold lenZ at *; omega) (by unfold lenZ at *; omega)
  have hm2 := mul_Z p b (by unfold lenZ at *; omega) (by unfold lenZ at *; omega)
  have l1 := lenZ_mul a q
  have l2 := lenZ_mul p b
  have h23 := Compare_Z (a * q) (p * b) (by omega) (by omega)
  have s1 := Sign_Z b
  have s2 := Sign_Z q
  unfold crossR
  rcases Int.lt_or_le 0 b with hb | hb
  · rcases Int.lt_or_le 0 q with hq | hq
    · rw [if_neg (by omega)]
      have e1 : decide (sgI b ≤ 0) = false := decide_eq_false (by rw [sgI_le]; omega)
      have e2 : decide (sgI q ≤ 0) = false := decide_eq_false (by rw [sgI_le]; omega)
      refine PCr.pc (PCr.of tab_ok Tryz.func19 rfl rfl rfl fun c hc hm => ?_)
      rw [show Tryz.f19.ntmps = _ from Tryz.ntmps19] at hc
      simp only [Tryz.f19]
      repeat' first | (exact absurd (of_decide_eq_true (by assumption)) (Int.not_le.2 hlt)) | (exact absurd hlt (of_decide_eq_false (by assumption))) | (refine AWp.seq fun K hK => ?_) | ((first | refine AWp.draw (id := 6) [.take 0, .take 1, .take 2, .take 3, .take 4, .take 5, .take 6, .take 7, .take 8] mixed_ok (by kernel_rfl) (by rw [hc]; rfl) ?_ | refine AWp.region (by rw [hc]; rfl) ?_ | refine AWp.skip ?_ | refine AWp.exit ?_ | refine AWp.label ?_ | refine AWp.ret ?_ | refine appK_g ?_); simp -implicitDefEqProofs (maxSteps := 1000000) (disch := omega) only [go_sem, ↓reduceIte, e1, e2]) | ((first | refine hK _ ?_ | (clear hK; first | refine hK _ ?_ | (clear hK; first | refine hK _ ?_ | (clear hK; refine hK _ ?_)))); clear hK) | (refine AWp.cond ?_; simp -implicitDefEqProofs (maxSteps := 1000000) (disch := omega) only [go_sem, ↓reduceIte, e1, e2]; try (refine ⟨fun hlt => ?_, fun hlt => ?_⟩ <;> (try simp only [cla, clb, ne_eq, reduceCtorEq] at hlt) <;> (try exact hlt.elim))) | (refine AWp.block ?_) | ((first | refine gdO_split (fun hlt => ?_) (fun hlt => ?_) | refine tkO_split (fun hlt => ?_) (fun hlt => ?_) | refine opO_split (fun hlt => ?_) (fun hlt => ?_)) <;> have hgd := hlt <;> (try simp only [cla, clb, ne_eq, cld] at hlt) <;> (simp -implicitDefEqProofs (maxSteps := 1000000) (disch := omega) only [go_sem, ↓reduceIte, e1, e2, hgd]) <;> clear hgd) | (with_reducible refine And.intro ?_ ?_; · first | omega | assumption | exact ⟨_, _, rfl, rfl⟩) | (refine ⟨_, hare, ?_⟩; simp -implicitDefEqProofs (maxSteps := 1000000) (disch := omega) only [go_sem, ↓reduceIte]) | (refine ⟨_, s1, ?_⟩; simp -implicitDefEqProofs (maxSteps := 1000000) (disch := omega) only [go_sem, ↓reduceIte]) | (refine ⟨_, s2, ?_⟩; simp -implicitDefEqProofs (maxSteps := 1000000) (disch := omega) only [go_sem, ↓reduceIte]) | (refine ⟨_, hm1, ?_⟩; simp -implicitDefEqProofs (maxSteps := 1000000) (disch := omega) only [go_sem, ↓reduceIte]) | (refine ⟨_, hm2, ?_⟩; simp -implicitDefEqProofs (maxSteps := 1000000) (disch := omega) only [go_sem, ↓reduceIte]) | (refine ⟨_, h23, ?_⟩; simp -implicitDefEqProofs (maxSteps := 1000000) (disch := omega) only [go_sem, ↓reduceIte]) | fail
    · rw [if_pos (by omega)]
      have e1 : decide (sgI b ≤ 0) = false := decide_eq_false (by rw [sgI_le]; omega)
      have e2 : decide (sgI q ≤ 0) = true := decide_eq_true (by rw [sgI_le]; omega)
      refine PCr.pc (PCr.of tab_ok Tryz.func19 rfl rfl rfl fun c hc hm => ?_)
      rw [show Tryz.f19.ntmps = _ from Tryz.ntmps19] at hc
      simp only [Tryz.f19]
      repeat' first | (exact absurd (of_decide_eq_true (by assumption)) (Int.not_le.2 hlt)) | (exact absurd hlt (of_decide_eq_false (by assumption))) | (refine AWp.seq fun K hK => ?_) | ((first | refine AWp.draw (id := 6) [.take 0, .take 1, .take 2, .take 3, .take 4, .take 5, .take 6, .take 7, .take 8] mixed_ok (by kernel_rfl) (by rw [hc]; rfl) ?_ | refine AWp.region (by rw [hc]; rfl) ?_ | refine AWp.skip ?_ | refine AWp.exit ?_ | refine AWp.label ?_ | refine AWp.ret ?_ | refine appK_g ?_); simp -implicitDefEqProofs (maxSteps := 1000000) (disch := omega) only [go_sem, ↓reduceIte, e1, e2]) | ((first | refine hK _ ?_ | (clear hK; first | refine hK _ ?_ | (clear hK; first | refine hK _ ?_ | (clear hK; refine hK _ ?_)))); clear hK) | (refine AWp.cond ?_; simp -implicitDefEqProofs (maxSteps := 1000000) (disch := omega) only [go_sem, ↓reduceIte, e1, e2]; try (refine ⟨fun hlt => ?_, fun hlt => ?_⟩ <;> (try simp only [cla, clb, ne_eq, reduceCtorEq] at hlt) <;> (try exact hlt.elim))) | (refine AWp.block ?_) | ((first | refine gdO_split (fun hlt => ?_) (fun hlt => ?_) | refine tkO_split (fun hlt => ?_) (fun hlt => ?_) | refine opO_split (fun hlt => ?_) (fun hlt => ?_)) <;> have hgd := hlt <;> (try simp only [cla, clb, ne_eq, cld] at hlt) <;> (simp -implicitDefEqProofs (maxSteps := 1000000) (disch := omega) only [go_sem, ↓reduceIte, e1, e2, hgd]) <;> clear hgd) | (with_reducible refine And.intro ?_ ?_; · first | omega | assumption | exact ⟨_, _, rfl, rfl⟩) | (refine ⟨_, hare, ?_⟩; simp -implicitDefEqProofs (maxSteps := 1000000) (disch := omega) only [go_sem, ↓reduceIte]) | (refine ⟨_, s1, ?_⟩; simp -implicitDefEqProofs (maxSteps := 1000000) (disch := omega) only [go_sem, ↓reduceIte]) | (refine ⟨_, s2, ?_⟩; simp -implicitDefEqProofs (maxSteps := 1000000) (disch := omega) only [go_sem, ↓reduceIte]) | fail
  · rw [if_pos (by omega)]
    have e1 : decide (sgI b ≤ 0) = true := decide_eq_true (by rw [sgI_le]; omega)
    refine PCr.pc (PCr.of tab_ok Tryz.func19 rfl rfl rfl fun c hc hm => ?_)
    rw [show Tryz.f19.ntmps = _ from Tryz.ntmps19] at hc
    simp only [Tryz.f19]
    repeat' first | (exact absurd (of_decide_eq_true (by assumption)) (Int.not_le.2 hlt)) | (exact absurd hlt (of_decide_eq_false (by assumption))) | (refine AWp.seq fun K hK => ?_) | ((first | refine AWp.draw (id := 6) [.take 0, .take 1, .take 2, .take 3, .take 4, .take 5, .take 6, .take 7, .take 8] mixed_ok (by kernel_rfl) (by rw [hc]; rfl) ?_ | refine AWp.region (by rw [hc]; rfl) ?_ | refine AWp.skip ?_ | refine AWp.exit ?_ | refine AWp.label ?_ | refine AWp.ret ?_ | refine appK_g ?_); simp -implicitDefEqProofs (maxSteps := 1000000) (disch := omega) only [go_sem, ↓reduceIte, e1]) | ((first | refine hK _ ?_ | (clear hK; first | refine hK _ ?_ | (clear hK; first | refine hK _ ?_ | (clear hK; refine hK _ ?_)))); clear hK) | (refine AWp.cond ?_; simp -implicitDefEqProofs (maxSteps := 1000000) (disch := omega) only [go_sem, ↓reduceIte, e1]; try (refine ⟨fun hlt => ?_, fun hlt => ?_⟩ <;> (try simp only [cla, clb, ne_eq, reduceCtorEq] at hlt) <;> (try exact hlt.elim))) | (refine AWp.block ?_) | ((first | refine gdO_split (fun hlt => ?_) (fun hlt => ?_) | refine tkO_split (fun hlt => ?_) (fun hlt => ?_) | refine opO_split (fun hlt => ?_) (fun hlt => ?_)) <;> have hgd := hlt <;> (try simp only [cla, clb, ne_eq, cld] at hlt) <;> (simp -implicitDefEqProofs (maxSteps := 1000000) (disch := omega) only [go_sem, ↓reduceIte, e1, hgd]) <;> clear hgd) | (with_reducible refine And.intro ?_ ?_; · first | omega | assumption | exact ⟨_, _, rfl, rfl⟩) | (refine ⟨_, hare, ?_⟩; simp -implicitDefEqProofs (maxSteps := 1000000) (disch := omega) only [go_sem, ↓reduceIte]) | (refine ⟨_, s1, ?_⟩; simp -implicitDefEqProofs (maxSteps := 1000000) (disch := omega) only [go_sem, ↓reduceIte]) | (refine ⟨_, s2, ?_⟩; simp -implicitDefEqProofs (maxSteps := 1000000) (disch := omega) only [go_sem, ↓reduceIte]) | fail
end Go.Proofs.YthhjcfejgoddlaaGreatDoor
end

section
set_option linter.unusedSimpArgs false
set_option linter.unusedVariables false
set_option maxRecDepth 100000
namespace Go.Proofs.YthhjcfejgoddlaaGreatDoor
open Go Go.Abs
attribute [local go_sem] wrap64 Int.tdiv_eq_ediv_of_nonneg Int.tmod_eq_emod_of_nonneg eq_self Bool.false_eq_true Bool.true_eq_false Bool.not_true Bool.not_false
attribute [local go_sem_proc] Nat.reduceAdd Nat.reduceMul Nat.reduceEqDiff Nat.reduceLT Nat.reduceLeDiff Int.reduceEq Int.reduceNeg Int.reduceToNat reduceCtorEq Int.reduceBNe Int.reduceBEq

/-- The number of ways to choose: Pascal's triangle, by the two parts. -/
def bnm : Nat → Nat → Nat
  | 0, _ => 1
  | _ + 1, 0 => 1
  | a + 1, b + 1 => bnm a (b + 1) + bnm (a + 1) b
theorem bnm_z (a : Nat) : bnm a 0 = 1 := by cases a <;> simp [bnm]
theorem bnm_symm : ∀ s a b, a + b ≤ s → bnm a b = bnm b a
  | s, 0, b, _ => by rw [bnm_z]; simp [bnm]
  | s, a + 1, 0, _ => by simp [bnm]
  | 0, a + 1, b + 1, h => by omega
  | s + 1, a + 1, b + 1, h => by
    rw [bnm, bnm, bnm_symm s a (b + 1) (by omega), bnm_symm s (a + 1) b (by omega)]; omega
theorem bnm_absorb : ∀ s a b, a + b ≤ s → (a + 1) * bnm (a + 1) b = (a + b + 1) * bnm a b
  | s, a, 0, _ => by rw [bnm_z, bnm_z]
  | 0, a, b + 1, h => by omega
  | s + 1, a, b + 1, h => by
    have h1 := bnm_absorb s a b (by omega)
    have h2 := bnm_absorb s b a (by omega)
    rw [bnm, bnm_symm _ a (b + 1) (Nat.le_refl _)]
    rw [bnm_symm _ b a (Nat.le_refl _)] at h2
    grind
theorem bnm_pos : ∀ a b, 0 < bnm a b
  | 0, b => by simp [bnm]
  | a + 1, 0 => by simp [bnm]
  | a + 1, b + 1 => by rw [bnm]; have := bnm_pos a (b + 1); omega
theorem bnm_mono1 (a b : Nat) : bnm a b ≤ bnm (a + 1) b := by
  cases b with
  | zero => rw [bnm_z, bnm_z]; exact Nat.le_refl _
  | succ b => rw [bnm]; omega
theorem bnm_mono {a c : Nat} (b : Nat) (h : a ≤ c) : bnm a b ≤ bnm c b := by
  induction c with
  | zero => rw [show a = 0 by omega]; exact Nat.le_refl _
  | succ c ih =>
    rcases Nat.lt_or_ge c a with g | g
    · rw [show a = c + 1 by omega]; exact Nat.le_refl _
    · exact Nat.le_trans (ih g) (bnm_mono1 c b)

theorem bnm_step (a b : Nat) : ((bnm a b : Int) * ((b : Int) + (a + 1 : Nat))).fdiv ((a + 1 : Nat) : Int) = (bnm (a + 1) b : Nat) := by
  have h := bnm_absorb _ a b (Nat.le_refl _)
  have e : (bnm a b : Int) * ((b : Int) + (a + 1 : Nat)) = (bnm (a + 1) b : Int) * ((a + 1 : Nat) : Int) := by
    have : (((a + 1) * bnm (a + 1) b : Nat) : Int) = (((a + b + 1) * bnm a b : Nat) : Int) := by rw [h]
    simp only [Int.natCast_mul, Int.natCast_add] at this ⊢
    grind
  rw [e, Int.mul_fdiv_cancel _ (by omega)]

def F84 (m : Nat) (k n : Int) (a : Nat) : St := ⟨[(0, .dat (.cptr [.int .i64 k])), (1, .dat (.cptr [.int .i64 n])), (2, .ptr 0 0), (3, .ptr 1 0), (4, I ((a : Int) + 1))], [(1, bZ (bnm a m : Nat)), (0, .box [B false, .nil] false)], 2, 0⟩
theorem lenZ_small {z : Int} (h : z.natAbs < 1000000000) : lenZ z ≤ 1 := by
  have h1 : (D z.natAbs).length ≤ (D 999999999).length := D_len_le (by omega)
  have h2 : (D 999999999).length = 1 := by rw [D_pos (by decide), show 999999999 / 1000000000 = 0 from rfl, D_zero]; rfl
  unfold lenZ; omega
set_option maxHeartbeats 2000000 in
theorem choose_px (k m : Nat) (n : Int) (hN : n - k = m) (hn : k + m ≤ 4000) :
    PX Tryz.prog 84 [.dat (.cptr [.int .i64 k]), .dat (.cptr [.int .i64 n])] (fun r => r = Z (bnm k m : Nat) ∧ lenZ (bnm k m : Nat) ≤ 40) (fun v => v = tlV ∧ 40 < lenZ (bnm k m : Nat)) := by
  refine PX.of tab_ok Tryz.func84 rfl rfl rfl fun c hc hm => ?_
  rw [show Tryz.f84.ntmps = _ from Tryz.ntmps84] at hc
  simp only [Tryz.f84]
  repeat' first | (refine AWp.seq fun K hK => ?_) | ((first | refine AWp.draw (id := 5) [.take 0, .take 1, .take 2, .take 3, .take 4, .take 5, .take 6, .take 7, .take 8, .take 9, .take 10, .take 11, .take 12, .take 13, .grp [14]] mixed_ok (by kernel_rfl) (by rw [hc]; rfl) ?_ | refine AWp.region (by rw [hc]; rfl) ?_ | refine AWp.skip ?_ | refine AWp.exit ?_ | refine AWp.label ?_ | refine AWp.ret ?_ | refine appK_g ?_); simp -implicitDefEqProofs (maxSteps := 1000000) (disch := omega) only [go_sem, ↓reduceIte]) | ((first | refine hK _ ?_ | (clear hK; first | refine hK _ ?_ | (clear hK; first | refine hK _ ?_ | (clear hK; refine hK _ ?_)))); clear hK) | (refine AWp.cond ?_; simp -implicitDefEqProofs (maxSteps := 1000000) (disch := omega) only [go_sem, ↓reduceIte]; try (refine ⟨fun hlt => ?_, fun hlt => ?_⟩ <;> (try simp only [cla, clb, ne_eq, reduceCtorEq] at hlt) <;> (try exact hlt.elim))) | (refine AWp.block ?_) | ((first | refine gdO_split (fun hlt => ?_) (fun hlt => ?_) | refine tkO_split (fun hlt => ?_) (fun hlt => ?_) | refine opO_split (fun hlt => ?_) (fun hlt => ?_)) <;> have hgd := hlt <;> (try simp only [cla, clb, ne_eq, cld] at hlt) <;> (simp -implicitDefEqProofs (maxSteps := 1000000) (disch := omega) only [go_sem, ↓reduceIte, hgd]) <;> clear hgd) | (with_reducible refine And.intro ?_ ?_; · first | omega | assumption | exact ⟨_, _, rfl, rfl⟩) | ((first | refine ⟨_, one_Z, ?_⟩); simp -implicitDefEqProofs (maxSteps := 1000000) (disch := omega) only [go_sem, ↓reduceIte]) | fail
  refine AWp.loopInv (F84 m k n) (fun a => k - a) (fun a => a ≤ k ∧ lenZ (bnm a m : Nat) ≤ 40) 0
    ⟨Nat.zero_le _, by simp [lenZ, bnm, D_1]⟩ (Sub.of0 hm id rfl ?_ ?_ (fun _ _ _ _ h => h)) ?_
  all_goals (try dsimp only)
  all_goals (first | omega | (simp -implicitDefEqProofs (maxSteps := 1000000) (disch := omega) only [F84, bZ, bnm, id, go_sem, Nat.blt_eq, Nat.reduceAdd, Nat.reduceSub, Nat.reduceEqDiff, Nat.reduceLT, ↓reduceIte, and_true, true_and, AV.dat.injEq, DV.int.injEq, DV.bool.injEq, DV.lst.injEq, eq_self_iff_true]; first | done | omega | (simp; done) | (simp; omega)) | (simp; done) | (simp; omega) | skip)
  rintro a ⟨h1, h2⟩ ih
  simp only [F84, bZ]
  have f1 := FromInt_pc ((m : Int) + ((a : Int) + 1)) (by omega) (by omega)
  have f2 := FromInt_pc ((a : Int) + 1) (by omega) (by omega)
  have l1 : lenZ ((m : Int) + ((a : Int) + 1)) ≤ 1 := lenZ_small (by omega)
  have l2 : lenZ ((a : Int) + 1) ≤ 1 := lenZ_small (by omega)
  have m1 := mul_Z (bnm a m : Nat) ((m : Int) + ((a : Int) + 1)) (by unfold lenZ at *; omega) (by unfold lenZ at *; omega)
  have l3 := lenZ_mul (bnm a m : Nat) ((m : Int) + ((a : Int) + 1))
  have d1 := divided_Z ((bnm a m : Nat) * ((m : Int) + ((a : Int) + 1))) ((a : Int) + 1) (by omega) (by unfold lenZ at *; omega) (by unfold lenZ at *; omega)
  rw [show ((bnm a m : Nat) * ((m : Int) + ((a : Int) + 1))).fdiv ((a : Int) + 1) = (bnm (a + 1) m : Nat) from bnm_step a m] at d1
  repeat' first | (refine AWp.regionPanic (id := 7) 2 rfl rfl rfl (by rw [hc]; rfl) ?_; simp -implicitDefEqProofs (maxSteps := 1000000) (disch := omega) only [go_sem, ↓reduceIte]) | (refine AWp.seq fun K hK => ?_) | ((first | refine AWp.draw (id := 5) [.take 0, .take 1, .take 2, .take 3, .take 4, .take 5, .take 6, .take 7, .take 8, .take 9, .take 10, .take 11, .take 12, .take 13, .grp [14]] mixed_ok (by kernel_rfl) (by rw [hc]; rfl) ?_ | refine AWp.region (by rw [hc]; rfl) ?_ | refine AWp.skip ?_ | refine AWp.exit ?_ | refine AWp.label ?_ | refine AWp.ret ?_ | refine appK_g ?_); simp -implicitDefEqProofs (maxSteps := 1000000) (disch := omega) only [go_sem, ↓reduceIte, hN]) | ((first | refine hK _ ?_ | (clear hK; first | refine hK _ ?_ | (clear hK; first | refine hK _ ?_ | (clear hK; refine hK _ ?_)))); clear hK) | (refine AWp.cond ?_; simp -implicitDefEqProofs (maxSteps := 1000000) (disch := omega) only [go_sem, ↓reduceIte, hN]; try (refine ⟨fun hlt => ?_, fun hlt => ?_⟩ <;> (try simp only [cla, clb, ne_eq, reduceCtorEq] at hlt) <;> (try exact hlt.elim))) | (refine AWp.block ?_) | ((first | refine gdO_split (fun hlt => ?_) (fun hlt => ?_) | refine tkO_split (fun hlt => ?_) (fun hlt => ?_) | refine opO_split (fun hlt => ?_) (fun hlt => ?_)) <;> have hgd := hlt <;> (try simp only [cla, clb, ne_eq, cld] at hlt) <;> (simp -implicitDefEqProofs (maxSteps := 1000000) (disch := omega) only [go_sem, ↓reduceIte, hN, hgd]) <;> clear hgd) | (with_reducible refine And.intro ?_ ?_; · first | omega | assumption | exact ⟨_, _, rfl, rfl⟩) | ((first | refine ⟨_, f1, ?_⟩ | refine ⟨_, f2, ?_⟩ | refine ⟨_, m1, ?_⟩ | refine ⟨_, d1, ?_⟩); simp -implicitDefEqProofs (maxSteps := 1000000) (disch := omega) only [go_sem, ↓reduceIte, hN]) | fail
  · have e : lenZ (bnm (a + 1) m : Nat) ≤ lenZ (bnm k m : Nat) := lenZ_le (by have := bnm_mono (a := a + 1) (c := k) m (by omega); omega)
    exact ⟨_, _, _, rfl, fun v hv => ⟨tlV_of hv, by unfold lenZ at e ⊢; omega⟩⟩
  · refine ih (a + 1) _ ⟨by omega, by unfold lenZ; omega⟩ (by omega) (Sub.of0 hm id rfl ?_ ?_ (fun _ _ _ _ h => h))
    all_goals (try dsimp only)
    all_goals (first | omega | (simp -implicitDefEqProofs (maxSteps := 1000000) (disch := omega) only [F84, bZ, id, go_sem, Nat.blt_eq, Nat.reduceAdd, Nat.reduceSub, Nat.reduceEqDiff, Nat.reduceLT, ↓reduceIte, and_true, true_and, AV.dat.injEq, DV.int.injEq, DV.bool.injEq, DV.lst.injEq, eq_self_iff_true]; first | done | omega | (simp; done) | (simp; omega)) | (simp; done) | (simp; omega) | skip)
  · have e : a = k := by omega
    subst e
    exact ⟨rfl, h2⟩

def chooseR (n k : Int) : AV := if n < 0 ∨ 4000 < n then .tup [Zr false [], I 1] else if k < 0 ∨ n < k then .tup [Zr false [], I 0] else limR (bnm (n - k).toNat k.toNat : Nat)
theorem chosen (k m : Nat) (n : Int) (hN : n - k = m) (hn : k + m ≤ 4000) : PC Tryz.prog 83 [.dat (.fn 84 [.cptr [.int .i64 k], .cptr [.int .i64 n]])] (limR (bnm k m : Nat)) := by
  have h1 := limited_pc 84 [.cptr [.int .i64 k], .cptr [.int .i64 n]] (fun z => z = (bnm k m : Nat) ∧ lenZ (bnm k m : Nat) ≤ 40) (40 < lenZ (bnm k m : Nat)) ((choose_px k m n hN hn).mono (fun r ⟨h, h'⟩ => ⟨_, h, rfl, h'⟩) (fun v hv => hv))
  exact ⟨h1.1, fun w A vs hg hl hv => (h1.2 w A vs hg hl hv).mono fun e w' ⟨v, r, he, hr, hb, hrv⟩ => ⟨v, he, hb, by
    rcases hr with ⟨y, ⟨rfl, hy⟩, rfl⟩ | ⟨h, rfl⟩
    · exact hrv
    · rw [limR, if_neg (by omega)]; exact hrv⟩⟩
set_option maxHeartbeats 2000000 in
theorem Choose_pc (n k : Int) (h0 : -9223372036854775808 ≤ n) (h1 : n ≤ 9223372036854775807) (h2 : -9223372036854775808 ≤ k) (h3 : k ≤ 9223372036854775807) : PC Tryz.prog 25 [I n, I k] (chooseR n k) := by
  unfold chooseR
  have key : 0 ≤ n ∧ n ≤ 4000 → 0 ≤ k ∧ k ≤ n → ∀ j : Int, j = (if k ≤ n - k then k else n - k) → PC Tryz.prog 83 [.dat (.fn 84 [.cptr [.int .i64 j], .cptr [.int .i64 n]])] (limR (bnm (n - k).toNat k.toNat : Nat)) := by
    intro g1 g2 j hj
    split at hj
    · have := chosen k.toNat (n - k).toNat n (by omega) (by omega)
      rw [show (k.toNat : Int) = j by omega, bnm_symm _ _ _ (Nat.le_refl _)] at this; exact this
    · have := chosen (n - k).toNat k.toNat n (by omega) (by omega)
      rwa [show ((n - k).toNat : Int) = j by omega] at this
  rcases limR_cases (bnm (n - k).toNat k.toNat : Nat) with hk | hk
  all_goals
    rw [hk] at key ⊢
    refine PCr.pc (PCr.of tab_ok Tryz.func25 rfl rfl rfl fun c hc hm => ?_)
    rw [show Tryz.f25.ntmps = _ from Tryz.ntmps25] at hc
    simp only [Tryz.f25]
    repeat' first | (refine AWp.seq fun K hK => ?_) | ((first | refine AWp.region (by rw [hc]; rfl) ?_ | refine AWp.skip ?_ | refine AWp.exit ?_ | refine AWp.label ?_ | refine AWp.ret ?_ | refine appK_g ?_); simp -implicitDefEqProofs (maxSteps := 1000000) (disch := omega) only [go_sem, ↓reduceIte]) | ((first | refine hK _ ?_ | (clear hK; first | refine hK _ ?_ | (clear hK; first | refine hK _ ?_ | (clear hK; refine hK _ ?_)))); clear hK) | (refine AWp.cond ?_; simp -implicitDefEqProofs (maxSteps := 1000000) (disch := omega) only [go_sem, ↓reduceIte]; try (refine ⟨fun hlt => ?_, fun hlt => ?_⟩ <;> (try simp only [cla, clb, ne_eq, reduceCtorEq] at hlt) <;> (try exact hlt.elim))) | (refine AWp.block ?_) | ((first | refine gdO_split (fun hlt => ?_) (fun hlt => ?_) | refine tkO_split (fun hlt => ?_) (fun hlt => ?_) | refine opO_split (fun hlt => ?_) (fun hlt => ?_)) <;> have hgd := hlt <;> (try simp only [cla, clb, ne_eq, cld] at hlt) <;> (simp -implicitDefEqProofs (maxSteps := 1000000) (disch := omega) only [go_sem, ↓reduceIte, hgd]) <;> clear hgd) | (with_reducible refine And.intro ?_ ?_; · first | omega | assumption | exact ⟨_, _, rfl, rfl⟩) | ((first | refine ⟨_, key (by omega) (by omega) _ rfl, ?_⟩); simp -implicitDefEqProofs (maxSteps := 1000000) (disch := omega) only [go_sem, ↓reduceIte]) | fail
  all_goals first
    | (rw [if_pos (by omega)])
    | (rw [if_neg (by omega), if_pos (by omega)])
    | (rw [if_neg (by omega), if_neg (by omega)])
end Go.Proofs.YthhjcfejgoddlaaGreatDoor
end

section
set_option linter.unusedSimpArgs false
set_option linter.unusedVariables false
set_option maxRecDepth 100000
namespace Go.Proofs.YthhjcfejgoddlaaGreatDoor
open Go Go.Abs Go.RowKit

open Go.Shelf in
set_option maxHeartbeats 1000000 in
theorem cc_used (b : Nat) (w : World) (h0 : w.cell? ⟨b, 0, none⟩ = some (.pointer (some ⟨b, 0, none⟩))) :
    Calls Tryz.prog 158 #[.pointer (some ⟨b, 0, none⟩)] w fun e w' => e = .returned (.tuple #[]) ∧ w' = w := by
  obtain ⟨j, hj, hjs⟩ := Option.map_eq_some_iff.1 (show (Tryz.prog.info? 131).map (·.size) = some 2 by kernel_rfl)
  go_enter Tryz.func158, Tryz.ntmps158
  go_wp2
  rw [Lib.run_neq_ptr_same w _ (show Tryz.prog.underlying 129 = some (.pointer 131) by kernel_rfl) hj]
  go_wp2
  go_end0
  exact ⟨rfl, rfl⟩
open Go.Shelf in
set_option maxHeartbeats 1000000 in
theorem cc_fresh (b : Nat) (w : World) (h0 : w.cell? ⟨b, 0, none⟩ = some (.pointer none)) (hsh : w.shape? b = some (131, 2)) (hfz : w.frozen? ⟨b, 0, none⟩ = false) :
    Calls Tryz.prog 158 #[.pointer (some ⟨b, 0, none⟩)] w fun e w' => e = .returned (.tuple #[]) ∧ w' = w.setCell ⟨b, 0, none⟩ (.pointer (some ⟨b, 0, none⟩)) := by
  obtain ⟨j, hj, hjs⟩ := Option.map_eq_some_iff.1 (show (Tryz.prog.info? 131).map (·.size) = some 2 by kernel_rfl)
  have t129 : Tryz.prog.underlying 129 = some (.pointer 131) := by kernel_rfl
  have t164 : Tryz.prog.underlying 164 = some .unsafePointer := by kernel_rfl
  go_enter Tryz.func158, Tryz.ntmps158
  go_wp2
  rw [Lib.run_to_unsafe w ⟨b, 0, none⟩ t129 t164 hj (by rw [hjs]; decide) hsh (Nat.zero_lt_succ 1)]
  simp only [Result.andThen]
  rw [Oper.upon_value]
  go_wp2
  rw [run_callFunc_extern Tryz.func170 (by kernel_rfl) (by kernel_rfl) (by kernel_rfl) (e := Extern.AbiNoEscape.same) (by kernel_rfl)]
  rw [Lib.run_noEscape]
  simp only [Result.andThen]
  rw [Oper.upon_value]
  go_wp2
  rw [Lib.run_from_unsafe w ⟨b, 0, none⟩ t164 t129 hj hsh (by kernel_rfl)]
  simp only [Result.andThen]
  rw [Oper.upon_value]
  go_wp2
  go_end0
  exact ⟨rfl, rfl⟩

theorem copyCheck_po {s : Sto} {n b : Nat} {p x : AV} (hg : Abs.get b s = some (.box [p, x] false (some 131))) (hp : p = .dat .pnil ∨ p = .ptr b 0) :
    PO Tryz.prog 158 [.ptr b 0] s n (fun r s1 n1 => r = .tup [] ∧ s1 = Abs.set b (.box [.ptr b 0, x] false (some 131)) s ∧ n1 = n) := by
  refine ⟨enters_of' Tryz.func158 rfl rfl, fun c φ w vs hm hl hv => ?_⟩
  match vs, hl with
  | [v0], _ =>
  have h0 := hv 0 _ rfl
  simp only [List.getD_cons_zero] at h0
  cases h0 with
  | ptr _ _ hk =>
  obtain ⟨hb, hn, us, ty, hh, hlen, h1, hvs⟩ := hm.obj b _ hg
  have hh : w.heap[(φ b).b]? = some (.cells us.toArray 131 (0,0)) := hh
  match us, hlen with
  | [u0, u1], _ =>
  have hu0 := hvs 0 p rfl
  have hu1 := hvs 1 x rfl
  simp only [List.getD_cons_zero, List.getD_cons_succ] at hu0 hu1
  have hcell : w.cell? ⟨(φ b).b, 0, none⟩ = some u0 := by rw [Lib.cell_of_heap hh]; rfl
  have hsh : w.shape? (φ b).b = some (131, 2) := by simp [World.shape?, hh]
  rcases hp with rfl | rfl
  · have hu : u0 = .pointer none := by
      cases hu0 with
      | dat _ _ hd => cases hd; rfl
    subst hu
    refine (cc_fresh (φ b).b w hcell hsh (Lib.frozen_of_heap hh 0)).mono ?_
    rintro e w' ⟨rfl, rfl⟩
    refine ⟨_, .tup [], φ, _, n, rfl, ?_, .tup [] [] rfl (by simp), rfl, rfl, rfl⟩
    have hsc : (w.setCell ⟨(φ b).b, 0, none⟩ (.pointer (some ⟨(φ b).b, 0, none⟩))).heap[(φ b).b]? = some (.cells #[.pointer (some ⟨(φ b).b, 0, none⟩), u1] 131 (0,0)) := by
      simp [World.setCell, Array.getElem?_modify, hh]
    refine hm.turn (o' := .box [.ptr b 0, x] false (some 131)) hg (fun o ho => ho) (hm.below.trans ⟨rfl, rfl, rfl, by simp [World.setCell], fun k hk' => Below.heap_setCell _ _ _ _ (fun e => by simp only at e; omega)⟩) (fun k hk' => Below.heap_setCell _ _ _ _ (fun e => hk' (by simp only at e; exact e))) (fun o q ho => by cases ho) (fun hkp => ?_)
    refine ⟨[.pointer (some ⟨(φ b).b, 0, none⟩), u1], ty, hsc, rfl, fun u hu => ?_, fun j y hj => ?_⟩
    · simp only [List.mem_cons, List.not_mem_nil, or_false] at hu
      rcases hu with rfl | rfl
      · rfl
      · exact h1 _ (by simp)
    · match j, hj with
      | 0, hj => simp at hj; subst hj; exact .ptr b 0 hk
      | 1, hj => simp at hj; subst hj; exact hu1.keep hkp (fun _ _ => rfl) (Nat.le_refl _)
      | j + 2, hj => simp at hj
  · have hu : u0 = .pointer (some ⟨(φ b).b, 0, none⟩) := by
      cases hu0 with
      | ptr _ _ _ => rfl
    subst hu
    refine (cc_used (φ b).b w hcell).mono ?_
    rintro e w' ⟨rfl, rfl⟩
    refine ⟨_, .tup [], φ, _, n, rfl, ?_, .tup [] [] rfl (by simp), rfl, rfl, rfl⟩
    have := hm.turn (o' := .box [.ptr b 0, x] false (some 131)) hg (fun o ho => ho) hm.below (fun k hk' => rfl) (fun o q ho => by cases ho) (fun hkp => ⟨_, ty, hh, rfl, h1, fun j y hj => (hvs j y hj).keep hkp (fun _ _ => rfl) (Nat.le_refl _)⟩)
    exact this
end Go.Proofs.YthhjcfejgoddlaaGreatDoor
end

section
set_option linter.unusedSimpArgs false
set_option linter.unusedVariables false
set_option maxRecDepth 100000
namespace Go.Proofs.YthhjcfejgoddlaaGreatDoor
open Go Go.Abs Go.RowKit

open Go.Shelf in
set_option maxHeartbeats 1000000 in
theorem str_run (b g cap : Nat) (l : List UInt8) (p : Value) (cur : Array Value) (w : World) (hbk : w.heap[b]? = some (.cells #[p, .slice (some ⟨g, 0, none⟩) l.length cap] 131 (0, 0))) (hg : w.heap[g]? = some (.cells cur 5 (0, 0)))
    (h0 : l ≠ []) (hnc : l.length ≤ cap) (hcm : cap ≤ maxLen) (hcs : cur.size = cap) (hcells : ∀ (j : Nat) (x : UInt8), l[j]? = some x → cur[j]? = some (Value.int .u8 x.toNat)) :
    Calls Tryz.prog 137 #[.pointer (some ⟨b, 0, none⟩)] w fun e w' => e = .returned (.string ⟨l.toArray⟩) ∧ w' = w.drew.freeze ⟨g, 0, none⟩ l.length := by
  have hl0 : l.length ≠ 0 := by simpa using h0
  have c1 : w.drew.cell? ⟨b, 1, none⟩ = some (.slice (some ⟨g, 0, none⟩) l.length cap) := by
    have : w.drew.heap[b]? = some (.cells #[p, .slice (some ⟨g, 0, none⟩) l.length cap] 131 (0, 0)) := hbk
    rw [Lib.cell_of_heap this]; rfl
  have hg' : w.drew.heap[g]? = some (.cells cur 5 (0, 0)) := hg
  have hSD : (Builtin.unsafeSliceData_ #[54] 156 #[.slice (some ⟨g, 0, none⟩) l.length cap]).run Tryz.prog w.drew = .ok (.pointer (some ⟨g, 0, none⟩)) w.drew :=
    Lib.run_unsafeSliceData_row _ _ _ _ _ _ (by omega)
  have hUS : (Builtin.unsafeString_ #[156, 3] 9 #[.pointer (some ⟨g, 0, none⟩), .int .i64 l.length]).run Tryz.prog w.drew = .ok (.string ⟨l.toArray⟩) (w.drew.freeze ⟨g, 0, none⟩ l.length) := by
    refine Lib.run_unsafeString_row w.drew 156 3 9 5 (by kernel_rfl) (by kernel_rfl) g cur.size (by simp [World.shape?, hg']) l h0 (by omega) (by unfold maxLen at hcm; omega) ?_
    intro j x hx
    rw [Addr.add_lit, Nat.zero_add, Lib.cell_of_heap hg']
    exact hcells j x hx
  have mixed := mixed_ok
  go_enter Tryz.func137, Tryz.ntmps137
  go_wp2
  go_region_o
  all_goals (go_wp2; go_ret; exact ⟨rfl, rfl⟩)
end Go.Proofs.YthhjcfejgoddlaaGreatDoor
end

section
set_option linter.unusedSimpArgs false
set_option linter.unusedVariables false
set_option maxRecDepth 100000
namespace Go.Proofs.YthhjcfejgoddlaaGreatDoor
open Go Go.Abs Go.RowKit
attribute [local go_sem] wrap64 Int.tdiv_eq_ediv_of_nonneg Int.tmod_eq_emod_of_nonneg eq_self Bool.false_eq_true Bool.true_eq_false Bool.not_true Bool.not_false
attribute [local go_sem_proc] Nat.reduceAdd Nat.reduceMul Nat.reduceEqDiff Nat.reduceLT Nat.reduceLeDiff Int.reduceEq Int.reduceNeg Int.reduceToNat reduceCtorEq Int.reduceBNe Int.reduceBEq

attribute [go_sem] gAppS
def bS (p : AV) (x : ByteArray) : Sto := (0, .box [p, gL 1 (strEs x)] false (some 131)) :: gS 5 1 1 (strEs x) false []
theorem get_bS {p : AV} {x : ByteArray} : Abs.get 0 (bS p x) = some (.box [p, gL 1 (strEs x)] false (some 131)) := rfl
theorem strEs_app (x y : ByteArray) : strEs (x ++ y) = strEs x ++ strEs y := by
  simp [strEs]
set_option maxHeartbeats 2000000 in
theorem wb_pol (p : AV) (hp : p = .dat .pnil ∨ p = .ptr 0 0) (x : ByteArray) (ch : Nat) (hc8 : ch < 256) (hx : x.size ≤ 1000000) :
    POL Tryz.prog 133 [.ptr 0 0, .dat (.int .u8 ch)] (bS p x) 2 1 (fun r s1 n1 => r = .dat .inil ∧ n1 = 4 ∧ s1 = [(3, .row 5 1 (strEs (x ++ ⟨#[ch.toUInt8]⟩)) false), (2, .row 5 1 [[.int .u8 ch]] false), (0, .box [.ptr 0 0, .own 3] false (some 131))]) := by
  have hl := strEs_len x
  have e1 : strEs (x ++ ⟨#[ch.toUInt8]⟩) = strEs x ++ [[.int .u8 ch]] := by
    rw [strEs_app]
    have : (ch.toUInt8.toNat : Int) = ch := by simp [Nat.toUInt8]; omega
    simp [strEs]; omega
  rw [e1]
  refine POL.of tab_ok Tryz.func133 rfl rfl rfl (by decide) fun c hc hm => ?_
  rw [show Tryz.f133.ntmps = _ from Tryz.ntmps133] at hc
  simp only [Tryz.f133]
  repeat' first | (refine AWp.regionXi (id := 1) 1 rfl rfl rfl (by rw [hc]; rfl) ?_; simp -implicitDefEqProofs (maxSteps := 1000000) (disch := omega) only [go_sem, ↓reduceIte]) | (refine AWp.seq fun K hK => ?_) | ((first | refine AWp.region (by rw [hc]; rfl) ?_ | refine AWp.skip ?_ | refine AWp.exit ?_ | refine AWp.label ?_ | refine AWp.ret ?_ | refine appK_g ?_); simp -implicitDefEqProofs (maxSteps := 1000000) (disch := omega) only [go_sem, ↓reduceIte]) | ((first | refine hK _ ?_ | (clear hK; first | refine hK _ ?_ | (clear hK; first | refine hK _ ?_ | (clear hK; refine hK _ ?_)))); clear hK) | (refine AWp.cond ?_; simp -implicitDefEqProofs (maxSteps := 1000000) (disch := omega) only [go_sem, ↓reduceIte]; try (refine ⟨fun hlt => ?_, fun hlt => ?_⟩ <;> (try simp only [cla, clb, ne_eq, reduceCtorEq] at hlt) <;> (try exact hlt.elim))) | (refine AWp.block ?_) | ((first | refine gdO_split (fun hlt => ?_) (fun hlt => ?_) | refine tkO_split (fun hlt => ?_) (fun hlt => ?_) | refine opO_split (fun hlt => ?_) (fun hlt => ?_)) <;> have hgd := hlt <;> (try simp only [cla, clb, ne_eq, cld] at hlt) <;> (simp -implicitDefEqProofs (maxSteps := 1000000) (disch := omega) only [go_sem, ↓reduceIte, hgd]) <;> clear hgd) | (with_reducible refine And.intro ?_ ?_; · first | omega | assumption | exact ⟨_, _, rfl, rfl⟩) | fail
  · refine ⟨_, copyCheck_po get_bS hp, ?_⟩
    rintro _ _ _ ⟨rfl, rfl, rfl⟩
    simp only [bS]
    simp -implicitDefEqProofs (maxSteps := 1000000) (disch := omega) only [go_sem, ↓reduceIte]
    repeat' first | (refine AWp.seq fun K hK => ?_) | ((first | refine AWp.region (by rw [hc]; rfl) ?_ | refine AWp.skip ?_ | refine AWp.exit ?_ | refine AWp.label ?_ | refine AWp.ret ?_ | refine appK_g ?_); simp -implicitDefEqProofs (maxSteps := 1000000) (disch := omega) only [go_sem, ↓reduceIte]) | ((first | refine hK _ ?_ | (clear hK; first | refine hK _ ?_ | (clear hK; first | refine hK _ ?_ | (clear hK; refine hK _ ?_)))); clear hK) | (refine AWp.cond ?_; simp -implicitDefEqProofs (maxSteps := 1000000) (disch := omega) only [go_sem, ↓reduceIte]; try (refine ⟨fun hlt => ?_, fun hlt => ?_⟩ <;> (try simp only [cla, clb, ne_eq, reduceCtorEq] at hlt) <;> (try exact hlt.elim))) | (refine AWp.block ?_) | ((first | refine gdO_split (fun hlt => ?_) (fun hlt => ?_) | refine tkO_split (fun hlt => ?_) (fun hlt => ?_) | refine opO_split (fun hlt => ?_) (fun hlt => ?_)) <;> have hgd := hlt <;> (try simp only [cla, clb, ne_eq, cld] at hlt) <;> (simp -implicitDefEqProofs (maxSteps := 1000000) (disch := omega) only [go_sem, ↓reduceIte, hgd]) <;> clear hgd) | (with_reducible refine And.intro ?_ ?_; · first | omega | assumption | exact ⟨_, _, rfl, rfl⟩) | fail

set_option maxHeartbeats 2000000 in
theorem ws_pol (p : AV) (hp : p = .dat .pnil ∨ p = .ptr 0 0) (x y : ByteArray) (hx : x.size ≤ 1000000) (hy : y.size ≤ 1000000) (hy0 : 0 < y.size) :
    POL Tryz.prog 136 [.ptr 0 0, .dat (.str y)] (bS p x) 2 1 (fun r s1 n1 => r = .tup [I y.size, .dat .inil] ∧ n1 = 3 ∧ s1 = [(2, .row 5 1 (strEs (x ++ y)) false), (0, .box [.ptr 0 0, .own 2] false (some 131))]) := by
  have hl := strEs_len x
  rw [strEs_app]
  refine POL.of tab_ok Tryz.func136 rfl rfl rfl (by decide) fun c hc hm => ?_
  rw [show Tryz.f136.ntmps = _ from Tryz.ntmps136] at hc
  simp only [Tryz.f136]
  repeat' first | (refine AWp.regionXi (id := 1) 1 rfl rfl rfl (by rw [hc]; rfl) ?_; simp -implicitDefEqProofs (maxSteps := 1000000) (disch := omega) only [go_sem, ↓reduceIte]) | (refine AWp.seq fun K hK => ?_) | ((first | refine AWp.region (by rw [hc]; rfl) ?_ | refine AWp.skip ?_ | refine AWp.exit ?_ | refine AWp.label ?_ | refine AWp.ret ?_ | refine appK_g ?_); simp -implicitDefEqProofs (maxSteps := 1000000) (disch := omega) only [go_sem, ↓reduceIte]) | ((first | refine hK _ ?_ | (clear hK; first | refine hK _ ?_ | (clear hK; first | refine hK _ ?_ | (clear hK; refine hK _ ?_)))); clear hK) | (refine AWp.cond ?_; simp -implicitDefEqProofs (maxSteps := 1000000) (disch := omega) only [go_sem, ↓reduceIte]; try (refine ⟨fun hlt => ?_, fun hlt => ?_⟩ <;> (try simp only [cla, clb, ne_eq, reduceCtorEq] at hlt) <;> (try exact hlt.elim))) | (refine AWp.block ?_) | ((first | refine gdO_split (fun hlt => ?_) (fun hlt => ?_) | refine tkO_split (fun hlt => ?_) (fun hlt => ?_) | refine opO_split (fun hlt => ?_) (fun hlt => ?_)) <;> have hgd := hlt <;> (try simp only [cla, clb, ne_eq, cld] at hlt) <;> (simp -implicitDefEqProofs (maxSteps := 1000000) (disch := omega) only [go_sem, ↓reduceIte, hgd]) <;> clear hgd) | (with_reducible refine And.intro ?_ ?_; · first | omega | assumption | exact ⟨_, _, rfl, rfl⟩) | fail
  · refine ⟨_, copyCheck_po get_bS hp, ?_⟩
    rintro _ _ _ ⟨rfl, rfl, rfl⟩
    simp only [bS]
    simp -implicitDefEqProofs (maxSteps := 1000000) (disch := omega) only [go_sem, ↓reduceIte]
    repeat' first | (refine AWp.regionStp (id := 2) 6 (fun σ1 K => evA σ1.t (.tmp 12) = gL 1 (strEs x) ∧ gAppS tab 54 9 1 (strEs x) (evA σ1.t (.tmp 13)) σ1.s σ1.n K) rfl rfl (by intro cl h; cases h) (fun φ a w σ1 K hT hR ⟨h12, h⟩ => .of_ope (appS_g hT (ty := 54) hR.mem (by have := hR.ev (.tmp 12); rw [h12] at this; exact this) (hR.ev (.tmp 13)) h) (by simp [execOp, resolve, invoke, builtin])) (by rw [hc]; rfl) ?_; simp -implicitDefEqProofs (maxSteps := 1000000) (disch := omega) only [go_sem, ↓reduceIte]) | (refine AWp.seq fun K hK => ?_) | ((first | refine AWp.region (by rw [hc]; rfl) ?_ | refine AWp.skip ?_ | refine AWp.exit ?_ | refine AWp.label ?_ | refine AWp.ret ?_ | refine appK_g ?_); simp -implicitDefEqProofs (maxSteps := 1000000) (disch := omega) only [go_sem, ↓reduceIte]) | ((first | refine hK _ ?_ | (clear hK; first | refine hK _ ?_ | (clear hK; first | refine hK _ ?_ | (clear hK; refine hK _ ?_)))); clear hK) | (refine AWp.cond ?_; simp -implicitDefEqProofs (maxSteps := 1000000) (disch := omega) only [go_sem, ↓reduceIte]; try (refine ⟨fun hlt => ?_, fun hlt => ?_⟩ <;> (try simp only [cla, clb, ne_eq, reduceCtorEq] at hlt) <;> (try exact hlt.elim))) | (refine AWp.block ?_) | ((first | refine gdO_split (fun hlt => ?_) (fun hlt => ?_) | refine tkO_split (fun hlt => ?_) (fun hlt => ?_) | refine opO_split (fun hlt => ?_) (fun hlt => ?_)) <;> have hgd := hlt <;> (try simp only [cla, clb, ne_eq, cld] at hlt) <;> (simp -implicitDefEqProofs (maxSteps := 1000000) (disch := omega) only [go_sem, ↓reduceIte, hgd]) <;> clear hgd) | (with_reducible refine And.intro ?_ ?_; · first | omega | assumption | exact ⟨_, _, rfl, rfl⟩) | fail
end Go.Proofs.YthhjcfejgoddlaaGreatDoor
end

section
set_option linter.unusedSimpArgs false
set_option linter.unusedVariables false
set_option maxRecDepth 100000
namespace Go.Proofs.YthhjcfejgoddlaaGreatDoor
open Go Go.Abs Go.RowKit

/-- What a call leaves may be forgotten in part. -/
theorem PO_del {f : FuncId} {args : List AV} {s : Sto} {n : Nat} {R R' : AV → Sto → Nat → Prop} (h : PO Tryz.prog f args s n R) (hr : ∀ r s1 n1, R r s1 n1 → ∃ k, R' r (del k s1) n1) : PO Tryz.prog f args s n R' := by
  refine ⟨h.1, fun c φ w vs hm hl hv => (h.2 c φ w vs hm hl hv).mono fun e w' he => ?_⟩
  obtain ⟨v, r, φ', s', n', rfl, g, hrv, hR⟩ := he
  obtain ⟨k, hk⟩ := hr _ _ _ hR
  have g2 := g.mem.drop k
  exact ⟨v, r, φ', del k s', n', rfl, g.trans g2, g2.rv hrv, hk⟩
theorem PO_mono {f : FuncId} {args : List AV} {s : Sto} {n : Nat} {R R' : AV → Sto → Nat → Prop} (h : PO Tryz.prog f args s n R) (hr : ∀ r s1 n1, R r s1 n1 → R' r s1 n1) : PO Tryz.prog f args s n R' := by
  refine ⟨h.1, fun c φ w vs hm hl hv => (h.2 c φ w vs hm hl hv).mono fun e w' he => ?_⟩
  obtain ⟨v, r, φ', s', n', rfl, g, hrv, hR⟩ := he
  exact ⟨v, r, φ', s', n', rfl, g, hrv, hr _ _ _ hR⟩

def Bw (a : Obj') (x : ByteArray) (s : Sto) (n : Nat) : Prop :=
  (x.size = 0 ∧ 2 ≤ n ∧ ∃ p, (p = .dat .pnil ∨ p = .ptr 1 0) ∧ s = [(1, .box [p, .nil] false (some 131)), (0, a)]) ∨
  (0 < x.size ∧ ∃ k, 1 < k ∧ k < n ∧ s = [(k, .row 5 1 (strEs x) false), (1, .box [.ptr 1 0, .own k] false (some 131)), (0, a)])

theorem strEs_nil {x : ByteArray} (h : x.size = 0) : strEs x = [] := List.eq_nil_of_length_eq_zero (by rw [strEs_len, h])
theorem strEs_ne {x : ByteArray} (h : 0 < x.size) : strEs x ≠ [] := fun e => by have := strEs_len x; rw [e] at this; simp at this; omega

theorem get1 {a o : Obj'} {i : Nat} (h : Abs.get i [(0, a)] = some o) : i = 0 ∧ o = a := by
  rw [Abs.get_cons] at h
  split at h
  · rename_i e; cases h; exact ⟨e.symm, rfl⟩
  · cases h
theorem get_bS2 {p : AV} {x : ByteArray} {j : Nat} {o : Obj'} (h : Abs.get j (bS p x) = some o) : j = 0 ∨ (j = 1 ∧ strEs x ≠ []) := by
  unfold bS at h
  rw [Abs.get_cons] at h
  split at h
  · rename_i e; exact .inl e.symm
  · unfold gS at h
    split at h
    · cases h
    · rename_i he
      rw [Abs.get_cons] at h
      split at h
      · rename_i e; exact .inr ⟨e.symm, he⟩
      · cases h
theorem Bw_lift {f : FuncId} {d : DV} {a : Obj'} {x : ByteArray} {s : Sto} {n : Nat} {R : AV → Sto → Nat → Prop} (h : Bw a x s n) (hpol : ∀ p, (p = .dat .pnil ∨ p = .ptr 0 0) → POL Tryz.prog f [.ptr 0 0, .dat d] (bS p x) 2 1 R) :
    ∃ ρ : Nat → Nat, ρ 0 = 1 ∧ 2 ≤ n ∧ PO Tryz.prog f [.ptr 1 0, .dat d] s n (fun r s1 n1 => ∃ r' s' n', R r' s' n' ∧ r = renF (rhoL 1 n ρ) r' ∧ s1 = renS (rhoL 1 n ρ) s' ++ [(0, a)] ∧ n1 = n + (n' - 1)) := by
  have hinj : ∀ k, k ≠ 1 → ∀ i j, i < 2 → j < 2 → (if i = 0 then 1 else k) = (if j = 0 then 1 else k) → i = j := by
    intro k hk i j h1 h2 h
    (split at h <;> split at h) <;> omega
  rcases h with ⟨h1, h2, p, hp, rfl⟩ | ⟨h1, k, hk1, hk2, rfl⟩
  · have hE := strEs_nil h1
    refine ⟨fun i => if i = 0 then 1 else 0, rfl, h2, ?_⟩
    have hout : ∀ q, ∀ i o, Abs.get i [(0, a)] = some o → Abs.get i [(1, .box [p, .nil] false (some 131)), (0, a)] = some o ∧ ∀ j o', Abs.get j (bS q x) = some o' → (fun i => if i = 0 then 1 else 0) j ≠ i := by
      intro q i o hi
      obtain ⟨rfl, rfl⟩ := get1 hi
      refine ⟨rfl, fun j o' hj => ?_⟩
      rcases get_bS2 hj with rfl | ⟨rfl, hne⟩
      · simp
      · exact absurd hE hne
    rcases hp with rfl | rfl
    · refine POL.po (hpol (.dat .pnil) (.inl rfl)) (fun i => if i = 0 then 1 else 0) _ [(0, a)] n _ ?_ (hinj 0 (by omega)) (fun i hi => by show (if i = 0 then 1 else _) < n; split <;> omega) (hout _) rfl rfl
      simp only [bS, hE]; simp -implicitDefEqProofs (maxSteps := 1000000) (disch := omega) only [go_sem, wrap64, Int.tdiv_eq_ediv_of_nonneg, Int.tmod_eq_emod_of_nonneg, Nat.reduceAdd, Nat.reduceMul, Nat.reduceEqDiff, Nat.reduceLT, Nat.reduceLeDiff, Int.reduceEq, Int.reduceNeg, Int.reduceToNat, reduceCtorEq, eq_self, Bool.false_eq_true, Bool.true_eq_false, ↓reduceIte]; rfl
    · refine POL.po (hpol (.ptr 0 0) (.inr rfl)) (fun i => if i = 0 then 1 else 0) _ [(0, a)] n _ ?_ (hinj 0 (by omega)) (fun i hi => by show (if i = 0 then 1 else _) < n; split <;> omega) (hout _) rfl rfl
      simp only [bS, hE]; simp -implicitDefEqProofs (maxSteps := 1000000) (disch := omega) only [go_sem, wrap64, Int.tdiv_eq_ediv_of_nonneg, Int.tmod_eq_emod_of_nonneg, Nat.reduceAdd, Nat.reduceMul, Nat.reduceEqDiff, Nat.reduceLT, Nat.reduceLeDiff, Int.reduceEq, Int.reduceNeg, Int.reduceToNat, reduceCtorEq, eq_self, Bool.false_eq_true, Bool.true_eq_false, ↓reduceIte]; rfl
  · have hE := strEs_ne h1
    refine ⟨fun i => if i = 0 then 1 else k, rfl, by omega, ?_⟩
    refine POL.po (hpol (.ptr 0 0) (.inr rfl)) (fun i => if i = 0 then 1 else k) _ [(0, a)] n _ ?_ (hinj k (by omega)) (fun i hi => by show (if i = 0 then 1 else _) < n; split <;> omega) ?_ rfl rfl
    · simp only [bS, gL_ne hE]
      have hk' : ¬ k = 1 := by omega
      generalize strEs x = es at *
      cases es with
      | nil => exact absurd rfl hE
      | cons e es =>
        simp -implicitDefEqProofs (maxSteps := 1000000) (disch := omega) only [go_sem, wrap64, Int.tdiv_eq_ediv_of_nonneg, Int.tmod_eq_emod_of_nonneg, Nat.reduceAdd, Nat.reduceMul, Nat.reduceEqDiff, Nat.reduceLT, Nat.reduceLeDiff, Int.reduceEq, Int.reduceNeg, Int.reduceToNat, reduceCtorEq, eq_self, Bool.false_eq_true, Bool.true_eq_false, ↓reduceIte]
        simp only [hk', ↓reduceIte]
        exact ⟨rfl, rfl, trivial, rfl⟩
    · intro i o hi
      obtain ⟨rfl, rfl⟩ := get1 hi
      refine ⟨?_, fun j o' hj => ?_⟩
      · rw [Abs.get_cons, if_neg (by omega), Abs.get_cons, if_neg (by omega), Abs.get_cons, if_pos rfl]
      · rcases get_bS2 hj with rfl | ⟨rfl, hne⟩
        · simp
        · simp; omega

theorem ws_po {a : Obj'} {x y : ByteArray} {s : Sto} {n : Nat} (h : Bw a x s n) (hx : x.size ≤ 1000000) (hy : y.size ≤ 1000000) (hy0 : 0 < y.size) :
    PO Tryz.prog 136 [.ptr 1 0, .dat (.str y)] s n (fun r s1 n1 => r = .tup [I y.size, .dat .inil] ∧ Bw a (x ++ y) s1 n1) := by
  obtain ⟨ρ, h0, h2, h3⟩ := Bw_lift h (fun p hp => ws_pol p hp x y hx hy hy0)
  refine PO_mono h3 ?_
  rintro r s1 n1 ⟨r', s', n', ⟨rfl, rfl, rfl⟩, rfl, rfl, rfl⟩
  refine ⟨rfl, .inr ⟨by rw [ByteArray.size_append]; omega, n + 1, by omega, by omega, ?_⟩⟩
  simp only [renS, renOF, renFs, renF, rhoL, List.map_cons, List.map_nil, h0, Nat.lt_irrefl, ↓reduceIte, Nat.reduceSub, Nat.reduceLT, List.cons_append, List.nil_append]
theorem wb_po {a : Obj'} {x : ByteArray} {ch : Nat} {s : Sto} {n : Nat} (h : Bw a x s n) (hc8 : ch < 256) (hx : x.size ≤ 1000000) :
    PO Tryz.prog 133 [.ptr 1 0, .dat (.int .u8 ch)] s n (fun r s1 n1 => r = .dat .inil ∧ Bw a (x ++ ⟨#[ch.toUInt8]⟩) s1 n1) := by
  obtain ⟨ρ, h0, h2, h3⟩ := Bw_lift h (fun p hp => wb_pol p hp x ch hc8 hx)
  refine PO_del h3 ?_
  rintro r s1 n1 ⟨r', s', n', ⟨rfl, rfl, rfl⟩, rfl, rfl, rfl⟩
  refine ⟨n + 1, rfl, .inr ⟨by rw [ByteArray.size_append]; show 0 < _ + 1; omega, n + 2, by omega, by omega, ?_⟩⟩
  have e1 : ¬ n + 2 = n + 1 := by omega
  have e2 : ¬ 1 = n + 1 := by omega
  have e3 : ¬ 0 = n + 1 := by omega
  simp only [renS, renOF, renFs, renF, rhoL, List.map_cons, List.map_nil, h0, Nat.lt_irrefl, ↓reduceIte, Nat.reduceSub, Nat.reduceLT, List.cons_append, List.nil_append, del, beq_ne e1, beq_ne e2, beq_ne e3, Nat.beq_refl, cond_true, cond_false]
end Go.Proofs.YthhjcfejgoddlaaGreatDoor
end

section
set_option linter.unusedSimpArgs false
set_option linter.unusedVariables false
set_option maxRecDepth 100000
namespace Go.Proofs.YthhjcfejgoddlaaGreatDoor
open Go Go.Abs Go.RowKit

theorem str_po {s : Sto} {n b k : Nat} {p : AV} {x : ByteArray} (hg : Abs.get b s = some (.box [p, .own k] false (some 131))) (hk : Abs.get k s = some (.row 5 1 (strEs x) false)) (hx : 0 < x.size) (hbk : b ≠ k) :
    PO Tryz.prog 137 [.ptr b 0] s n (fun r s1 n1 => r = .dat (.str x) ∧ s1 = del k s ∧ n1 = n) := by
  refine ⟨enters_of' Tryz.func137 rfl rfl, fun c φ w vs hm hl hv => ?_⟩
  match vs, hl with
  | [v0], _ =>
  have h0 := hv 0 _ rfl
  simp only [List.getD_cons_zero] at h0
  cases h0 with
  | ptr _ _ hkn =>
  obtain ⟨hb, hn, us, ty, hh, hlen, h1, hvs⟩ := hm.obj b _ hg
  have hh : w.heap[(φ b).b]? = some (.cells us.toArray 131 (0,0)) := hh
  obtain ⟨hb2, hn2, hz, hsz, hes, hlen2, cur, hh2, hcl, hlc, hml, h12, hv2⟩ := hm.obj k _ hk
  match us, hlen with
  | [u0, u1], _ =>
  have hu1 := hvs 1 _ rfl
  simp only [List.getD_cons_zero, List.getD_cons_succ] at hu1
  cases hu1 with
  | own _ _ =>
  rw [strEs_len] at hlen2
  have hsize : x.data.toList.length = x.size := by rw [Array.length_toList]; rfl
  rw [← hlen2, ← hsize] at hh
  have hrun := str_run (φ b).b (φ k).b (φ k).cap x.data.toList u0 cur.toArray w hh hh2 (by intro e; rw [e] at hsize; simp at hsize; omega) (by omega) hml (by simp; omega) (fun j y hj => by
    have hj1 : (strEs x)[j]? = some [DV.int .u8 y.toNat] := by simp only [strEs, List.getElem?_map, hj, Option.map_some]
    have := hv2 j _ 0 _ hj1 rfl
    rw [Nat.mul_one, Nat.add_zero] at this
    have hjl : j < cur.length := by have := (List.getElem?_eq_some_iff.1 hj).1; omega
    rw [List.getElem?_toArray, List.getElem?_eq_getElem hjl]
    simp only [List.getD, List.getElem?_eq_getElem hjl, Option.getD_some] at this
    generalize cur[j] = q at *
    cases this; rfl)
  refine Calls.mono hrun ?_
  rintro e w' ⟨rfl, rfl⟩
  have g0 := hm.grown (w' := w.drew) ((Below.refl _ w).drew)
  have hsp := g0.mem.spoil (w' := w.drew.freeze ⟨(φ k).b, 0, none⟩ x.data.toList.length) hk (fun off hp => by cases hp.1) (Lib.below_freeze g0.mem.below (p := ⟨(φ k).b, 0, none⟩) hb2 _)
    (fun b' hb' => by
      unfold World.freeze
      split
      · rfl
      · simp only [Array.getElem?_modify]
        rw [if_neg (by simpa using fun e => hb' e.symm)])
    (by
      have hlt : (φ k).b < w.drew.heap.size := (Array.getElem?_eq_some_iff.1 hh2).1
      unfold World.freeze
      split
      · exact hlt
      · simpa using hlt)
  refine ⟨_, .dat (.str x), φ, del k s, n, rfl, g0.trans hsp, .dat _ _ ?_, rfl, rfl, rfl⟩
  have : (⟨x.data.toList.toArray⟩ : ByteArray) = x := by simp
  rw [this]; exact .str _

theorem itoa_pc (n : Int) (h0 : -9223372036854775808 ≤ n) (h1 : n ≤ 9223372036854775807) : PC Tryz.prog 134 [I n] (.dat (.str ⟨(Lib.itoa n).toArray⟩)) := by
  refine ⟨enters_of' Tryz.func134 rfl rfl, fun w A vs hgw hl hv => ?_⟩
  match vs, hl with
  | [v0], _ =>
  have h := hv 0 _ rfl
  simp only [List.getD_cons_zero] at h
  have : v0 = .int .i64 n := by cases h with | dat _ _ hd => cases hd; rfl
  subst this
  refine (Tryz.strconv_Itoa n h0 h1 w hgw.1).mono ?_
  rintro e w' ⟨rfl, k, os, rfl⟩
  exact ⟨_, rfl, Lib.below_grow _ w (Nat.le_refl _) k os, .dat _ _ (.str _)⟩
theorem repeat_pc (s : ByteArray) (c : Nat) (hc : c ≤ 9223372036854775807) (hlen : s.size * c ≤ 140737488355328) : PC Tryz.prog 135 [.dat (.str s), I c] (.dat (.str ⟨(Lib.repeatL s.data.toList c).toArray⟩)) := by
  refine ⟨enters_of' Tryz.func135 rfl rfl, fun w A vs hgw hl hv => ?_⟩
  match vs, hl with
  | [v0, v1], _ =>
  have h := hv 0 _ rfl
  have h' := hv 1 _ rfl
  simp only [List.getD_cons_zero, List.getD_cons_succ] at h h'
  have e0 : v0 = .string s := by cases h with | dat _ _ hd => cases hd; rfl
  have e1 : v1 = .int .i64 c := by cases h' with | dat _ _ hd => cases hd; rfl
  subst e0; subst e1
  refine (Tryz.strings_Repeat s c w hc hlen).mono ?_
  rintro e w' ⟨rfl, hb⟩
  exact ⟨_, rfl, hb, .dat _ _ (.str _)⟩
end Go.Proofs.YthhjcfejgoddlaaGreatDoor
end

section
set_option linter.unusedSimpArgs false
set_option linter.unusedVariables false
set_option maxRecDepth 100000
namespace Go.Proofs.YthhjcfejgoddlaaGreatDoor
open Go Go.Abs Go.RowKit
attribute [local go_sem] wrap64 Int.tdiv_eq_ediv_of_nonneg Int.tmod_eq_emod_of_nonneg eq_self Bool.false_eq_true Bool.true_eq_false Bool.not_true Bool.not_false
attribute [local go_sem_proc] Nat.reduceAdd Nat.reduceMul Nat.reduceEqDiff Nat.reduceLT Nat.reduceLeDiff Int.reduceEq Int.reduceNeg Int.reduceToNat reduceCtorEq Int.reduceBNe Int.reduceBEq

def bs (l : List UInt8) : ByteArray := ⟨l.toArray⟩
theorem bs_size (l : List UInt8) : (bs l).size = l.length := by show l.toArray.size = _; simp
theorem bs_app (l m : List UInt8) : bs l ++ bs m = bs (l ++ m) := by
  apply ByteArray.ext; simp [bs]
theorem bs_toList (l : List UInt8) : (bs l).data.toList = l := by simp [bs]

def chk (d : List Int) (k : Nat) : List UInt8 := (if k = 0 then [] else Lib.repeatL [48] (9 - (Lib.itoa (d.getD (d.length - 1 - k) 0)).length)) ++ Lib.itoa (d.getD (d.length - 1 - k) 0)
def wrh (neg : Bool) (d : List Int) : List UInt8 := (if neg then [45] else []) ++ (if d = [] then [48] else [])
def wr (neg : Bool) (d : List Int) : List UInt8 := wrh neg d ++ (List.range d.length).flatMap (chk d)

theorem decDigits_pos (u : Nat) : 0 < (Lib.decDigits u).length := by
  rw [Lib.decDigits]; split <;> simp
theorem decDigits_le : ∀ (k u : Nat), u < 10 ^ (k + 1) → (Lib.decDigits u).length ≤ k + 1
  | 0, u, h => by rw [Lib.decDigits, dif_pos (by simpa using h)]; simp
  | k + 1, u, h => by
    rw [Lib.decDigits]
    split
    · simp
    · have := decDigits_le k (u / 10) (by rw [Nat.pow_succ] at h; omega)
      simp; omega
theorem itoa_len {x : Int} (h0 : 0 ≤ x) (h1 : x < 1000000000) : 0 < (Lib.itoa x).length ∧ (Lib.itoa x).length ≤ 9 := by
  unfold Lib.itoa
  rw [if_neg (by omega)]
  exact ⟨decDigits_pos _, decDigits_le 8 _ (by simp; omega)⟩
theorem chk_len {d : List Int} (hd : dig d) (k : Nat) : 0 < (chk d k).length ∧ (chk d k).length ≤ 9 := by
  have := dig_getD hd (d.length - 1 - k)
  have := itoa_len this.1 this.2
  unfold chk
  split
  · simp only [List.nil_append]; exact this
  · simp only [List.length_append, Lib.repeatL_length, List.length_cons, List.length_nil]; omega

theorem pre_len {d : List Int} (hd : dig d) {n : Nat} (pre : List (Fin n)) : (pre.flatMap (fun k => chk d k.val)).length ≤ 9 * pre.length := by
  induction pre with
  | nil => simp
  | cons k pre ih => have := chk_len hd k.val; simp only [List.flatMap_cons, List.length_append, List.length_cons]; omega

def aB (neg : Bool) (d : List Int) : Obj' := .box [B neg, L d] false
theorem wrh_ok (neg : Bool) (d : List Int) : (wrh neg d).length ≤ 2 := by
  unfold wrh; split <;> split <;> simp
theorem chk_0 (d : List Int) : chk d 0 = Lib.itoa (d.getD (d.length - 1 - 0) 0) := by simp [chk]
theorem chk_s (d : List Int) {k : Nat} (h : k ≠ 0) : chk d k = Lib.repeatL [48] (9 - (Lib.itoa (d.getD (d.length - 1 - k) 0)).length) ++ Lib.itoa (d.getD (d.length - 1 - k) 0) := by simp [chk, h]
theorem fin_flat {α : Type} (n : Nat) (f : Nat → List α) : (List.finRange n).flatMap (fun k => f k.val) = (List.range n).flatMap f := by
  rw [show List.range n = (List.finRange n).map Fin.val from List.ext_getElem (by simp) (by intro i h1 h2; simp), List.flatMap_map]
theorem wr_pos (neg : Bool) (d : List Int) (hd : dig d) : 0 < (wrh neg d ++ (List.range d.length).flatMap (chk d)).length := by
  by_cases h : d = []
  · simp [wrh, h]
  · rw [List.length_append]
    have : 0 < ((List.range d.length).flatMap (chk d)).length := by
      obtain ⟨m, hm⟩ : ∃ m, d.length = m + 1 := ⟨d.length - 1, by have : d.length ≠ 0 := fun e => h (List.eq_nil_of_length_eq_zero e); omega⟩
      rw [hm, List.range_succ_eq_map, List.flatMap_cons, List.length_append]
      have := chk_len hd 0
      omega
    omega
set_option maxHeartbeats 4000000 in
theorem written_pc (neg : Bool) (d : List Int) (hd : dig d) (ld : d.length ≤ 1000) (hnz : neg = true → d ≠ []) : PC Tryz.prog 96 [Zr neg d] (.dat (.str (bs (wr neg d)))) := by
  have hN := downE_len d
  have hw0 := wrh_ok neg d
  have hit : ∀ k : Nat, PC Tryz.prog 134 [I (d.getD (d.length - 1 - k) 0)] (.dat (.str (bs (Lib.itoa (d.getD (d.length - 1 - k) 0))))) := fun k => by
    have := dig_getD hd (d.length - 1 - k)
    exact itoa_pc _ (by omega) (by omega)
  have hrep : ∀ k : Nat, PC Tryz.prog 135 [.dat (.str ⟨#[48]⟩), I (9 - ((bs (Lib.itoa (d.getD (d.length - 1 - k) 0))).size : Int))] (.dat (.str (bs (Lib.repeatL [48] (9 - (Lib.itoa (d.getD (d.length - 1 - k) 0)).length))))) := fun k => by
    have h1 := dig_getD hd (d.length - 1 - k)
    have h2 := itoa_len h1.1 h1.2
    have := repeat_pc ⟨#[48]⟩ (9 - (Lib.itoa (d.getD (d.length - 1 - k) 0)).length) (by omega) (by show 1 * _ ≤ _; omega)
    rw [bs_size]
    rw [show (9 : Int) - ((Lib.itoa (d.getD (d.length - 1 - k) 0)).length : Int) = ((9 - (Lib.itoa (d.getD (d.length - 1 - k) 0)).length : Nat) : Int) by omega]
    exact this
  refine PCr.pc (PCr.of tab_ok Tryz.func96 rfl rfl rfl fun c hc hm => ?_)
  rw [show Tryz.f96.ntmps = _ from Tryz.ntmps96] at hc
  simp only [Tryz.f96]
  repeat' first | (refine AWp.regionXi (id := 5) 0 rfl rfl rfl (by rw [hc]; rfl) ?_; simp -implicitDefEqProofs (maxSteps := 1000000) (disch := omega) only [go_sem, ↓reduceIte]) | (refine AWp.regionXi (id := 3) 0 rfl rfl rfl (by rw [hc]; rfl) ?_; simp -implicitDefEqProofs (maxSteps := 1000000) (disch := omega) only [go_sem, ↓reduceIte]) | (refine AWp.regionStp (id := 1) 0 (fun σ1 K => K (.ptr σ1.n 0) ((σ1.n, .box [.dat .pnil, .nil] false (some 131)) :: σ1.s) (σ1.n + 1)) rfl rfl (by intro cl h; cases h) (fun φ a w σ1 K hT hR h => .of_ope (allocT_ok hT (t := 131) hR.mem rfl rfl h) rfl) (by rw [hc]; rfl) ?_; simp -implicitDefEqProofs (maxSteps := 1000000) (disch := omega) only [go_sem, ↓reduceIte]) | (refine AWp.seq fun K hK => ?_) | ((first | refine AWp.region (by rw [hc]; rfl) ?_ | refine AWp.skip ?_ | refine AWp.exit ?_ | refine AWp.label ?_ | refine AWp.ret ?_ | refine appK_g ?_); simp -implicitDefEqProofs (maxSteps := 1000000) (disch := omega) only [go_sem, ↓reduceIte]) | ((first | refine hK _ ?_ | (clear hK; first | refine hK _ ?_ | (clear hK; first | refine hK _ ?_ | (clear hK; refine hK _ ?_)))); clear hK) | (refine AWp.cond ?_; simp -implicitDefEqProofs (maxSteps := 1000000) (disch := omega) only [go_sem, ↓reduceIte]; try (refine ⟨fun hlt => ?_, fun hlt => ?_⟩ <;> (try simp only [cla, clb, ne_eq, reduceCtorEq] at hlt) <;> (try exact hlt.elim))) | (refine AWp.block ?_) | ((first | refine gdO_split (fun hlt => ?_) (fun hlt => ?_) | refine tkO_split (fun hlt => ?_) (fun hlt => ?_) | refine opO_split (fun hlt => ?_) (fun hlt => ?_)) <;> have hgd := hlt <;> (try simp only [cla, clb, ne_eq, cld] at hlt) <;> (simp -implicitDefEqProofs (maxSteps := 1000000) (disch := omega) only [go_sem, ↓reduceIte, hgd]) <;> clear hgd) | (with_reducible refine And.intro ?_ ?_; · first | omega | assumption | exact ⟨_, _, rfl, rfl⟩) | ((first | refine ⟨_, parts_pc _ _, ?_⟩ | refine ⟨_, down_pc _, ?_⟩); simp -implicitDefEqProofs (maxSteps := 1000000) (disch := omega) only [go_sem, ↓reduceIte]) | fail
  · refine ⟨_, wb_po (a := aB neg d) (x := bs []) (ch := 45) (.inl ⟨rfl, Nat.le_refl _, _, .inl rfl, rfl⟩) (by decide) (by decide), ?_⟩
    rintro _ s1 n1 ⟨rfl, hB⟩
    rw [show bs [] ++ ⟨#[(45 : Nat).toUInt8]⟩ = bs [45] from rfl] at hB
    rcases hB with ⟨h, _⟩ | ⟨_, k, hk1, hk2, rfl⟩
    · exact absurd h (by decide)
    have hB : Bw (aB neg d) (bs [45]) [(k, .row 5 1 (strEs (bs [45])) false), (1, .box [.ptr 1 0, .own k] false (some 131)), (0, aB neg d)] n1 := .inr ⟨by decide, k, hk1, hk2, rfl⟩
    have hk0 : ¬ k = 0 := by omega
    have hk3 : ¬ k = 1 := by omega
    have hwr : wrh neg d = [45] := by simp [wrh, hlt, hnz hlt]
    have hd0 : ¬ (d.length : Int) = 0 := by have := hnz hlt; intro e; exact this (List.eq_nil_of_length_eq_zero (by omega))
    simp only [aB]
    repeat' first | (refine AWp.regionXi (id := 5) 0 rfl rfl rfl (by rw [hc]; rfl) ?_; simp -implicitDefEqProofs (maxSteps := 1000000) (disch := omega) only [go_sem, ↓reduceIte, hk0, hk3, aB]) | (refine AWp.seq fun K hK => ?_) | ((first | refine AWp.region (by rw [hc]; rfl) ?_ | refine AWp.skip ?_ | refine AWp.exit ?_ | refine AWp.label ?_ | refine AWp.ret ?_ | refine appK_g ?_); simp -implicitDefEqProofs (maxSteps := 1000000) (disch := omega) only [go_sem, ↓reduceIte, hk0, hk3, aB]) | ((first | refine hK _ ?_ | (clear hK; first | refine hK _ ?_ | (clear hK; first | refine hK _ ?_ | (clear hK; refine hK _ ?_)))); clear hK) | (refine AWp.cond ?_; simp -implicitDefEqProofs (maxSteps := 1000000) (disch := omega) only [go_sem, ↓reduceIte, hk0, hk3, aB]; try (refine ⟨fun hlt => ?_, fun hlt => ?_⟩ <;> (try simp only [cla, clb, ne_eq, reduceCtorEq] at hlt) <;> (try exact hlt.elim))) | (refine AWp.block ?_) | ((first | refine gdO_split (fun hlt => ?_) (fun hlt => ?_) | refine tkO_split (fun hlt => ?_) (fun hlt => ?_) | refine opO_split (fun hlt => ?_) (fun hlt => ?_)) <;> have hgd := hlt <;> (try simp only [cla, clb, ne_eq, cld] at hlt) <;> (simp -implicitDefEqProofs (maxSteps := 1000000) (disch := omega) only [go_sem, ↓reduceIte, hk0, hk3, aB, hgd]) <;> clear hgd) | (with_reducible refine And.intro ?_ ?_; · first | omega | assumption | exact ⟨_, _, rfl, rfl⟩) | ((first | refine ⟨_, parts_pc _ _, ?_⟩ | refine ⟨_, down_pc _, ?_⟩); simp -implicitDefEqProofs (maxSteps := 1000000) (disch := omega) only [go_sem, ↓reduceIte, hk0, hk3, aB]) | fail
    · exact absurd hlt hd0
    refine AWp.rangeF 140 [.cptr [dL d]] (downE d) [(4, 18), (5, 19)] (by simp [go_sem]) (down_it d (by omega)) (fun el hel => ?_) (by rw [hc]; rfl) (.seq (.one _ _ _ _ _ _) (.one _ _ _ _ _ _)) (by rw [hc]; rfl) hm.2
      (fun pre s n => Bw (aB neg d) (bs (wrh neg d ++ pre.flatMap (fun k => chk d k.val))) s n)
      (fun code pre s n => False)
      (by simp only [List.flatMap_nil, List.append_nil]; rw [hwr]; exact hB) ?_ ?_ ?_
    · obtain ⟨k, _, rfl⟩ := List.mem_map.1 hel; rfl
    · intro c' l pre k s n hc' hm' hlen hn hI
      have hc := hc'.trans hc
      have hk : k.val < d.length := by have := k.isLt; omega
      have hpl := pre_len hd pre
      rw [downE_get]
      simp only at hm' hn
      have hi := hit k.val
      have hr := hrep k.val
      have hd1 := dig_getD hd (d.length - 1 - k.val)
      have hi2 := itoa_len hd1.1 hd1.2
      have hsI := bs_size (Lib.itoa (d.getD (d.length - 1 - k.val) 0))
      have hsR := bs_size (Lib.repeatL [48] (9 - (Lib.itoa (d.getD (d.length - 1 - k.val) 0)).length))
      rw [Lib.repeatL_length] at hsR
      simp only [List.length_cons, List.length_nil] at hsR
      have hsX := bs_size (wrh neg d ++ pre.flatMap (fun k => chk d k.val))
      rw [List.length_append] at hsX
      have hB2 := hI
      rcases hI with ⟨g1, g2, p, hp, rfl⟩ | ⟨g1, j, hj1, hj2, rfl⟩
      · simp -implicitDefEqProofs (maxSteps := 1000000) (disch := omega) only [go_sem, ↓reduceIte]
        repeat' first | (refine AWp.regionXi (id := 12) 1 rfl rfl rfl (by rw [hc]; rfl) ?_; simp -implicitDefEqProofs (maxSteps := 1000000) (disch := omega) only [go_sem, ↓reduceIte, aB]) | (refine AWp.seq fun K hK => ?_) | ((first | refine AWp.region (by rw [hc]; rfl) ?_ | refine AWp.skip ?_ | refine AWp.exit ?_ | refine AWp.label ?_ | refine AWp.ret ?_ | refine appK_g ?_); simp -implicitDefEqProofs (maxSteps := 1000000) (disch := omega) only [go_sem, ↓reduceIte, aB]) | ((first | refine hK _ ?_ | (clear hK; first | refine hK _ ?_ | (clear hK; first | refine hK _ ?_ | (clear hK; refine hK _ ?_)))); clear hK) | (refine AWp.cond ?_; simp -implicitDefEqProofs (maxSteps := 1000000) (disch := omega) only [go_sem, ↓reduceIte, aB]; try (refine ⟨fun hlt => ?_, fun hlt => ?_⟩ <;> (try simp only [cla, clb, ne_eq, reduceCtorEq] at hlt) <;> (try exact hlt.elim))) | (refine AWp.block ?_) | ((first | refine gdO_split (fun hlt => ?_) (fun hlt => ?_) | refine tkO_split (fun hlt => ?_) (fun hlt => ?_) | refine opO_split (fun hlt => ?_) (fun hlt => ?_)) <;> have hgd := hlt <;> (try simp only [cla, clb, ne_eq, cld] at hlt) <;> (simp -implicitDefEqProofs (maxSteps := 1000000) (disch := omega) only [go_sem, ↓reduceIte, aB, hgd]) <;> clear hgd) | (with_reducible refine And.intro ?_ ?_; · first | omega | assumption | exact ⟨_, _, rfl, rfl⟩) | (refine ⟨_, hi, ?_⟩; try simp -implicitDefEqProofs (maxSteps := 1000000) (disch := omega) only [go_sem, ↓reduceIte, aB]) | (refine ⟨_, hr, ?_⟩; try simp -implicitDefEqProofs (maxSteps := 1000000) (disch := omega) only [go_sem, ↓reduceIte, aB]) | fail
        · have hkz : k.val ≠ 0 := by omega
          refine ⟨_, ws_po hB2 (by omega) (by rw [ByteArray.size_append]; omega) (by rw [ByteArray.size_append]; omega), ?_⟩
          rintro _ s1 n1 ⟨rfl, hB3⟩
          rw [bs_app, bs_app] at hB3
          show Bw (aB neg d) (bs (wrh neg d ++ List.flatMap (fun k => chk d k.val) (pre ++ [k]))) s1 n1
          simpa only [List.flatMap_append, List.flatMap_cons, List.flatMap_nil, List.append_nil, chk_s d hkz, List.append_assoc] using hB3
        · have hkz : k.val = 0 := by omega
          refine ⟨_, ws_po hB2 (by omega) (by omega) (by omega), ?_⟩
          rintro _ s1 n1 ⟨rfl, hB3⟩
          rw [bs_app] at hB3
          show Bw (aB neg d) (bs (wrh neg d ++ List.flatMap (fun k => chk d k.val) (pre ++ [k]))) s1 n1
          simpa only [List.flatMap_append, List.flatMap_cons, List.flatMap_nil, List.append_nil, hkz, chk_0, List.append_assoc] using hB3
      · have hj0 : ¬ j = 0 := by omega
        have hj3 : ¬ j = 1 := by omega
        simp -implicitDefEqProofs (maxSteps := 1000000) (disch := omega) only [go_sem, ↓reduceIte]
        repeat' first | (refine AWp.regionXi (id := 12) 1 rfl rfl rfl (by rw [hc]; rfl) ?_; simp -implicitDefEqProofs (maxSteps := 1000000) (disch := omega) only [go_sem, ↓reduceIte, aB, hj0, hj3]) | (refine AWp.seq fun K hK => ?_) | ((first | refine AWp.region (by rw [hc]; rfl) ?_ | refine AWp.skip ?_ | refine AWp.exit ?_ | refine AWp.label ?_ | refine AWp.ret ?_ | refine appK_g ?_); simp -implicitDefEqProofs (maxSteps := 1000000) (disch := omega) only [go_sem, ↓reduceIte, aB, hj0, hj3]) | ((first | refine hK _ ?_ | (clear hK; first | refine hK _ ?_ | (clear hK; first | refine hK _ ?_ | (clear hK; refine hK _ ?_)))); clear hK) | (refine AWp.cond ?_; simp -implicitDefEqProofs (maxSteps := 1000000) (disch := omega) only [go_sem, ↓reduceIte, aB, hj0, hj3]; try (refine ⟨fun hlt => ?_, fun hlt => ?_⟩ <;> (try simp only [cla, clb, ne_eq, reduceCtorEq] at hlt) <;> (try exact hlt.elim))) | (refine AWp.block ?_) | ((first | refine gdO_split (fun hlt => ?_) (fun hlt => ?_) | refine tkO_split (fun hlt => ?_) (fun hlt => ?_) | refine opO_split (fun hlt => ?_) (fun hlt => ?_)) <;> have hgd := hlt <;> (try simp only [cla, clb, ne_eq, cld] at hlt) <;> (simp -implicitDefEqProofs (maxSteps := 1000000) (disch := omega) only [go_sem, ↓reduceIte, aB, hj0, hj3, hgd]) <;> clear hgd) | (with_reducible refine And.intro ?_ ?_; · first | omega | assumption | exact ⟨_, _, rfl, rfl⟩) | (refine ⟨_, hi, ?_⟩; try simp -implicitDefEqProofs (maxSteps := 1000000) (disch := omega) only [go_sem, ↓reduceIte, aB, hj0, hj3]) | (refine ⟨_, hr, ?_⟩; try simp -implicitDefEqProofs (maxSteps := 1000000) (disch := omega) only [go_sem, ↓reduceIte, aB, hj0, hj3]) | fail
        · have hkz : k.val ≠ 0 := by omega
          refine ⟨_, ws_po hB2 (by omega) (by rw [ByteArray.size_append]; omega) (by rw [ByteArray.size_append]; omega), ?_⟩
          rintro _ s1 n1 ⟨rfl, hB3⟩
          rw [bs_app, bs_app] at hB3
          show Bw (aB neg d) (bs (wrh neg d ++ List.flatMap (fun k => chk d k.val) (pre ++ [k]))) s1 n1
          simpa only [List.flatMap_append, List.flatMap_cons, List.flatMap_nil, List.append_nil, chk_s d hkz, List.append_assoc] using hB3
        · have hkz : k.val = 0 := by omega
          refine ⟨_, ws_po hB2 (by omega) (by omega) (by omega), ?_⟩
          rintro _ s1 n1 ⟨rfl, hB3⟩
          rw [bs_app] at hB3
          show Bw (aB neg d) (bs (wrh neg d ++ List.flatMap (fun k => chk d k.val) (pre ++ [k]))) s1 n1
          simpa only [List.flatMap_append, List.flatMap_cons, List.flatMap_nil, List.append_nil, hkz, chk_0, List.append_assoc] using hB3
    · intro s n hI
      have hpos : 0 < (wrh neg d ++ (List.finRange (downE d).length).flatMap (fun k => chk d k.val)).length := by
        rw [fin_flat, hN]; exact wr_pos neg d hd
      rcases hI with ⟨h, _⟩ | ⟨g1, j, hj1, hj2, rfl⟩
      · rw [bs_size] at h; omega
      have hj0 : ¬ j = 0 := by omega
      have hj3 : ¬ j = 1 := by omega
      simp -implicitDefEqProofs (maxSteps := 1000000) (disch := omega) only [go_sem, ↓reduceIte]
      repeat' first | (refine AWp.regionXi (id := 13) 0 rfl rfl rfl (by rw [hc]; rfl) ?_; simp -implicitDefEqProofs (maxSteps := 1000000) (disch := omega) only [go_sem, ↓reduceIte, aB, hj0, hj3]) | (refine AWp.seq fun K hK => ?_) | ((first | refine AWp.region (by rw [hc]; rfl) ?_ | refine AWp.skip ?_ | refine AWp.exit ?_ | refine AWp.label ?_ | refine AWp.ret ?_ | refine appK_g ?_); simp -implicitDefEqProofs (maxSteps := 1000000) (disch := omega) only [go_sem, ↓reduceIte, aB, hj0, hj3]) | ((first | refine hK _ ?_ | (clear hK; first | refine hK _ ?_ | (clear hK; first | refine hK _ ?_ | (clear hK; refine hK _ ?_)))); clear hK) | (refine AWp.cond ?_; simp -implicitDefEqProofs (maxSteps := 1000000) (disch := omega) only [go_sem, ↓reduceIte, aB, hj0, hj3]; try (refine ⟨fun hlt => ?_, fun hlt => ?_⟩ <;> (try simp only [cla, clb, ne_eq, reduceCtorEq] at hlt) <;> (try exact hlt.elim))) | (refine AWp.block ?_) | ((first | refine gdO_split (fun hlt => ?_) (fun hlt => ?_) | refine tkO_split (fun hlt => ?_) (fun hlt => ?_) | refine opO_split (fun hlt => ?_) (fun hlt => ?_)) <;> have hgd := hlt <;> (try simp only [cla, clb, ne_eq, cld] at hlt) <;> (simp -implicitDefEqProofs (maxSteps := 1000000) (disch := omega) only [go_sem, ↓reduceIte, aB, hj0, hj3, hgd]) <;> clear hgd) | (with_reducible refine And.intro ?_ ?_; · first | omega | assumption | exact ⟨_, _, rfl, rfl⟩) | fail
      refine ⟨_, str_po (k := j) (p := .ptr 1 0) (x := bs (wrh neg d ++ (List.finRange (downE d).length).flatMap (fun k => chk d k.val))) ?_ ?_ g1 (by omega), ?_⟩
      · rw [Abs.get_cons, if_neg (by omega), Abs.get_cons, if_pos rfl]
      · rw [Abs.get_cons, if_pos rfl]
      rintro _ s1 n1 ⟨rfl, rfl, rfl⟩
      simp -implicitDefEqProofs (maxSteps := 1000000) (disch := omega) only [go_sem, ↓reduceIte]
      repeat' first | (refine AWp.seq fun K hK => ?_) | ((first | refine AWp.region (by rw [hc]; rfl) ?_ | refine AWp.skip ?_ | refine AWp.exit ?_ | refine AWp.label ?_ | refine AWp.ret ?_ | refine appK_g ?_); simp -implicitDefEqProofs (maxSteps := 1000000) (disch := omega) only [go_sem, ↓reduceIte]) | ((first | refine hK _ ?_ | (clear hK; first | refine hK _ ?_ | (clear hK; first | refine hK _ ?_ | (clear hK; refine hK _ ?_)))); clear hK) | (refine AWp.cond ?_; simp -implicitDefEqProofs (maxSteps := 1000000) (disch := omega) only [go_sem, ↓reduceIte]; try (refine ⟨fun hlt => ?_, fun hlt => ?_⟩ <;> (try simp only [cla, clb, ne_eq, reduceCtorEq] at hlt) <;> (try exact hlt.elim))) | (refine AWp.block ?_) | ((first | refine gdO_split (fun hlt => ?_) (fun hlt => ?_) | refine tkO_split (fun hlt => ?_) (fun hlt => ?_) | refine opO_split (fun hlt => ?_) (fun hlt => ?_)) <;> have hgd := hlt <;> (try simp only [cla, clb, ne_eq, cld] at hlt) <;> (simp -implicitDefEqProofs (maxSteps := 1000000) (disch := omega) only [go_sem, ↓reduceIte, hgd]) <;> clear hgd) | (with_reducible refine And.intro ?_ ?_; · first | omega | assumption | exact ⟨_, _, rfl, rfl⟩) | fail
      rw [fin_flat, hN]; rfl
    · intro code pre s n hpf hI
      exact hI.elim
  · refine ⟨_, wb_po (a := aB neg d) (x := bs []) (ch := 48) (.inl ⟨rfl, Nat.le_refl _, _, .inl rfl, rfl⟩) (by decide) (by decide), ?_⟩
    rintro _ s1 n1 ⟨rfl, hB⟩
    rw [show bs [] ++ ⟨#[(48 : Nat).toUInt8]⟩ = bs [48] from rfl] at hB
    rcases hB with ⟨h, _⟩ | ⟨_, k, hk1, hk2, rfl⟩
    · exact absurd h (by decide)
    have hB : Bw (aB neg d) (bs [48]) [(k, .row 5 1 (strEs (bs [48])) false), (1, .box [.ptr 1 0, .own k] false (some 131)), (0, aB neg d)] n1 := .inr ⟨by decide, k, hk1, hk2, rfl⟩
    have hk0 : ¬ k = 0 := by omega
    have hk3 : ¬ k = 1 := by omega
    have hdn : d = [] := List.eq_nil_of_length_eq_zero (by omega)
    have hwr : wrh neg d = [48] := by simp only [wrh, hdn, if_true, show neg = false from by assumption]; rfl
    simp only [aB]
    repeat' first | (refine AWp.regionXi (id := 5) 0 rfl rfl rfl (by rw [hc]; rfl) ?_; simp -implicitDefEqProofs (maxSteps := 1000000) (disch := omega) only [go_sem, ↓reduceIte, hk0, hk3, aB]) | (refine AWp.seq fun K hK => ?_) | ((first | refine AWp.region (by rw [hc]; rfl) ?_ | refine AWp.skip ?_ | refine AWp.exit ?_ | refine AWp.label ?_ | refine AWp.ret ?_ | refine appK_g ?_); simp -implicitDefEqProofs (maxSteps := 1000000) (disch := omega) only [go_sem, ↓reduceIte, hk0, hk3, aB]) | ((first | refine hK _ ?_ | (clear hK; first | refine hK _ ?_ | (clear hK; first | refine hK _ ?_ | (clear hK; refine hK _ ?_)))); clear hK) | (refine AWp.cond ?_; simp -implicitDefEqProofs (maxSteps := 1000000) (disch := omega) only [go_sem, ↓reduceIte, hk0, hk3, aB]; try (refine ⟨fun hlt => ?_, fun hlt => ?_⟩ <;> (try simp only [cla, clb, ne_eq, reduceCtorEq] at hlt) <;> (try exact hlt.elim))) | (refine AWp.block ?_) | ((first | refine gdO_split (fun hlt => ?_) (fun hlt => ?_) | refine tkO_split (fun hlt => ?_) (fun hlt => ?_) | refine opO_split (fun hlt => ?_) (fun hlt => ?_)) <;> have hgd := hlt <;> (try simp only [cla, clb, ne_eq, cld] at hlt) <;> (simp -implicitDefEqProofs (maxSteps := 1000000) (disch := omega) only [go_sem, ↓reduceIte, hk0, hk3, aB, hgd]) <;> clear hgd) | (with_reducible refine And.intro ?_ ?_; · first | omega | assumption | exact ⟨_, _, rfl, rfl⟩) | ((first | refine ⟨_, parts_pc _ _, ?_⟩ | refine ⟨_, down_pc _, ?_⟩); simp -implicitDefEqProofs (maxSteps := 1000000) (disch := omega) only [go_sem, ↓reduceIte, hk0, hk3, aB]) | fail
    refine AWp.rangeF 140 [.cptr [dL d]] (downE d) [(4, 18), (5, 19)] (by simp [go_sem]) (down_it d (by omega)) (fun el hel => ?_) (by rw [hc]; rfl) (.seq (.one _ _ _ _ _ _) (.one _ _ _ _ _ _)) (by rw [hc]; rfl) hm.2
      (fun pre s n => Bw (aB neg d) (bs (wrh neg d ++ pre.flatMap (fun k => chk d k.val))) s n)
      (fun code pre s n => False)
      (by simp only [List.flatMap_nil, List.append_nil]; rw [hwr]; exact hB) ?_ ?_ ?_
    · obtain ⟨k, _, rfl⟩ := List.mem_map.1 hel; rfl
    · intro c' l pre k s n hc' hm' hlen hn hI
      have hc := hc'.trans hc
      have hk : k.val < d.length := by have := k.isLt; omega
      have hpl := pre_len hd pre
      rw [downE_get]
      simp only at hm' hn
      have hi := hit k.val
      have hr := hrep k.val
      have hd1 := dig_getD hd (d.length - 1 - k.val)
      have hi2 := itoa_len hd1.1 hd1.2
      have hsI := bs_size (Lib.itoa (d.getD (d.length - 1 - k.val) 0))
      have hsR := bs_size (Lib.repeatL [48] (9 - (Lib.itoa (d.getD (d.length - 1 - k.val) 0)).length))
      rw [Lib.repeatL_length] at hsR
      simp only [List.length_cons, List.length_nil] at hsR
      have hsX := bs_size (wrh neg d ++ pre.flatMap (fun k => chk d k.val))
      rw [List.length_append] at hsX
      have hB2 := hI
      rcases hI with ⟨g1, g2, p, hp, rfl⟩ | ⟨g1, j, hj1, hj2, rfl⟩
      · simp -implicitDefEqProofs (maxSteps := 1000000) (disch := omega) only [go_sem, ↓reduceIte]
        repeat' first | (refine AWp.regionXi (id := 12) 1 rfl rfl rfl (by rw [hc]; rfl) ?_; simp -implicitDefEqProofs (maxSteps := 1000000) (disch := omega) only [go_sem, ↓reduceIte, aB]) | (refine AWp.seq fun K hK => ?_) | ((first | refine AWp.region (by rw [hc]; rfl) ?_ | refine AWp.skip ?_ | refine AWp.exit ?_ | refine AWp.label ?_ | refine AWp.ret ?_ | refine appK_g ?_); simp -implicitDefEqProofs (maxSteps := 1000000) (disch := omega) only [go_sem, ↓reduceIte, aB]) | ((first | refine hK _ ?_ | (clear hK; first | refine hK _ ?_ | (clear hK; first | refine hK _ ?_ | (clear hK; refine hK _ ?_)))); clear hK) | (refine AWp.cond ?_; simp -implicitDefEqProofs (maxSteps := 1000000) (disch := omega) only [go_sem, ↓reduceIte, aB]; try (refine ⟨fun hlt => ?_, fun hlt => ?_⟩ <;> (try simp only [cla, clb, ne_eq, reduceCtorEq] at hlt) <;> (try exact hlt.elim))) | (refine AWp.block ?_) | ((first | refine gdO_split (fun hlt => ?_) (fun hlt => ?_) | refine tkO_split (fun hlt => ?_) (fun hlt => ?_) | refine opO_split (fun hlt => ?_) (fun hlt => ?_)) <;> have hgd := hlt <;> (try simp only [cla, clb, ne_eq, cld] at hlt) <;> (simp -implicitDefEqProofs (maxSteps := 1000000) (disch := omega) only [go_sem, ↓reduceIte, aB, hgd]) <;> clear hgd) | (with_reducible refine And.intro ?_ ?_; · first | omega | assumption | exact ⟨_, _, rfl, rfl⟩) | (refine ⟨_, hi, ?_⟩; try simp -implicitDefEqProofs (maxSteps := 1000000) (disch := omega) only [go_sem, ↓reduceIte, aB]) | (refine ⟨_, hr, ?_⟩; try simp -implicitDefEqProofs (maxSteps := 1000000) (disch := omega) only [go_sem, ↓reduceIte, aB]) | fail
        · have hkz : k.val ≠ 0 := by omega
          refine ⟨_, ws_po hB2 (by omega) (by rw [ByteArray.size_append]; omega) (by rw [ByteArray.size_append]; omega), ?_⟩
          rintro _ s1 n1 ⟨rfl, hB3⟩
          rw [bs_app, bs_app] at hB3
          show Bw (aB neg d) (bs (wrh neg d ++ List.flatMap (fun k => chk d k.val) (pre ++ [k]))) s1 n1
          simpa only [List.flatMap_append, List.flatMap_cons, List.flatMap_nil, List.append_nil, chk_s d hkz, List.append_assoc] using hB3
        · have hkz : k.val = 0 := by omega
          refine ⟨_, ws_po hB2 (by omega) (by omega) (by omega), ?_⟩
          rintro _ s1 n1 ⟨rfl, hB3⟩
          rw [bs_app] at hB3
          show Bw (aB neg d) (bs (wrh neg d ++ List.flatMap (fun k => chk d k.val) (pre ++ [k]))) s1 n1
          simpa only [List.flatMap_append, List.flatMap_cons, List.flatMap_nil, List.append_nil, hkz, chk_0, List.append_assoc] using hB3
      · have hj0 : ¬ j = 0 := by omega
        have hj3 : ¬ j = 1 := by omega
        simp -implicitDefEqProofs (maxSteps := 1000000) (disch := omega) only [go_sem, ↓reduceIte]
        repeat' first | (refine AWp.regionXi (id := 12) 1 rfl rfl rfl (by rw [hc]; rfl) ?_; simp -implicitDefEqProofs (maxSteps := 1000000) (disch := omega) only [go_sem, ↓reduceIte, aB, hj0, hj3]) | (refine AWp.seq fun K hK => ?_) | ((first | refine AWp.region (by rw [hc]; rfl) ?_ | refine AWp.skip ?_ | refine AWp.exit ?_ | refine AWp.label ?_ | refine AWp.ret ?_ | refine appK_g ?_); simp -implicitDefEqProofs (maxSteps := 1000000) (disch := omega) only [go_sem, ↓reduceIte, aB, hj0, hj3]) | ((first | refine hK _ ?_ | (clear hK; first | refine hK _ ?_ | (clear hK; first | refine hK _ ?_ | (clear hK; refine hK _ ?_)))); clear hK) | (refine AWp.cond ?_; simp -implicitDefEqProofs (maxSteps := 1000000) (disch := omega) only [go_sem, ↓reduceIte, aB, hj0, hj3]; try (refine ⟨fun hlt => ?_, fun hlt => ?_⟩ <;> (try simp only [cla, clb, ne_eq, reduceCtorEq] at hlt) <;> (try exact hlt.elim))) | (refine AWp.block ?_) | ((first | refine gdO_split (fun hlt => ?_) (fun hlt => ?_) | refine tkO_split (fun hlt => ?_) (fun hlt => ?_) | refine opO_split (fun hlt => ?_) (fun hlt => ?_)) <;> have hgd := hlt <;> (try simp only [cla, clb, ne_eq, cld] at hlt) <;> (simp -implicitDefEqProofs (maxSteps := 1000000) (disch := omega) only [go_sem, ↓reduceIte, aB, hj0, hj3, hgd]) <;> clear hgd) | (with_reducible refine And.intro ?_ ?_; · first | omega | assumption | exact ⟨_, _, rfl, rfl⟩) | (refine ⟨_, hi, ?_⟩; try simp -implicitDefEqProofs (maxSteps := 1000000) (disch := omega) only [go_sem, ↓reduceIte, aB, hj0, hj3]) | (refine ⟨_, hr, ?_⟩; try simp -implicitDefEqProofs (maxSteps := 1000000) (disch := omega) only [go_sem, ↓reduceIte, aB, hj0, hj3]) | fail
        · have hkz : k.val ≠ 0 := by omega
          refine ⟨_, ws_po hB2 (by omega) (by rw [ByteArray.size_append]; omega) (by rw [ByteArray.size_append]; omega), ?_⟩
          rintro _ s1 n1 ⟨rfl, hB3⟩
          rw [bs_app, bs_app] at hB3
          show Bw (aB neg d) (bs (wrh neg d ++ List.flatMap (fun k => chk d k.val) (pre ++ [k]))) s1 n1
          simpa only [List.flatMap_append, List.flatMap_cons, List.flatMap_nil, List.append_nil, chk_s d hkz, List.append_assoc] using hB3
        · have hkz : k.val = 0 := by omega
          refine ⟨_, ws_po hB2 (by omega) (by omega) (by omega), ?_⟩
          rintro _ s1 n1 ⟨rfl, hB3⟩
          rw [bs_app] at hB3
          show Bw (aB neg d) (bs (wrh neg d ++ List.flatMap (fun k => chk d k.val) (pre ++ [k]))) s1 n1
          simpa only [List.flatMap_append, List.flatMap_cons, List.flatMap_nil, List.append_nil, hkz, chk_0, List.append_assoc] using hB3
    · intro s n hI
      have hpos : 0 < (wrh neg d ++ (List.finRange (downE d).length).flatMap (fun k => chk d k.val)).length := by
        rw [fin_flat, hN]; exact wr_pos neg d hd
      rcases hI with ⟨h, _⟩ | ⟨g1, j, hj1, hj2, rfl⟩
      · rw [bs_size] at h; omega
      have hj0 : ¬ j = 0 := by omega
      have hj3 : ¬ j = 1 := by omega
      simp -implicitDefEqProofs (maxSteps := 1000000) (disch := omega) only [go_sem, ↓reduceIte]
      repeat' first | (refine AWp.regionXi (id := 13) 0 rfl rfl rfl (by rw [hc]; rfl) ?_; simp -implicitDefEqProofs (maxSteps := 1000000) (disch := omega) only [go_sem, ↓reduceIte, aB, hj0, hj3]) | (refine AWp.seq fun K hK => ?_) | ((first | refine AWp.region (by rw [hc]; rfl) ?_ | refine AWp.skip ?_ | refine AWp.exit ?_ | refine AWp.label ?_ | refine AWp.ret ?_ | refine appK_g ?_); simp -implicitDefEqProofs (maxSteps := 1000000) (disch := omega) only [go_sem, ↓reduceIte, aB, hj0, hj3]) | ((first | refine hK _ ?_ | (clear hK; first | refine hK _ ?_ | (clear hK; first | refine hK _ ?_ | (clear hK; refine hK _ ?_)))); clear hK) | (refine AWp.cond ?_; simp -implicitDefEqProofs (maxSteps := 1000000) (disch := omega) only [go_sem, ↓reduceIte, aB, hj0, hj3]; try (refine ⟨fun hlt => ?_, fun hlt => ?_⟩ <;> (try simp only [cla, clb, ne_eq, reduceCtorEq] at hlt) <;> (try exact hlt.elim))) | (refine AWp.block ?_) | ((first | refine gdO_split (fun hlt => ?_) (fun hlt => ?_) | refine tkO_split (fun hlt => ?_) (fun hlt => ?_) | refine opO_split (fun hlt => ?_) (fun hlt => ?_)) <;> have hgd := hlt <;> (try simp only [cla, clb, ne_eq, cld] at hlt) <;> (simp -implicitDefEqProofs (maxSteps := 1000000) (disch := omega) only [go_sem, ↓reduceIte, aB, hj0, hj3, hgd]) <;> clear hgd) | (with_reducible refine And.intro ?_ ?_; · first | omega | assumption | exact ⟨_, _, rfl, rfl⟩) | fail
      refine ⟨_, str_po (k := j) (p := .ptr 1 0) (x := bs (wrh neg d ++ (List.finRange (downE d).length).flatMap (fun k => chk d k.val))) ?_ ?_ g1 (by omega), ?_⟩
      · rw [Abs.get_cons, if_neg (by omega), Abs.get_cons, if_pos rfl]
      · rw [Abs.get_cons, if_pos rfl]
      rintro _ s1 n1 ⟨rfl, rfl, rfl⟩
      simp -implicitDefEqProofs (maxSteps := 1000000) (disch := omega) only [go_sem, ↓reduceIte]
      repeat' first | (refine AWp.seq fun K hK => ?_) | ((first | refine AWp.region (by rw [hc]; rfl) ?_ | refine AWp.skip ?_ | refine AWp.exit ?_ | refine AWp.label ?_ | refine AWp.ret ?_ | refine appK_g ?_); simp -implicitDefEqProofs (maxSteps := 1000000) (disch := omega) only [go_sem, ↓reduceIte]) | ((first | refine hK _ ?_ | (clear hK; first | refine hK _ ?_ | (clear hK; first | refine hK _ ?_ | (clear hK; refine hK _ ?_)))); clear hK) | (refine AWp.cond ?_; simp -implicitDefEqProofs (maxSteps := 1000000) (disch := omega) only [go_sem, ↓reduceIte]; try (refine ⟨fun hlt => ?_, fun hlt => ?_⟩ <;> (try simp only [cla, clb, ne_eq, reduceCtorEq] at hlt) <;> (try exact hlt.elim))) | (refine AWp.block ?_) | ((first | refine gdO_split (fun hlt => ?_) (fun hlt => ?_) | refine tkO_split (fun hlt => ?_) (fun hlt => ?_) | refine opO_split (fun hlt => ?_) (fun hlt => ?_)) <;> have hgd := hlt <;> (try simp only [cla, clb, ne_eq, cld] at hlt) <;> (simp -implicitDefEqProofs (maxSteps := 1000000) (disch := omega) only [go_sem, ↓reduceIte, hgd]) <;> clear hgd) | (with_reducible refine And.intro ?_ ?_; · first | omega | assumption | exact ⟨_, _, rfl, rfl⟩) | fail
      rw [fin_flat, hN]; rfl
    · intro code pre s n hpf hI
      exact hI.elim
  · have hwr : wrh neg d = [] := by
      have : ¬ d = [] := fun e => hlt (by rw [e]; rfl)
      simp only [wrh, this, if_false, List.append_nil, show neg = false from by assumption]; rfl
    have hB : Bw (aB neg d) (bs []) [(1, .box [.dat .pnil, .nil] false (some 131)), (0, aB neg d)] 2 := .inl ⟨rfl, Nat.le_refl _, _, .inl rfl, rfl⟩
    refine AWp.rangeF 140 [.cptr [dL d]] (downE d) [(4, 18), (5, 19)] (by simp [go_sem]) (down_it d (by omega)) (fun el hel => ?_) (by rw [hc]; rfl) (.seq (.one _ _ _ _ _ _) (.one _ _ _ _ _ _)) (by rw [hc]; rfl) hm.2
      (fun pre s n => Bw (aB neg d) (bs (wrh neg d ++ pre.flatMap (fun k => chk d k.val))) s n)
      (fun code pre s n => False)
      (by simp only [List.flatMap_nil, List.append_nil]; rw [hwr]; exact hB) ?_ ?_ ?_
    · obtain ⟨k, _, rfl⟩ := List.mem_map.1 hel; rfl
    · intro c' l pre k s n hc' hm' hlen hn hI
      have hc := hc'.trans hc
      have hk : k.val < d.length := by have := k.isLt; omega
      have hpl := pre_len hd pre
      rw [downE_get]
      simp only at hm' hn
      have hi := hit k.val
      have hr := hrep k.val
      have hd1 := dig_getD hd (d.length - 1 - k.val)
      have hi2 := itoa_len hd1.1 hd1.2
      have hsI := bs_size (Lib.itoa (d.getD (d.length - 1 - k.val) 0))
      have hsR := bs_size (Lib.repeatL [48] (9 - (Lib.itoa (d.getD (d.length - 1 - k.val) 0)).length))
      rw [Lib.repeatL_length] at hsR
      simp only [List.length_cons, List.length_nil] at hsR
      have hsX := bs_size (wrh neg d ++ pre.flatMap (fun k => chk d k.val))
      rw [List.length_append] at hsX
      have hB2 := hI
      rcases hI with ⟨g1, g2, p, hp, rfl⟩ | ⟨g1, j, hj1, hj2, rfl⟩
      · simp -implicitDefEqProofs (maxSteps := 1000000) (disch := omega) only [go_sem, ↓reduceIte]
        repeat' first | (refine AWp.regionXi (id := 12) 1 rfl rfl rfl (by rw [hc]; rfl) ?_; simp -implicitDefEqProofs (maxSteps := 1000000) (disch := omega) only [go_sem, ↓reduceIte, aB]) | (refine AWp.seq fun K hK => ?_) | ((first | refine AWp.region (by rw [hc]; rfl) ?_ | refine AWp.skip ?_ | refine AWp.exit ?_ | refine AWp.label ?_ | refine AWp.ret ?_ | refine appK_g ?_); simp -implicitDefEqProofs (maxSteps := 1000000) (disch := omega) only [go_sem, ↓reduceIte, aB]) | ((first | refine hK _ ?_ | (clear hK; first | refine hK _ ?_ | (clear hK; first | refine hK _ ?_ | (clear hK; refine hK _ ?_)))); clear hK) | (refine AWp.cond ?_; simp -implicitDefEqProofs (maxSteps := 1000000) (disch := omega) only [go_sem, ↓reduceIte, aB]; try (refine ⟨fun hlt => ?_, fun hlt => ?_⟩ <;> (try simp only [cla, clb, ne_eq, reduceCtorEq] at hlt) <;> (try exact hlt.elim))) | (refine AWp.block ?_) | ((first | refine gdO_split (fun hlt => ?_) (fun hlt => ?_) | refine tkO_split (fun hlt => ?_) (fun hlt => ?_) | refine opO_split (fun hlt => ?_) (fun hlt => ?_)) <;> have hgd := hlt <;> (try simp only [cla, clb, ne_eq, cld] at hlt) <;> (simp -implicitDefEqProofs (maxSteps := 1000000) (disch := omega) only [go_sem, ↓reduceIte, aB, hgd]) <;> clear hgd) | (with_reducible refine And.intro ?_ ?_; · first | omega | assumption | exact ⟨_, _, rfl, rfl⟩) | (refine ⟨_, hi, ?_⟩; try simp -implicitDefEqProofs (maxSteps := 1000000) (disch := omega) only [go_sem, ↓reduceIte, aB]) | (refine ⟨_, hr, ?_⟩; try simp -implicitDefEqProofs (maxSteps := 1000000) (disch := omega) only [go_sem, ↓reduceIte, aB]) | fail
        · have hkz : k.val ≠ 0 := by omega
          refine ⟨_, ws_po hB2 (by omega) (by rw [ByteArray.size_append]; omega) (by rw [ByteArray.size_append]; omega), ?_⟩
          rintro _ s1 n1 ⟨rfl, hB3⟩
          rw [bs_app, bs_app] at hB3
          show Bw (aB neg d) (bs (wrh neg d ++ List.flatMap (fun k => chk d k.val) (pre ++ [k]))) s1 n1
          simpa only [List.flatMap_append, List.flatMap_cons, List.flatMap_nil, List.append_nil, chk_s d hkz, List.append_assoc] using hB3
        · have hkz : k.val = 0 := by omega
          refine ⟨_, ws_po hB2 (by omega) (by omega) (by omega), ?_⟩
          rintro _ s1 n1 ⟨rfl, hB3⟩
          rw [bs_app] at hB3
          show Bw (aB neg d) (bs (wrh neg d ++ List.flatMap (fun k => chk d k.val) (pre ++ [k]))) s1 n1
          simpa only [List.flatMap_append, List.flatMap_cons, List.flatMap_nil, List.append_nil, hkz, chk_0, List.append_assoc] using hB3
      · have hj0 : ¬ j = 0 := by omega
        have hj3 : ¬ j = 1 := by omega
        simp -implicitDefEqProofs (maxSteps := 1000000) (disch := omega) only [go_sem, ↓reduceIte]
        repeat' first | (refine AWp.regionXi (id := 12) 1 rfl rfl rfl (by rw [hc]; rfl) ?_; simp -implicitDefEqProofs (maxSteps := 1000000) (disch := omega) only [go_sem, ↓reduceIte, aB, hj0, hj3]) | (refine AWp.seq fun K hK => ?_) | ((first | refine AWp.region (by rw [hc]; rfl) ?_ | refine AWp.skip ?_ | refine AWp.exit ?_ | refine AWp.label ?_ | refine AWp.ret ?_ | refine appK_g ?_); simp -implicitDefEqProofs (maxSteps := 1000000) (disch := omega) only [go_sem, ↓reduceIte, aB, hj0, hj3]) | ((first | refine hK _ ?_ | (clear hK; first | refine hK _ ?_ | (clear hK; first | refine hK _ ?_ | (clear hK; refine hK _ ?_)))); clear hK) | (refine AWp.cond ?_; simp -implicitDefEqProofs (maxSteps := 1000000) (disch := omega) only [go_sem, ↓reduceIte, aB, hj0, hj3]; try (refine ⟨fun hlt => ?_, fun hlt => ?_⟩ <;> (try simp only [cla, clb, ne_eq, reduceCtorEq] at hlt) <;> (try exact hlt.elim))) | (refine AWp.block ?_) | ((first | refine gdO_split (fun hlt => ?_) (fun hlt => ?_) | refine tkO_split (fun hlt => ?_) (fun hlt => ?_) | refine opO_split (fun hlt => ?_) (fun hlt => ?_)) <;> have hgd := hlt <;> (try simp only [cla, clb, ne_eq, cld] at hlt) <;> (simp -implicitDefEqProofs (maxSteps := 1000000) (disch := omega) only [go_sem, ↓reduceIte, aB, hj0, hj3, hgd]) <;> clear hgd) | (with_reducible refine And.intro ?_ ?_; · first | omega | assumption | exact ⟨_, _, rfl, rfl⟩) | (refine ⟨_, hi, ?_⟩; try simp -implicitDefEqProofs (maxSteps := 1000000) (disch := omega) only [go_sem, ↓reduceIte, aB, hj0, hj3]) | (refine ⟨_, hr, ?_⟩; try simp -implicitDefEqProofs (maxSteps := 1000000) (disch := omega) only [go_sem, ↓reduceIte, aB, hj0, hj3]) | fail
        · have hkz : k.val ≠ 0 := by omega
          refine ⟨_, ws_po hB2 (by omega) (by rw [ByteArray.size_append]; omega) (by rw [ByteArray.size_append]; omega), ?_⟩
          rintro _ s1 n1 ⟨rfl, hB3⟩
          rw [bs_app, bs_app] at hB3
          show Bw (aB neg d) (bs (wrh neg d ++ List.flatMap (fun k => chk d k.val) (pre ++ [k]))) s1 n1
          simpa only [List.flatMap_append, List.flatMap_cons, List.flatMap_nil, List.append_nil, chk_s d hkz, List.append_assoc] using hB3
        · have hkz : k.val = 0 := by omega
          refine ⟨_, ws_po hB2 (by omega) (by omega) (by omega), ?_⟩
          rintro _ s1 n1 ⟨rfl, hB3⟩
          rw [bs_app] at hB3
          show Bw (aB neg d) (bs (wrh neg d ++ List.flatMap (fun k => chk d k.val) (pre ++ [k]))) s1 n1
          simpa only [List.flatMap_append, List.flatMap_cons, List.flatMap_nil, List.append_nil, hkz, chk_0, List.append_assoc] using hB3
    · intro s n hI
      have hpos : 0 < (wrh neg d ++ (List.finRange (downE d).length).flatMap (fun k => chk d k.val)).length := by
        rw [fin_flat, hN]; exact wr_pos neg d hd
      rcases hI with ⟨h, _⟩ | ⟨g1, j, hj1, hj2, rfl⟩
      · rw [bs_size] at h; omega
      have hj0 : ¬ j = 0 := by omega
      have hj3 : ¬ j = 1 := by omega
      simp -implicitDefEqProofs (maxSteps := 1000000) (disch := omega) only [go_sem, ↓reduceIte]
      repeat' first | (refine AWp.regionXi (id := 13) 0 rfl rfl rfl (by rw [hc]; rfl) ?_; simp -implicitDefEqProofs (maxSteps := 1000000) (disch := omega) only [go_sem, ↓reduceIte, aB, hj0, hj3]) | (refine AWp.seq fun K hK => ?_) | ((first | refine AWp.region (by rw [hc]; rfl) ?_ | refine AWp.skip ?_ | refine AWp.exit ?_ | refine AWp.label ?_ | refine AWp.ret ?_ | refine appK_g ?_); simp -implicitDefEqProofs (maxSteps := 1000000) (disch := omega) only [go_sem, ↓reduceIte, aB, hj0, hj3]) | ((first | refine hK _ ?_ | (clear hK; first | refine hK _ ?_ | (clear hK; first | refine hK _ ?_ | (clear hK; refine hK _ ?_)))); clear hK) | (refine AWp.cond ?_; simp -implicitDefEqProofs (maxSteps := 1000000) (disch := omega) only [go_sem, ↓reduceIte, aB, hj0, hj3]; try (refine ⟨fun hlt => ?_, fun hlt => ?_⟩ <;> (try simp only [cla, clb, ne_eq, reduceCtorEq] at hlt) <;> (try exact hlt.elim))) | (refine AWp.block ?_) | ((first | refine gdO_split (fun hlt => ?_) (fun hlt => ?_) | refine tkO_split (fun hlt => ?_) (fun hlt => ?_) | refine opO_split (fun hlt => ?_) (fun hlt => ?_)) <;> have hgd := hlt <;> (try simp only [cla, clb, ne_eq, cld] at hlt) <;> (simp -implicitDefEqProofs (maxSteps := 1000000) (disch := omega) only [go_sem, ↓reduceIte, aB, hj0, hj3, hgd]) <;> clear hgd) | (with_reducible refine And.intro ?_ ?_; · first | omega | assumption | exact ⟨_, _, rfl, rfl⟩) | fail
      refine ⟨_, str_po (k := j) (p := .ptr 1 0) (x := bs (wrh neg d ++ (List.finRange (downE d).length).flatMap (fun k => chk d k.val))) ?_ ?_ g1 (by omega), ?_⟩
      · rw [Abs.get_cons, if_neg (by omega), Abs.get_cons, if_pos rfl]
      · rw [Abs.get_cons, if_pos rfl]
      rintro _ s1 n1 ⟨rfl, rfl, rfl⟩
      simp -implicitDefEqProofs (maxSteps := 1000000) (disch := omega) only [go_sem, ↓reduceIte]
      repeat' first | (refine AWp.seq fun K hK => ?_) | ((first | refine AWp.region (by rw [hc]; rfl) ?_ | refine AWp.skip ?_ | refine AWp.exit ?_ | refine AWp.label ?_ | refine AWp.ret ?_ | refine appK_g ?_); simp -implicitDefEqProofs (maxSteps := 1000000) (disch := omega) only [go_sem, ↓reduceIte]) | ((first | refine hK _ ?_ | (clear hK; first | refine hK _ ?_ | (clear hK; first | refine hK _ ?_ | (clear hK; refine hK _ ?_)))); clear hK) | (refine AWp.cond ?_; simp -implicitDefEqProofs (maxSteps := 1000000) (disch := omega) only [go_sem, ↓reduceIte]; try (refine ⟨fun hlt => ?_, fun hlt => ?_⟩ <;> (try simp only [cla, clb, ne_eq, reduceCtorEq] at hlt) <;> (try exact hlt.elim))) | (refine AWp.block ?_) | ((first | refine gdO_split (fun hlt => ?_) (fun hlt => ?_) | refine tkO_split (fun hlt => ?_) (fun hlt => ?_) | refine opO_split (fun hlt => ?_) (fun hlt => ?_)) <;> have hgd := hlt <;> (try simp only [cla, clb, ne_eq, cld] at hlt) <;> (simp -implicitDefEqProofs (maxSteps := 1000000) (disch := omega) only [go_sem, ↓reduceIte, hgd]) <;> clear hgd) | (with_reducible refine And.intro ?_ ?_; · first | omega | assumption | exact ⟨_, _, rfl, rfl⟩) | fail
      rw [fin_flat, hN]; rfl
    · intro code pre s n hpf hI
      exact hI.elim
end Go.Proofs.YthhjcfejgoddlaaGreatDoor
end

section
set_option linter.unusedSimpArgs false
set_option linter.unusedVariables false
set_option maxRecDepth 100000
namespace Go.Proofs.YthhjcfejgoddlaaGreatDoor
open Go Go.Abs Go.RowKit

/-- What digits say, behind what is said before. -/
def dv (acc : Nat) (l : List UInt8) : Nat := l.foldl (fun a c => a * 10 + (c.toNat - 48)) acc
theorem dv_nil (acc : Nat) : dv acc [] = acc := rfl
theorem dv_cons (acc : Nat) (c : UInt8) (r : List UInt8) : dv acc (c :: r) = dv (acc * 10 + (c.toNat - 48)) r := by simp only [dv, List.foldl_cons]
def isD (l : List UInt8) : Prop := ∀ c ∈ l, 48 ≤ c.toNat ∧ c.toNat ≤ 57
theorem isD_app {l m : List UInt8} : isD (l ++ m) ↔ isD l ∧ isD m := by
  simp only [isD, List.mem_append]
  exact ⟨fun h => ⟨fun c hc => h c (.inl hc), fun c hc => h c (.inr hc)⟩, fun h c hc => hc.elim (h.1 c) (h.2 c)⟩
theorem dv_app (l m : List UInt8) (acc : Nat) : dv acc (l ++ m) = dv (dv acc l) m := by simp only [dv, List.foldl_append]
theorem dv_ge : ∀ (l : List UInt8) (acc : Nat), acc ≤ dv acc l
  | [], _ => Nat.le_refl _
  | c :: l, acc => by simp only [dv_cons, dv_nil]; have := dv_ge l (acc * 10 + (c.toNat - 48)); omega
theorem parseM_ok (M : Nat) (hM : M < 18446744073709551616) : ∀ (l : List UInt8) (acc : Nat), isD l → dv acc l ≤ M → Lib.parseUintM M acc l = .ok (dv acc l)
  | [], acc, _, h => rfl
  | c :: l, acc, hd, h => by
    have hc := hd c (by simp)
    have hl : isD l := fun x hx => hd x (by simp [hx])
    have hge := dv_ge l (acc * 10 + (c.toNat - 48))
    rw [dv_cons] at h ⊢
    rw [Lib.parseUintM, if_pos hc, if_neg (by omega), if_neg (by omega)]
    exact parseM_ok M hM l _ hl h
theorem parseM_range (M : Nat) (hM : M < 18446744073709551616) : ∀ (l : List UInt8) (acc : Nat), isD l → acc ≤ M → M < dv acc l → Lib.parseUintM M acc l = .range
  | [], acc, _, h0, h => by rw [dv_nil] at h; omega
  | c :: l, acc, hd, h0, h => by
    have hc := hd c (by simp)
    have hl : isD l := fun x hx => hd x (by simp [hx])
    rw [dv_cons] at h
    rw [Lib.parseUintM, if_pos hc]
    split
    · rfl
    · split
      · rfl
      · exact parseM_range M hM l _ hl (by omega) h
theorem byte_ofNat {n : Nat} (h : n < 10) : (UInt8.ofNat (48 + n)).toNat = 48 + n := by
  rw [UInt8.toNat_ofNat']; omega
theorem dec_isD (u : Nat) : isD (Lib.decDigits u) := by
  induction u using Nat.strongRecOn with
  | _ u ih =>
    rw [Lib.decDigits]
    split
    · rename_i h
      intro c hc
      rw [List.mem_singleton.1 hc, byte_ofNat h]; omega
    · rename_i h
      refine isD_app.2 ⟨ih (u / 10) (by omega), fun c hc => ?_⟩
      rw [List.mem_singleton.1 hc, byte_ofNat (by omega)]; omega
theorem dec_dv (u : Nat) : ∀ acc, dv acc (Lib.decDigits u) = acc * 10 ^ (Lib.decDigits u).length + u := by
  induction u using Nat.strongRecOn with
  | _ u ih =>
    intro acc
    rw [Lib.decDigits]
    split
    · rename_i h
      simp only [dv_cons, dv_nil, byte_ofNat h, List.length_cons, List.length_nil]; omega
    · rename_i h
      rw [dv_app, ih (u / 10) (by omega)]
      simp only [dv_cons, dv_nil, byte_ofNat (show u % 10 < 10 by omega), List.length_append, List.length_cons, List.length_nil, Nat.zero_add]
      rw [Nat.pow_succ, Nat.add_mul, Nat.mul_assoc]
      omega
theorem rep_isD : ∀ c, isD (Lib.repeatL [48] c)
  | 0 => by intro x hx; simp [Lib.repeatL] at hx
  | c + 1 => by
    refine isD_app.2 ⟨fun x hx => ?_, rep_isD c⟩
    rw [List.mem_singleton.1 hx]; decide
theorem rep_dv : ∀ c acc, dv acc (Lib.repeatL [48] c) = acc * 10 ^ c
  | 0, acc => by simp [Lib.repeatL, dv_nil]
  | c + 1, acc => by
    rw [Lib.repeatL, dv_app, rep_dv c, Nat.pow_succ]
    simp only [dv_cons, dv_nil]
    rw [show (48 : UInt8).toNat = 48 from rfl, Nat.sub_self, Nat.add_zero, Nat.mul_assoc, Nat.mul_comm 10]
theorem itoa_dec {x : Int} (h : 0 ≤ x) : Lib.itoa x = Lib.decDigits x.toNat := by
  unfold Lib.itoa; rw [if_neg (by omega)]
theorem chk_isD {d : List Int} (hd : dig d) (k : Nat) : isD (chk d k) := by
  have h1 := dig_getD hd (d.length - 1 - k)
  unfold chk
  rw [itoa_dec h1.1]
  refine isD_app.2 ⟨?_, dec_isD _⟩
  split
  · intro c hc; simp at hc
  · exact rep_isD _
theorem chk_dv {d : List Int} (hd : dig d) (k acc : Nat) (h0 : k = 0 → acc = 0) : dv acc (chk d k) = acc * 1000000000 + (d.getD (d.length - 1 - k) 0).toNat := by
  have h1 := dig_getD hd (d.length - 1 - k)
  have h2 := itoa_len h1.1 h1.2
  unfold chk
  rw [itoa_dec h1.1] at h2 ⊢
  rw [dv_app, dec_dv]
  split
  · rename_i hk; rw [h0 hk]; simp [dv_nil]
  · rw [rep_dv, Nat.mul_assoc, ← Nat.pow_add, show 9 - (Lib.decDigits (d.getD (d.length - 1 - k) 0).toNat).length + (Lib.decDigits (d.getD (d.length - 1 - k) 0).toNat).length = 9 by omega]
theorem body_dv {d : List Int} (hd : dig d) : ∀ m, m ≤ d.length → ((dv 0 ((List.range m).flatMap (chk d)) : Nat) : Int) = val (d.drop (d.length - m))
  | 0, _ => by simp [dv_nil, val]
  | m + 1, h => by
    have ih := body_dv hd m (by omega)
    have h1 := dig_getD hd (d.length - 1 - m)
    rw [List.range_succ, List.flatMap_append, dv_app]
    simp only [List.flatMap_cons, List.flatMap_nil, List.append_nil]
    rw [chk_dv hd m _ (by rintro rfl; simp [dv_nil])]
    have e : d.drop (d.length - (m + 1)) = d.getD (d.length - 1 - m) 0 :: d.drop (d.length - m) := by
      have hlt : d.length - 1 - m < d.length := by omega
      rw [show d.length - (m + 1) = d.length - 1 - m by omega, List.drop_eq_getElem_cons hlt]
      rw [show d.length - 1 - m + 1 = d.length - m by omega]
      simp [List.getD, hlt]
    rw [e, val, ← ih]
    omega
theorem body_isD {d : List Int} (hd : dig d) : ∀ m, isD ((List.range m).flatMap (chk d))
  | 0 => by intro x hx; simp at hx
  | m + 1 => by
    rw [List.range_succ, List.flatMap_append]
    refine isD_app.2 ⟨body_isD hd m, ?_⟩
    simp only [List.flatMap_cons, List.flatMap_nil, List.append_nil]
    exact chk_isD hd m
end Go.Proofs.YthhjcfejgoddlaaGreatDoor
end

section
set_option linter.unusedSimpArgs false
set_option linter.unusedVariables false
set_option maxRecDepth 100000
namespace Go.Proofs.YthhjcfejgoddlaaGreatDoor
open Go Go.Abs Go.RowKit
attribute [local go_sem] wrap64 Int.tdiv_eq_ediv_of_nonneg Int.tmod_eq_emod_of_nonneg eq_self Bool.false_eq_true Bool.true_eq_false Bool.not_true Bool.not_false
attribute [local go_sem_proc] Nat.reduceAdd Nat.reduceMul Nat.reduceEqDiff Nat.reduceLT Nat.reduceLeDiff Int.reduceEq Int.reduceNeg Int.reduceToNat reduceCtorEq Int.reduceBNe Int.reduceBEq

theorem body_x {d : List Int} (hd : dig d) : ((dv 0 ((List.range d.length).flatMap (chk d)) : Nat) : Int) = val d := by
  rw [body_dv hd _ (Nat.le_refl _), Nat.sub_self, List.drop_zero]
theorem parse_body {l : List UInt8} (hl : isD l) (hne : l ≠ []) : Lib.parseUintB 64 l = if dv 0 l ≤ 18446744073709551615 then .ok (dv 0 l) else .range := by
  have hM : (2 : Nat) ^ 64 - 1 = 18446744073709551615 := by decide
  rw [Lib.parseUintB, if_neg hne, hM]
  split
  · rename_i h; exact parseM_ok _ (by decide) l 0 hl h
  · rename_i h; exact parseM_range _ (by decide) l 0 hl (by omega) (by omega)
theorem parse_wr (x : Int) : Lib.parseIntB 64 (wr (decide (x < 0)) (D x.natAbs)) = if -9223372036854775808 ≤ x ∧ x ≤ 9223372036854775807 then .ok x else .range := by
  have hd := dig_D x.natAbs
  have hb := body_x hd
  rw [val_D] at hb
  have hi := body_isD hd (D x.natAbs).length
  have hM : (2 : Nat) ^ (64 - 1) = 9223372036854775808 := by decide
  rcases Int.lt_trichotomy x 0 with h | h | h
  · have hne : D x.natAbs ≠ [] := by rw [ne_eq, D_nil]; omega
    have hpos := wr_pos false _ hd
    rw [wrh, if_neg hne, if_neg (by decide), List.nil_append, List.nil_append] at hpos
    rw [wr, wrh, if_neg hne, if_pos (by simpa using h), List.append_nil, List.cons_append, List.nil_append, Lib.parseIntB_minus, hM, parse_body hi (fun e => by rw [e] at hpos; simp at hpos)]
    generalize dv 0 ((List.range (D x.natAbs).length).flatMap (chk (D x.natAbs))) = u at *
    split
    · rename_i g
      simp only [Lib.signedC]
      split
      · rw [if_neg (by omega)]
      · rw [if_pos (by omega), show -(u : Int) = x by omega]
    · rw [if_neg (by omega)]; rfl
  · subst h
    rw [show (0 : Int).natAbs = 0 from rfl, D_zero]
    rw [show wr (decide ((0 : Int) < 0)) [] = [48] from rfl, if_pos (by omega)]
    rfl
  · have hne : D x.natAbs ≠ [] := by rw [ne_eq, D_nil]; omega
    have hpos := wr_pos false _ hd
    rw [wrh, if_neg hne, if_neg (by decide), List.nil_append, List.nil_append] at hpos
    rw [wr, wrh, if_neg hne, if_neg (by simpa using Int.le_of_lt h), List.append_nil, List.nil_append]
    have hpb := parse_body hi (fun e => by rw [e] at hpos; simp at hpos)
    generalize (List.range (D x.natAbs).length).flatMap (chk (D x.natAbs)) = l at *
    cases l with
    | nil => simp at hpos
    | cons c r =>
    have hc := hi c (by simp)
    rw [Lib.parseIntB_plain 64 c r (by omega) (by omega), hM, hpb]
    generalize dv 0 (c :: r) = u at *
    split
    · rename_i g
      simp only [Lib.signlessC]
      split
      · rw [if_neg (by omega)]
      · rw [if_pos (by omega), show (u : Int) = x by omega]
    · rw [if_neg (by omega)]; rfl

theorem below_bytes (w : World) (t : ByteArray) : Below w.heap.size w (Lib.bytesWorld w 5 t) := by
  refine ⟨rfl, rfl, rfl, ?_, fun k hk => Lib.bytesWorld_at_old w 5 t k hk⟩
  unfold Lib.bytesWorld World.freeze
  split <;> simp [World.alloc, World.drew, -World.alloc_eq, -World.drew_eq]

def pR (v : Option Int) (r : AV) : Prop := match v with
  | some v => r = .tup [I v, .dat .inil]
  | none => ∃ n cs, r = .tup [I n, .dat (.ifc 148 false cs)]
theorem parse_px (s : ByteArray) (h31 : s.size ≤ 1000000) (v : Option Int) (h : Lib.parseIntB 64 s.data.toList = match v with | some v => .ok v | none => .range) :
    PX Tryz.prog 95 [.dat (.str s), I 10, I 64] (pR v) (fun _ => False) := by
  refine PCr.px ⟨enters_of' Tryz.func95 rfl rfl, fun w A vs hgw hl hv => ?_⟩
  match vs, hl with
  | [v0, v1, v2], _ =>
  have g0 := hv 0 _ rfl
  have g1 := hv 1 _ rfl
  have g2 := hv 2 _ rfl
  simp only [List.getD_cons_zero, List.getD_cons_succ] at g0 g1 g2
  have e0 : v0 = .string s := by cases g0 with | dat _ _ hd => cases hd; rfl
  have e1 : v1 = .int .i64 10 := by cases g1 with | dat _ _ hd => cases hd; rfl
  have e2 : v2 = .int .i64 64 := by cases g2 with | dat _ _ hd => cases hd; rfl
  subst e0; subst e1; subst e2
  cases v with
  | some v =>
    refine (Tryz.strconv_ParseInt_10_at64_ok s (by omega) v h w).mono ?_
    rintro e w' ⟨rfl, hw⟩
    have hb : Below w.heap.size w w' := by
      rcases hw with rfl | ⟨t, rfl⟩
      · exact Below.refl _ _
      · exact below_bytes w t
    refine ⟨_, _, rfl, rfl, hb, .tup _ _ rfl (fun j y hj => ?_)⟩
    match j, hj with
    | 0, hj => simp at hj; subst hj; exact .dat _ _ (.int _ _)
    | 1, hj => simp at hj; subst hj; exact .dat _ _ .inil
    | j + 2, hj => simp at hj
  | none =>
    obtain ⟨tp, p, d, hvar, hrd⟩ := hgw.2.1
    refine (Tryz.strconv_ParseInt_10_at64_range_var s (by omega) h tp p w hvar).mono ?_
    rintro e w' ⟨N, rfl, hN, hh, hb⟩
    have kp : Keeps A w (fun b o => A b o ∨ w.heap.size ≤ b) w' := fun b o v ha hv => ⟨.inl ha, by rw [hb.cell (World.block_lt_of_cell? _ _ hv)]; exact hv⟩
    refine ⟨_, .tup [I (Lib.intSat 64 s.data.toList), .dat (.ifc 148 false [.cptr [.str ⟨#[80, 97, 114, 115, 101, 73, 110, 116]⟩, .str s, d]])], rfl, ⟨_, _, rfl⟩, hb, .tup _ _ rfl (fun j y hj => ?_)⟩
    match j, hj with
    | 0, hj => simp at hj; subst hj; exact .dat _ _ (.int _ _)
    | 1, hj =>
      simp at hj; subst hj
      refine .dat _ _ (.ifc 148 false _ [.pointer (some ⟨N, 0, none⟩)] rfl (fun _ => rfl) (fun q d' hq => ?_))
      match q, hq with
      | 0, hq =>
        simp at hq; subst hq
        refine .cptr _ N 0 (fun j => [Value.string ⟨#[80, 97, 114, 115, 101, 73, 110, 116]⟩, .string s, .iface tp p].getD j undef) (fun j hj => ⟨?_, .inr hN⟩) (fun j d' hj => ?_)
        · rw [Nat.zero_add, Lib.cell_of_heap hh]
          match j, hj with
          | 0, _ => rfl
          | 1, _ => rfl
          | 2, _ => rfl
          | j + 3, hj => simp at hj; omega
        · match j, hj with
          | 0, hj => simp at hj; subst hj; exact .str _
          | 1, hj => simp at hj; subst hj; exact .str _
          | 2, hj => simp at hj; subst hj; exact hrd.keep kp
          | j + 3, hj => simp at hj
      | q + 1, hq => simp at hq
    | j + 2, hj => simp at hj

def toIntR (x : Int) : AV := if -9223372036854775808 ≤ x ∧ x ≤ 9223372036854775807 then .tup [I x, I 0] else .tup [I 0, I 2]
theorem wr_len {neg : Bool} {d : List Int} (hd : dig d) : (wr neg d).length ≤ 2 + 9 * d.length := by
  have := wrh_ok neg d
  have h2 := pre_len hd (List.finRange d.length)
  rw [fin_flat, List.length_finRange] at h2
  rw [wr, List.length_append]; omega
set_option maxHeartbeats 2000000 in
theorem ToInt_ok (x : Int) (lx : lenZ x ≤ 40) : PC Tryz.prog 39 [Z x] (toIntR x) := by
  have hd := dig_D x.natAbs
  have hchk := Check_pc (decide (x < 0)) (D x.natAbs) (by unfold lenZ at lx; omega)
  rw [if_pos (okZ lx)] at hchk
  have hwr := written_pc (decide (x < 0)) (D x.natAbs) hd (by unfold lenZ at lx; omega) (fun h => by rw [ne_eq, D_nil]; simp at h; omega)
  have hpr := parse_wr x
  have hlen := wr_len (neg := decide (x < 0)) hd
  unfold lenZ at lx
  unfold toIntR
  split at hpr
  · rename_i hr
    rw [if_pos hr]
    have hp := parse_px (bs (wr (decide (x < 0)) (D x.natAbs))) (by rw [bs_size]; omega) (some x) (by rw [bs_toList]; exact hpr)
    refine PCr.pc (PCr.of tab_ok Tryz.func39 rfl rfl rfl fun c hc hm => ?_)
    rw [show Tryz.f39.ntmps = _ from Tryz.ntmps39] at hc
    simp only [Tryz.f39]
    repeat' first | (refine AWp.regionP (id := 4) 2 rfl rfl rfl (by rw [hc]; rfl) ?_; (try dsimp only [List.take_succ_cons, List.take_zero, List.drop_succ_cons, List.drop_zero]); simp -implicitDefEqProofs (maxSteps := 1000000) (disch := omega) only [go_sem, ↓reduceIte]) | (refine AWp.seq fun K hK => ?_) | ((first | refine AWp.region (by rw [hc]; rfl) ?_ | refine AWp.skip ?_ | refine AWp.exit ?_ | refine AWp.label ?_ | refine AWp.ret ?_ | refine appK_g ?_); simp -implicitDefEqProofs (maxSteps := 1000000) (disch := omega) only [go_sem, ↓reduceIte]) | ((first | refine hK _ ?_ | (clear hK; first | refine hK _ ?_ | (clear hK; first | refine hK _ ?_ | (clear hK; refine hK _ ?_)))); clear hK) | (refine AWp.cond ?_; simp -implicitDefEqProofs (maxSteps := 1000000) (disch := omega) only [go_sem, ↓reduceIte]; try (refine ⟨fun hlt => ?_, fun hlt => ?_⟩ <;> (try simp only [cla, clb, ne_eq, reduceCtorEq] at hlt) <;> (try exact hlt.elim))) | (refine AWp.block ?_) | ((first | refine gdO_split (fun hlt => ?_) (fun hlt => ?_) | refine tkO_split (fun hlt => ?_) (fun hlt => ?_) | refine opO_split (fun hlt => ?_) (fun hlt => ?_)) <;> have hgd := hlt <;> (try simp only [cla, clb, ne_eq, cld] at hlt) <;> (simp -implicitDefEqProofs (maxSteps := 1000000) (disch := omega) only [go_sem, ↓reduceIte, hgd]) <;> clear hgd) | (with_reducible refine And.intro ?_ ?_; · first | omega | assumption | exact ⟨_, _, rfl, rfl⟩) | ((first | refine ⟨_, hchk, ?_⟩); simp -implicitDefEqProofs (maxSteps := 1000000) (disch := omega) only [go_sem, ↓reduceIte]) | (refine ⟨_, hwr, ?_⟩; try simp -implicitDefEqProofs (maxSteps := 1000000) (disch := omega) only [go_sem, ↓reduceIte]) | fail
    refine ⟨_, _, hp, fun r hr => ?_, fun v hv => hv.elim⟩
    cases (show r = .tup [I x, .dat .inil] from hr)
    simp -implicitDefEqProofs (maxSteps := 1000000) (disch := omega) only [go_sem, ↓reduceIte]
    repeat' first | (refine AWp.seq fun K hK => ?_) | ((first | refine AWp.region (by rw [hc]; rfl) ?_ | refine AWp.skip ?_ | refine AWp.exit ?_ | refine AWp.label ?_ | refine AWp.ret ?_ | refine appK_g ?_); simp -implicitDefEqProofs (maxSteps := 1000000) (disch := omega) only [go_sem, ↓reduceIte, Bool.not_true, Bool.not_false]) | ((first | refine hK _ ?_ | (clear hK; first | refine hK _ ?_ | (clear hK; first | refine hK _ ?_ | (clear hK; refine hK _ ?_)))); clear hK) | (refine AWp.cond ?_; simp -implicitDefEqProofs (maxSteps := 1000000) (disch := omega) only [go_sem, ↓reduceIte, Bool.not_true, Bool.not_false]; try (refine ⟨fun hlt => ?_, fun hlt => ?_⟩ <;> (try simp only [cla, clb, ne_eq, reduceCtorEq] at hlt) <;> (try exact hlt.elim))) | (refine AWp.block ?_) | ((first | refine gdO_split (fun hlt => ?_) (fun hlt => ?_) | refine tkO_split (fun hlt => ?_) (fun hlt => ?_) | refine opO_split (fun hlt => ?_) (fun hlt => ?_)) <;> have hgd := hlt <;> (try simp only [cla, clb, ne_eq, cld] at hlt) <;> (simp -implicitDefEqProofs (maxSteps := 1000000) (disch := omega) only [go_sem, ↓reduceIte, Bool.not_true, Bool.not_false, hgd]) <;> clear hgd) | (with_reducible refine And.intro ?_ ?_; · first | omega | assumption | exact ⟨_, _, rfl, rfl⟩) | (refine ⟨⟨_, rfl⟩, ?_⟩) | fail
  · rename_i hr
    rw [if_neg hr]
    have hp := parse_px (bs (wr (decide (x < 0)) (D x.natAbs))) (by rw [bs_size]; omega) none (by rw [bs_toList]; exact hpr)
    refine PCr.pc (PCr.of tab_ok Tryz.func39 rfl rfl rfl fun c hc hm => ?_)
    rw [show Tryz.f39.ntmps = _ from Tryz.ntmps39] at hc
    simp only [Tryz.f39]
    repeat' first | (refine AWp.regionP (id := 4) 2 rfl rfl rfl (by rw [hc]; rfl) ?_; (try dsimp only [List.take_succ_cons, List.take_zero, List.drop_succ_cons, List.drop_zero]); simp -implicitDefEqProofs (maxSteps := 1000000) (disch := omega) only [go_sem, ↓reduceIte]) | (refine AWp.seq fun K hK => ?_) | ((first | refine AWp.region (by rw [hc]; rfl) ?_ | refine AWp.skip ?_ | refine AWp.exit ?_ | refine AWp.label ?_ | refine AWp.ret ?_ | refine appK_g ?_); simp -implicitDefEqProofs (maxSteps := 1000000) (disch := omega) only [go_sem, ↓reduceIte]) | ((first | refine hK _ ?_ | (clear hK; first | refine hK _ ?_ | (clear hK; first | refine hK _ ?_ | (clear hK; refine hK _ ?_)))); clear hK) | (refine AWp.cond ?_; simp -implicitDefEqProofs (maxSteps := 1000000) (disch := omega) only [go_sem, ↓reduceIte]; try (refine ⟨fun hlt => ?_, fun hlt => ?_⟩ <;> (try simp only [cla, clb, ne_eq, reduceCtorEq] at hlt) <;> (try exact hlt.elim))) | (refine AWp.block ?_) | ((first | refine gdO_split (fun hlt => ?_) (fun hlt => ?_) | refine tkO_split (fun hlt => ?_) (fun hlt => ?_) | refine opO_split (fun hlt => ?_) (fun hlt => ?_)) <;> have hgd := hlt <;> (try simp only [cla, clb, ne_eq, cld] at hlt) <;> (simp -implicitDefEqProofs (maxSteps := 1000000) (disch := omega) only [go_sem, ↓reduceIte, hgd]) <;> clear hgd) | (with_reducible refine And.intro ?_ ?_; · first | omega | assumption | exact ⟨_, _, rfl, rfl⟩) | ((first | refine ⟨_, hchk, ?_⟩); simp -implicitDefEqProofs (maxSteps := 1000000) (disch := omega) only [go_sem, ↓reduceIte]) | (refine ⟨_, hwr, ?_⟩; try simp -implicitDefEqProofs (maxSteps := 1000000) (disch := omega) only [go_sem, ↓reduceIte]) | fail
    refine ⟨_, _, hp, fun r hr => ?_, fun v hv => hv.elim⟩
    obtain ⟨q, cs, hq⟩ := (show ∃ n cs, r = .tup [I n, .dat (.ifc 148 false cs)] from hr)
    subst hq
    simp -implicitDefEqProofs (maxSteps := 1000000) (disch := omega) only [go_sem, ↓reduceIte]
    repeat' first | (refine AWp.seq fun K hK => ?_) | ((first | refine AWp.region (by rw [hc]; rfl) ?_ | refine AWp.skip ?_ | refine AWp.exit ?_ | refine AWp.label ?_ | refine AWp.ret ?_ | refine appK_g ?_); simp -implicitDefEqProofs (maxSteps := 1000000) (disch := omega) only [go_sem, ↓reduceIte, Bool.not_true, Bool.not_false]) | ((first | refine hK _ ?_ | (clear hK; first | refine hK _ ?_ | (clear hK; first | refine hK _ ?_ | (clear hK; refine hK _ ?_)))); clear hK) | (refine AWp.cond ?_; simp -implicitDefEqProofs (maxSteps := 1000000) (disch := omega) only [go_sem, ↓reduceIte, Bool.not_true, Bool.not_false]; try (refine ⟨fun hlt => ?_, fun hlt => ?_⟩ <;> (try simp only [cla, clb, ne_eq, reduceCtorEq] at hlt) <;> (try exact hlt.elim))) | (refine AWp.block ?_) | ((first | refine gdO_split (fun hlt => ?_) (fun hlt => ?_) | refine tkO_split (fun hlt => ?_) (fun hlt => ?_) | refine opO_split (fun hlt => ?_) (fun hlt => ?_)) <;> have hgd := hlt <;> (try simp only [cla, clb, ne_eq, cld] at hlt) <;> (simp -implicitDefEqProofs (maxSteps := 1000000) (disch := omega) only [go_sem, ↓reduceIte, Bool.not_true, Bool.not_false, hgd]) <;> clear hgd) | (with_reducible refine And.intro ?_ ?_; · first | omega | assumption | exact ⟨_, _, rfl, rfl⟩) | (refine ⟨⟨_, rfl⟩, ?_⟩) | fail

def textR (x : Int) : AV := .tup [.dat (.str (bs (wr (decide (x < 0)) (D x.natAbs)))), I 0]
theorem Text_ok (x : Int) (lx : lenZ x ≤ 40) : PC Tryz.prog 65 [Z x] (textR x) := by
  have hd := dig_D x.natAbs
  have hchk := Check_pc (decide (x < 0)) (D x.natAbs) (by unfold lenZ at lx; omega)
  rw [if_pos (okZ lx)] at hchk
  have hwr := written_pc (decide (x < 0)) (D x.natAbs) hd (by unfold lenZ at lx; omega) (fun h => by rw [ne_eq, D_nil]; simp at h; omega)
  refine PCr.pc (PCr.of tab_ok Tryz.func65 rfl rfl rfl fun c hc hm => ?_)
  rw [show Tryz.f65.ntmps = _ from Tryz.ntmps65] at hc
  simp only [Tryz.f65]
  repeat' first | (refine AWp.seq fun K hK => ?_) | ((first | refine AWp.region (by rw [hc]; rfl) ?_ | refine AWp.skip ?_ | refine AWp.exit ?_ | refine AWp.label ?_ | refine AWp.ret ?_ | refine appK_g ?_); simp -implicitDefEqProofs (maxSteps := 1000000) (disch := omega) only [go_sem, ↓reduceIte]) | ((first | refine hK _ ?_ | (clear hK; first | refine hK _ ?_ | (clear hK; first | refine hK _ ?_ | (clear hK; refine hK _ ?_)))); clear hK) | (refine AWp.cond ?_; simp -implicitDefEqProofs (maxSteps := 1000000) (disch := omega) only [go_sem, ↓reduceIte]; try (refine ⟨fun hlt => ?_, fun hlt => ?_⟩ <;> (try simp only [cla, clb, ne_eq, reduceCtorEq] at hlt) <;> (try exact hlt.elim))) | (refine AWp.block ?_) | ((first | refine gdO_split (fun hlt => ?_) (fun hlt => ?_) | refine tkO_split (fun hlt => ?_) (fun hlt => ?_) | refine opO_split (fun hlt => ?_) (fun hlt => ?_)) <;> have hgd := hlt <;> (try simp only [cla, clb, ne_eq, cld] at hlt) <;> (simp -implicitDefEqProofs (maxSteps := 1000000) (disch := omega) only [go_sem, ↓reduceIte, hgd]) <;> clear hgd) | (with_reducible refine And.intro ?_ ?_; · first | omega | assumption | exact ⟨_, _, rfl, rfl⟩) | ((first | refine ⟨_, hchk, ?_⟩); simp -implicitDefEqProofs (maxSteps := 1000000) (disch := omega) only [go_sem, ↓reduceIte]) | (refine ⟨_, hwr, ?_⟩; try simp -implicitDefEqProofs (maxSteps := 1000000) (disch := omega) only [go_sem, ↓reduceIte]) | fail
  rfl
end Go.Proofs.YthhjcfejgoddlaaGreatDoor
end

section
set_option linter.unusedSimpArgs false
set_option linter.unusedVariables false
set_option maxRecDepth 100000
namespace Go.Proofs.YthhjcfejgoddlaaGreatDoor
open Go Go.Abs
attribute [local go_sem] wrap64 Int.tdiv_eq_ediv_of_nonneg Int.tmod_eq_emod_of_nonneg eq_self Bool.false_eq_true Bool.true_eq_false Bool.not_true Bool.not_false
attribute [local go_sem_proc] Nat.reduceAdd Nat.reduceMul Nat.reduceEqDiff Nat.reduceLT Nat.reduceLeDiff Int.reduceEq Int.reduceNeg Int.reduceToNat reduceCtorEq Int.reduceBNe Int.reduceBEq

set_option maxHeartbeats 1000000 in
theorem powc_px (f : FuncId) (hf : f = 88 ∨ f = 90) (x n : Int) (hn : 0 ≤ n) (hn2 : n ≤ 9223372036854775807) (lx : lenZ x ≤ 40) :
    PX Tryz.prog f [.dat (cZ x), .dat (.cptr [.int .i64 n])] (fun r => r = Z (x ^ n.toNat) ∧ lenZ (x ^ n.toNat) ≤ 40) (fun v => v = tlV ∧ 40 < lenZ (x ^ n.toNat)) := by
  have hp := power_px x n hn hn2 lx
  rcases hf with rfl | rfl
  case inl =>
    refine PX.of tab_ok Tryz.func88 rfl rfl rfl fun c hc hm => ?_
    rw [show Tryz.f88.ntmps = _ from Tryz.ntmps88] at hc
    simp only [Tryz.f88]
    simp only [cZ]
    repeat' first | (refine AWp.regionP (id := 1) 2 rfl rfl rfl (by rw [hc]; rfl) ?_; (try dsimp only [List.take_succ_cons, List.take_zero, List.drop_succ_cons, List.drop_zero]); simp -implicitDefEqProofs (maxSteps := 1000000) (disch := omega) only [go_sem, ↓reduceIte]) | (refine AWp.seq fun K hK => ?_) | ((first | refine AWp.region (by rw [hc]; rfl) ?_ | refine AWp.skip ?_ | refine AWp.exit ?_ | refine AWp.label ?_ | refine AWp.ret ?_ | refine appK_g ?_); simp -implicitDefEqProofs (maxSteps := 1000000) (disch := omega) only [go_sem, ↓reduceIte]) | ((first | refine hK _ ?_ | (clear hK; first | refine hK _ ?_ | (clear hK; first | refine hK _ ?_ | (clear hK; refine hK _ ?_)))); clear hK) | (refine AWp.cond ?_; simp -implicitDefEqProofs (maxSteps := 1000000) (disch := omega) only [go_sem, ↓reduceIte]; try (refine ⟨fun hlt => ?_, fun hlt => ?_⟩ <;> (try simp only [cla, clb, ne_eq, reduceCtorEq] at hlt) <;> (try exact hlt.elim))) | (refine AWp.block ?_) | ((first | refine gdO_split (fun hlt => ?_) (fun hlt => ?_) | refine tkO_split (fun hlt => ?_) (fun hlt => ?_) | refine opO_split (fun hlt => ?_) (fun hlt => ?_)) <;> have hgd := hlt <;> (try simp only [cla, clb, ne_eq, cld] at hlt) <;> (simp -implicitDefEqProofs (maxSteps := 1000000) (disch := omega) only [go_sem, ↓reduceIte, hgd]) <;> clear hgd) | (with_reducible refine And.intro ?_ ?_; · first | omega | assumption | exact ⟨_, _, rfl, rfl⟩) | fail
    refine ⟨_, _, hp, fun r hr => ?_, fun v hv => ?_⟩
    · obtain ⟨rfl, hl⟩ := hr
      simp -implicitDefEqProofs (maxSteps := 1000000) (disch := omega) only [go_sem, ↓reduceIte]
      repeat' first | (refine AWp.seq fun K hK => ?_) | ((first | refine AWp.region (by rw [hc]; rfl) ?_ | refine AWp.skip ?_ | refine AWp.exit ?_ | refine AWp.label ?_ | refine AWp.ret ?_ | refine appK_g ?_); simp -implicitDefEqProofs (maxSteps := 1000000) (disch := omega) only [go_sem, ↓reduceIte]) | ((first | refine hK _ ?_ | (clear hK; first | refine hK _ ?_ | (clear hK; first | refine hK _ ?_ | (clear hK; refine hK _ ?_)))); clear hK) | (refine AWp.cond ?_; simp -implicitDefEqProofs (maxSteps := 1000000) (disch := omega) only [go_sem, ↓reduceIte]; try (refine ⟨fun hlt => ?_, fun hlt => ?_⟩ <;> (try simp only [cla, clb, ne_eq, reduceCtorEq] at hlt) <;> (try exact hlt.elim))) | (refine AWp.block ?_) | ((first | refine gdO_split (fun hlt => ?_) (fun hlt => ?_) | refine tkO_split (fun hlt => ?_) (fun hlt => ?_) | refine opO_split (fun hlt => ?_) (fun hlt => ?_)) <;> have hgd := hlt <;> (try simp only [cla, clb, ne_eq, cld] at hlt) <;> (simp -implicitDefEqProofs (maxSteps := 1000000) (disch := omega) only [go_sem, ↓reduceIte, hgd]) <;> clear hgd) | (with_reducible refine And.intro ?_ ?_; · first | omega | assumption | exact ⟨_, _, rfl, rfl⟩) | fail
      exact hl
    · exact hv
  case inr =>
    refine PX.of tab_ok Tryz.func90 rfl rfl rfl fun c hc hm => ?_
    rw [show Tryz.f90.ntmps = _ from Tryz.ntmps90] at hc
    simp only [Tryz.f90]
    simp only [cZ]
    repeat' first | (refine AWp.regionP (id := 1) 2 rfl rfl rfl (by rw [hc]; rfl) ?_; (try dsimp only [List.take_succ_cons, List.take_zero, List.drop_succ_cons, List.drop_zero]); simp -implicitDefEqProofs (maxSteps := 1000000) (disch := omega) only [go_sem, ↓reduceIte]) | (refine AWp.seq fun K hK => ?_) | ((first | refine AWp.region (by rw [hc]; rfl) ?_ | refine AWp.skip ?_ | refine AWp.exit ?_ | refine AWp.label ?_ | refine AWp.ret ?_ | refine appK_g ?_); simp -implicitDefEqProofs (maxSteps := 1000000) (disch := omega) only [go_sem, ↓reduceIte]) | ((first | refine hK _ ?_ | (clear hK; first | refine hK _ ?_ | (clear hK; first | refine hK _ ?_ | (clear hK; refine hK _ ?_)))); clear hK) | (refine AWp.cond ?_; simp -implicitDefEqProofs (maxSteps := 1000000) (disch := omega) only [go_sem, ↓reduceIte]; try (refine ⟨fun hlt => ?_, fun hlt => ?_⟩ <;> (try simp only [cla, clb, ne_eq, reduceCtorEq] at hlt) <;> (try exact hlt.elim))) | (refine AWp.block ?_) | ((first | refine gdO_split (fun hlt => ?_) (fun hlt => ?_) | refine tkO_split (fun hlt => ?_) (fun hlt => ?_) | refine opO_split (fun hlt => ?_) (fun hlt => ?_)) <;> have hgd := hlt <;> (try simp only [cla, clb, ne_eq, cld] at hlt) <;> (simp -implicitDefEqProofs (maxSteps := 1000000) (disch := omega) only [go_sem, ↓reduceIte, hgd]) <;> clear hgd) | (with_reducible refine And.intro ?_ ?_; · first | omega | assumption | exact ⟨_, _, rfl, rfl⟩) | fail
    refine ⟨_, _, hp, fun r hr => ?_, fun v hv => ?_⟩
    · obtain ⟨rfl, hl⟩ := hr
      simp -implicitDefEqProofs (maxSteps := 1000000) (disch := omega) only [go_sem, ↓reduceIte]
      repeat' first | (refine AWp.seq fun K hK => ?_) | ((first | refine AWp.region (by rw [hc]; rfl) ?_ | refine AWp.skip ?_ | refine AWp.exit ?_ | refine AWp.label ?_ | refine AWp.ret ?_ | refine appK_g ?_); simp -implicitDefEqProofs (maxSteps := 1000000) (disch := omega) only [go_sem, ↓reduceIte]) | ((first | refine hK _ ?_ | (clear hK; first | refine hK _ ?_ | (clear hK; first | refine hK _ ?_ | (clear hK; refine hK _ ?_)))); clear hK) | (refine AWp.cond ?_; simp -implicitDefEqProofs (maxSteps := 1000000) (disch := omega) only [go_sem, ↓reduceIte]; try (refine ⟨fun hlt => ?_, fun hlt => ?_⟩ <;> (try simp only [cla, clb, ne_eq, reduceCtorEq] at hlt) <;> (try exact hlt.elim))) | (refine AWp.block ?_) | ((first | refine gdO_split (fun hlt => ?_) (fun hlt => ?_) | refine tkO_split (fun hlt => ?_) (fun hlt => ?_) | refine opO_split (fun hlt => ?_) (fun hlt => ?_)) <;> have hgd := hlt <;> (try simp only [cla, clb, ne_eq, cld] at hlt) <;> (simp -implicitDefEqProofs (maxSteps := 1000000) (disch := omega) only [go_sem, ↓reduceIte, hgd]) <;> clear hgd) | (with_reducible refine And.intro ?_ ?_; · first | omega | assumption | exact ⟨_, _, rfl, rfl⟩) | fail
      exact hl
    · exact hv

theorem powered (f : FuncId) (hf : f = 88 ∨ f = 90) (x n : Int) (hn : 0 ≤ n) (hn2 : n ≤ 9223372036854775807) (lx : lenZ x ≤ 40) : PC Tryz.prog 83 [.dat (.fn f [cZ x, .cptr [.int .i64 n]])] (limR (x ^ n.toNat)) := by
  have h1 := limited_pc f [cZ x, .cptr [.int .i64 n]] (fun z => z = x ^ n.toNat ∧ lenZ (x ^ n.toNat) ≤ 40) (40 < lenZ (x ^ n.toNat)) ((powc_px f hf x n hn hn2 lx).mono (fun r ⟨h, h'⟩ => ⟨_, h, rfl, h'⟩) (fun v hv => hv))
  exact ⟨h1.1, fun w A vs hg hl hv => (h1.2 w A vs hg hl hv).mono fun e w' ⟨v, r, he, hr, hb, hrv⟩ => ⟨v, he, hb, by
    rcases hr with ⟨y, ⟨rfl, hy⟩, rfl⟩ | ⟨h, rfl⟩
    · exact hrv
    · rw [limR, if_neg (by omega)]; exact hrv⟩⟩

set_option exponentiation.threshold 2000
theorem two_big : Bp 40 ≤ 2 ^ 1200 := by decide +kernel
theorem pow_nat_abs (x : Int) (n : Nat) : (x ^ n).natAbs = x.natAbs ^ n := Int.natAbs_pow x n
theorem huge {x : Int} {n : Nat} (hx : 2 ≤ x.natAbs) (hn : 1200 ≤ n) : 40 < lenZ (x ^ n) := by
  rcases Nat.lt_or_ge 40 (lenZ (x ^ n)) with h | h
  · exact h
  · exfalso
    have h1 := D_len (x ^ n).natAbs
    have h2 : Bp (D (x ^ n).natAbs).length ≤ Bp 40 := Bp_mono h
    have h3 : (2 : Nat) ^ 1200 ≤ (x ^ n).natAbs := by
      rw [pow_nat_abs]
      exact Nat.le_trans (Nat.pow_le_pow_left hx 1200) (Nat.pow_le_pow_right (by omega) hn)
    have h4 := two_big
    have h5 : (((2 : Nat) ^ 1200 : Nat) : Int) = (2 : Int) ^ 1200 := by rw [Int.natCast_pow]; rfl
    generalize (2 : Nat) ^ 1200 = q at *
    generalize (2 : Int) ^ 1200 = q' at *
    omega
theorem unit_Z (x : Int) (lx : lenZ x ≤ 1000000) : PC Tryz.prog 87 [Z x] (B (decide (x.natAbs ≤ 1))) := by
  have h := unit_pc (decide (x < 0)) (D x.natAbs) lx
  have e : decide (D x.natAbs = [] ∨ D x.natAbs = [1]) = decide (x.natAbs ≤ 1) := by
    have h1 := val_D x.natAbs
    have h2 := D_nil (n := x.natAbs)
    refine decide_eq_decide.2 ⟨fun h => ?_, fun h => ?_⟩
    · rcases h with h | h
      · have := h2.1 h; omega
      · rw [h] at h1; simp [val] at h1; omega
    · by_cases hz : x.natAbs = 0
      · exact .inl (h2.2 hz)
      · right; rw [show x.natAbs = 1 by omega, D_1]
  rw [e] at h; exact h

def powR (x y : Int) : AV := if y < 0 then .tup [Zr false [], I 1] else limR (x ^ y.toNat)
theorem unit_pow {x y : Int} (hx : x.natAbs ≤ 1) (hy : 0 < y) : x ^ (2 - y % 2).toNat = x ^ y.toNat := by
  have h3 : x = 0 ∨ x = 1 ∨ x = -1 := by omega
  rcases h3 with rfl | rfl | rfl
  · rw [Int.zero_pow (by omega), Int.zero_pow (by omega)]
  · rw [Int.one_pow, Int.one_pow]
  · obtain ⟨k, hk⟩ : ∃ k, y.toNat = 2 * k + (y % 2).toNat := ⟨(y / 2).toNat, by omega⟩
    rw [hk, Int.pow_add, Int.pow_mul, show (-1 : Int) ^ 2 = 1 from rfl, Int.one_pow, Int.one_mul]
    rcases Int.emod_two_eq y with h | h <;> rw [h] <;> rfl
theorem D_par {n : Nat} (h : n ≠ 0) : (D n).getD 0 0 = ((n % 1000000000 : Nat) : Int) := by
  rw [D_pos h]; rfl
set_option maxHeartbeats 4000000 in
theorem Pow_ok (x y : Int) (lx : lenZ x ≤ 40) (ly : lenZ y ≤ 40) : PC Tryz.prog 30 [Z x, Z y] (powR x y) := by
  have hare := are_pc [(decide (x < 0), D x.natAbs), (decide (y < 0), D y.natAbs)] (by simp) (by intro z hz; unfold lenZ at lx ly; simp at hz; rcases hz with rfl | rfl <;> simp <;> omega)
  rw [if_pos (by intro z hz; simp at hz; rcases hz with rfl | rfl; exact okZ lx; exact okZ ly), LZ2] at hare
  have hun := unit_Z x (by omega)
  have hti := ToInt_ok y ly
  have hl := D_nil (n := y.natAbs)
  unfold powR
  rcases Int.lt_or_le y 0 with hy | hy
  · rw [if_pos hy]
    have e1 : decide (y < 0) = true := decide_eq_true hy
    rw [e1] at hare
    refine PCr.pc (PCr.of tab_ok Tryz.func30 rfl rfl rfl fun c hc hm => ?_)
    rw [show Tryz.f30.ntmps = _ from Tryz.ntmps30] at hc
    simp only [Tryz.f30]
    repeat' first | (refine AWp.seq fun K hK => ?_) | ((first | refine AWp.region (by rw [hc]; rfl) ?_ | refine AWp.skip ?_ | refine AWp.exit ?_ | refine AWp.label ?_ | refine AWp.ret ?_ | refine appK_g ?_); simp -implicitDefEqProofs (maxSteps := 1000000) (disch := omega) only [go_sem, ↓reduceIte, e1]) | ((first | refine hK _ ?_ | (clear hK; first | refine hK _ ?_ | (clear hK; first | refine hK _ ?_ | (clear hK; refine hK _ ?_)))); clear hK) | (refine AWp.cond ?_; simp -implicitDefEqProofs (maxSteps := 1000000) (disch := omega) only [go_sem, ↓reduceIte, e1]; try (refine ⟨fun hlt => ?_, fun hlt => ?_⟩ <;> (try simp only [cla, clb, ne_eq, reduceCtorEq] at hlt) <;> (try exact hlt.elim))) | (refine AWp.block ?_) | ((first | refine gdO_split (fun hlt => ?_) (fun hlt => ?_) | refine tkO_split (fun hlt => ?_) (fun hlt => ?_) | refine opO_split (fun hlt => ?_) (fun hlt => ?_)) <;> have hgd := hlt <;> (try simp only [cla, clb, ne_eq, cld] at hlt) <;> (simp -implicitDefEqProofs (maxSteps := 1000000) (disch := omega) only [go_sem, ↓reduceIte, e1, hgd]) <;> clear hgd) | (with_reducible refine And.intro ?_ ?_; · first | omega | assumption | exact ⟨_, _, rfl, rfl⟩) | ((first | refine ⟨_, hare, ?_⟩); simp -implicitDefEqProofs (maxSteps := 1000000) (disch := omega) only [go_sem, ↓reduceIte, e1]) | fail
  · rw [if_neg (by omega)]
    have e1 : decide (y < 0) = false := decide_eq_false (by omega)
    rw [e1] at hare
    by_cases hx : x.natAbs ≤ 1
    · have e2 : decide (x.natAbs ≤ 1) = true := decide_eq_true hx
      rw [e2] at hun
      by_cases hy0 : y = 0
      · have hl0 := hl.2 (show y.natAbs = 0 by omega)
        have hm0 : min ((D y.natAbs).length : Int) 1 = 0 := by rw [hl0]; rfl
        have hp := powered 88 (.inl rfl) x 0 (by omega) (by omega) lx
        rw [show (0 : Int).toNat = 0 from rfl] at hp
        rw [show y.toNat = 0 by omega]
        rcases limR_cases (x ^ 0) with hk | hk
        all_goals
          rw [hk] at hp ⊢
          refine PCr.pc (PCr.of tab_ok Tryz.func30 rfl rfl rfl fun c hc hm => ?_)
          rw [show Tryz.f30.ntmps = _ from Tryz.ntmps30] at hc
          simp only [Tryz.f30]
          repeat' first | (refine AWp.seq fun K hK => ?_) | ((first | refine AWp.region (by rw [hc]; rfl) ?_ | refine AWp.skip ?_ | refine AWp.exit ?_ | refine AWp.label ?_ | refine AWp.ret ?_ | refine appK_g ?_); simp -implicitDefEqProofs (maxSteps := 1000000) (disch := omega) only [go_sem, ↓reduceIte, Int.reduceBEq, e1, hm0]) | ((first | refine hK _ ?_ | (clear hK; first | refine hK _ ?_ | (clear hK; first | refine hK _ ?_ | (clear hK; refine hK _ ?_)))); clear hK) | (refine AWp.cond ?_; simp -implicitDefEqProofs (maxSteps := 1000000) (disch := omega) only [go_sem, ↓reduceIte, Int.reduceBEq, e1, hm0]; try (refine ⟨fun hlt => ?_, fun hlt => ?_⟩ <;> (try simp only [cla, clb, ne_eq, reduceCtorEq] at hlt) <;> (try exact hlt.elim))) | (refine AWp.block ?_) | ((first | refine gdO_split (fun hlt => ?_) (fun hlt => ?_) | refine tkO_split (fun hlt => ?_) (fun hlt => ?_) | refine opO_split (fun hlt => ?_) (fun hlt => ?_)) <;> have hgd := hlt <;> (try simp only [cla, clb, ne_eq, cld] at hlt) <;> (simp -implicitDefEqProofs (maxSteps := 1000000) (disch := omega) only [go_sem, ↓reduceIte, Int.reduceBEq, e1, hm0, hgd]) <;> clear hgd) | (with_reducible refine And.intro ?_ ?_; · first | omega | assumption | exact ⟨_, _, rfl, rfl⟩) | ((first | refine ⟨_, hare, ?_⟩ | refine ⟨_, hp, ?_⟩); simp -implicitDefEqProofs (maxSteps := 1000000) (disch := omega) only [go_sem, ↓reduceIte, Int.reduceBEq, e1, hm0]) | (refine ⟨_, hun, ?_⟩; try simp -implicitDefEqProofs (maxSteps := 1000000) (disch := omega) only [go_sem, ↓reduceIte, Int.reduceBEq, e1, hm0]) | fail
      · have hl0 : 0 < (D y.natAbs).length := D_len_pos.2 (by omega)
        have hm0 : min ((D y.natAbs).length : Int) 1 = 1 := by omega
        have hd0 := D_par (show y.natAbs ≠ 0 by omega)
        have hge : 0 ≤ (D y.natAbs).getD 0 0 := by omega
        have hpar : (D y.natAbs).getD 0 0 % 2 = y % 2 := by omega
        have hp := powered 88 (.inl rfl) x (2 - (D y.natAbs).getD 0 0 % 2) (by omega) (by omega) lx
        rw [show x ^ (2 - (D y.natAbs).getD 0 0 % 2).toNat = x ^ y.toNat by rw [hpar]; exact unit_pow hx (by omega)] at hp
        rcases limR_cases (x ^ y.toNat) with hk | hk
        all_goals
          rw [hk] at hp ⊢
          refine PCr.pc (PCr.of tab_ok Tryz.func30 rfl rfl rfl fun c hc hm => ?_)
          rw [show Tryz.f30.ntmps = _ from Tryz.ntmps30] at hc
          simp only [Tryz.f30]
          repeat' first | (refine AWp.seq fun K hK => ?_) | ((first | refine AWp.region (by rw [hc]; rfl) ?_ | refine AWp.skip ?_ | refine AWp.exit ?_ | refine AWp.label ?_ | refine AWp.ret ?_ | refine appK_g ?_); simp -implicitDefEqProofs (maxSteps := 1000000) (disch := omega) only [go_sem, ↓reduceIte, Int.reduceBEq, e1, hm0]) | ((first | refine hK _ ?_ | (clear hK; first | refine hK _ ?_ | (clear hK; first | refine hK _ ?_ | (clear hK; refine hK _ ?_)))); clear hK) | (refine AWp.cond ?_; simp -implicitDefEqProofs (maxSteps := 1000000) (disch := omega) only [go_sem, ↓reduceIte, Int.reduceBEq, e1, hm0]; try (refine ⟨fun hlt => ?_, fun hlt => ?_⟩ <;> (try simp only [cla, clb, ne_eq, reduceCtorEq] at hlt) <;> (try exact hlt.elim))) | (refine AWp.block ?_) | ((first | refine gdO_split (fun hlt => ?_) (fun hlt => ?_) | refine tkO_split (fun hlt => ?_) (fun hlt => ?_) | refine opO_split (fun hlt => ?_) (fun hlt => ?_)) <;> have hgd := hlt <;> (try simp only [cla, clb, ne_eq, cld] at hlt) <;> (simp -implicitDefEqProofs (maxSteps := 1000000) (disch := omega) only [go_sem, ↓reduceIte, Int.reduceBEq, e1, hm0, hgd]) <;> clear hgd) | (with_reducible refine And.intro ?_ ?_; · first | omega | assumption | exact ⟨_, _, rfl, rfl⟩) | ((first | refine ⟨_, hare, ?_⟩ | refine ⟨_, hp, ?_⟩); simp -implicitDefEqProofs (maxSteps := 1000000) (disch := omega) only [go_sem, ↓reduceIte, Int.reduceBEq, e1, hm0]) | (refine ⟨_, hun, ?_⟩; try simp -implicitDefEqProofs (maxSteps := 1000000) (disch := omega) only [go_sem, ↓reduceIte, Int.reduceBEq, e1, hm0]) | fail
    · have e2 : decide (x.natAbs ≤ 1) = false := decide_eq_false hx
      rw [e2] at hun
      have hti : PC Tryz.prog 39 [Zr false (D y.natAbs)] (toIntR y) := by
        have h := hti
        unfold Z at h
        rwa [e1] at h
      unfold toIntR at hti
      by_cases hr : y ≤ 9223372036854775807
      · rw [if_pos (by omega)] at hti
        have hp := powered 90 (.inr rfl) x y hy hr lx
        rcases limR_cases (x ^ y.toNat) with hk | hk
        all_goals
          rw [hk] at hp ⊢
          refine PCr.pc (PCr.of tab_ok Tryz.func30 rfl rfl rfl fun c hc hm => ?_)
          rw [show Tryz.f30.ntmps = _ from Tryz.ntmps30] at hc
          simp only [Tryz.f30]
          repeat' first | (refine AWp.seq fun K hK => ?_) | ((first | refine AWp.region (by rw [hc]; rfl) ?_ | refine AWp.skip ?_ | refine AWp.exit ?_ | refine AWp.label ?_ | refine AWp.ret ?_ | refine appK_g ?_); simp -implicitDefEqProofs (maxSteps := 1000000) (disch := omega) only [go_sem, ↓reduceIte, Int.reduceBEq, e1]) | ((first | refine hK _ ?_ | (clear hK; first | refine hK _ ?_ | (clear hK; first | refine hK _ ?_ | (clear hK; refine hK _ ?_)))); clear hK) | (refine AWp.cond ?_; simp -implicitDefEqProofs (maxSteps := 1000000) (disch := omega) only [go_sem, ↓reduceIte, Int.reduceBEq, e1]; try (refine ⟨fun hlt => ?_, fun hlt => ?_⟩ <;> (try simp only [cla, clb, ne_eq, reduceCtorEq] at hlt) <;> (try exact hlt.elim))) | (refine AWp.block ?_) | ((first | refine gdO_split (fun hlt => ?_) (fun hlt => ?_) | refine tkO_split (fun hlt => ?_) (fun hlt => ?_) | refine opO_split (fun hlt => ?_) (fun hlt => ?_)) <;> have hgd := hlt <;> (try simp only [cla, clb, ne_eq, cld] at hlt) <;> (simp -implicitDefEqProofs (maxSteps := 1000000) (disch := omega) only [go_sem, ↓reduceIte, Int.reduceBEq, e1, hgd]) <;> clear hgd) | (with_reducible refine And.intro ?_ ?_; · first | omega | assumption | exact ⟨_, _, rfl, rfl⟩) | ((first | refine ⟨_, hare, ?_⟩ | refine ⟨_, hti, ?_⟩ | refine ⟨_, hp, ?_⟩); simp -implicitDefEqProofs (maxSteps := 1000000) (disch := omega) only [go_sem, ↓reduceIte, Int.reduceBEq, e1]) | (refine ⟨_, hun, ?_⟩; try simp -implicitDefEqProofs (maxSteps := 1000000) (disch := omega) only [go_sem, ↓reduceIte, Int.reduceBEq, e1]) | fail
      · rw [if_neg (by omega)] at hti
        have hbig := huge (x := x) (n := y.toNat) (by omega) (by omega)
        rw [limR, if_neg (by omega)]
        refine PCr.pc (PCr.of tab_ok Tryz.func30 rfl rfl rfl fun c hc hm => ?_)
        rw [show Tryz.f30.ntmps = _ from Tryz.ntmps30] at hc
        simp only [Tryz.f30]
        repeat' first | (refine AWp.seq fun K hK => ?_) | ((first | refine AWp.region (by rw [hc]; rfl) ?_ | refine AWp.skip ?_ | refine AWp.exit ?_ | refine AWp.label ?_ | refine AWp.ret ?_ | refine appK_g ?_); simp -implicitDefEqProofs (maxSteps := 1000000) (disch := omega) only [go_sem, ↓reduceIte, Int.reduceBEq, e1]) | ((first | refine hK _ ?_ | (clear hK; first | refine hK _ ?_ | (clear hK; first | refine hK _ ?_ | (clear hK; refine hK _ ?_)))); clear hK) | (refine AWp.cond ?_; simp -implicitDefEqProofs (maxSteps := 1000000) (disch := omega) only [go_sem, ↓reduceIte, Int.reduceBEq, e1]; try (refine ⟨fun hlt => ?_, fun hlt => ?_⟩ <;> (try simp only [cla, clb, ne_eq, reduceCtorEq] at hlt) <;> (try exact hlt.elim))) | (refine AWp.block ?_) | ((first | refine gdO_split (fun hlt => ?_) (fun hlt => ?_) | refine tkO_split (fun hlt => ?_) (fun hlt => ?_) | refine opO_split (fun hlt => ?_) (fun hlt => ?_)) <;> have hgd := hlt <;> (try simp only [cla, clb, ne_eq, cld] at hlt) <;> (simp -implicitDefEqProofs (maxSteps := 1000000) (disch := omega) only [go_sem, ↓reduceIte, Int.reduceBEq, e1, hgd]) <;> clear hgd) | (with_reducible refine And.intro ?_ ?_; · first | omega | assumption | exact ⟨_, _, rfl, rfl⟩) | ((first | refine ⟨_, hare, ?_⟩ | refine ⟨_, hti, ?_⟩); simp -implicitDefEqProofs (maxSteps := 1000000) (disch := omega) only [go_sem, ↓reduceIte, Int.reduceBEq, e1]) | (refine ⟨_, hun, ?_⟩; try simp -implicitDefEqProofs (maxSteps := 1000000) (disch := omega) only [go_sem, ↓reduceIte, Int.reduceBEq, e1]) | fail
end Go.Proofs.YthhjcfejgoddlaaGreatDoor
end
