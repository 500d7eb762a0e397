/- The contract of the law's function. -/
import Derived.Test.YthhjcfejgoddlaaGreatDoorKd
import Derived.Test.YthhjcfejgoddlaaGreatDoorSb
import Derived.Test.YthhjcfejgoddlaaGreatDoorSc
import Derived.Laws.BytesString
import Derived.Lib.DecodeN
import Derived.Test.YthhjcfejgoddlaaGreatDoorSa
import Derived.OwnWalkIn
import Derived.TacticsInMore
import Derived.LoopNIn
import Derived.LoopIn
import Derived.BigRegionIn
section
set_option linter.unusedSimpArgs false
set_option linter.unusedVariables false
set_option maxRecDepth 100000
namespace Go.Proofs.YthhjcfejgoddlaaGreatDoor
open Go Go.Abs
attribute [local go_sem] wrap64 Int.tdiv_eq_ediv_of_nonneg Int.tmod_eq_emod_of_nonneg eq_self Bool.false_eq_true Bool.true_eq_false Bool.not_true Bool.not_false
attribute [local go_sem_proc] Nat.reduceAdd Nat.reduceMul Nat.reduceEqDiff Nat.reduceLT Nat.reduceLeDiff Int.reduceEq Int.reduceNeg Int.reduceToNat reduceCtorEq Int.reduceBNe Int.reduceBEq

def GP (p : Int × Int) : AV := GZ p.1 p.2
def okP (p : Int × Int) : Prop := lenZ p.1 ≤ 40
theorem gotP (p : Int × Int) : PC Tryz.prog 24 [Z p.1, I p.2] (GP p) := got_pc _ _ _
theorem valP (x : Int) : PC Tryz.prog 21 [Z x] (GP (x, 0)) := val_pc _ _
theorem same_P (p q : Int × Int) (hp : okP p) (hq : okP q) : PC Tryz.prog 26 [GP p, GP q] (B (decide (p = q))) := by
  have h := same_Z p.1 q.1 p.2 q.2 (Nat.le_trans hp (by decide)) (Nat.le_trans hq (by decide))
  rwa [show decide (p.2 = q.2 ∧ p.1 = q.1) = decide (p = q) by rw [decide_eq_decide, Prod.ext_iff]; exact And.comm] at h
end Go.Proofs.YthhjcfejgoddlaaGreatDoor
end

section
set_option linter.unusedSimpArgs false
set_option linter.unusedVariables false
set_option maxRecDepth 100000
namespace Go.Proofs.YthhjcfejgoddlaaGreatDoor
open Go Go.Abs
attribute [local go_sem] wrap64 Int.tdiv_eq_ediv_of_nonneg Int.tmod_eq_emod_of_nonneg eq_self Bool.false_eq_true Bool.true_eq_false Bool.not_true Bool.not_false
attribute [local go_sem_proc] Nat.reduceAdd Nat.reduceMul Nat.reduceEqDiff Nat.reduceLT Nat.reduceLeDiff Int.reduceEq Int.reduceNeg Int.reduceToNat reduceCtorEq Int.reduceBNe Int.reduceBEq

theorem okI_def (neg : Bool) (d : List Int) : okI neg d ↔ d.length ≤ 40 ∧ (d.length = 0 → neg = false) ∧ (0 < d.length → d.getD (d.length - 1) 0 ≠ 0) ∧ ∀ j, j < d.length → 0 ≤ d.getD j 0 ∧ d.getD j 0 < 1000000000 := by
  rw [okI_iff]
  have e : ((d.any fun x => decide (x < 0 ∨ 1000000000 ≤ x)) = false) ↔ ∀ j, j < d.length → 0 ≤ d.getD j 0 ∧ d.getD j 0 < 1000000000 := by
    rw [List.any_eq_false]
    constructor
    · intro h j hj
      have h1 := h (d.getD j 0) (by simp [hj])
      simp only [decide_eq_true_eq] at h1; omega
    · intro h x hx
      obtain ⟨j, hj, rfl⟩ := List.getElem_of_mem hx
      have h1 := h j hj
      simp only [List.getD, List.getElem?_eq_getElem hj, Option.getD_some] at h1
      simp only [decide_eq_true_eq]; omega
  rw [e]
def F77 (neg : Bool) (d : List Int) (i : Nat) : St := ⟨[(1, .ptr 0 0), (3, I d.length), (4, I i)], [(0, .box [B neg, L d] false)], 1, 0⟩
theorem Is_f (d : List Int) : PC Tryz.prog 77 [Zr false d] (B (decide (okI false d))) := by
  refine PCr.pc (PCr.of tab_ok Tryz.func77 rfl rfl rfl fun c hc hm => ?_)
  rw [show Tryz.f77.ntmps = _ from Tryz.ntmps77] at hc
  simp only [Tryz.f77]
  repeat' first | (refine AWp.seq fun K hK => ?_) | ((first | refine AWp.region (by rw [hc]; rfl) ?_ | refine AWp.skip ?_ | refine AWp.exit ?_ | refine AWp.label ?_ | refine AWp.ret ?_ | refine appK_g ?_); simp -implicitDefEqProofs (maxSteps := 1000000) (disch := omega) only [go_sem, ↓reduceIte]) | ((first | refine hK _ ?_ | (clear hK; first | refine hK _ ?_ | (clear hK; first | refine hK _ ?_ | (clear hK; refine hK _ ?_)))); clear hK) | (refine AWp.cond ?_; simp -implicitDefEqProofs (maxSteps := 1000000) (disch := omega) only [go_sem, ↓reduceIte]; try (refine ⟨fun hlt => ?_, fun hlt => ?_⟩ <;> (try simp only [cla, clb, ne_eq, reduceCtorEq] at hlt) <;> (try exact hlt.elim))) | (refine AWp.block ?_) | ((first | refine gdO_split (fun hlt => ?_) (fun hlt => ?_) | refine tkO_split (fun hlt => ?_) (fun hlt => ?_) | refine opO_split (fun hlt => ?_) (fun hlt => ?_)) <;> have hgd := hlt <;> (try simp only [cla, clb, ne_eq, cld] at hlt) <;> (simp -implicitDefEqProofs (maxSteps := 1000000) (disch := omega) only [go_sem, ↓reduceIte, hgd]) <;> clear hgd) | (with_reducible refine And.intro ?_ ?_; · first | omega | assumption | exact ⟨_, _, rfl, rfl⟩) | fail
  all_goals try (exfalso; omega)
  all_goals try contradiction
  all_goals try (refine (decide_eq_false ?_).symm; rw [okI_def]; rintro ⟨h1, h2, h3, h4⟩; first | omega | (exact h3 (by omega) (by assumption)) | (exact absurd (h2 (by omega)) (by decide)))
  all_goals
    refine AWp.loopInv (F77 false d) (fun i => d.length - i) (fun i => i ≤ d.length ∧ ∀ j, j < i → 0 ≤ d.getD j 0 ∧ d.getD j 0 < 1000000000) 0 ⟨Nat.zero_le _, fun j h => absurd h (Nat.not_lt_zero _)⟩ (Sub.of0 hm id rfl ?_ ?_ (fun _ _ _ _ h => h)) ?_
    all_goals (try dsimp only)
    all_goals (first | omega | (simp -implicitDefEqProofs (maxSteps := 1000000) (disch := omega) only [F77, id, go_sem, Nat.blt_eq, Nat.reduceAdd, Nat.reduceSub, Nat.reduceEqDiff, Nat.reduceLT, ↓reduceIte, and_true, true_and, AV.dat.injEq, DV.int.injEq, DV.bool.injEq, DV.lst.injEq, eq_self_iff_true]; first | done | omega | (simp; done) | (simp; omega)) | (simp; done) | (simp; omega) | skip)
    rintro i ⟨h1, h2⟩ ih
    simp only [F77]
    repeat' first | (refine AWp.seq fun K hK => ?_) | ((first | refine AWp.region (by rw [hc]; rfl) ?_ | refine AWp.skip ?_ | refine AWp.exit ?_ | refine AWp.label ?_ | refine AWp.ret ?_ | refine appK_g ?_); simp -implicitDefEqProofs (maxSteps := 1000000) (disch := omega) only [go_sem, ↓reduceIte]) | ((first | refine hK _ ?_ | (clear hK; first | refine hK _ ?_ | (clear hK; first | refine hK _ ?_ | (clear hK; refine hK _ ?_)))); clear hK) | (refine AWp.cond ?_; simp -implicitDefEqProofs (maxSteps := 1000000) (disch := omega) only [go_sem, ↓reduceIte]; try (refine ⟨fun hlt => ?_, fun hlt => ?_⟩ <;> (try simp only [cla, clb, ne_eq, reduceCtorEq] at hlt) <;> (try exact hlt.elim))) | (refine AWp.block ?_) | ((first | refine gdO_split (fun hlt => ?_) (fun hlt => ?_) | refine tkO_split (fun hlt => ?_) (fun hlt => ?_) | refine opO_split (fun hlt => ?_) (fun hlt => ?_)) <;> have hgd := hlt <;> (try simp only [cla, clb, ne_eq, cld] at hlt) <;> (simp -implicitDefEqProofs (maxSteps := 1000000) (disch := omega) only [go_sem, ↓reduceIte, hgd]) <;> clear hgd) | (with_reducible refine And.intro ?_ ?_; · first | omega | assumption | exact ⟨_, _, rfl, rfl⟩) | fail
    all_goals try (exfalso; omega)
    all_goals try (refine (decide_eq_false ?_).symm; rw [okI_def]; rintro ⟨k1, k2, k3, k4⟩; have := k4 i (by omega); omega)
    all_goals try (refine (decide_eq_true ?_).symm; rw [okI_def]; exact ⟨by omega, fun _ => by first | rfl | omega, fun _ => by first | assumption | omega, fun j hj => h2 j (by omega)⟩)
    all_goals
      refine ih (i + 1) _ ⟨by omega, fun j hj => ?_⟩ (by omega) (Sub.of0 hm id rfl ?_ ?_ (fun _ _ _ _ h => h))
      · by_cases h : j = i
        · subst h; exact ⟨by assumption, by assumption⟩
        · exact h2 j (by omega)
      all_goals (try dsimp only)
      all_goals (first | omega | (simp -implicitDefEqProofs (maxSteps := 1000000) (disch := omega) only [F77, id, go_sem, Nat.blt_eq, Nat.reduceAdd, Nat.reduceSub, Nat.reduceEqDiff, Nat.reduceLT, ↓reduceIte, and_true, true_and, AV.dat.injEq, DV.int.injEq, DV.bool.injEq, DV.lst.injEq, eq_self_iff_true]; first | done | omega | (simp; done) | (simp; omega)) | (simp; done) | (simp; omega) | skip)
theorem Is_t (d : List Int) : PC Tryz.prog 77 [Zr true d] (B (decide (okI true d))) := by
  refine PCr.pc (PCr.of tab_ok Tryz.func77 rfl rfl rfl fun c hc hm => ?_)
  rw [show Tryz.f77.ntmps = _ from Tryz.ntmps77] at hc
  simp only [Tryz.f77]
  repeat' first | (refine AWp.seq fun K hK => ?_) | ((first | refine AWp.region (by rw [hc]; rfl) ?_ | refine AWp.skip ?_ | refine AWp.exit ?_ | refine AWp.label ?_ | refine AWp.ret ?_ | refine appK_g ?_); simp -implicitDefEqProofs (maxSteps := 1000000) (disch := omega) only [go_sem, ↓reduceIte]) | ((first | refine hK _ ?_ | (clear hK; first | refine hK _ ?_ | (clear hK; first | refine hK _ ?_ | (clear hK; refine hK _ ?_)))); clear hK) | (refine AWp.cond ?_; simp -implicitDefEqProofs (maxSteps := 1000000) (disch := omega) only [go_sem, ↓reduceIte]; try (refine ⟨fun hlt => ?_, fun hlt => ?_⟩ <;> (try simp only [cla, clb, ne_eq, reduceCtorEq] at hlt) <;> (try exact hlt.elim))) | (refine AWp.block ?_) | ((first | refine gdO_split (fun hlt => ?_) (fun hlt => ?_) | refine tkO_split (fun hlt => ?_) (fun hlt => ?_) | refine opO_split (fun hlt => ?_) (fun hlt => ?_)) <;> have hgd := hlt <;> (try simp only [cla, clb, ne_eq, cld] at hlt) <;> (simp -implicitDefEqProofs (maxSteps := 1000000) (disch := omega) only [go_sem, ↓reduceIte, hgd]) <;> clear hgd) | (with_reducible refine And.intro ?_ ?_; · first | omega | assumption | exact ⟨_, _, rfl, rfl⟩) | fail
  all_goals try (exfalso; omega)
  all_goals try contradiction
  all_goals try (refine (decide_eq_false ?_).symm; rw [okI_def]; rintro ⟨h1, h2, h3, h4⟩; first | omega | (exact h3 (by omega) (by assumption)) | (exact absurd (h2 (by omega)) (by decide)))
  all_goals
    refine AWp.loopInv (F77 true d) (fun i => d.length - i) (fun i => i ≤ d.length ∧ ∀ j, j < i → 0 ≤ d.getD j 0 ∧ d.getD j 0 < 1000000000) 0 ⟨Nat.zero_le _, fun j h => absurd h (Nat.not_lt_zero _)⟩ (Sub.of0 hm id rfl ?_ ?_ (fun _ _ _ _ h => h)) ?_
    all_goals (try dsimp only)
    all_goals (first | omega | (simp -implicitDefEqProofs (maxSteps := 1000000) (disch := omega) only [F77, id, go_sem, Nat.blt_eq, Nat.reduceAdd, Nat.reduceSub, Nat.reduceEqDiff, Nat.reduceLT, ↓reduceIte, and_true, true_and, AV.dat.injEq, DV.int.injEq, DV.bool.injEq, DV.lst.injEq, eq_self_iff_true]; first | done | omega | (simp; done) | (simp; omega)) | (simp; done) | (simp; omega) | skip)
    rintro i ⟨h1, h2⟩ ih
    simp only [F77]
    repeat' first | (refine AWp.seq fun K hK => ?_) | ((first | refine AWp.region (by rw [hc]; rfl) ?_ | refine AWp.skip ?_ | refine AWp.exit ?_ | refine AWp.label ?_ | refine AWp.ret ?_ | refine appK_g ?_); simp -implicitDefEqProofs (maxSteps := 1000000) (disch := omega) only [go_sem, ↓reduceIte]) | ((first | refine hK _ ?_ | (clear hK; first | refine hK _ ?_ | (clear hK; first | refine hK _ ?_ | (clear hK; refine hK _ ?_)))); clear hK) | (refine AWp.cond ?_; simp -implicitDefEqProofs (maxSteps := 1000000) (disch := omega) only [go_sem, ↓reduceIte]; try (refine ⟨fun hlt => ?_, fun hlt => ?_⟩ <;> (try simp only [cla, clb, ne_eq, reduceCtorEq] at hlt) <;> (try exact hlt.elim))) | (refine AWp.block ?_) | ((first | refine gdO_split (fun hlt => ?_) (fun hlt => ?_) | refine tkO_split (fun hlt => ?_) (fun hlt => ?_) | refine opO_split (fun hlt => ?_) (fun hlt => ?_)) <;> have hgd := hlt <;> (try simp only [cla, clb, ne_eq, cld] at hlt) <;> (simp -implicitDefEqProofs (maxSteps := 1000000) (disch := omega) only [go_sem, ↓reduceIte, hgd]) <;> clear hgd) | (with_reducible refine And.intro ?_ ?_; · first | omega | assumption | exact ⟨_, _, rfl, rfl⟩) | fail
    all_goals try (exfalso; omega)
    all_goals try (refine (decide_eq_false ?_).symm; rw [okI_def]; rintro ⟨k1, k2, k3, k4⟩; have := k4 i (by omega); omega)
    all_goals try (refine (decide_eq_true ?_).symm; rw [okI_def]; exact ⟨by omega, fun _ => by first | rfl | omega, fun _ => by first | assumption | omega, fun j hj => h2 j (by omega)⟩)
    all_goals
      refine ih (i + 1) _ ⟨by omega, fun j hj => ?_⟩ (by omega) (Sub.of0 hm id rfl ?_ ?_ (fun _ _ _ _ h => h))
      · by_cases h : j = i
        · subst h; exact ⟨by assumption, by assumption⟩
        · exact h2 j (by omega)
      all_goals (try dsimp only)
      all_goals (first | omega | (simp -implicitDefEqProofs (maxSteps := 1000000) (disch := omega) only [F77, id, go_sem, Nat.blt_eq, Nat.reduceAdd, Nat.reduceSub, Nat.reduceEqDiff, Nat.reduceLT, ↓reduceIte, and_true, true_and, AV.dat.injEq, DV.int.injEq, DV.bool.injEq, DV.lst.injEq, eq_self_iff_true]; first | done | omega | (simp; done) | (simp; omega)) | (simp; done) | (simp; omega) | skip)
theorem Is_pc (neg : Bool) (d : List Int) : PC Tryz.prog 77 [Zr neg d] (B (decide (okI neg d))) := by
  cases neg
  · exact Is_f d
  · exact Is_t d

theorem right1_pc (neg : Bool) (d : List Int) : PC Tryz.prog 76 [Zr neg d] (B (!decide (okI neg d))) := by
  have h := Is_pc neg d
  refine PCr.pc (PCr.of tab_ok Tryz.func76 rfl rfl rfl fun c hc hm => ?_)
  rw [show Tryz.f76.ntmps = _ from Tryz.ntmps76] at hc
  simp only [Tryz.f76]
  repeat' first | (refine AWp.seq fun K hK => ?_) | ((first | refine AWp.region (by rw [hc]; rfl) ?_ | refine AWp.skip ?_ | refine AWp.exit ?_ | refine AWp.label ?_ | refine AWp.ret ?_ | refine appK_g ?_); simp -implicitDefEqProofs (maxSteps := 1000000) (disch := omega) only [go_sem, ↓reduceIte]) | ((first | refine hK _ ?_ | (clear hK; first | refine hK _ ?_ | (clear hK; first | refine hK _ ?_ | (clear hK; refine hK _ ?_)))); clear hK) | (refine AWp.cond ?_; simp -implicitDefEqProofs (maxSteps := 1000000) (disch := omega) only [go_sem, ↓reduceIte]; try (refine ⟨fun hlt => ?_, fun hlt => ?_⟩ <;> (try simp only [cla, clb, ne_eq, reduceCtorEq] at hlt) <;> (try exact hlt.elim))) | (refine AWp.block ?_) | ((first | refine gdO_split (fun hlt => ?_) (fun hlt => ?_) | refine tkO_split (fun hlt => ?_) (fun hlt => ?_) | refine opO_split (fun hlt => ?_) (fun hlt => ?_)) <;> have hgd := hlt <;> (try simp only [cla, clb, ne_eq, cld] at hlt) <;> (simp -implicitDefEqProofs (maxSteps := 1000000) (disch := omega) only [go_sem, ↓reduceIte, hgd]) <;> clear hgd) | (with_reducible refine And.intro ?_ ?_; · first | omega | assumption | exact ⟨_, _, rfl, rfl⟩) | ((first | refine ⟨_, h, ?_⟩); simp -implicitDefEqProofs (maxSteps := 1000000) (disch := omega) only [go_sem, ↓reduceIte]) | fail
  all_goals try rfl
  rw [decide_eq_false (fun h => by have := h.1; omega)]; rfl

def F122 (zs : List (Bool × List Int)) (f : FuncId) (i : Nat) : St := ⟨[(0, LZ zs), (1, .dat (.fn f [])), (7, I zs.length), (8, I i)], [], 0, 0⟩
theorem idxZ_pc (zs : List (Bool × List Int)) (f : FuncId) (p : Bool × List Int → Bool) (lz : zs.length ≤ 1000000) (hp : ∀ z, PC Tryz.prog f [Zr z.1 z.2] (B (p z))) : PC Tryz.prog 122 [LZ zs, .dat (.fn f [])] (I (idx p zs)) := by
  refine PCr.pc (PCr.of tab_ok Tryz.func122 rfl rfl rfl fun c hc hm => ?_)
  rw [show Tryz.f122.ntmps = _ from Tryz.ntmps122] at hc
  simp only [Tryz.f122]
  repeat' first | (refine AWp.seq fun K hK => ?_) | ((first | refine AWp.region (by rw [hc]; rfl) ?_ | refine AWp.skip ?_ | refine AWp.exit ?_ | refine AWp.label ?_ | refine AWp.ret ?_ | refine appK_g ?_); simp -implicitDefEqProofs (maxSteps := 1000000) (disch := omega) only [go_sem, ↓reduceIte]) | ((first | refine hK _ ?_ | (clear hK; first | refine hK _ ?_ | (clear hK; first | refine hK _ ?_ | (clear hK; refine hK _ ?_)))); clear hK) | (refine AWp.cond ?_; simp -implicitDefEqProofs (maxSteps := 1000000) (disch := omega) only [go_sem, ↓reduceIte]; try (refine ⟨fun hlt => ?_, fun hlt => ?_⟩ <;> (try simp only [cla, clb, ne_eq, reduceCtorEq] at hlt) <;> (try exact hlt.elim))) | (refine AWp.block ?_) | ((first | refine gdO_split (fun hlt => ?_) (fun hlt => ?_) | refine tkO_split (fun hlt => ?_) (fun hlt => ?_) | refine opO_split (fun hlt => ?_) (fun hlt => ?_)) <;> have hgd := hlt <;> (try simp only [cla, clb, ne_eq, cld] at hlt) <;> (simp -implicitDefEqProofs (maxSteps := 1000000) (disch := omega) only [go_sem, ↓reduceIte, hgd]) <;> clear hgd) | (with_reducible refine And.intro ?_ ?_; · first | omega | assumption | exact ⟨_, _, rfl, rfl⟩) | fail
  refine AWp.loopInv (F122 zs f) (fun i => zs.length - i) (fun i => i ≤ zs.length ∧ ∀ j, j < i → p (zs.getD j (false, [])) = false) 0 ⟨Nat.zero_le _, fun j h => absurd h (Nat.not_lt_zero _)⟩ (Sub.of0 hm id rfl ?_ ?_ (fun _ _ _ _ h => h)) ?_
  all_goals (try dsimp only)
  all_goals (first | omega | (simp -implicitDefEqProofs (maxSteps := 1000000) (disch := omega) only [F122, id, go_sem, Nat.blt_eq, Nat.reduceAdd, Nat.reduceSub, Nat.reduceEqDiff, Nat.reduceLT, ↓reduceIte, and_true, true_and, AV.dat.injEq, DV.int.injEq, DV.bool.injEq, DV.lst.injEq, eq_self_iff_true]; first | done | omega | (simp; done) | (simp; omega)) | (simp; done) | (simp; omega) | skip)
  rintro i ⟨h1, h2⟩ ih
  simp only [F122]
  generalize hz : zs.getD i (false, []) = z at *
  have hpi := hp z
  repeat' first | (refine AWp.seq fun K hK => ?_) | ((first | refine AWp.region (by rw [hc]; rfl) ?_ | refine AWp.skip ?_ | refine AWp.exit ?_ | refine AWp.label ?_ | refine AWp.ret ?_ | refine appK_g ?_); simp -implicitDefEqProofs (maxSteps := 1000000) (disch := omega) only [go_sem, ↓reduceIte, hz]) | ((first | refine hK _ ?_ | (clear hK; first | refine hK _ ?_ | (clear hK; first | refine hK _ ?_ | (clear hK; refine hK _ ?_)))); clear hK) | (refine AWp.cond ?_; simp -implicitDefEqProofs (maxSteps := 1000000) (disch := omega) only [go_sem, ↓reduceIte, hz]; try (refine ⟨fun hlt => ?_, fun hlt => ?_⟩ <;> (try simp only [cla, clb, ne_eq, reduceCtorEq] at hlt) <;> (try exact hlt.elim))) | (refine AWp.block ?_) | ((first | refine gdO_split (fun hlt => ?_) (fun hlt => ?_) | refine tkO_split (fun hlt => ?_) (fun hlt => ?_) | refine opO_split (fun hlt => ?_) (fun hlt => ?_)) <;> have hgd := hlt <;> (try simp only [cla, clb, ne_eq, cld] at hlt) <;> (simp -implicitDefEqProofs (maxSteps := 1000000) (disch := omega) only [go_sem, ↓reduceIte, hz, hgd]) <;> clear hgd) | (with_reducible refine And.intro ?_ ?_; · first | omega | assumption | exact ⟨_, _, rfl, rfl⟩) | (refine ⟨_, hpi, ?_⟩; simp -implicitDefEqProofs (maxSteps := 1000000) (disch := omega) only [go_sem, ↓reduceIte]) | fail
  · have hi : i < zs.length := by omega
    have e : ∀ j (hj : j < zs.length), zs.getD j (false, []) = zs[j] := fun j hj => by simp [hj]
    rw [idx_some p zs i hi (by rw [← e, hz]; exact hlt) (fun j hj => by rw [← e]; exact h2 j hj)]
  · refine ih (i + 1) _ ⟨by omega, fun j hj => ?_⟩ (by omega) (Sub.of0 hm id rfl ?_ ?_ (fun _ _ _ _ h => h))
    · by_cases h : j = i
      · subst h; rw [hz]; assumption
      · exact h2 j (by omega)
    all_goals (try dsimp only)
    all_goals (first | omega | (simp -implicitDefEqProofs (maxSteps := 1000000) (disch := omega) only [F122, id, go_sem, Nat.blt_eq, Nat.reduceAdd, Nat.reduceSub, Nat.reduceEqDiff, Nat.reduceLT, ↓reduceIte, and_true, true_and, AV.dat.injEq, DV.int.injEq, DV.bool.injEq, DV.lst.injEq, eq_self_iff_true]; first | done | omega | (simp; done) | (simp; omega)) | (simp; done) | (simp; omega) | skip)
  · rw [idx_none p zs (fun j hj => by have := h2 j (by omega); simpa [hj] using this)]
theorem hasZ_pc (zs : List (Bool × List Int)) (f : FuncId) (p : Bool × List Int → Bool) (lz : zs.length ≤ 1000000) (hp : ∀ z, PC Tryz.prog f [Zr z.1 z.2] (B (p z))) : PC Tryz.prog 75 [LZ zs, .dat (.fn f [])] (B (zs.any p)) := by
  have hi := idxZ_pc zs f p lz hp
  rw [← idx_ge]
  refine PCr.pc (PCr.of tab_ok Tryz.func75 rfl rfl rfl fun c hc hm => ?_)
  rw [show Tryz.f75.ntmps = _ from Tryz.ntmps75] at hc
  simp only [Tryz.f75]
  repeat' first | (refine AWp.seq fun K hK => ?_) | ((first | refine AWp.region (by rw [hc]; rfl) ?_ | refine AWp.skip ?_ | refine AWp.exit ?_ | refine AWp.label ?_ | refine AWp.ret ?_ | refine appK_g ?_); simp -implicitDefEqProofs (maxSteps := 1000000) (disch := omega) only [go_sem, ↓reduceIte]) | ((first | refine hK _ ?_ | (clear hK; first | refine hK _ ?_ | (clear hK; first | refine hK _ ?_ | (clear hK; refine hK _ ?_)))); clear hK) | (refine AWp.cond ?_; simp -implicitDefEqProofs (maxSteps := 1000000) (disch := omega) only [go_sem, ↓reduceIte]; try (refine ⟨fun hlt => ?_, fun hlt => ?_⟩ <;> (try simp only [cla, clb, ne_eq, reduceCtorEq] at hlt) <;> (try exact hlt.elim))) | (refine AWp.block ?_) | ((first | refine gdO_split (fun hlt => ?_) (fun hlt => ?_) | refine tkO_split (fun hlt => ?_) (fun hlt => ?_) | refine opO_split (fun hlt => ?_) (fun hlt => ?_)) <;> have hgd := hlt <;> (try simp only [cla, clb, ne_eq, cld] at hlt) <;> (simp -implicitDefEqProofs (maxSteps := 1000000) (disch := omega) only [go_sem, ↓reduceIte, hgd]) <;> clear hgd) | (with_reducible refine And.intro ?_ ?_; · first | omega | assumption | exact ⟨_, _, rfl, rfl⟩) | ((first | refine ⟨_, hi, ?_⟩); simp -implicitDefEqProofs (maxSteps := 1000000) (disch := omega) only [go_sem, ↓reduceIte]) | fail
theorem right_pc (zs : List (Bool × List Int)) (lz : zs.length ≤ 1000000) : PC Tryz.prog 17 [LZ zs] (B (zs.all fun z => decide (okI z.1 z.2))) := by
  have h := hasZ_pc zs 76 (fun z => !decide (okI z.1 z.2)) lz (fun z => right1_pc z.1 z.2)
  rw [show (zs.all fun z => decide (okI z.1 z.2)) = !(zs.any fun z => !decide (okI z.1 z.2)) by rw [List.all_eq_not_any_not]]
  refine PCr.pc (PCr.of tab_ok Tryz.func17 rfl rfl rfl fun c hc hm => ?_)
  rw [show Tryz.f17.ntmps = _ from Tryz.ntmps17] at hc
  simp only [Tryz.f17]
  repeat' first | (refine AWp.seq fun K hK => ?_) | ((first | refine AWp.region (by rw [hc]; rfl) ?_ | refine AWp.skip ?_ | refine AWp.exit ?_ | refine AWp.label ?_ | refine AWp.ret ?_ | refine appK_g ?_); simp -implicitDefEqProofs (maxSteps := 1000000) (disch := omega) only [go_sem, ↓reduceIte]) | ((first | refine hK _ ?_ | (clear hK; first | refine hK _ ?_ | (clear hK; first | refine hK _ ?_ | (clear hK; refine hK _ ?_)))); clear hK) | (refine AWp.cond ?_; simp -implicitDefEqProofs (maxSteps := 1000000) (disch := omega) only [go_sem, ↓reduceIte]; try (refine ⟨fun hlt => ?_, fun hlt => ?_⟩ <;> (try simp only [cla, clb, ne_eq, reduceCtorEq] at hlt) <;> (try exact hlt.elim))) | (refine AWp.block ?_) | ((first | refine gdO_split (fun hlt => ?_) (fun hlt => ?_) | refine tkO_split (fun hlt => ?_) (fun hlt => ?_) | refine opO_split (fun hlt => ?_) (fun hlt => ?_)) <;> have hgd := hlt <;> (try simp only [cla, clb, ne_eq, cld] at hlt) <;> (simp -implicitDefEqProofs (maxSteps := 1000000) (disch := omega) only [go_sem, ↓reduceIte, hgd]) <;> clear hgd) | (with_reducible refine And.intro ?_ ?_; · first | omega | assumption | exact ⟨_, _, rfl, rfl⟩) | ((first | refine ⟨_, h, ?_⟩); simp -implicitDefEqProofs (maxSteps := 1000000) (disch := omega) only [go_sem, ↓reduceIte]) | fail
end Go.Proofs.YthhjcfejgoddlaaGreatDoor
end

section
/- Where the simplifier need not look: what follows a step is looked at when the walk gets there. -/
namespace Go.Abs
variable {P : Program} {T : Tab} {c : Ctx} {ro : Option Nat}

@[congr] theorem runO_cg {ops l : List Oper} {σ σ' : St} {K : St → Prop} (h : σ = σ') : runO P T ops l σ K = runO P T ops l σ' K := by rw [h]
@[congr] theorem gdO_cg {ops rest : List Oper} {o : Oper} {want : Bool} {σ : St} {K : St → Prop} {q q' : AV} (h : q = q') : gdO P T ops o rest want σ K q = gdO P T ops o rest want σ K q' := by rw [h]
@[congr] theorem stepK_cg {o : Oper} {σ σ' : St} {K : St → Prop} (h : σ = σ') : stepK P T o σ K = stepK P T o σ' K := by rw [h]
@[congr] theorem planK_cg {ops : Array Oper} {l : List Pl} {σ σ' : St} {X : St → Prop} (h : σ = σ') : planK P T ops l σ X = planK P T ops l σ' X := by rw [h]
@[congr] theorem takeQ_cg {ops : Array Oper} {i : Nat} {σ σ' : St} {X : St → Prop} (h : σ = σ') : takeQ P T ops i σ X = takeQ P T ops i σ' X := by rw [h]
@[congr] theorem opQ_cg {ops : Array Oper} {i : Nat} {σ σ' : St} {X : St → Prop} (h : σ = σ') : opQ P T ops i σ X = opQ P T ops i σ' X := by rw [h]
@[congr] theorem tkO_cg {o : Oper} {want : Bool} {σ : St} {X : St → Prop} {q q' : AV} (h : q = q') : tkO P T o want σ X q = tkO P T o want σ X q' := by rw [h]
@[congr] theorem opO_cg {o : Oper} {want : Bool} {σ : St} {X : St → Prop} {q q' : AV} (h : q = q') : opO P T o want σ X q = opO P T o want σ X q' := by rw [h]
@[congr] theorem treeK_cg {ops : Array Oper} {t : Tr} {σ σ' : St} {X : St → Prop} (h : σ = σ') : treeK P T ops t σ X = treeK P T ops t σ' X := by rw [h]
@[congr] theorem takesK_cg {ops : Array Oper} {t : Tr} {l : List Nat} {σ σ' : St} {X : St → Prop} (h : σ = σ') : takesK P T ops t l σ X = takesK P T ops t l σ' X := by rw [h]
@[congr] theorem loadK_cg {s s' : Sto} {t : TypeId} {x x' : AV} {K : AV → Prop} (h : s = s') (h' : x = x') : loadK s T t x K = loadK s' T t x' K := by rw [h, h']
@[congr] theorem storeK_cg {s s' : Sto} {t : TypeId} {x x' y y' : AV} {K : Sto → Prop} (h : s = s') (h' : x = x') (h'' : y = y') : storeK T t x y s K = storeK T t x' y' s' K := by rw [h, h', h'']
@[congr] theorem faddrK_cg {t : TypeId} {f : Nat} {x x' : AV} {K : AV → Prop} (h : x = x') : faddrK T t f x K = faddrK T t f x' K := by rw [h]
@[congr] theorem iaddrK_cg {s s' : Sto} {t : TypeId} {x x' y y' : AV} {K : AV → Prop} (h : s = s') (h' : x = x') (h'' : y = y') : iaddrK s T t x y K = iaddrK s' T t x' y' K := by rw [h, h', h'']
@[congr] theorem binC_cg {op : BinOp} {t : TypeId} {yo : Operand} {x x' y y' : AV} {K : AV → Prop} (h : x = x') (h' : y = y') : binC T op t yo x y K = binC T op t yo x' y' K := by rw [h, h']
@[congr] theorem binK_cg {op : BinOp} {t : TypeId} {x x' y y' : AV} {K : AV → Prop} (h : x = x') (h' : y = y') : binK T op t x y K = binK T op t x' y' K := by rw [h, h']
@[congr] theorem unK_cg {op : UnOp} {x x' : AV} {K : AV → Prop} (h : x = x') : unK op x K = unK op x' K := by rw [h]
@[congr] theorem extK_cg {x x' : AV} {i : Nat} {K : AV → Prop} (h : x = x') : extK x i K = extK x' i K := by rw [h]
@[congr] theorem lenK_cg {s s' : Sto} {t : TypeId} {x x' : AV} {K : AV → Prop} (h : s = s') (h' : x = x') : lenK s T t x K = lenK s' T t x' K := by rw [h, h']
@[congr] theorem pickK_cg {q q' x x' y y' : AV} {K : AV → Prop} (h : q = q') (h' : x = x') (h'' : y = y') : pickK q x y K = pickK q' x' y' K := by rw [h, h', h'']
@[congr] theorem callQ_cg {f f' : AV} {xs xs' : List AV} {K : AV → Prop} (h : f = f') (h' : xs = xs') : callQ P f xs K = callQ P f' xs' K := by rw [h, h']
@[congr] theorem calleeK_cg {s s' : Sto} {f f' : AV} {xs xs' : List AV} {K : AV → Sto → Prop} (h : s = s') (h' : f = f') (h'' : xs = xs') : calleeK P s f xs K = calleeK P s' f' xs' K := by rw [h, h', h'']
@[congr] theorem sliceK_cg {t : TypeId} {len : Nat} {ps ps' : List (Nat × AV)} {s s' : Sto} {n : Nat} {K : AV → Sto → Nat → Prop} (h : ps = ps') (h' : s = s') : sliceK T t len ps s n K = sliceK T t len ps' s' n K := by rw [h, h']
@[congr] theorem rowK_cg {t : TypeId} {len : Nat} {ps ps' : List (Nat × AV)} {K : AV → Prop} (h : ps = ps') : rowK T t len ps K = rowK T t len ps' K := by rw [h]
@[congr] theorem structK_cg {t : TypeId} {ps ps' : List (Nat × AV)} {K : AV → Prop} (h : ps = ps') : structK T t ps K = structK T t ps' K := by rw [h]
@[congr] theorem allocK_cg {t : TypeId} {s s' : Sto} {n n' : Nat} {K : AV → Sto → Nat → Prop} (h : s = s') (h' : n = n') : allocK T t s n K = allocK T t s' n' K := by rw [h, h']
@[congr] theorem boxK_cg {x x' : AV} {s s' : Sto} {n n' : Nat} {K : AV → Sto → Nat → Prop} (h : s = s') (h' : n = n') (h'' : x = x') : boxK x s n K = boxK x' s' n' K := by rw [h, h', h'']
@[congr] theorem condK_cg {q q' : AV} {X Y : Prop} (h : q = q') : condK q X Y = condK q' X Y := by rw [h]
@[congr] theorem AWp_cg {code : Code} {σ σ' : St} {Q : Exit → St → Prop} (h : σ = σ') : AWp P T c ro code σ Q = AWp P T c ro code σ' Q := by rw [h]
@[congr] theorem LoopAt_cg {code : Code} {σ σ' : St} {Q : Exit → St → Prop} (h : σ = σ') : LoopAt P T c ro code σ Q = LoopAt P T c ro code σ' Q := by rw [h]
end Go.Abs
end

section
set_option linter.unusedSimpArgs false
set_option linter.unusedVariables false
set_option maxRecDepth 100000
namespace Go.Proofs.YthhjcfejgoddlaaGreatDoor
open Go Go.Abs

theorem same_T (p q : Int × Int) (hp : okP p) (hq : okP q) (h : p = q) : PC Tryz.prog 26 [GP p, GP q] (B true) := by
  have := same_P p q hp hq
  rwa [decide_eq_true h] at this
/-- An integer, as a number. -/
theorem okI_ex {neg : Bool} {d : List Int} (h : okI neg d) : ∃ x : Int, Zr neg d = Z x ∧ lenZ x ≤ 40 :=
  ⟨_, (okI_Z h).1, (okI_Z h).2.1⟩
end Go.Proofs.YthhjcfejgoddlaaGreatDoor
end

section
set_option linter.unusedSimpArgs false
set_option linter.unusedVariables false
set_option maxRecDepth 100000
namespace Go.Proofs.YthhjcfejgoddlaaGreatDoor
open Go Go.Abs

/-- The cells of an integer and of a result, kept closed in a walk. -/
def zC (x : Int) : List AV := [B (decide (x < 0)), L (D x.natAbs)]
def pC (p : Int × Int) : List AV := [B (decide (p.1 < 0)), L (D p.1.natAbs), I p.2]
def zD (x : Int) : List DV := [.bool (decide (x < 0)), .lst ((D x.natAbs).map eI)]
def ppD (p : Int × Int) : List DV := [.bool (decide (p.1 < 0)), .lst ((D p.1.natAbs).map eI), .int .i64 p.2]
theorem zC_len (x : Int) : (zC x).length = 2 := rfl
theorem pC_len (p : Int × Int) : (pC p).length = 3 := rfl
theorem zD_len (x : Int) : (zD x).length = 2 := rfl
theorem zC_map (x : Int) : (zD x).map .dat = zC x := rfl
theorem pC_map (p : Int × Int) : (ppD p).map .dat = pC p := rfl
theorem zC_toCs (x : Int) (s : Sto) : toCs s (zC x) = some (zD x, s) := rfl
theorem pC_toCs (p : Int × Int) (s : Sto) : toCs s (pC p) = some (ppD p, s) := rfl
theorem zC_dCs (x : Int) : dCs (zC x) = some (zD x) := rfl
theorem pC_dCs (p : Int × Int) : dCs (pC p) = some (ppD p) := rfl
theorem zC_dats0 (x : Int) : dats0 (zC x) = some (zD x) := rfl
theorem zC_take (x : Int) : List.take 2 (zC x) = zC x := rfl
theorem pC_take (p : Int × Int) : List.take 3 (pC p) = pC p := rfl
theorem pC_take2 (p : Int × Int) : List.take 2 (pC p) = zC p.1 := rfl
theorem pC_get2 (p : Int × Int) : (pC p)[2]? = some (I p.2) := rfl
theorem zC_get0 (x : Int) : (zC x)[0]? = some (B (decide (x < 0))) := rfl
theorem zC_get1 (x : Int) : (zC x)[1]? = some (L (D x.natAbs)) := rfl
theorem zC_drop (x : Int) : List.drop 0 (zC x) = zC x := rfl
theorem pC_drop (p : Int × Int) : List.drop 0 (pC p) = pC p := rfl
end Go.Proofs.YthhjcfejgoddlaaGreatDoor
end

section
set_option linter.unusedSimpArgs false
set_option linter.unusedVariables false
set_option maxRecDepth 100000
namespace Go.Proofs.YthhjcfejgoddlaaGreatDoor
open Go Go.Abs

/-! The contracts over closed cells. -/
theorem valA (x : Int) : PC Tryz.prog 21 [.agg (zC x)] (.agg (pC (x, 0))) := valP x
theorem gotA (x e : Int) : PC Tryz.prog 24 [.agg (zC x), I e] (.agg (pC (x, e))) := gotP (x, e)
theorem sameA (p q : Int × Int) (hp : okP p) (hq : okP q) (h : p = q) : PC Tryz.prog 26 [.agg (pC p), .agg (pC q)] (B true) := same_T p q hp hq h
end Go.Proofs.YthhjcfejgoddlaaGreatDoor
end

section
namespace Go.Proofs.YthhjcfejgoddlaaGreatDoor
open Go Go.Abs
theorem pC_drop3 (p : Int × Int) : List.drop 3 (pC p) = [] := rfl
theorem zC_drop2 (x : Int) : List.drop 2 (zC x) = [] := rfl
end Go.Proofs.YthhjcfejgoddlaaGreatDoor
end

section
/- A string made of one byte. -/
namespace Go.Abs
open Go.RowKit
variable {P : Program} {T : Tab} {c : Ctx} {φ : Nat → Lay} {s : Sto} {n : Nat} {w : World}

end Go.Abs
end

section
set_option linter.unusedSimpArgs false
set_option linter.unusedVariables false
set_option maxRecDepth 100000
namespace Go.Proofs.YthhjcfejgoddlaaGreatDoor
open Go Go.Abs
attribute [local go_sem] wrap64 Int.tdiv_eq_ediv_of_nonneg Int.tmod_eq_emod_of_nonneg eq_self Bool.false_eq_true Bool.true_eq_false Bool.not_true Bool.not_false
attribute [local go_sem_proc] Nat.reduceAdd Nat.reduceMul Nat.reduceEqDiff Nat.reduceLT Nat.reduceLeDiff Int.reduceEq Int.reduceNeg Int.reduceToNat reduceCtorEq Int.reduceBNe Int.reduceBEq

/-! The reference's digits. -/
theorem dv_lin : ∀ (l : List UInt8) (acc : Nat), dv acc l = acc * 10 ^ l.length + dv 0 l
  | [], acc => by simp [dv_nil]
  | x :: r, acc => by
    rw [dv_cons, dv_cons, dv_lin r (acc * 10 + _), dv_lin r (0 * 10 + _), List.length_cons, Nat.pow_succ]
    grind
theorem dv_cons0 (x : UInt8) (r : List UInt8) : dv 0 (x :: r) = (x.toNat - 48) * 10 ^ r.length + dv 0 r := by
  rw [dv_cons, dv_lin, Nat.zero_mul, Nat.zero_add]
theorem dv_lt : ∀ {l : List UInt8}, isD l → dv 0 l < 10 ^ l.length
  | [], _ => by simp [dv_nil]
  | x :: r, h => by
    have h1 := dv_lt (l := r) (fun y hy => h y (by simp [hy]))
    have h2 := h x (by simp)
    rw [dv_cons0, List.length_cons, Nat.pow_succ]
    have h3 : (x.toNat - 48) * 10 ^ r.length ≤ 9 * 10 ^ r.length := Nat.mul_le_mul_right _ (by omega)
    omega
/-- Digits without a zero ahead. -/
def canon (l : List UInt8) : Prop := isD l ∧ 0 < l.length ∧ (l.length = 1 ∨ l.headD 0 ≠ 48)
theorem canon_lo {l : List UInt8} (h : canon l) : l.length = 1 ∨ 10 ^ (l.length - 1) ≤ dv 0 l := by
  obtain ⟨h1, h2, h3⟩ := h
  rcases h3 with h3 | h3
  · exact .inl h3
  · right
    match l, h2 with
    | x :: r, _ =>
      have h4 := h1 x (by simp)
      have h5 : x.toNat ≠ 48 := fun e => h3 (UInt8.toNat_inj.1 e)
      rw [dv_cons0, List.length_cons, Nat.add_sub_cancel]
      have h6 : 1 * 10 ^ r.length ≤ (x.toNat - 48) * 10 ^ r.length := Nat.mul_le_mul_right _ (by omega)
      omega
theorem canon_len {l m : List UInt8} (hl : canon l) (hm : canon m) (e : dv 0 l = dv 0 m) : l.length = m.length := by
  have key : ∀ {l m : List UInt8}, canon l → canon m → dv 0 l = dv 0 m → l.length ≤ m.length := by
    intro l m hl hm e
    rcases canon_lo hl with h | h
    · have := hm.2.1; omega
    · have h2 := dv_lt hm.1
      have h3 : 10 ^ (l.length - 1) < 10 ^ m.length := by omega
      have := (Nat.pow_lt_pow_iff_right (by decide : 1 < 10)).1 h3
      omega
  exact Nat.le_antisymm (key hl hm e) (key hm hl e.symm)
theorem Bp_nat (i : Nat) : Bp i = ((10 ^ (9 * i) : Nat) : Int) := by
  unfold Bp
  rw [show (1000000000 : Int) = ((10 ^ 9 : Nat) : Int) by decide, ← Int.natCast_pow, ← Nat.pow_mul]

end Go.Proofs.YthhjcfejgoddlaaGreatDoor
end

section
set_option linter.unusedSimpArgs false
set_option linter.unusedVariables false
set_option maxRecDepth 100000
namespace Go.Proofs.YthhjcfejgoddlaaGreatDoor
open Go Go.Abs Go.RowKit
attribute [local go_sem] wrap64 Int.tdiv_eq_ediv_of_nonneg Int.tmod_eq_emod_of_nonneg eq_self Bool.false_eq_true Bool.true_eq_false Bool.not_true Bool.not_false
attribute [local go_sem_proc] Nat.reduceAdd Nat.reduceMul Nat.reduceEqDiff Nat.reduceLT Nat.reduceLeDiff Int.reduceEq Int.reduceNeg Int.reduceToNat reduceCtorEq Int.reduceBNe Int.reduceBEq

/-- The digits of a text, without the sign. -/
theorem decDigits_head : ∀ u : Nat, u ≠ 0 → (Lib.decDigits u).headD 0 ≠ 48
  | u, hu => by
    rw [Lib.decDigits]
    split
    · rename_i h
      simp only [List.headD_cons]
      intro e
      have := congrArg UInt8.toNat e
      rw [byte_ofNat h] at this
      simp at this; omega
    · rename_i h
      have hd := decDigits_head (u / 10) (by omega)
      have hp := decDigits_pos (u / 10)
      match hh : Lib.decDigits (u / 10), hp with
      | y :: r, _ =>
        rw [hh] at hd
        simpa using hd
  termination_by u => u
theorem wr_canon (n : Nat) (hn : lenZ (n : Int) ≤ 40) : canon (wr false (D n)) ∧ dv 0 (wr false (D n)) = n := by
  have hd := dig_D n
  by_cases h0 : n = 0
  · subst h0
    rw [D_zero]
    refine ⟨⟨?_, by decide, .inl rfl⟩, by decide⟩
    intro x hx
    have : x = 48 := by simpa [wr, wrh] using hx
    subst this; decide
  · have hne : D n ≠ [] := fun e => h0 (D_nil.1 e)
    have e : wr false (D n) = (List.range (D n).length).flatMap (chk (D n)) := by
      unfold wr wrh; rw [if_neg hne]; rfl
    rw [e]
    have hv := body_dv hd (D n).length (Nat.le_refl _)
    rw [Nat.sub_self, List.drop_zero, val_D] at hv
    refine ⟨⟨body_isD hd _, ?_, .inr ?_⟩, by exact_mod_cast hv⟩
    · have := wr_pos false (D n) hd
      unfold wrh at this; rw [if_neg hne] at this; simpa using this
    · obtain ⟨m, hm⟩ : ∃ m, (D n).length = m + 1 := ⟨(D n).length - 1, by have : (D n).length ≠ 0 := fun e => hne (List.eq_nil_of_length_eq_zero e); omega⟩
      rw [hm, List.range_succ_eq_map, List.flatMap_cons, chk_0]
      have hk := (okI_def _ _).1 (okZ hn)
      rw [Int.natAbs_natCast] at hk
      have ht := hk.2.2.1 (by omega)
      have hr := dig_getD hd ((D n).length - 1)
      rw [Nat.sub_zero, itoa_dec hr.1]
      have hd2 := decDigits_head ((D n).getD ((D n).length - 1) 0).toNat (by omega)
      have hp := decDigits_pos ((D n).getD ((D n).length - 1) 0).toNat
      match hh : Lib.decDigits ((D n).getD ((D n).length - 1) 0).toNat, hp with
      | y :: r, _ =>
        rw [hh] at hd2
        simpa using hd2
end Go.Proofs.YthhjcfejgoddlaaGreatDoor
end

section
/- Drawn regions, one operation at a time. -/
namespace Go.Abs
variable {P : Program} {T : Tab}
theorem planK_step {ops : Array Oper} {i : Nat} {l : List Pl} {σ : St} {X : St → Prop} (h : ∀ K : St → Prop, (∀ σ', planK P T ops l σ' X → K σ') → takeQ P T ops i σ K) : planK P T ops (.take i :: l) σ X := h _ (fun _ h => h)
theorem planK_one {ops : Array Oper} {i : Nat} {l : List Pl} {σ : St} {X : St → Prop} (h : ∀ K : St → Prop, (∀ σ', planK P T ops l σ' X → K σ') → opQ P T ops i σ K) : planK P T ops (.grp [i] :: l) σ X := by
  rw [plan_one]; exact h _ (fun _ h => h)
theorem planK_end {ops : Array Oper} {σ : St} {X : St → Prop} (h : X σ) : planK P T ops [] σ X := h
/-! Which operations wait for one, reckoned in one go. -/
def wstep (ops : Array Oper) (i : Nat) (r : List Bool) (k : Nat) : Bool :=
  match ops[k]? with
  | some o => o.after.any fun e => Region.binds .any e && (Nat.beq e.on i || r.getD e.on false)
  | none => false
def wl (ops : Array Oper) (i : Nat) : Nat → List Bool
  | 0 => []
  | k + 1 => (fun r => r ++ [wstep ops i r k]) (wl ops i k)
theorem wl_len (ops : Array Oper) (i : Nat) : ∀ k, (wl ops i k).length = k
  | 0 => rfl
  | k + 1 => by simp [wl, wl_len ops i k]
theorem waits_mono {ops : Array Oper} : ∀ {f g : Nat} {j i : Nat}, f ≤ g → waits ops f j i = true → waits ops g j i = true
  | 0, _, j, i, _, h => by simp [waits] at h
  | f + 1, 0, j, i, hg, h => by omega
  | f + 1, g + 1, j, i, hg, h => by
    unfold waits at h ⊢
    split at h
    · rename_i oj hj
      obtain ⟨e, he, hb⟩ := Array.any_eq_true'.1 h
      refine Array.any_eq_true'.2 ⟨e, he, ?_⟩
      simp only [Bool.and_eq_true, Bool.or_eq_true] at hb ⊢
      exact ⟨hb.1, hb.2.imp id (waits_mono (by omega))⟩
    · cases h
theorem wl_ok {ops : Array Oper} {i : Nat} : ∀ k j, (wl ops i k).getD j false = true → waits ops (j + 1) j i = true
  | 0, j, h => by simp [wl] at h
  | k + 1, j, h => by
    have hl := wl_len ops i k
    rw [show wl ops i (k + 1) = wl ops i k ++ [wstep ops i (wl ops i k) k] from rfl] at h
    rcases Nat.lt_trichotomy j k with g | g | g
    · refine wl_ok k j ?_
      simp only [List.getD, List.getElem?_append_left (show j < (wl ops i k).length by omega)] at h ⊢
      exact h
    · subst g
      simp only [List.getD, List.getElem?_append_right (show (wl ops i j).length ≤ j by omega), hl, Nat.sub_self, List.getElem?_cons_zero, Option.getD_some] at h
      unfold wstep at h
      unfold waits
      split at h
      · rename_i oj hj
        obtain ⟨e, he, hb⟩ := Array.any_eq_true'.1 h
        rw [hj]
        refine Array.any_eq_true'.2 ⟨e, he, ?_⟩
        simp only [Bool.and_eq_true, Bool.or_eq_true] at hb ⊢
        refine ⟨hb.1, hb.2.imp id fun h3 => ?_⟩
        have hlt : e.on < j := by
          rcases Nat.lt_or_ge e.on j with g | g
          · exact g
          · rw [List.getD, List.getElem?_eq_none (by omega)] at h3; cases h3
        exact waits_mono (by omega) (wl_ok j e.on h3)
      · cases h
    · rw [List.getD, List.getElem?_eq_none (by simp; omega)] at h; cases h
def takeOk2 (ops : Array Oper) (listed : Array Bool) (i : Nat) : Bool :=
  match ops[i]? with
  | none => false
  | some oi => quietB oi.op && (Region.ready .any ops listed).contains i && (fun r => (List.range ops.size).all fun j => Nat.beq j i || listed.getD j true || (r.getD j false || match ops[j]? with
    | some oj => oi.apart ops oj && (sfree oi.op || quietB oj.op || newB oj.op)
    | none => true)) (wl ops i ops.size)
theorem takeOk_of {ops : Array Oper} {listed : Array Bool} {i : Nat} (h : takeOk2 ops listed i = true) : takeOk ops listed i = true := by
  unfold takeOk2 at h
  unfold takeOk
  cases hi : ops[i]? with
  | none => rw [hi] at h; exact h
  | some oi =>
    rw [hi] at h
    simp only [Bool.and_eq_true, List.all_eq_true, List.mem_range] at h ⊢
    refine ⟨h.1, fun j hj => ?_⟩
    have h0 := h.2 j hj
    rw [Bool.or_eq_true] at h0 ⊢
    rcases h0 with h1 | h1
    · exact .inl h1
    · right
      rw [Bool.or_eq_true] at h1
      rw [Array.getElem?_eq_getElem hj] at h1 ⊢
      simp only at h1 ⊢
      rcases h1 with h1 | h1
      · rw [waits_mono (show j + 1 ≤ ops.size by omega) (wl_ok _ _ h1), Bool.true_or]
      · rw [h1, Bool.or_true]
def planOk2 (ops : Array Oper) : List Pl → Array Bool → Bool
  | [], listed => (Region.ready .any ops listed).isEmpty
  | .take i :: l, listed => takeOk2 ops listed i && planOk2 ops l (listed.setIfInBounds i true)
  | .grp g :: l, listed => permOk ops g.length listed g && planOk2 ops l (g.foldl (fun a i => a.setIfInBounds i true) listed)
theorem planOk_of {ops : Array Oper} : ∀ {l : List Pl} {listed : Array Bool}, planOk2 ops l listed = true → planOk ops l listed = true
  | [], _, h => h
  | .take i :: l, listed, h => by
    simp only [planOk2, planOk, Bool.and_eq_true] at h ⊢
    exact ⟨takeOk_of h.1, planOk_of h.2⟩
  | .grp g :: l, listed, h => by
    simp only [planOk2, planOk, Bool.and_eq_true] at h ⊢
    exact ⟨h.1, planOk_of h.2⟩
def plansOk2 (ops : Array Oper) (l : List Pl) : Bool := Nat.beq (lens l) ops.size && planOk2 ops l (Array.replicate ops.size false)
theorem AWp.draw2 {c : Ctx} {ro : Option Nat} {id : Nat} {ops : Array Oper} {σ : St} {Q : Exit → St → Prop} (l : List Pl) (hm : P.follows .mixedOrders = true) (hp : plansOk2 ops l = true) (hok : ops.toList.all (dstOk c.N) = true)
    (h : planK P T ops l σ fun σ' => Q .normal σ') : AWp P T c ro (.region id ops true) σ Q :=
  AWp.draw l hm (by
    unfold plansOk2 at hp
    unfold plansOk
    rw [Bool.and_eq_true] at hp ⊢
    exact ⟨hp.1, planOk_of hp.2⟩) hok h
end Go.Abs
end

section
set_option linter.unusedSimpArgs false
set_option linter.unusedVariables false
set_option maxRecDepth 100000
namespace Go.Proofs.YthhjcfejgoddlaaGreatDoor
open Go Go.Abs Go.RowKit

/-! How many digits a text begins with. -/
def isDb (c : UInt8) : Bool := decide (48 ≤ c.toNat ∧ c.toNat ≤ 57)
def ndl (l : List UInt8) : Nat := (l.takeWhile isDb).length
theorem ndl_t {c : UInt8} {l : List UInt8} (h : isDb c = true) : ndl (c :: l) = ndl l + 1 := by simp [ndl, h]
theorem ndl_f {c : UInt8} {l : List UInt8} (h : isDb c = false) : ndl (c :: l) = 0 := by simp [ndl, h]
theorem ndl_le (l : List UInt8) : ndl l ≤ l.length := by
  induction l with
  | nil => exact Nat.le_refl _
  | cons c l ih =>
    cases h : isDb c
    · rw [ndl_f h]; exact Nat.zero_le _
    · rw [ndl_t h, List.length_cons]; omega
theorem ndl_isD (l : List UInt8) : isD (l.take (ndl l)) := by
  induction l with
  | nil => intro c hc; simp at hc
  | cons c l ih =>
    cases h : isDb c
    · rw [ndl_f h]; intro c hc; simp at hc
    · rw [ndl_t h, List.take_succ_cons]
      intro x hx
      rcases List.mem_cons.1 hx with rfl | hx
      · exact of_decide_eq_true h
      · exact ih x hx
theorem ndl_end {l : List UInt8} (h : ndl l < l.length) : isDb (l.getD (ndl l) 0) = false := by
  induction l with
  | nil => simp [ndl] at h
  | cons c l ih =>
    cases hc : isDb c
    · rw [ndl_f hc]; exact hc
    · rw [ndl_t hc] at h ⊢
      rw [List.length_cons] at h
      exact ih (by omega)
theorem dec_lead (n b b1 b2 b3 : Nat) : (b < 128 ∧ Lib.decodeN n b b1 b2 b3 = (b, 1)) ∨ (128 ≤ b ∧ 128 ≤ (Lib.decodeN n b b1 b2 b3).1) := by
  by_cases h : b < 128
  · exact .inl ⟨h, by unfold Lib.decodeN; rw [if_pos h]⟩
  · refine .inr ⟨by omega, ?_⟩
    unfold Lib.decodeN
    rw [if_neg h]
    repeat' split
    all_goals simp only
    all_goals omega
theorem dec_of (s : ByteArray) (i : Nat) : pD (Utf8.decode s i).1 = !(isDb (s.get! i)) ∧ (isDb (s.get! i) = true → (Utf8.decode s i).2 = 1) := by
  rw [Lib.decode_at]
  unfold pD isDb
  rw [← decide_not, decide_eq_decide, decide_eq_true_eq]
  rcases dec_lead (s.size - i) (s.get! i).toNat (s.get! (i + 1)).toNat (s.get! (i + 2)).toNat (s.get! (i + 3)).toNat with ⟨h1, h2⟩ | ⟨h1, h2⟩
  · rw [h2]
    exact ⟨by constructor <;> intro h <;> omega, fun _ => rfl⟩
  · exact ⟨by constructor <;> intro h <;> omega, fun h => by omega⟩
theorem bs_get! {l : List UInt8} {i : Nat} (h : i < l.length) : (bs l).get! i = l.getD i 0 := by
  simp [bs, ByteArray.get!, List.getD, h, getElem!_pos]
theorem idx_from (l : List UInt8) : ∀ (f pos : Nat), pos ≤ l.length → l.length ≤ pos + f → Lib.idxFuncFrom pD true (bs l) f pos = if ndl (l.drop pos) = (l.drop pos).length then -1 else ((pos + ndl (l.drop pos) : Nat) : Int)
  | 0, pos, h1, h2 => by
    have : pos = l.length := by omega
    subst this
    simp [Lib.idxFuncFrom, ndl]
  | f + 1, pos, h1, h2 => by
    unfold Lib.idxFuncFrom
    rw [bs_size]
    by_cases hp : pos < l.length
    · rw [if_pos hp]
      obtain ⟨d1, d2⟩ := dec_of (bs l) pos
      rw [bs_get! hp] at d1 d2
      have e : l.drop pos = l.getD pos 0 :: l.drop (pos + 1) := by
        rw [List.drop_eq_getElem_cons hp]; simp [List.getD, hp]
      rw [d1, e]
      cases hb : isDb (l.getD pos 0)
      · rw [if_pos (by rfl), ndl_f hb, if_neg (by simp)]; simp
      · rw [if_neg (by simp), d2 hb, ndl_t hb, idx_from l f (pos + 1) (by omega) (by omega), List.length_cons]
        by_cases h3 : ndl (l.drop (pos + 1)) = (l.drop (pos + 1)).length
        · rw [if_pos h3, if_pos (by omega)]
        · rw [if_neg h3, if_neg (by omega)]; omega
    · rw [if_neg hp]
      have : pos = l.length := by omega
      subst this
      simp [ndl]
theorem digN_bs (l : List UInt8) : digN (bs l) = (ndl l : Int) := by
  unfold digN Lib.idxFunc
  rw [bs_size, idx_from l l.length 0 (Nat.zero_le _) (by omega), List.drop_zero]
  have := ndl_le l
  by_cases h : ndl l = l.length
  · rw [if_pos h, if_pos (by omega), h]
  · rw [if_neg h, if_neg (by omega)]; simp
/-! Digits as numbers. -/
theorem parse10 : ∀ (l : List UInt8) (acc : Nat), isD l → dv acc l < 1844674407370955162 → Lib.parseUint10 acc l = .ok (dv acc l)
  | [], acc, _, _ => rfl
  | c :: l, acc, hd, h => by
    have hc := hd c (by simp)
    have hl : isD l := fun x hx => hd x (by simp [hx])
    have hge := dv_ge l (acc * 10 + (c.toNat - 48))
    rw [dv_cons] at h ⊢
    rw [Lib.parseUint10, if_pos hc, if_neg (by omega), if_neg (by omega)]
    exact parse10 l _ hl h
theorem atoi_isD {l : List UInt8} (h : isD l) (h0 : l ≠ []) (h1 : l.length ≤ 9) : Lib.atoiAll l = .ok ((dv 0 l : Nat) : Int) := by
  have hlt := dv_lt h
  have hle : 10 ^ l.length ≤ 10 ^ 9 := Nat.pow_le_pow_right (by decide) h1
  match l, h0 with
  | c :: r, _ =>
    have hc := h c (by simp)
    unfold Lib.atoiAll
    have e1 : ¬ (c.toNat = 43 ∨ c.toNat = 45) := by omega
    have e2 : ¬ c.toNat = 45 := by omega
    have e3 : ¬ c.toNat = 43 := by omega
    simp only [e2, e3, or_self, if_false]
    have : Lib.parseMag (c :: r) = .ok (dv 0 (c :: r)) := by
      unfold Lib.parseMag
      rw [if_neg (by simp)]
      exact parse10 _ 0 h (by omega)
    rw [this]
    simp only
    rw [if_neg (by omega), if_neg (by simp)]
end Go.Proofs.YthhjcfejgoddlaaGreatDoor
end

section
set_option linter.unusedSimpArgs false
set_option linter.unusedVariables false
set_option maxRecDepth 100000
namespace Go.Proofs.YthhjcfejgoddlaaGreatDoor
open Go Go.Abs Go.RowKit
attribute [local go_sem] wrap64 Int.tdiv_eq_ediv_of_nonneg Int.tmod_eq_emod_of_nonneg eq_self Bool.false_eq_true Bool.true_eq_false Bool.not_true Bool.not_false
attribute [local go_sem_proc] Nat.reduceAdd Nat.reduceMul Nat.reduceEqDiff Nat.reduceLT Nat.reduceLeDiff Int.reduceEq Int.reduceNeg Int.reduceToNat reduceCtorEq Int.reduceBNe Int.reduceBEq

/-- What Read answers at a text behind its sign. -/
def rdE (r : List UInt8) : Prop := 360 < ndl r ∧ r.getD 0 0 ≠ 48
def rdN (neg : Bool) (r : List UInt8) : Prop := ndl r = 0 ∨ ndl r ≠ r.length ∨ (r.getD 0 0 = 48 ∧ (1 < ndl r ∨ neg = true))
instance (r : List UInt8) : Decidable (rdE r) := by unfold rdE; infer_instance
instance (neg : Bool) (r : List UInt8) : Decidable (rdN neg r) := by unfold rdN; infer_instance
def rdV (neg : Bool) (r : List UInt8) : AV :=
  if rdE r then .tup [Zr false [], I 2] else if rdN neg r then .tup [Zr false [], I 12] else .tup [Z (sg neg (dv 0 r)), I 0]
theorem byteAt_bs (r : List UInt8) (m : Nat) : byteAt (bs r) m = ((r.getD m 0).toNat : Int) := by simp [byteAt, bs]
theorem b48 (x : UInt8) : ((x.toNat : Int) = 48) = (x = 48) := by
  rw [eq_iff_iff, ← UInt8.toNat_inj]
  show (x.toNat : Int) = 48 ↔ x.toNat = 48
  omega
theorem bs_extract (r : List UInt8) (a b : Nat) : (bs r).extract a b = bs ((r.take b).drop a) := by
  apply ByteArray.ext
  simp [bs, List.drop_take]
theorem drop_split (r : List UInt8) {a b : Nat} (h : a ≤ b) (h2 : b ≤ r.length) : r.drop a = (r.take b).drop a ++ r.drop b := by
  conv => lhs; rw [← List.take_append_drop b r]
  rw [List.drop_append_of_le_length (by rw [List.length_take]; omega)]
def FRd (neg : Bool) (r : List UInt8) : Nat × List Int → St := fun ⟨j, l⟩ => ⟨[(2, .ptr 0 0), (3, I 0), (4, .dat (.str (bs r))), (5, B neg), (6, I r.length), (7, gL 1 (l.map eI)), (8, I ((r.length : Int) - 9 * j))], (0, .box [B false, .nil] false) :: gS 3 1 1 (l.map eI) false [], 2, 0⟩
set_option maxHeartbeats 8000000 in
theorem Read_pc (t : List UInt8) (ht : t.length ≤ 1000000) : PC Tryz.prog 67 [.dat (.str (bs t))] (rdV (Lib.hasPrefix t [45]) (Lib.trimPrefix t [45])) := by
  have hcut := cut_pc (bs t) ⟨#[45]⟩
  rw [bs_toList, show (⟨#[45]⟩ : ByteArray).data.toList = [45] from rfl] at hcut
  have hcut : PC Tryz.prog 116 [.dat (.str (bs t)), .dat (.str ⟨#[45]⟩)] (.tup [.dat (.str (bs (Lib.trimPrefix t [45]))), B (Lib.hasPrefix t [45])]) := hcut
  have hlr : (Lib.trimPrefix t [45]).length ≤ 1000000 := by
    unfold Lib.trimPrefix; split
    · simp; omega
    · exact ht
  generalize Lib.trimPrefix t [45] = r at *
  generalize Lib.hasPrefix t [45] = neg at *
  have hdig := digits_pc (bs r)
  rw [digN_bs] at hdig
  have hle := ndl_le r
  have hsz := bs_size r
  have hb0 := byteAt_bs r 0
  have h48 := b48 (r.getD 0 0)
  rw [← hb0] at h48
  unfold rdV
  by_cases hE : rdE r
  · rw [if_pos hE]
    obtain ⟨e1, e2⟩ := hE
    have e3 : (byteAt (bs r) 0 != 48) = true := by rw [bne_iff_ne, ne_eq, h48]; exact e2
    have e4 : decide ((360 : Int) < (ndl r : Int)) = true := decide_eq_true (by omega)
    refine PCr.pc (PCr.of tab_ok Tryz.func67 rfl rfl rfl fun c hc hm => ?_)
    rw [show Tryz.f67.ntmps = _ from Tryz.ntmps67] at hc
    simp only [Tryz.f67]
    repeat' first | (exact absurd hlt (by decide)) | (refine AWp.seq fun K hK => ?_) | ((first | refine AWp.region (by rw [hc]; rfl) ?_ | refine AWp.skip ?_ | refine AWp.exit ?_ | refine AWp.label ?_ | refine AWp.ret ?_ | refine appK_g ?_); simp -implicitDefEqProofs (maxSteps := 1000000) (disch := omega) only [go_sem, ↓reduceIte, hsz, e3, e4]) | ((first | refine hK _ ?_ | (clear hK; first | refine hK _ ?_ | (clear hK; first | refine hK _ ?_ | (clear hK; refine hK _ ?_)))); clear hK) | (refine AWp.cond ?_; simp -implicitDefEqProofs (maxSteps := 1000000) (disch := omega) only [go_sem, ↓reduceIte, hsz, e3, e4]; try (refine ⟨fun hlt => ?_, fun hlt => ?_⟩ <;> (try simp only [cla, clb, ne_eq, reduceCtorEq] at hlt) <;> (try exact hlt.elim))) | (refine AWp.block ?_) | ((first | refine gdO_split (fun hlt => ?_) (fun hlt => ?_) | refine tkO_split (fun hlt => ?_) (fun hlt => ?_) | refine opO_split (fun hlt => ?_) (fun hlt => ?_)) <;> have hgd := hlt <;> (try simp only [cla, clb, ne_eq, cld] at hlt) <;> (simp -implicitDefEqProofs (maxSteps := 1000000) (disch := omega) only [go_sem, ↓reduceIte, hsz, e3, e4, hgd]) <;> clear hgd) | (with_reducible refine And.intro ?_ ?_; · first | omega | assumption | exact ⟨_, _, rfl, rfl⟩) | ((first | refine ⟨_, hcut, ?_⟩ | refine ⟨_, hdig, ?_⟩); simp -implicitDefEqProofs (maxSteps := 1000000) (disch := omega) only [go_sem, ↓reduceIte, hsz, e3, e4]) | fail
  · rw [if_neg hE]
    have hE' : 360 < ndl r → byteAt (bs r) 0 = 48 := fun h => by
      rw [h48]; exact Classical.not_not.1 fun h2 => hE ⟨h, h2⟩
    by_cases hN : rdN neg r
    · rw [if_pos hN]
      unfold rdN at hN
      rw [← h48] at hN
      by_cases n0 : ndl r = 0
      · have f1 : decide ((360 : Int) < (ndl r : Int)) = false := decide_eq_false (by omega)
        have f2 : ((ndl r : Int) == 0) = true := by rw [beq_iff_eq]; omega
        refine PCr.pc (PCr.of tab_ok Tryz.func67 rfl rfl rfl fun c hc hm => ?_)
        rw [show Tryz.f67.ntmps = _ from Tryz.ntmps67] at hc
        simp only [Tryz.f67]
        repeat' first | (exact absurd hlt (by decide)) | (refine AWp.seq fun K hK => ?_) | ((first | refine AWp.region (by rw [hc]; rfl) ?_ | refine AWp.skip ?_ | refine AWp.exit ?_ | refine AWp.label ?_ | refine AWp.ret ?_ | refine appK_g ?_); simp -implicitDefEqProofs (maxSteps := 1000000) (disch := omega) only [go_sem, ↓reduceIte, hsz, f1, f2]) | ((first | refine hK _ ?_ | (clear hK; first | refine hK _ ?_ | (clear hK; first | refine hK _ ?_ | (clear hK; refine hK _ ?_)))); clear hK) | (refine AWp.cond ?_; simp -implicitDefEqProofs (maxSteps := 1000000) (disch := omega) only [go_sem, ↓reduceIte, hsz, f1, f2]; try (refine ⟨fun hlt => ?_, fun hlt => ?_⟩ <;> (try simp only [cla, clb, ne_eq, reduceCtorEq] at hlt) <;> (try exact hlt.elim))) | (refine AWp.block ?_) | ((first | refine gdO_split (fun hlt => ?_) (fun hlt => ?_) | refine tkO_split (fun hlt => ?_) (fun hlt => ?_) | refine opO_split (fun hlt => ?_) (fun hlt => ?_)) <;> have hgd := hlt <;> (try simp only [cla, clb, ne_eq, cld] at hlt) <;> (simp -implicitDefEqProofs (maxSteps := 1000000) (disch := omega) only [go_sem, ↓reduceIte, hsz, f1, f2, hgd]) <;> clear hgd) | (with_reducible refine And.intro ?_ ?_; · first | omega | assumption | exact ⟨_, _, rfl, rfl⟩) | ((first | refine ⟨_, hcut, ?_⟩ | refine ⟨_, hdig, ?_⟩); simp -implicitDefEqProofs (maxSteps := 1000000) (disch := omega) only [go_sem, ↓reduceIte, hsz, f1, f2]) | fail
      · have f2 : ((ndl r : Int) == 0) = false := by rw [beq_eq_false_iff_ne]; omega
        by_cases n1 : ndl r = r.length
        · have f3 : ((ndl r : Int) != (r.length : Int)) = false := by rw [bne_eq_false_iff_eq]; omega
          obtain ⟨g1, g2⟩ : byteAt (bs r) 0 = 48 ∧ (1 < ndl r ∨ neg = true) := by
            rcases hN with h | h | h
            · exact absurd h n0
            · exact absurd n1 h
            · exact h
          have f4 : (byteAt (bs r) 0 != 48) = false := by rw [bne_eq_false_iff_eq]; exact g1
          have f5 : (byteAt (bs r) 0 == 48) = true := by rw [beq_iff_eq]; exact g1
          by_cases n2 : 1 < ndl r
          · have f6 : decide ((1 : Int) < (ndl r : Int)) = true := decide_eq_true (by omega)
            by_cases n3 : 360 < ndl r
            · have f1 : decide ((360 : Int) < (ndl r : Int)) = true := decide_eq_true (by omega)
              refine PCr.pc (PCr.of tab_ok Tryz.func67 rfl rfl rfl fun c hc hm => ?_)
              rw [show Tryz.f67.ntmps = _ from Tryz.ntmps67] at hc
              simp only [Tryz.f67]
              repeat' first | (exact absurd hlt (by decide)) | (refine AWp.seq fun K hK => ?_) | ((first | refine AWp.region (by rw [hc]; rfl) ?_ | refine AWp.skip ?_ | refine AWp.exit ?_ | refine AWp.label ?_ | refine AWp.ret ?_ | refine appK_g ?_); simp -implicitDefEqProofs (maxSteps := 1000000) (disch := omega) only [go_sem, ↓reduceIte, hsz, f1, f2, f3, f4, f5, f6]) | ((first | refine hK _ ?_ | (clear hK; first | refine hK _ ?_ | (clear hK; first | refine hK _ ?_ | (clear hK; refine hK _ ?_)))); clear hK) | (refine AWp.cond ?_; simp -implicitDefEqProofs (maxSteps := 1000000) (disch := omega) only [go_sem, ↓reduceIte, hsz, f1, f2, f3, f4, f5, f6]; try (refine ⟨fun hlt => ?_, fun hlt => ?_⟩ <;> (try simp only [cla, clb, ne_eq, reduceCtorEq] at hlt) <;> (try exact hlt.elim))) | (refine AWp.block ?_) | ((first | refine gdO_split (fun hlt => ?_) (fun hlt => ?_) | refine tkO_split (fun hlt => ?_) (fun hlt => ?_) | refine opO_split (fun hlt => ?_) (fun hlt => ?_)) <;> have hgd := hlt <;> (try simp only [cla, clb, ne_eq, cld] at hlt) <;> (simp -implicitDefEqProofs (maxSteps := 1000000) (disch := omega) only [go_sem, ↓reduceIte, hsz, f1, f2, f3, f4, f5, f6, hgd]) <;> clear hgd) | (with_reducible refine And.intro ?_ ?_; · first | omega | assumption | exact ⟨_, _, rfl, rfl⟩) | ((first | refine ⟨_, hcut, ?_⟩ | refine ⟨_, hdig, ?_⟩); simp -implicitDefEqProofs (maxSteps := 1000000) (disch := omega) only [go_sem, ↓reduceIte, hsz, f1, f2, f3, f4, f5, f6]) | fail
            · have f1 : decide ((360 : Int) < (ndl r : Int)) = false := decide_eq_false (by omega)
              refine PCr.pc (PCr.of tab_ok Tryz.func67 rfl rfl rfl fun c hc hm => ?_)
              rw [show Tryz.f67.ntmps = _ from Tryz.ntmps67] at hc
              simp only [Tryz.f67]
              repeat' first | (exact absurd hlt (by decide)) | (refine AWp.seq fun K hK => ?_) | ((first | refine AWp.region (by rw [hc]; rfl) ?_ | refine AWp.skip ?_ | refine AWp.exit ?_ | refine AWp.label ?_ | refine AWp.ret ?_ | refine appK_g ?_); simp -implicitDefEqProofs (maxSteps := 1000000) (disch := omega) only [go_sem, ↓reduceIte, hsz, f1, f2, f3, f4, f5, f6]) | ((first | refine hK _ ?_ | (clear hK; first | refine hK _ ?_ | (clear hK; first | refine hK _ ?_ | (clear hK; refine hK _ ?_)))); clear hK) | (refine AWp.cond ?_; simp -implicitDefEqProofs (maxSteps := 1000000) (disch := omega) only [go_sem, ↓reduceIte, hsz, f1, f2, f3, f4, f5, f6]; try (refine ⟨fun hlt => ?_, fun hlt => ?_⟩ <;> (try simp only [cla, clb, ne_eq, reduceCtorEq] at hlt) <;> (try exact hlt.elim))) | (refine AWp.block ?_) | ((first | refine gdO_split (fun hlt => ?_) (fun hlt => ?_) | refine tkO_split (fun hlt => ?_) (fun hlt => ?_) | refine opO_split (fun hlt => ?_) (fun hlt => ?_)) <;> have hgd := hlt <;> (try simp only [cla, clb, ne_eq, cld] at hlt) <;> (simp -implicitDefEqProofs (maxSteps := 1000000) (disch := omega) only [go_sem, ↓reduceIte, hsz, f1, f2, f3, f4, f5, f6, hgd]) <;> clear hgd) | (with_reducible refine And.intro ?_ ?_; · first | omega | assumption | exact ⟨_, _, rfl, rfl⟩) | ((first | refine ⟨_, hcut, ?_⟩ | refine ⟨_, hdig, ?_⟩); simp -implicitDefEqProofs (maxSteps := 1000000) (disch := omega) only [go_sem, ↓reduceIte, hsz, f1, f2, f3, f4, f5, f6]) | fail
          · have f6 : decide ((1 : Int) < (ndl r : Int)) = false := decide_eq_false (by omega)
            have f1 : decide ((360 : Int) < (ndl r : Int)) = false := decide_eq_false (by omega)
            have hneg : neg = true := g2.resolve_left n2
            subst hneg
            refine PCr.pc (PCr.of tab_ok Tryz.func67 rfl rfl rfl fun c hc hm => ?_)
            rw [show Tryz.f67.ntmps = _ from Tryz.ntmps67] at hc
            simp only [Tryz.f67]
            repeat' first | (exact absurd hlt (by decide)) | (refine AWp.seq fun K hK => ?_) | ((first | refine AWp.region (by rw [hc]; rfl) ?_ | refine AWp.skip ?_ | refine AWp.exit ?_ | refine AWp.label ?_ | refine AWp.ret ?_ | refine appK_g ?_); simp -implicitDefEqProofs (maxSteps := 1000000) (disch := omega) only [go_sem, ↓reduceIte, hsz, f1, f2, f3, f4, f5, f6]) | ((first | refine hK _ ?_ | (clear hK; first | refine hK _ ?_ | (clear hK; first | refine hK _ ?_ | (clear hK; refine hK _ ?_)))); clear hK) | (refine AWp.cond ?_; simp -implicitDefEqProofs (maxSteps := 1000000) (disch := omega) only [go_sem, ↓reduceIte, hsz, f1, f2, f3, f4, f5, f6]; try (refine ⟨fun hlt => ?_, fun hlt => ?_⟩ <;> (try simp only [cla, clb, ne_eq, reduceCtorEq] at hlt) <;> (try exact hlt.elim))) | (refine AWp.block ?_) | ((first | refine gdO_split (fun hlt => ?_) (fun hlt => ?_) | refine tkO_split (fun hlt => ?_) (fun hlt => ?_) | refine opO_split (fun hlt => ?_) (fun hlt => ?_)) <;> have hgd := hlt <;> (try simp only [cla, clb, ne_eq, cld] at hlt) <;> (simp -implicitDefEqProofs (maxSteps := 1000000) (disch := omega) only [go_sem, ↓reduceIte, hsz, f1, f2, f3, f4, f5, f6, hgd]) <;> clear hgd) | (with_reducible refine And.intro ?_ ?_; · first | omega | assumption | exact ⟨_, _, rfl, rfl⟩) | ((first | refine ⟨_, hcut, ?_⟩ | refine ⟨_, hdig, ?_⟩); simp -implicitDefEqProofs (maxSteps := 1000000) (disch := omega) only [go_sem, ↓reduceIte, hsz, f1, f2, f3, f4, f5, f6]) | fail
        · have f3 : ((ndl r : Int) != (r.length : Int)) = true := by rw [bne_iff_ne]; omega
          by_cases n3 : 360 < ndl r
          · have f1 : decide ((360 : Int) < (ndl r : Int)) = true := decide_eq_true (by omega)
            have f4 : (byteAt (bs r) 0 != 48) = false := by rw [bne_eq_false_iff_eq]; exact hE' n3
            refine PCr.pc (PCr.of tab_ok Tryz.func67 rfl rfl rfl fun c hc hm => ?_)
            rw [show Tryz.f67.ntmps = _ from Tryz.ntmps67] at hc
            simp only [Tryz.f67]
            repeat' first | (exact absurd hlt (by decide)) | (refine AWp.seq fun K hK => ?_) | ((first | refine AWp.region (by rw [hc]; rfl) ?_ | refine AWp.skip ?_ | refine AWp.exit ?_ | refine AWp.label ?_ | refine AWp.ret ?_ | refine appK_g ?_); simp -implicitDefEqProofs (maxSteps := 1000000) (disch := omega) only [go_sem, ↓reduceIte, hsz, f1, f2, f3, f4]) | ((first | refine hK _ ?_ | (clear hK; first | refine hK _ ?_ | (clear hK; first | refine hK _ ?_ | (clear hK; refine hK _ ?_)))); clear hK) | (refine AWp.cond ?_; simp -implicitDefEqProofs (maxSteps := 1000000) (disch := omega) only [go_sem, ↓reduceIte, hsz, f1, f2, f3, f4]; try (refine ⟨fun hlt => ?_, fun hlt => ?_⟩ <;> (try simp only [cla, clb, ne_eq, reduceCtorEq] at hlt) <;> (try exact hlt.elim))) | (refine AWp.block ?_) | ((first | refine gdO_split (fun hlt => ?_) (fun hlt => ?_) | refine tkO_split (fun hlt => ?_) (fun hlt => ?_) | refine opO_split (fun hlt => ?_) (fun hlt => ?_)) <;> have hgd := hlt <;> (try simp only [cla, clb, ne_eq, cld] at hlt) <;> (simp -implicitDefEqProofs (maxSteps := 1000000) (disch := omega) only [go_sem, ↓reduceIte, hsz, f1, f2, f3, f4, hgd]) <;> clear hgd) | (with_reducible refine And.intro ?_ ?_; · first | omega | assumption | exact ⟨_, _, rfl, rfl⟩) | ((first | refine ⟨_, hcut, ?_⟩ | refine ⟨_, hdig, ?_⟩); simp -implicitDefEqProofs (maxSteps := 1000000) (disch := omega) only [go_sem, ↓reduceIte, hsz, f1, f2, f3, f4]) | fail
          · have f1 : decide ((360 : Int) < (ndl r : Int)) = false := decide_eq_false (by omega)
            refine PCr.pc (PCr.of tab_ok Tryz.func67 rfl rfl rfl fun c hc hm => ?_)
            rw [show Tryz.f67.ntmps = _ from Tryz.ntmps67] at hc
            simp only [Tryz.f67]
            repeat' first | (exact absurd hlt (by decide)) | (refine AWp.seq fun K hK => ?_) | ((first | refine AWp.region (by rw [hc]; rfl) ?_ | refine AWp.skip ?_ | refine AWp.exit ?_ | refine AWp.label ?_ | refine AWp.ret ?_ | refine appK_g ?_); simp -implicitDefEqProofs (maxSteps := 1000000) (disch := omega) only [go_sem, ↓reduceIte, hsz, f1, f2, f3]) | ((first | refine hK _ ?_ | (clear hK; first | refine hK _ ?_ | (clear hK; first | refine hK _ ?_ | (clear hK; refine hK _ ?_)))); clear hK) | (refine AWp.cond ?_; simp -implicitDefEqProofs (maxSteps := 1000000) (disch := omega) only [go_sem, ↓reduceIte, hsz, f1, f2, f3]; try (refine ⟨fun hlt => ?_, fun hlt => ?_⟩ <;> (try simp only [cla, clb, ne_eq, reduceCtorEq] at hlt) <;> (try exact hlt.elim))) | (refine AWp.block ?_) | ((first | refine gdO_split (fun hlt => ?_) (fun hlt => ?_) | refine tkO_split (fun hlt => ?_) (fun hlt => ?_) | refine opO_split (fun hlt => ?_) (fun hlt => ?_)) <;> have hgd := hlt <;> (try simp only [cla, clb, ne_eq, cld] at hlt) <;> (simp -implicitDefEqProofs (maxSteps := 1000000) (disch := omega) only [go_sem, ↓reduceIte, hsz, f1, f2, f3, hgd]) <;> clear hgd) | (with_reducible refine And.intro ?_ ?_; · first | omega | assumption | exact ⟨_, _, rfl, rfl⟩) | ((first | refine ⟨_, hcut, ?_⟩ | refine ⟨_, hdig, ?_⟩); simp -implicitDefEqProofs (maxSteps := 1000000) (disch := omega) only [go_sem, ↓reduceIte, hsz, f1, f2, f3]) | fail
    · rw [if_neg hN]
      unfold rdN at hN
      rw [← h48] at hN
      have hn0 : ndl r = r.length := Classical.not_not.1 fun h => hN (.inr (.inl h))
      have hn1 : 0 < r.length := by
        rcases Nat.eq_zero_or_pos (ndl r) with h | h
        · exact absurd (.inl h) hN
        · omega
      have hn2 : byteAt (bs r) 0 = 48 → r.length ≤ 1 ∧ neg = false := fun h => ⟨Nat.not_lt.1 fun h3 => hN (.inr (.inr ⟨h, .inl (by omega)⟩)), by
        cases neg
        · rfl
        · exact absurd (.inr (.inr ⟨h, .inr rfl⟩)) hN⟩
      have hd : isD r := by have := ndl_isD r; rwa [hn0, List.take_length] at this
      rw [hn0] at hdig hE'
      have hr360 : r.length ≤ 360 := by
        rcases Nat.lt_or_ge 360 r.length with h | h
        · have := hn2 (hE' h); omega
        · exact h
      have f1 : decide ((360 : Int) < (r.length : Int)) = false := decide_eq_false (by omega)
      have f2 : ((r.length : Int) == 0) = false := by rw [beq_eq_false_iff_ne]; omega
      have f3 : ((r.length : Int) != (r.length : Int)) = false := by rw [bne_eq_false_iff_eq]
      clear hN hE hE'
      by_cases n48 : byteAt (bs r) 0 = 48
      · obtain ⟨g1, g2⟩ := hn2 n48
        subst g2
        have f4 : (byteAt (bs r) 0 == 48) = true := by rw [beq_iff_eq]; exact n48
        have f6 : decide ((1 : Int) < (r.length : Int)) = false := decide_eq_false (by omega)
        refine PCr.pc (PCr.of tab_ok Tryz.func67 rfl rfl rfl fun c hc hm => ?_)
        rw [show Tryz.f67.ntmps = _ from Tryz.ntmps67] at hc
        simp only [Tryz.f67]
        repeat' first | (exact absurd hlt (by decide)) | (refine AWp.seq fun K hK => ?_) | ((first | refine AWp.region (by rw [hc]; rfl) ?_ | refine AWp.skip ?_ | refine AWp.exit ?_ | refine AWp.label ?_ | refine AWp.ret ?_ | refine appK_g ?_); simp -implicitDefEqProofs (maxSteps := 1000000) (disch := omega) only [go_sem, ↓reduceIte, hsz, f1, f2, f3, f4, f6]) | ((first | refine hK _ ?_ | (clear hK; first | refine hK _ ?_ | (clear hK; first | refine hK _ ?_ | (clear hK; refine hK _ ?_)))); clear hK) | (refine AWp.cond ?_; simp -implicitDefEqProofs (maxSteps := 1000000) (disch := omega) only [go_sem, ↓reduceIte, hsz, f1, f2, f3, f4, f6]; try (refine ⟨fun hlt => ?_, fun hlt => ?_⟩ <;> (try simp only [cla, clb, ne_eq, reduceCtorEq] at hlt) <;> (try exact hlt.elim))) | (refine AWp.block ?_) | ((first | refine gdO_split (fun hlt => ?_) (fun hlt => ?_) | refine tkO_split (fun hlt => ?_) (fun hlt => ?_) | refine opO_split (fun hlt => ?_) (fun hlt => ?_)) <;> have hgd := hlt <;> (try simp only [cla, clb, ne_eq, cld] at hlt) <;> (simp -implicitDefEqProofs (maxSteps := 1000000) (disch := omega) only [go_sem, ↓reduceIte, hsz, f1, f2, f3, f4, f6, hgd]) <;> clear hgd) | (with_reducible refine And.intro ?_ ?_; · first | omega | assumption | exact ⟨_, _, rfl, rfl⟩) | ((first | refine ⟨_, hcut, ?_⟩ | refine ⟨_, hdig, ?_⟩); simp -implicitDefEqProofs (maxSteps := 1000000) (disch := omega) only [go_sem, ↓reduceIte, hsz, f1, f2, f3, f4, f6]) | fail
        refine AWp.loopInv (FRd false r) (fun a => r.length + 9 - 9 * a.1) (fun a => a.2.length = a.1 ∧ dig a.2 ∧ val a.2 = ((dv 0 (r.drop (r.length - 9 * a.1)) : Nat) : Int) ∧ 9 * a.1 < r.length + 9) (0, []) ⟨rfl, dig_nil, by simp [dv_nil, val], by simp only; omega⟩ (Sub.of0 hm id rfl ?_ ?_ (fun _ _ _ _ h => h)) ?_
        all_goals (try dsimp only)
        all_goals (first | omega | (simp -implicitDefEqProofs (maxSteps := 1000000) (disch := omega) only [FRd, id, go_sem, Nat.blt_eq, Nat.reduceAdd, Nat.reduceSub, Nat.reduceEqDiff, Nat.reduceLT, ↓reduceIte, and_true, true_and, AV.dat.injEq, DV.int.injEq, DV.bool.injEq, DV.lst.injEq, eq_self_iff_true]; first | done | omega | (simp; done) | (simp; omega)) | (simp; done) | (simp; omega) | skip)
        rintro ⟨j, l⟩ ⟨b1, b2, b3, b4⟩ ih
        simp only at b1 b2 b3 b4
        simp only [FRd]
        have hat : 9 * j < r.length → PC Tryz.prog 118 [.dat (.str ((bs r).extract (max 0 ((r.length : Int) - 9 * j - 9)).toNat ((r.length : Int) - 9 * j).toNat))] (.tup [I ((dv 0 ((r.take (r.length - 9 * j)).drop (r.length - 9 * (j + 1))) : Nat) : Int), .dat .inil]) := fun h => by
          rw [show (max 0 ((r.length : Int) - 9 * j - 9)).toNat = r.length - 9 * (j + 1) by omega, show ((r.length : Int) - 9 * j).toNat = r.length - 9 * j by omega, bs_extract]
          refine atoi_pc _ ?_ _ ?_
          · rw [bs_size, List.length_drop, List.length_take]; omega
          · rw [bs_toList]
            refine atoi_isD (fun x hx => hd x (List.mem_of_mem_take (List.mem_of_mem_drop hx))) (fun e => ?_) ?_
            · have := congrArg List.length e
              rw [List.length_drop, List.length_take, List.length_nil] at this; omega
            · rw [List.length_drop, List.length_take]; omega
        have hfin : r.length ≤ 9 * j → PC Tryz.prog 91 [B false, L l] (Z (sg false (dv 0 r))) := fun h => by
          refine signed_v false l (dv 0 r) b2 (by omega) ?_
          rw [b3, show r.length - 9 * j = 0 by omega, List.drop_zero]
        repeat' first | (exact absurd hlt (by decide)) | (refine AWp.seq fun K hK => ?_) | ((first | refine AWp.region (by rw [hc]; rfl) ?_ | refine AWp.skip ?_ | refine AWp.exit ?_ | refine AWp.label ?_ | refine AWp.ret ?_ | refine appK_g ?_); simp -implicitDefEqProofs (maxSteps := 1000000) (disch := omega) only [go_sem, ↓reduceIte, hsz]) | ((first | refine hK _ ?_ | (clear hK; first | refine hK _ ?_ | (clear hK; first | refine hK _ ?_ | (clear hK; refine hK _ ?_)))); clear hK) | (refine AWp.cond ?_; simp -implicitDefEqProofs (maxSteps := 1000000) (disch := omega) only [go_sem, ↓reduceIte, hsz]; try (refine ⟨fun hlt => ?_, fun hlt => ?_⟩ <;> (try simp only [cla, clb, ne_eq, reduceCtorEq] at hlt) <;> (try exact hlt.elim))) | (refine AWp.block ?_) | ((first | refine gdO_split (fun hlt => ?_) (fun hlt => ?_) | refine tkO_split (fun hlt => ?_) (fun hlt => ?_) | refine opO_split (fun hlt => ?_) (fun hlt => ?_)) <;> have hgd := hlt <;> (try simp only [cla, clb, ne_eq, cld] at hlt) <;> (simp -implicitDefEqProofs (maxSteps := 1000000) (disch := omega) only [go_sem, ↓reduceIte, hsz, hgd]) <;> clear hgd) | (with_reducible refine And.intro ?_ ?_; · first | omega | assumption | exact ⟨_, _, rfl, rfl⟩) | ((first | refine ⟨_, hat (by omega), ?_⟩ | refine ⟨_, hfin (by omega), ?_⟩); simp -implicitDefEqProofs (maxSteps := 1000000) (disch := omega) only [go_sem, ↓reduceIte, hsz]) | fail
        · have h9 : 9 * j < r.length := by omega
          have hsl : isD ((r.take (r.length - 9 * j)).drop (r.length - 9 * (j + 1))) := fun x hx => hd x (List.mem_of_mem_take (List.mem_of_mem_drop hx))
          have hx := dv_lt hsl
          have hx2 : 10 ^ ((r.take (r.length - 9 * j)).drop (r.length - 9 * (j + 1))).length ≤ 10 ^ 9 := Nat.pow_le_pow_right (by decide) (by rw [List.length_drop, List.length_take]; omega)
          have hsp : r.drop (r.length - 9 * (j + 1)) = (r.take (r.length - 9 * j)).drop (r.length - 9 * (j + 1)) ++ r.drop (r.length - 9 * j) := by
            exact drop_split r (by omega) (by omega)
          generalize hy : (r.take (r.length - 9 * j)).drop (r.length - 9 * (j + 1)) = sl at *
          refine ih (j + 1, l ++ [((dv 0 sl : Nat) : Int)]) _ ⟨by simp only [List.length_append, List.length_cons, List.length_nil]; omega, dig_snoc b2 ⟨by omega, by omega⟩, ?_, by simp only; omega⟩ (by simp only; omega) (Sub.of0 hm (fun i => if i = 0 then 0 else 3) rfl ?_ ?_ ?_)
          · simp only
            rw [hsp, dv_app, dv_lin (r.drop (r.length - 9 * j)) (dv 0 sl), val_append, b1, b3, Bp_nat, List.length_drop, show r.length - (r.length - 9 * j) = 9 * j by omega]
            simp only [val, Int.natCast_add, Int.natCast_mul]
            grind
          all_goals (try dsimp only)
          all_goals (first | omega | (simp -implicitDefEqProofs (maxSteps := 1000000) (disch := omega) only [FRd, id, go_sem, Nat.blt_eq, Nat.reduceAdd, Nat.reduceSub, Nat.reduceEqDiff, Nat.reduceLT, ↓reduceIte, and_true, true_and, AV.dat.injEq, DV.int.injEq, DV.bool.injEq, DV.lst.injEq, eq_self_iff_true]; first | done | omega | (simp; done) | (simp; omega)) | (simp; done) | (simp; omega) | skip)
          all_goals
            intro a b h1 h2 h
            change a < 2 at h1; change b < 2 at h2
            (split at h <;> split at h) <;> omega
      · have f4 : (byteAt (bs r) 0 == 48) = false := by rw [beq_eq_false_iff_ne]; exact n48
        refine PCr.pc (PCr.of tab_ok Tryz.func67 rfl rfl rfl fun c hc hm => ?_)
        rw [show Tryz.f67.ntmps = _ from Tryz.ntmps67] at hc
        simp only [Tryz.f67]
        repeat' first | (exact absurd hlt (by decide)) | (refine AWp.seq fun K hK => ?_) | ((first | refine AWp.region (by rw [hc]; rfl) ?_ | refine AWp.skip ?_ | refine AWp.exit ?_ | refine AWp.label ?_ | refine AWp.ret ?_ | refine appK_g ?_); simp -implicitDefEqProofs (maxSteps := 1000000) (disch := omega) only [go_sem, ↓reduceIte, hsz, f1, f2, f3, f4]) | ((first | refine hK _ ?_ | (clear hK; first | refine hK _ ?_ | (clear hK; first | refine hK _ ?_ | (clear hK; refine hK _ ?_)))); clear hK) | (refine AWp.cond ?_; simp -implicitDefEqProofs (maxSteps := 1000000) (disch := omega) only [go_sem, ↓reduceIte, hsz, f1, f2, f3, f4]; try (refine ⟨fun hlt => ?_, fun hlt => ?_⟩ <;> (try simp only [cla, clb, ne_eq, reduceCtorEq] at hlt) <;> (try exact hlt.elim))) | (refine AWp.block ?_) | ((first | refine gdO_split (fun hlt => ?_) (fun hlt => ?_) | refine tkO_split (fun hlt => ?_) (fun hlt => ?_) | refine opO_split (fun hlt => ?_) (fun hlt => ?_)) <;> have hgd := hlt <;> (try simp only [cla, clb, ne_eq, cld] at hlt) <;> (simp -implicitDefEqProofs (maxSteps := 1000000) (disch := omega) only [go_sem, ↓reduceIte, hsz, f1, f2, f3, f4, hgd]) <;> clear hgd) | (with_reducible refine And.intro ?_ ?_; · first | omega | assumption | exact ⟨_, _, rfl, rfl⟩) | ((first | refine ⟨_, hcut, ?_⟩ | refine ⟨_, hdig, ?_⟩); simp -implicitDefEqProofs (maxSteps := 1000000) (disch := omega) only [go_sem, ↓reduceIte, hsz, f1, f2, f3, f4]) | fail
        refine AWp.loopInv (FRd neg r) (fun a => r.length + 9 - 9 * a.1) (fun a => a.2.length = a.1 ∧ dig a.2 ∧ val a.2 = ((dv 0 (r.drop (r.length - 9 * a.1)) : Nat) : Int) ∧ 9 * a.1 < r.length + 9) (0, []) ⟨rfl, dig_nil, by simp [dv_nil, val], by simp only; omega⟩ (Sub.of0 hm id rfl ?_ ?_ (fun _ _ _ _ h => h)) ?_
        all_goals (try dsimp only)
        all_goals (first | omega | (simp -implicitDefEqProofs (maxSteps := 1000000) (disch := omega) only [FRd, id, go_sem, Nat.blt_eq, Nat.reduceAdd, Nat.reduceSub, Nat.reduceEqDiff, Nat.reduceLT, ↓reduceIte, and_true, true_and, AV.dat.injEq, DV.int.injEq, DV.bool.injEq, DV.lst.injEq, eq_self_iff_true]; first | done | omega | (simp; done) | (simp; omega)) | (simp; done) | (simp; omega) | skip)
        rintro ⟨j, l⟩ ⟨b1, b2, b3, b4⟩ ih
        simp only at b1 b2 b3 b4
        simp only [FRd]
        have hat : 9 * j < r.length → PC Tryz.prog 118 [.dat (.str ((bs r).extract (max 0 ((r.length : Int) - 9 * j - 9)).toNat ((r.length : Int) - 9 * j).toNat))] (.tup [I ((dv 0 ((r.take (r.length - 9 * j)).drop (r.length - 9 * (j + 1))) : Nat) : Int), .dat .inil]) := fun h => by
          rw [show (max 0 ((r.length : Int) - 9 * j - 9)).toNat = r.length - 9 * (j + 1) by omega, show ((r.length : Int) - 9 * j).toNat = r.length - 9 * j by omega, bs_extract]
          refine atoi_pc _ ?_ _ ?_
          · rw [bs_size, List.length_drop, List.length_take]; omega
          · rw [bs_toList]
            refine atoi_isD (fun x hx => hd x (List.mem_of_mem_take (List.mem_of_mem_drop hx))) (fun e => ?_) ?_
            · have := congrArg List.length e
              rw [List.length_drop, List.length_take, List.length_nil] at this; omega
            · rw [List.length_drop, List.length_take]; omega
        have hfin : r.length ≤ 9 * j → PC Tryz.prog 91 [B neg, L l] (Z (sg neg (dv 0 r))) := fun h => by
          refine signed_v neg l (dv 0 r) b2 (by omega) ?_
          rw [b3, show r.length - 9 * j = 0 by omega, List.drop_zero]
        repeat' first | (exact absurd hlt (by decide)) | (refine AWp.seq fun K hK => ?_) | ((first | refine AWp.region (by rw [hc]; rfl) ?_ | refine AWp.skip ?_ | refine AWp.exit ?_ | refine AWp.label ?_ | refine AWp.ret ?_ | refine appK_g ?_); simp -implicitDefEqProofs (maxSteps := 1000000) (disch := omega) only [go_sem, ↓reduceIte, hsz]) | ((first | refine hK _ ?_ | (clear hK; first | refine hK _ ?_ | (clear hK; first | refine hK _ ?_ | (clear hK; refine hK _ ?_)))); clear hK) | (refine AWp.cond ?_; simp -implicitDefEqProofs (maxSteps := 1000000) (disch := omega) only [go_sem, ↓reduceIte, hsz]; try (refine ⟨fun hlt => ?_, fun hlt => ?_⟩ <;> (try simp only [cla, clb, ne_eq, reduceCtorEq] at hlt) <;> (try exact hlt.elim))) | (refine AWp.block ?_) | ((first | refine gdO_split (fun hlt => ?_) (fun hlt => ?_) | refine tkO_split (fun hlt => ?_) (fun hlt => ?_) | refine opO_split (fun hlt => ?_) (fun hlt => ?_)) <;> have hgd := hlt <;> (try simp only [cla, clb, ne_eq, cld] at hlt) <;> (simp -implicitDefEqProofs (maxSteps := 1000000) (disch := omega) only [go_sem, ↓reduceIte, hsz, hgd]) <;> clear hgd) | (with_reducible refine And.intro ?_ ?_; · first | omega | assumption | exact ⟨_, _, rfl, rfl⟩) | ((first | refine ⟨_, hat (by omega), ?_⟩ | refine ⟨_, hfin (by omega), ?_⟩); simp -implicitDefEqProofs (maxSteps := 1000000) (disch := omega) only [go_sem, ↓reduceIte, hsz]) | fail
        · have h9 : 9 * j < r.length := by omega
          have hsl : isD ((r.take (r.length - 9 * j)).drop (r.length - 9 * (j + 1))) := fun x hx => hd x (List.mem_of_mem_take (List.mem_of_mem_drop hx))
          have hx := dv_lt hsl
          have hx2 : 10 ^ ((r.take (r.length - 9 * j)).drop (r.length - 9 * (j + 1))).length ≤ 10 ^ 9 := Nat.pow_le_pow_right (by decide) (by rw [List.length_drop, List.length_take]; omega)
          have hsp : r.drop (r.length - 9 * (j + 1)) = (r.take (r.length - 9 * j)).drop (r.length - 9 * (j + 1)) ++ r.drop (r.length - 9 * j) := by
            exact drop_split r (by omega) (by omega)
          generalize hy : (r.take (r.length - 9 * j)).drop (r.length - 9 * (j + 1)) = sl at *
          refine ih (j + 1, l ++ [((dv 0 sl : Nat) : Int)]) _ ⟨by simp only [List.length_append, List.length_cons, List.length_nil]; omega, dig_snoc b2 ⟨by omega, by omega⟩, ?_, by simp only; omega⟩ (by simp only; omega) (Sub.of0 hm (fun i => if i = 0 then 0 else 3) rfl ?_ ?_ ?_)
          · simp only
            rw [hsp, dv_app, dv_lin (r.drop (r.length - 9 * j)) (dv 0 sl), val_append, b1, b3, Bp_nat, List.length_drop, show r.length - (r.length - 9 * j) = 9 * j by omega]
            simp only [val, Int.natCast_add, Int.natCast_mul]
            grind
          all_goals (try dsimp only)
          all_goals (first | omega | (simp -implicitDefEqProofs (maxSteps := 1000000) (disch := omega) only [FRd, id, go_sem, Nat.blt_eq, Nat.reduceAdd, Nat.reduceSub, Nat.reduceEqDiff, Nat.reduceLT, ↓reduceIte, and_true, true_and, AV.dat.injEq, DV.int.injEq, DV.bool.injEq, DV.lst.injEq, eq_self_iff_true]; first | done | omega | (simp; done) | (simp; omega)) | (simp; done) | (simp; omega) | skip)
          all_goals
            intro a b h1 h2 h
            change a < 2 at h1; change b < 2 at h2
            (split at h <;> split at h) <;> omega
end Go.Proofs.YthhjcfejgoddlaaGreatDoor
end

section
set_option linter.unusedSimpArgs false
set_option linter.unusedVariables false
set_option maxRecDepth 100000
namespace Go.Proofs.YthhjcfejgoddlaaGreatDoor
open Go Go.Abs Go.RowKit
attribute [local go_sem] wrap64 Int.tdiv_eq_ediv_of_nonneg Int.tmod_eq_emod_of_nonneg eq_self Bool.false_eq_true Bool.true_eq_false Bool.not_true Bool.not_false
attribute [local go_sem_proc] Nat.reduceAdd Nat.reduceMul Nat.reduceEqDiff Nat.reduceLT Nat.reduceLeDiff Int.reduceEq Int.reduceNeg Int.reduceToNat reduceCtorEq Int.reduceBNe Int.reduceBEq

end Go.Proofs.YthhjcfejgoddlaaGreatDoor
end

section
set_option linter.unusedSimpArgs false
set_option linter.unusedVariables false
set_option maxRecDepth 100000
namespace Go.Proofs.YthhjcfejgoddlaaGreatDoor
open Go Go.Abs
attribute [local go_sem] wrap64 Int.tdiv_eq_ediv_of_nonneg Int.tmod_eq_emod_of_nonneg eq_self Bool.false_eq_true Bool.true_eq_false Bool.not_true Bool.not_false
attribute [local go_sem_proc] Nat.reduceAdd Nat.reduceMul Nat.reduceEqDiff Nat.reduceLT Nat.reduceLeDiff Int.reduceEq Int.reduceNeg Int.reduceToNat reduceCtorEq Int.reduceBNe Int.reduceBEq

theorem dv_inj : ∀ {l m : List UInt8}, isD l → isD m → l.length = m.length → dv 0 l = dv 0 m → l = m
  | [], [], _, _, _, _ => rfl
  | [], y :: m, _, _, h, _ => by simp at h
  | x :: l, [], _, _, h, _ => by simp at h
  | x :: l, y :: m, hl, hm, h, e => by
    have h1 := hl x (by simp)
    have h2 := hm y (by simp)
    have hl' : isD l := fun z hz => hl z (by simp [hz])
    have hm' : isD m := fun z hz => hm z (by simp [hz])
    have h3 : l.length = m.length := by simpa using h
    have h4 := dv_lt hl'
    have h5 := dv_lt hm'
    rw [dv_cons0, dv_cons0, h3] at e
    rw [h3] at h4
    have e1 : x.toNat - 48 = y.toNat - 48 := by
      have a1 : ((x.toNat - 48) * 10 ^ m.length + dv 0 l) / 10 ^ m.length = x.toNat - 48 := by
        rw [Nat.mul_comm, Nat.mul_add_div (by omega), Nat.div_eq_of_lt h4, Nat.add_zero]
      have a2 : ((y.toNat - 48) * 10 ^ m.length + dv 0 m) / 10 ^ m.length = y.toNat - 48 := by
        rw [Nat.mul_comm, Nat.mul_add_div (by omega), Nat.div_eq_of_lt h5, Nat.add_zero]
      rw [← a1, e, a2]
    rw [e1] at e
    rw [dv_inj hl' hm' h3 (by omega), UInt8.toNat_inj.1 (show x.toNat = y.toNat by omega)]
theorem canon_eq {l m : List UInt8} (hl : canon l) (hm : canon m) (e : dv 0 l = dv 0 m) : l = m := dv_inj hl.1 hm.1 (canon_len hl hm e) e
end Go.Proofs.YthhjcfejgoddlaaGreatDoor
end

section
set_option linter.unusedSimpArgs false
set_option linter.unusedVariables false
set_option maxRecDepth 100000
namespace Go.Proofs.YthhjcfejgoddlaaGreatDoor
open Go Go.Abs
attribute [local go_sem] wrap64 Int.tdiv_eq_ediv_of_nonneg Int.tmod_eq_emod_of_nonneg eq_self Bool.false_eq_true Bool.true_eq_false Bool.not_true Bool.not_false
attribute [local go_sem_proc] Nat.reduceAdd Nat.reduceMul Nat.reduceEqDiff Nat.reduceLT Nat.reduceLeDiff Int.reduceEq Int.reduceNeg Int.reduceToNat reduceCtorEq Int.reduceBNe Int.reduceBEq

def hdN (x : Int) : Int := IntKind.wrap .u8 (IntKind.wrap .u8 ((D x.natAbs).length : Int) + 128)
def bytesN (x : Int) : AV := .tup [.dat (.lst ([.int .u8 (hdN x)] :: (List.range (D x.natAbs).length).flatMap (q4 (D x.natAbs)))), I 0]
set_option maxHeartbeats 4000000 in
theorem Bytes_neg (x : Int) (hx : x < 0) (lx : lenZ x ≤ 40) : PC Tryz.prog 69 [Z x] (bytesN x) := by
  have hd := dig_D x.natAbs
  have hchk := Check_pc (decide (x < 0)) (D x.natAbs) (by unfold lenZ at lx; omega)
  rw [if_pos (okZ lx)] at hchk
  have e1 : decide (x < 0) = true := decide_eq_true hx
  rw [e1] at hchk
  have hN := downE_len (D x.natAbs)
  unfold lenZ at lx
  refine PCr.pc (PCr.of tab_ok Tryz.func69 rfl rfl rfl fun c hc hm => ?_)
  rw [show Tryz.f69.ntmps = _ from Tryz.ntmps69] at hc
  simp only [Tryz.f69]
  repeat' first | (refine AWp.seq fun K hK => ?_) | ((first | refine AWp.region (by rw [hc]; rfl) ?_ | refine AWp.skip ?_ | refine AWp.exit ?_ | refine AWp.label ?_ | refine AWp.ret ?_ | refine appK_g ?_); simp -implicitDefEqProofs (maxSteps := 1000000) (disch := omega) only [go_sem, ↓reduceIte, e1]) | ((first | refine hK _ ?_ | (clear hK; first | refine hK _ ?_ | (clear hK; first | refine hK _ ?_ | (clear hK; refine hK _ ?_)))); clear hK) | (refine AWp.cond ?_; simp -implicitDefEqProofs (maxSteps := 1000000) (disch := omega) only [go_sem, ↓reduceIte, e1]; try (refine ⟨fun hlt => ?_, fun hlt => ?_⟩ <;> (try simp only [cla, clb, ne_eq, reduceCtorEq] at hlt) <;> (try exact hlt.elim))) | (refine AWp.block ?_) | ((first | refine gdO_split (fun hlt => ?_) (fun hlt => ?_) | refine tkO_split (fun hlt => ?_) (fun hlt => ?_) | refine opO_split (fun hlt => ?_) (fun hlt => ?_)) <;> have hgd := hlt <;> (try simp only [cla, clb, ne_eq, cld] at hlt) <;> (simp -implicitDefEqProofs (maxSteps := 1000000) (disch := omega) only [go_sem, ↓reduceIte, e1, hgd]) <;> clear hgd) | (with_reducible refine And.intro ?_ ?_; · first | omega | assumption | exact ⟨_, _, rfl, rfl⟩) | ((first | refine ⟨_, hchk, ?_⟩ | refine ⟨_, parts_pc _ _, ?_⟩ | refine ⟨_, down_pc _, ?_⟩); simp -implicitDefEqProofs (maxSteps := 1000000) (disch := omega) only [go_sem, ↓reduceIte, e1]) | fail
  refine AWp.rangeF 140 [.cptr [dL (D x.natAbs)]] (downE (D x.natAbs)) [(7, 29)] (by simp [go_sem]) (down_it (D x.natAbs) (by omega)) (fun el hel => ?_) (by rw [hc]; rfl) (.one _ _ _ _ _ _) (by rw [hc]; rfl) hm.2
      (fun pre s n => ∃ k, k ≠ 0 ∧ k ≠ 2 ∧ k < n ∧ s = [(2, .box [.own k] false), (k, .row 5 1 ([.int .u8 (hdN x)] :: pre.flatMap (fun k => q4 (D x.natAbs) k.val)) false), (0, .box [B true, L (D x.natAbs)] false)])
      (fun code pre s n => False) ⟨1, Nat.one_ne_zero, by omega, by show 1 < 3; omega, rfl⟩ ?_ ?_ ?_
  · obtain ⟨k, _, rfl⟩ := List.mem_map.1 hel; rfl
  · intro c' l pre k s n hc' hm' hlen hn hI
    have hc := hc'.trans hc
    have hpl := q4_len (D x.natAbs) pre
    have hk : k.val < (D x.natAbs).length := by have := k.isLt; omega
    rw [downE_get]
    simp only at hm' hn
    obtain ⟨j, hj0, hj2, hjn, rfl⟩ := hI
    refine AWp.postSub ?_
    have g1 : ¬ n = j := by omega
    have g2 : ¬ 2 = j := by omega
    have g3 : ¬ 0 = j := by omega
    have g4 : ¬ n = 1 := by omega
    have g5 : ¬ n = 2 := by omega
    have g6 : ¬ n = 0 := by omega
    have g7 : ¬ 2 = n := by omega
    have g8 : ¬ 0 = n := by omega
    have g9 : ¬ n + 1 = j := by omega
    simp -implicitDefEqProofs (maxSteps := 1000000) (disch := omega) only [go_sem, ↓reduceIte]
    repeat' first | (refine AWp.seq fun K hK => ?_) | ((first | refine AWp.region (by rw [hc]; rfl) ?_ | refine AWp.skip ?_ | refine AWp.exit ?_ | refine AWp.label ?_ | refine AWp.ret ?_ | refine appK_g ?_); simp -implicitDefEqProofs (maxSteps := 1000000) (disch := omega) only [go_sem, ↓reduceIte, hj0, hj2, g1, g2, g3, g4, g5, g6, g7, g8, g9]) | ((first | refine hK _ ?_ | (clear hK; first | refine hK _ ?_ | (clear hK; first | refine hK _ ?_ | (clear hK; refine hK _ ?_)))); clear hK) | (refine AWp.cond ?_; simp -implicitDefEqProofs (maxSteps := 1000000) (disch := omega) only [go_sem, ↓reduceIte, hj0, hj2, g1, g2, g3, g4, g5, g6, g7, g8, g9]; try (refine ⟨fun hlt => ?_, fun hlt => ?_⟩ <;> (try simp only [cla, clb, ne_eq, reduceCtorEq] at hlt) <;> (try exact hlt.elim))) | (refine AWp.block ?_) | ((first | refine gdO_split (fun hlt => ?_) (fun hlt => ?_) | refine tkO_split (fun hlt => ?_) (fun hlt => ?_) | refine opO_split (fun hlt => ?_) (fun hlt => ?_)) <;> have hgd := hlt <;> (try simp only [cla, clb, ne_eq, cld] at hlt) <;> (simp -implicitDefEqProofs (maxSteps := 1000000) (disch := omega) only [go_sem, ↓reduceIte, hj0, hj2, g1, g2, g3, g4, g5, g6, g7, g8, g9, hgd]) <;> clear hgd) | (with_reducible refine And.intro ?_ ?_; · first | omega | assumption | exact ⟨_, _, rfl, rfl⟩) | fail
    refine ⟨⟨[], [(2, .box [.own (n + 1)] false), (n + 1, .row 5 1 ([.int .u8 (hdN x)] :: (pre ++ [k]).flatMap (fun k => q4 (D x.natAbs) k.val)) false), (0, .box [B true, L (D x.natAbs)] false)], n + 1 + 1, 0⟩, Sub.of (fun i => i) ⟨by rw [hm']; simp only; omega, fun _ _ => rfl⟩ rfl trivial ?_ (fun _ _ _ _ h => h), n + 1, by omega, by omega, by simp only; omega, rfl⟩
    have g10 : ¬ n + 1 = 2 := by omega
    have g11 : ¬ n + 1 = 0 := by omega
    simp only [List.flatMap_append, List.flatMap_cons, List.flatMap_nil, List.append_nil, q4]
    simp only [Abs.subS, Abs.get_cons, g4, g5, g6, g10, g11, ↓reduceIte, Abs.renO, Abs.okO, List.map_cons, List.map_nil, Abs.ren, Abs.okR]
    refine ⟨by simp only [List.all_cons, List.all_nil, Bool.and_true]; show Nat.blt (n + 1) (n + 1 + 1) = true; rw [Nat.blt_eq]; omega, by rw [Nat.blt_eq]; omega, rfl, trivial, by rw [Nat.blt_eq]; omega, trivial, rfl, by rw [Nat.blt_eq]; omega, rfl, trivial⟩
  · intro s n hI
    obtain ⟨j, hj0, hj2, hjn, rfl⟩ := hI
    have g2 : ¬ 2 = j := by omega
    have g3 : ¬ 0 = j := by omega
    simp -implicitDefEqProofs (maxSteps := 1000000) (disch := omega) only [go_sem, ↓reduceIte]
    repeat' first | (refine AWp.seq fun K hK => ?_) | ((first | refine AWp.region (by rw [hc]; rfl) ?_ | refine AWp.skip ?_ | refine AWp.exit ?_ | refine AWp.label ?_ | refine AWp.ret ?_ | refine appK_g ?_); simp -implicitDefEqProofs (maxSteps := 1000000) (disch := omega) only [go_sem, ↓reduceIte, hj0, hj2, g2, g3]) | ((first | refine hK _ ?_ | (clear hK; first | refine hK _ ?_ | (clear hK; first | refine hK _ ?_ | (clear hK; refine hK _ ?_)))); clear hK) | (refine AWp.cond ?_; simp -implicitDefEqProofs (maxSteps := 1000000) (disch := omega) only [go_sem, ↓reduceIte, hj0, hj2, g2, g3]; try (refine ⟨fun hlt => ?_, fun hlt => ?_⟩ <;> (try simp only [cla, clb, ne_eq, reduceCtorEq] at hlt) <;> (try exact hlt.elim))) | (refine AWp.block ?_) | ((first | refine gdO_split (fun hlt => ?_) (fun hlt => ?_) | refine tkO_split (fun hlt => ?_) (fun hlt => ?_) | refine opO_split (fun hlt => ?_) (fun hlt => ?_)) <;> have hgd := hlt <;> (try simp only [cla, clb, ne_eq, cld] at hlt) <;> (simp -implicitDefEqProofs (maxSteps := 1000000) (disch := omega) only [go_sem, ↓reduceIte, hj0, hj2, g2, g3, hgd]) <;> clear hgd) | (with_reducible refine And.intro ?_ ?_; · first | omega | assumption | exact ⟨_, _, rfl, rfl⟩) | fail
    rw [fin_flat, hN]; rfl
  · intro code pre s n hpf hI
    exact hI.elim
end Go.Proofs.YthhjcfejgoddlaaGreatDoor
end

section
set_option linter.unusedSimpArgs false
set_option linter.unusedVariables false
set_option maxRecDepth 100000
namespace Go.Proofs.YthhjcfejgoddlaaGreatDoor
open Go Go.Abs
attribute [local go_sem] wrap64 Int.tdiv_eq_ediv_of_nonneg Int.tmod_eq_emod_of_nonneg eq_self Bool.false_eq_true Bool.true_eq_false Bool.not_true Bool.not_false
attribute [local go_sem_proc] Nat.reduceAdd Nat.reduceMul Nat.reduceEqDiff Nat.reduceLT Nat.reduceLeDiff Int.reduceEq Int.reduceNeg Int.reduceToNat reduceCtorEq Int.reduceBNe Int.reduceBEq

theorem wrap8 (x : Int) : IntKind.u8.wrap x = x % 256 := by
  unfold IntKind.wrap
  show (if (false && _) = true then _ else x % 256) = _
  simp only [Bool.false_and, Bool.false_eq_true, ↓reduceIte]
end Go.Proofs.YthhjcfejgoddlaaGreatDoor
end

section
set_option linter.unusedSimpArgs false
set_option linter.unusedVariables false
namespace Go.Proofs.YthhjcfejgoddlaaGreatDoor
open Go Go.Abs
attribute [local go_sem] Oper.semAt_some

set_option maxRecDepth 100000 in
set_option maxHeartbeats 4000000 in
theorem chunk_walk (F : Fence) (n : Nat) (h147 : F.fn 147) (hro : F.round = none) (hn : 1 ≤ n) (l Bs o Bn on b off m cap : Nat) (hm : m ≤ 1000) (hcap : 4 * m ≤ cap) (A : Nat → Nat → Prop) (w : World) (hA1 : A Bs o) (hA2 : A Bn on)
    (hw1 : w.cell? ⟨Bs, o, none⟩ = some (.slice (some ⟨b, off, none⟩) (4 * m) cap)) (hw2 : w.cell? ⟨Bn, on, none⟩ = some (.int .i64 4))
    (J Jx : List (Fin m) → World → Prop) (hJd : ∀ pre W, J pre W → J pre W.drew)
    (hY : ∀ pre x W, J pre W → pre.length < m → YieldAt F (n - 1) Tryz.prog l #[.slice (some ⟨b, off + 4 * x.val, none⟩) 4 4] W fun e W' =>
      (e = .returned (.bool true) ∧ J (pre ++ [x]) W' ∧ (∀ b o v, A b o → w.cell? ⟨b, o, none⟩ = some v → W.cell? ⟨b, o, none⟩ = some v → W'.cell? ⟨b, o, none⟩ = some v)) ∨ (e = .returned (.bool false) ∧ Jx (pre ++ [x]) W'))
    (W : World) (hst : ∀ b o v, A b o → w.cell? ⟨b, o, none⟩ = some v → W.cell? ⟨b, o, none⟩ = some v) (h0 : J [] W) :
    CallsIn F n Tryz.prog 147 #[.func (.yield l) #[] #[], .pointer (some ⟨Bs, o, none⟩), .pointer (some ⟨Bn, on, none⟩)] W fun e W' => (∃ v, e = .returned v) ∧
      ((∃ ys, ys = List.finRange m ∧ J ys W') ∨ (∃ pre, pre <+: List.finRange m ∧ Jx pre W')) := by
  refine callsIn_of_wp Tryz.func147 rfl h147 ?_ hro
  simp only [Tryz.ntmps147, List.size_toArray, List.length_cons, List.length_nil, Nat.reduceAdd, Nat.reduceSub, Array.replicate_succ, Array.replicate_zero, List.push_toArray, List.append_toArray, List.nil_append, List.cons_append]
  gi_wp2
  gi_loopw [4] (fun i wr => ∃ k : Nat, k ≤ m ∧ i = .int .i64 (4 * k) ∧ J ((List.finRange m).take k) wr ∧ (∀ b o v, A b o → w.cell? ⟨b, o, none⟩ = some v → wr.cell? ⟨b, o, none⟩ = some v))
    (fun i _ => (4 * (m : Int) - iOf i).toNat)
  case atStart => exact ⟨0, Nat.zero_le _, by simp, h0, hst⟩
  case round =>
    obtain ⟨k, hk, rfl, hJs, hkp⟩ := hrel
    have hB' := hkp _ _ _ hA1 hw1
    have hN' := hkp _ _ _ hA2 hw2
    by_cases hlt : k < m
    · obtain ⟨fn, tmps, assign, body, hy, hR⟩ := hY _ ⟨k, hlt⟩ wr.drew (hJd _ _ hJs) (by simp; omega)
      simp only at hy
      have hmin : min (4 : Int) ((4 * m - 4 * k : Nat) : Int) = 4 := by omega
      have hlen4 : (4 * (k : Int) + 4).toNat - 4 * k = 4 := by omega
      gi_wp2
      gi_region
      all_goals
        gi_wp2
        (try simp only [hmin, hlen4])
      all_goals
        refine hR.mono ?_
        rintro e' W3 (⟨rfl, hJ3, hk3⟩ | ⟨rfl, hJx3⟩)
        · have hN3 := hk3 _ _ _ hA2 hw2 hN'
          gi_wp2
          go_roundw
          case rel => exact ⟨k + 1, by omega, by first | (congr 1; done) | (congr 1; omega), by rw [finRange_take_succ hlt]; exact hJ3, fun b o v hA hv => hk3 b o v hA hv (hkp b o v hA hv)⟩
          case measure => first | (simp [iOf]; done) | (simp [iOf]; omega)
        · gi_wp2
          refine bodyPost_ret (results_none rfl _ _ _) rfl ?_
          exact ⟨⟨_, rfl⟩, .inr ⟨_, by rw [← finRange_take_succ hlt]; exact List.take_prefix _ _, hJx3⟩⟩
    · obtain rfl : k = m := by omega
      gi_wp2
      go_end0
      exact ⟨⟨_, rfl⟩, .inl ⟨_, rfl, by simpa [List.take_of_length_le] using hJs⟩⟩
end Go.Proofs.YthhjcfejgoddlaaGreatDoor
end

section
set_option linter.unusedSimpArgs false
set_option linter.unusedVariables false
set_option maxRecDepth 100000
namespace Go.Proofs.YthhjcfejgoddlaaGreatDoor
open Go Go.Abs
attribute [local go_sem] wrap64 Int.tdiv_eq_ediv_of_nonneg Int.tmod_eq_emod_of_nonneg eq_self Bool.false_eq_true Bool.true_eq_false Bool.not_true Bool.not_false
attribute [local go_sem_proc] Nat.reduceAdd Nat.reduceMul Nat.reduceEqDiff Nat.reduceLT Nat.reduceLeDiff Int.reduceEq Int.reduceNeg Int.reduceToNat reduceCtorEq Int.reduceBNe Int.reduceBEq

/-! Reverse, over a row of the caller's own. -/
def rvS (neg : Bool) (l : List Int) : Sto := [(2, .row 3 1 (l.map eI) false), (1, .box [B neg, .own 2] false), (0, .box [B false, .nil] false)]
def F121 (neg : Bool) (n : Nat) : Nat × List Int → St := fun ⟨i, l⟩ => ⟨[(0, .own 2), (2, I i), (3, I ((n : Int) - 1 - i))], rvS neg l, 3, 0⟩
theorem getD_set (l : List Int) (i j : Nat) (x : Int) (h : i < l.length) : (l.set i x).getD j 0 = if j = i then x else l.getD j 0 := by
  by_cases hj : j = i
  · subst hj; simp [List.getD, h]
  · rw [if_neg hj]; simp [List.getD, List.getElem?_set_ne (Ne.symm hj)]
theorem mapeI_getD (l : List Int) (j : Nat) (h : j < l.length) : (l.map eI).getD j [] = [DV.int .i64 (l.getD j 0)] := by simp [List.getD, h, eI]
theorem list_ext_getD {l m : List Int} (h : l.length = m.length) (hg : ∀ j, j < l.length → l.getD j 0 = m.getD j 0) : l = m := by
  refine List.ext_getElem h fun j h1 h2 => ?_
  have := hg j h1
  simpa [List.getD, h1, h2] using this
set_option maxHeartbeats 4000000 in
theorem rev_po (neg : Bool) (l0 : List Int) (hl : l0.length ≤ 1000000) : PO Tryz.prog 121 [.own 2] (rvS neg l0) 3 (fun r s' n' => r = .tup [] ∧ s' = rvS neg l0.reverse ∧ n' = 3) := by
  refine PO.of tab_ok Tryz.func121 rfl rfl rfl fun c hc hm => ?_
  rw [show Tryz.f121.ntmps = _ from Tryz.ntmps121] at hc
  simp only [Tryz.f121]
  simp only [rvS]
  repeat' first | (exact absurd hlt (by decide)) | (refine AWp.seq fun K hK => ?_) | ((first | refine AWp.draw (id := 3) [.take 0, .take 1, .take 2, .take 3, .take 4, .take 5, .take 6, .take 7, .take 8, .take 9, .take 10, .take 11, .take 12, .grp [13], .take 14, .grp [15]] mixed_ok (by kernel_rfl) (by rw [hc]; rfl) ?_ | refine AWp.region (by rw [hc]; rfl) ?_ | refine AWp.skip ?_ | refine AWp.exit ?_ | refine AWp.label ?_ | refine AWp.ret ?_ | refine appK_g ?_); simp -implicitDefEqProofs (maxSteps := 1000000) (disch := omega) only [go_sem, ↓reduceIte]) | ((first | refine hK _ ?_ | (clear hK; first | refine hK _ ?_ | (clear hK; first | refine hK _ ?_ | (clear hK; refine hK _ ?_)))); clear hK) | (refine AWp.cond ?_; simp -implicitDefEqProofs (maxSteps := 1000000) (disch := omega) only [go_sem, ↓reduceIte]; try (refine ⟨fun hlt => ?_, fun hlt => ?_⟩ <;> (try simp only [cla, clb, ne_eq, reduceCtorEq] at hlt) <;> (try exact hlt.elim))) | (refine AWp.block ?_) | ((first | refine gdO_split (fun hlt => ?_) (fun hlt => ?_) | refine tkO_split (fun hlt => ?_) (fun hlt => ?_) | refine opO_split (fun hlt => ?_) (fun hlt => ?_)) <;> have hgd := hlt <;> (try simp only [cla, clb, ne_eq, cld] at hlt) <;> (simp -implicitDefEqProofs (maxSteps := 1000000) (disch := omega) only [go_sem, ↓reduceIte, hgd]) <;> clear hgd) | (with_reducible refine And.intro ?_ ?_; · first | omega | assumption | exact ⟨_, _, rfl, rfl⟩) | fail
  refine AWp.loopInv (F121 neg l0.length) (fun a => l0.length - a.1) (fun a => a.2.length = l0.length ∧ 2 * a.1 ≤ l0.length + 1 ∧ ∀ t, t < l0.length → a.2.getD t 0 = if t < a.1 ∨ l0.length ≤ t + a.1 then l0.getD (l0.length - 1 - t) 0 else l0.getD t 0) (0, l0) ⟨rfl, by simp only; omega, fun t ht => by simp only; rw [if_neg (by omega)]⟩ (Sub.ofm hm id (by show 3 ≤ 3; omega) (fun _ _ => rfl) rfl ?_ ?_ (fun _ _ _ _ h => h)) ?_
  all_goals (try dsimp only)
  all_goals (first | omega | (simp -implicitDefEqProofs (maxSteps := 1000000) (disch := omega) only [F121, rvS, id, go_sem, Nat.blt_eq, Nat.reduceAdd, Nat.reduceSub, Nat.reduceEqDiff, Nat.reduceLT, ↓reduceIte, and_true, true_and, AV.dat.injEq, DV.int.injEq, DV.bool.injEq, DV.lst.injEq, eq_self_iff_true]; first | done | omega | (simp; done) | (simp; omega)) | (simp; done) | (simp; omega) | skip)
  rintro ⟨i, l⟩ ⟨b1, b2, b3⟩ ih
  simp only at b1 b2 b3
  simp only [F121, rvS]
  by_cases hlt2 : i < l0.length - 1 - i
  · have hc1 : decide ((i : Int) < (l0.length : Int) - 1 - i) = true := decide_eq_true (by omega)
    obtain ⟨j, hj⟩ : ∃ j : Nat, j = l0.length - 1 - i := ⟨_, rfl⟩
    have ej : (l0.length : Int) - 1 - i = (j : Int) := by omega
    rw [ej] at hc1
    simp only [ej]
    have hgi : (l.map eI).getD i [] = [DV.int .i64 (l.getD i 0)] := by simp [List.getD, show i < l.length by omega, eI]
    have hgj : (l.map eI).getD j [] = [DV.int .i64 (l.getD j 0)] := by simp [List.getD, show j < l.length by omega, eI]
    have hg2 : ((l.set i (l.getD j 0)).map eI).getD j [] = [DV.int .i64 (l.getD j 0)] := by
      rw [mapeI_getD _ _ (by rw [List.length_set]; omega), getD_set _ _ _ _ (by omega), if_neg (by omega)]
    have hst : ((l.set i (l.getD j 0)).map eI).set j [DV.int .i64 (l.getD i 0)] = ((l.set i (l.getD j 0)).set j (l.getD i 0)).map eI := by generalize l.set i (l.getD j 0) = q; rw [List.map_set]; rfl
    repeat' first | (exact absurd hlt (by decide)) | (refine AWp.seq fun K hK => ?_) | ((first | refine AWp.draw (id := 3) [.take 0, .take 1, .take 2, .take 3, .take 4, .take 5, .take 6, .take 7, .take 8, .take 9, .take 10, .take 11, .take 12, .grp [13], .take 14, .grp [15]] mixed_ok (by kernel_rfl) (by rw [hc]; rfl) ?_ | refine AWp.region (by rw [hc]; rfl) ?_ | refine AWp.skip ?_ | refine AWp.exit ?_ | refine AWp.label ?_ | refine AWp.ret ?_ | refine appK_g ?_); simp -implicitDefEqProofs (maxSteps := 1000000) (disch := omega) only [go_sem, ↓reduceIte, hc1, hgi, hgj, hg2, List.drop_succ_cons, List.drop_nil, List.drop_zero, hst]) | ((first | refine hK _ ?_ | (clear hK; first | refine hK _ ?_ | (clear hK; first | refine hK _ ?_ | (clear hK; refine hK _ ?_)))); clear hK) | (refine AWp.cond ?_; simp -implicitDefEqProofs (maxSteps := 1000000) (disch := omega) only [go_sem, ↓reduceIte, hc1, hgi, hgj, hg2, List.drop_succ_cons, List.drop_nil, List.drop_zero, hst]; try (refine ⟨fun hlt => ?_, fun hlt => ?_⟩ <;> (try simp only [cla, clb, ne_eq, reduceCtorEq] at hlt) <;> (try exact hlt.elim))) | (refine AWp.block ?_) | ((first | refine gdO_split (fun hlt => ?_) (fun hlt => ?_) | refine tkO_split (fun hlt => ?_) (fun hlt => ?_) | refine opO_split (fun hlt => ?_) (fun hlt => ?_)) <;> have hgd := hlt <;> (try simp only [cla, clb, ne_eq, cld] at hlt) <;> (simp -implicitDefEqProofs (maxSteps := 1000000) (disch := omega) only [go_sem, ↓reduceIte, hc1, hgi, hgj, hg2, List.drop_succ_cons, List.drop_nil, List.drop_zero, hst, hgd]) <;> clear hgd) | (with_reducible refine And.intro ?_ ?_; · first | omega | assumption | exact ⟨_, _, rfl, rfl⟩) | fail
    refine ih (i + 1, (l.set i (l.getD j 0)).set j (l.getD i 0)) _ ⟨by simp only [List.length_set]; exact b1, by simp only; omega, fun t ht => ?_⟩ (by simp only; omega) (Sub.ofm hm id (by show 3 ≤ 3; omega) (fun _ _ => rfl) rfl ?_ ?_ (fun _ _ _ _ h => h))
    · simp only
      rw [getD_set _ _ _ _ (by rw [List.length_set]; omega), getD_set _ _ _ _ (by omega)]
      have c1 := b3 i (by omega)
      have c2 := b3 j (by omega)
      have c3 := b3 t ht
      rw [if_neg (by omega)] at c1 c2
      by_cases h1 : t = j
      · subst h1
        rw [if_pos rfl, if_pos (by omega), c1]; congr 1; omega
      · rw [if_neg h1]
        by_cases h2 : t = i
        · subst h2
          rw [if_pos rfl, if_pos (by omega), c2]; congr 1
        · rw [if_neg h2, c3]
          by_cases h3 : t < i ∨ l0.length ≤ t + i
          · rw [if_pos h3, if_pos (by omega)]
          · rw [if_neg h3, if_neg (by omega)]
    all_goals (try (simp only [F121, rvS, subT, subS, go_sem]; simp; done))
    all_goals (try (simp only [F121, rvS, subT, subS, go_sem]; simp; omega))
  · have hc1 : decide ((i : Int) < (l0.length : Int) - 1 - i) = false := decide_eq_false (by omega)
    have hl : l = l0.reverse := by
      refine list_ext_getD (by rw [List.length_reverse]; exact b1) fun t ht => ?_
      rw [b3 t (by omega)]
      have hrev : l0.reverse.getD t 0 = l0.getD (l0.length - 1 - t) 0 := by
        simp [List.getD, List.getElem?_reverse (show t < l0.length by omega)]
      rw [hrev]
      split
      · rfl
      · rw [show l0.length - 1 - t = t by omega]
    subst hl
    repeat' first | (exact absurd hlt (by decide)) | (refine AWp.seq fun K hK => ?_) | ((first | refine AWp.draw (id := 3) [.take 0, .take 1, .take 2, .take 3, .take 4, .take 5, .take 6, .take 7, .take 8, .take 9, .take 10, .take 11, .take 12, .grp [13], .take 14, .grp [15]] mixed_ok (by kernel_rfl) (by rw [hc]; rfl) ?_ | refine AWp.region (by rw [hc]; rfl) ?_ | refine AWp.skip ?_ | refine AWp.exit ?_ | refine AWp.label ?_ | refine AWp.ret ?_ | refine appK_g ?_); simp -implicitDefEqProofs (maxSteps := 1000000) (disch := omega) only [go_sem, ↓reduceIte, hc1]) | ((first | refine hK _ ?_ | (clear hK; first | refine hK _ ?_ | (clear hK; first | refine hK _ ?_ | (clear hK; refine hK _ ?_)))); clear hK) | (refine AWp.cond ?_; simp -implicitDefEqProofs (maxSteps := 1000000) (disch := omega) only [go_sem, ↓reduceIte, hc1]; try (refine ⟨fun hlt => ?_, fun hlt => ?_⟩ <;> (try simp only [cla, clb, ne_eq, reduceCtorEq] at hlt) <;> (try exact hlt.elim))) | (refine AWp.block ?_) | ((first | refine gdO_split (fun hlt => ?_) (fun hlt => ?_) | refine tkO_split (fun hlt => ?_) (fun hlt => ?_) | refine opO_split (fun hlt => ?_) (fun hlt => ?_)) <;> have hgd := hlt <;> (try simp only [cla, clb, ne_eq, cld] at hlt) <;> (simp -implicitDefEqProofs (maxSteps := 1000000) (disch := omega) only [go_sem, ↓reduceIte, hc1, hgd]) <;> clear hgd) | (with_reducible refine And.intro ?_ ?_; · first | omega | assumption | exact ⟨_, _, rfl, rfl⟩) | fail
end Go.Proofs.YthhjcfejgoddlaaGreatDoor
end

section
set_option linter.unusedSimpArgs false
set_option linter.unusedVariables false
set_option maxRecDepth 100000
namespace Go.Proofs.YthhjcfejgoddlaaGreatDoor
open Go Go.Abs
attribute [local go_sem] wrap64 Int.tdiv_eq_ediv_of_nonneg Int.tmod_eq_emod_of_nonneg eq_self Bool.false_eq_true Bool.true_eq_false Bool.not_true Bool.not_false
attribute [local go_sem_proc] Nat.reduceAdd Nat.reduceMul Nat.reduceEqDiff Nat.reduceLT Nat.reduceLeDiff Int.reduceEq Int.reduceNeg Int.reduceToNat reduceCtorEq Int.reduceBNe Int.reduceBEq

/-! FromBytes of the reference. -/
def eU (x : UInt8) : List DV := [.int .u8 (x.toNat : Int)]
def bL (l : List UInt8) : AV := .dat (.lst (l.map eU))
def bX (l : List UInt8) (i : Nat) : Int := ((l.getD i 0).toNat : Int)
def w4 (l : List UInt8) (i : Nat) : Int := ((bX l i * 256 + bX l (i + 1)) * 256 + bX l (i + 2)) * 256 + bX l (i + 3)
def wds (l : List UInt8) (k : Nat) : List Int := (List.range k).map fun j => w4 l (l.length - 4 - 4 * j)
def nB (l : List UInt8) : Nat := (l.getD 0 0).toNat % 128
def sB (l : List UInt8) : Bool := decide (128 ≤ (l.getD 0 0).toNat)
def fbBad (l : List UInt8) : Prop := l.length ≠ 1 + 4 * nB l
instance (l : List UInt8) : Decidable (fbBad l) := inferInstanceAs (Decidable (_ ≠ _))
def fbV (l : List UInt8) : AV := if fbBad l then .tup [Zr false [], I 12] else if okI (sB l) (wds l (nB l)) then .tup [Zr (sB l) (wds l (nB l)), I 0] else .tup [Zr false [], I 12]
theorem bX_rng (l : List UInt8) (i : Nat) : 0 ≤ bX l i ∧ bX l i < 256 := by
  unfold bX
  have := (l.getD i 0).toNat_lt; omega
theorem eU_getD (l : List UInt8) (i : Nat) (h : i < l.length) : (l.map eU).getD i [] = [DV.int .u8 (bX l i)] := by
  simp [List.getD, eU, bX, h]
end Go.Proofs.YthhjcfejgoddlaaGreatDoor
end

section
set_option linter.unusedSimpArgs false
set_option linter.unusedVariables false
namespace Go.Proofs.YthhjcfejgoddlaaGreatDoor
open Go Go.Abs

/-! slices.Chunk over bytes, as an iterator of data. -/
section
attribute [local go_sem] Oper.semAt_some
set_option maxRecDepth 100000 in
set_option maxHeartbeats 4000000 in
theorem chunk_nil (F : Fence) (n : Nat) (h147 : F.fn 147) (hro : F.round = none) (l Bs o Bn on : Nat) (a : Option Addr) (cap : Nat) (J : List (Fin 0) → World → Prop)
    (W : World) (hBs : W.cell? ⟨Bs, o, none⟩ = some (.slice a 0 cap)) (hBn : W.cell? ⟨Bn, on, none⟩ = some (.int .i64 4)) (h0 : J [] W) :
    CallsIn F n Tryz.prog 147 #[.func (.yield l) #[] #[], .pointer (some ⟨Bs, o, none⟩), .pointer (some ⟨Bn, on, none⟩)] W fun e W' => (∃ v, e = .returned v) ∧ J [] W' := by
  refine callsIn_of_wp Tryz.func147 rfl h147 ?_ hro
  simp only [Tryz.ntmps147, List.size_toArray, List.length_cons, List.length_nil, Nat.reduceAdd, Nat.reduceSub, Array.replicate_succ, Array.replicate_zero, List.push_toArray, List.append_toArray, List.nil_append, List.cons_append]
  gi_wp2
  gi_loopw [4] (fun i wr => i = .int .i64 0 ∧ J [] wr ∧ wr.cell? ⟨Bs, o, none⟩ = some (.slice a 0 cap)) (fun _ _ => 0)
  case atStart => exact ⟨rfl, h0, hBs⟩
  case round =>
    obtain ⟨rfl, hJs, hB'⟩ := hrel
    gi_wp2
    go_end0
    exact ⟨⟨_, rfl⟩, hJs⟩
end
set_option maxRecDepth 100000

def chunkE (bs : List UInt8) (m : Nat) : List (List DV) := (List.range m).map fun k => [DV.lst (((bs.drop (4 * k)).take 4).map eU)]
theorem chunkE_len (bs : List UInt8) (m : Nat) : (chunkE bs m).length = m := by simp [chunkE]
theorem chunkE_get (bs : List UInt8) (m : Nat) (k : Fin (chunkE bs m).length) : (chunkE bs m)[k] = [DV.lst (((bs.drop (4 * k.val)).take 4).map eU)] := by
  rw [Fin.getElem_fin]
  unfold chunkE
  rw [List.getElem_map, List.getElem_range]
theorem chunk_it (bs : List UInt8) (m : Nat) (hb : bs.length = 4 * m) (hm1000 : m ≤ 1000) : It Tryz.prog 147 [.cptr [.lst (bs.map eU)], .cptr [.int .i64 4]] (chunkE bs m) := by
  refine ⟨enters_of' Tryz.func147 rfl rfl, fun A w vs _ hl hv => ?_⟩
  match vs, hl with
  | [v0, v1], _ =>
  have h0 := hv 0 _ rfl
  have h1 := hv 1 _ rfl
  simp only [List.getD_cons_zero, List.getD_cons_succ] at h0 h1
  cases h0 with
  | cptr cs b o us hm h =>
  cases h1 with
  | cptr cs' Bn on us' hm' h' =>
    have hsv := h 0 _ rfl
    have hnv := rd_int (h' 0 _ rfl)
    obtain ⟨hc0, hA0⟩ := hm 0 (by simp)
    obtain ⟨hc1, hA1⟩ := hm' 0 (by simp)
    simp only [Nat.add_zero] at hc0 hA0 hc1 hA1
    rw [hnv] at hc1
    have hN : (chunkE bs m).length = m := chunkE_len bs m
    generalize hsv0 : us 0 = sv at hsv hc0
    generalize hd : bs.map eU = es0 at hsv
    cases hsv with
    | emp a cap =>
      have hx : bs = [] := by simpa using hd
      subst hx
      obtain rfl : m = 0 := by simp only [List.length_nil] at hb; omega
      refine ⟨fun k => #[], fun k => absurd k.isLt (by simp [chunkE]), ?_⟩
      intro l J Jx W hW hJ hJx hY hJ0
      have hst : ∀ b o v, A b o → w.cell? ⟨b, o, none⟩ = some v → W.cell? ⟨b, o, none⟩ = some v := fun b o v _ hc => by
        rw [hW.cell (p := ⟨b, o, none⟩) (World.block_lt_of_cell? _ _ hc)]; exact hc
      refine callsIn_FF_n (m := 1) ((chunk_nil (FF none) 1 trivial rfl l b o Bn on a cap J W (hst _ _ _ hA0 hc0) (hst _ _ _ hA1 hc1) hJ0).mono fun e W' ⟨he, hj⟩ => ⟨he, .inl ⟨_, rfl, hj⟩⟩)
    | lst es b2 o2 sz cap vs2 hs hz hc hm2 h2 =>
      subst hd
      have hel : (bs.map eU).length = 4 * m := by simp [hb]
      rw [hel] at hc hm2 hc0
      by_cases hx : m = 0
      · subst hx
        obtain rfl : bs = [] := List.length_eq_zero_iff.1 (by omega)
        refine ⟨fun k => #[], fun k => absurd k.isLt (by simp [chunkE]), ?_⟩
        intro l J Jx W hW hJ hJx hY hJ0
        have hst : ∀ b o v, A b o → w.cell? ⟨b, o, none⟩ = some v → W.cell? ⟨b, o, none⟩ = some v := fun b o v _ hc => by
          rw [hW.cell (p := ⟨b, o, none⟩) (World.block_lt_of_cell? _ _ hc)]; exact hc
        refine callsIn_FF_n (m := 1) ((chunk_nil (FF none) 1 trivial rfl l b o Bn on _ cap J W (hst _ _ _ hA0 hc0) (hst _ _ _ hA1 hc1) hJ0).mono fun e W' ⟨he, hj⟩ => ⟨he, .inl ⟨_, rfl, hj⟩⟩)
      · have hsz : sz = 1 := by
          have := hs (eU (bs.getD 0 0)) (List.mem_map.2 ⟨bs.getD 0 0, by
            have h0 : 0 < bs.length := by omega
            have : bs.getD 0 0 = bs[0] := by simp [List.getD, h0]
            rw [this]; exact List.getElem_mem h0, rfl⟩)
          simpa [eU] using this.symm
        subst hsz
        refine ⟨fun k => #[.slice (some ⟨b2, o2 + 4 * k.val, none⟩) 4 4], fun k => ?_, ?_⟩
        · have hk : k.val < m := by have := k.isLt; omega
          rw [chunkE_get]
          refine ⟨rfl, fun j d hj => ?_⟩
          rcases j with _ | j
          · simp at hj; subst hj
            have hl4 : (((bs.drop (4 * k.val)).take 4).map eU).length = 4 := by simp; omega
            have := RD.lst (A := A) (w := w) (((bs.drop (4 * k.val)).take 4).map eU) b2 (o2 + 4 * k.val) 1 4 (fun j => vs2 (4 * k.val + j)) (fun e he => by
              obtain ⟨x, _, rfl⟩ := List.mem_map.1 he; rfl) (by omega) (by omega) (fun j hj => by
                rw [hl4] at hj
                obtain ⟨g1, g2⟩ := hm2 (4 * k.val + j) (by omega)
                rw [Nat.add_assoc]; exact ⟨g1, g2⟩) (fun i e j d hi hjd => by
                  have hi4 : i < 4 := by
                    have := (List.getElem?_eq_some_iff.1 hi).1; omega
                  have := h2 (4 * k.val + i) e j d (by
                    rw [← hi]
                    simp [List.getElem?_take, List.getElem?_drop, hi4]) hjd
                  rw [show (4 * k.val + i) * 1 + j = 4 * k.val + (i * 1 + j) by omega] at this
                  exact this)
            rw [hl4] at this
            simpa using this
          · simp at hj
        · rw [hN]
          intro l J Jx W hW hJ hJx hY hJ0
          have hst : ∀ b o v, A b o → w.cell? ⟨b, o, none⟩ = some v → W.cell? ⟨b, o, none⟩ = some v := fun b o v _ hc => by
            rw [hW.cell (p := ⟨b, o, none⟩) (World.block_lt_of_cell? _ _ hc)]; exact hc
          refine callsIn_FF_n (m := 1) ((chunk_walk (FF none) 1 trivial rfl (Nat.le_refl _) l b o Bn on b2 o2 m cap hm1000 hc A w hA0 hA1 hc0 hc1 J Jx (fun pre W1 hj => hJ pre W1 W1.drew none hj ⟨rfl, rfl, rfl, Nat.le_refl _, fun _ _ _ => rfl⟩ (fun r e => by cases e)) (fun pre x W1 hj hl => hY pre x W1 hj hl) W hst hJ0).mono fun e W' h => h)
end Go.Proofs.YthhjcfejgoddlaaGreatDoor
end

section
set_option linter.unusedSimpArgs false
set_option linter.unusedVariables false
set_option maxRecDepth 100000
namespace Go.Proofs.YthhjcfejgoddlaaGreatDoor
open Go Go.Abs
attribute [local go_sem] wrap64 Int.tdiv_eq_ediv_of_nonneg Int.tmod_eq_emod_of_nonneg eq_self Bool.false_eq_true Bool.true_eq_false Bool.not_true Bool.not_false
attribute [local go_sem_proc] Nat.reduceAdd Nat.reduceMul Nat.reduceEqDiff Nat.reduceLT Nat.reduceLeDiff Int.reduceEq Int.reduceNeg Int.reduceToNat reduceCtorEq Int.reduceBNe Int.reduceBEq

theorem chunk_pc (es : List (List DV)) : PC Tryz.prog 120 [.dat (.lst es), I 4] (.dat (.fn 147 [.cptr [.lst es], .cptr [.int .i64 4]])) := by
  refine PCr.pc (PCr.of tab_ok Tryz.func120 rfl rfl rfl fun c hc hm => ?_)
  rw [show Tryz.f120.ntmps = _ from Tryz.ntmps120] at hc
  simp only [Tryz.f120]
  repeat' first | (exact absurd hlt (by decide)) | (refine AWp.seq fun K hK => ?_) | ((first | refine AWp.region (by rw [hc]; rfl) ?_ | refine AWp.skip ?_ | refine AWp.exit ?_ | refine AWp.label ?_ | refine AWp.ret ?_ | refine appK_g ?_); simp -implicitDefEqProofs (maxSteps := 1000000) (disch := omega) only [go_sem, ↓reduceIte]) | ((first | refine hK _ ?_ | (clear hK; first | refine hK _ ?_ | (clear hK; first | refine hK _ ?_ | (clear hK; refine hK _ ?_)))); clear hK) | (refine AWp.cond ?_; simp -implicitDefEqProofs (maxSteps := 1000000) (disch := omega) only [go_sem, ↓reduceIte]; try (refine ⟨fun hlt => ?_, fun hlt => ?_⟩ <;> (try simp only [cla, clb, ne_eq, reduceCtorEq] at hlt) <;> (try exact hlt.elim))) | (refine AWp.block ?_) | ((first | refine gdO_split (fun hlt => ?_) (fun hlt => ?_) | refine tkO_split (fun hlt => ?_) (fun hlt => ?_) | refine opO_split (fun hlt => ?_) (fun hlt => ?_)) <;> have hgd := hlt <;> (try simp only [cla, clb, ne_eq, cld] at hlt) <;> (simp -implicitDefEqProofs (maxSteps := 1000000) (disch := omega) only [go_sem, ↓reduceIte, hgd]) <;> clear hgd) | (with_reducible refine And.intro ?_ ?_; · first | omega | assumption | exact ⟨_, _, rfl, rfl⟩) | fail
def F121n : Unit → St := fun _ => ⟨[(3, I (-1)), (2, I 0), (4, .dat (.lst [])), (0, .dat (.lst []))], [], 0, 0⟩
theorem rev_nil : PC Tryz.prog 121 [.dat (.lst [])] (.tup []) := by
  refine PCr.pc (PCr.of tab_ok Tryz.func121 rfl rfl rfl fun c hc hm => ?_)
  rw [show Tryz.f121.ntmps = _ from Tryz.ntmps121] at hc
  simp only [Tryz.f121]
  repeat' first | (exact absurd hlt (by decide)) | (refine AWp.seq fun K hK => ?_) | ((first | refine AWp.draw (id := 3) [.take 0, .take 1, .take 2, .take 3, .take 4, .take 5, .take 6, .take 7, .take 8, .take 9, .take 10, .take 11, .take 12, .grp [13], .take 14, .grp [15]] mixed_ok (by kernel_rfl) (by rw [hc]; rfl) ?_ | refine AWp.region (by rw [hc]; rfl) ?_ | refine AWp.skip ?_ | refine AWp.exit ?_ | refine AWp.label ?_ | refine AWp.ret ?_ | refine appK_g ?_); simp -implicitDefEqProofs (maxSteps := 1000000) (disch := omega) only [go_sem, ↓reduceIte]) | ((first | refine hK _ ?_ | (clear hK; first | refine hK _ ?_ | (clear hK; first | refine hK _ ?_ | (clear hK; refine hK _ ?_)))); clear hK) | (refine AWp.cond ?_; simp -implicitDefEqProofs (maxSteps := 1000000) (disch := omega) only [go_sem, ↓reduceIte]; try (refine ⟨fun hlt => ?_, fun hlt => ?_⟩ <;> (try simp only [cla, clb, ne_eq, reduceCtorEq] at hlt) <;> (try exact hlt.elim))) | (refine AWp.block ?_) | ((first | refine gdO_split (fun hlt => ?_) (fun hlt => ?_) | refine tkO_split (fun hlt => ?_) (fun hlt => ?_) | refine opO_split (fun hlt => ?_) (fun hlt => ?_)) <;> have hgd := hlt <;> (try simp only [cla, clb, ne_eq, cld] at hlt) <;> (simp -implicitDefEqProofs (maxSteps := 1000000) (disch := omega) only [go_sem, ↓reduceIte, hgd]) <;> clear hgd) | (with_reducible refine And.intro ?_ ?_; · first | omega | assumption | exact ⟨_, _, rfl, rfl⟩) | fail
  refine AWp.loopInv F121n (fun _ => 0) (fun _ => True) () trivial (Sub.of0 hm id rfl ?_ ?_ (fun _ _ _ _ h => h)) ?_
  all_goals (try dsimp only)
  all_goals (first | omega | (simp -implicitDefEqProofs (maxSteps := 1000000) (disch := omega) only [F121n, id, go_sem, Nat.blt_eq, Nat.reduceAdd, Nat.reduceSub, Nat.reduceEqDiff, Nat.reduceLT, ↓reduceIte, and_true, true_and, AV.dat.injEq, DV.int.injEq, DV.bool.injEq, DV.lst.injEq, eq_self_iff_true]; first | done | omega | (simp; done) | (simp; omega)) | (simp; done) | (simp; omega) | skip)
  rintro ⟨⟩ _ ih
  simp only [F121n]
  repeat' first | (exact absurd hlt (by decide)) | (refine AWp.seq fun K hK => ?_) | ((first | refine AWp.draw (id := 3) [.take 0, .take 1, .take 2, .take 3, .take 4, .take 5, .take 6, .take 7, .take 8, .take 9, .take 10, .take 11, .take 12, .grp [13], .take 14, .grp [15]] mixed_ok (by kernel_rfl) (by rw [hc]; rfl) ?_ | refine AWp.region (by rw [hc]; rfl) ?_ | refine AWp.skip ?_ | refine AWp.exit ?_ | refine AWp.label ?_ | refine AWp.ret ?_ | refine appK_g ?_); simp -implicitDefEqProofs (maxSteps := 1000000) (disch := omega) only [go_sem, ↓reduceIte]) | ((first | refine hK _ ?_ | (clear hK; first | refine hK _ ?_ | (clear hK; first | refine hK _ ?_ | (clear hK; refine hK _ ?_)))); clear hK) | (refine AWp.cond ?_; simp -implicitDefEqProofs (maxSteps := 1000000) (disch := omega) only [go_sem, ↓reduceIte]; try (refine ⟨fun hlt => ?_, fun hlt => ?_⟩ <;> (try simp only [cla, clb, ne_eq, reduceCtorEq] at hlt) <;> (try exact hlt.elim))) | (refine AWp.block ?_) | ((first | refine gdO_split (fun hlt => ?_) (fun hlt => ?_) | refine tkO_split (fun hlt => ?_) (fun hlt => ?_) | refine opO_split (fun hlt => ?_) (fun hlt => ?_)) <;> have hgd := hlt <;> (try simp only [cla, clb, ne_eq, cld] at hlt) <;> (simp -implicitDefEqProofs (maxSteps := 1000000) (disch := omega) only [go_sem, ↓reduceIte, hgd]) <;> clear hgd) | (with_reducible refine And.intro ?_ ?_; · first | omega | assumption | exact ⟨_, _, rfl, rfl⟩) | fail
/-- Or of a multiple of 2^k and what is smaller: the sum. -/
theorem or_add (k : Nat) (a b : Int) (ha : 0 ≤ a) (hb : 0 ≤ b) (hd : a % 2 ^ k = 0) (hlt : b < 2 ^ k) (hs : a + b < 4294967296) : IntKind.i64.wrap (BitVec.ofInt 64 a ||| BitVec.ofInt 64 b).toNat = a + b := by
  obtain ⟨x, rfl⟩ := Int.eq_ofNat_of_zero_le ha
  obtain ⟨y, rfl⟩ := Int.eq_ofNat_of_zero_le hb
  have e1 : (BitVec.ofInt 64 (x : Int)).toNat = x := by
    rw [BitVec.toNat_ofInt]; omega
  have e2 : (BitVec.ofInt 64 (y : Int)).toNat = y := by
    rw [BitVec.toNat_ofInt]; omega
  have hy : y < 2 ^ k := by exact_mod_cast hlt
  have hx : x % 2 ^ k = 0 := by exact_mod_cast hd
  have h := Nat.two_pow_add_eq_or_of_lt hy (x / 2 ^ k)
  rw [Nat.mul_div_cancel' (Nat.dvd_of_mod_eq_zero hx)] at h
  rw [BitVec.toNat_or, e1, e2, ← h]
  simp -implicitDefEqProofs (disch := omega) only [wrap64]
  omega
def orW (a b : Int) : Int := IntKind.i64.wrap (BitVec.ofInt 64 a ||| BitVec.ofInt 64 b).toNat
theorem bin_orW {T : Tab} {a b : Int} {u : TypeId} {C : AV → Prop} : binK T .or u (.dat (.int .i64 a)) (.dat (.int .i64 b)) C = C (.dat (.int .i64 (orW a b))) := by
  rw [bin_or]; exact propext ⟨fun h => h.2, fun h => ⟨rfl, h⟩⟩
theorem or4 (x0 x1 x2 x3 : Int) (h0 : 0 ≤ x0 ∧ x0 < 256) (h1 : 0 ≤ x1 ∧ x1 < 256) (h2 : 0 ≤ x2 ∧ x2 < 256) (h3 : 0 ≤ x3 ∧ x3 < 256) :
    orW (x0 * 16777216) (x1 * 65536) = x0 * 16777216 + x1 * 65536 ∧
    orW (x0 * 16777216 + x1 * 65536) (x2 * 256) = x0 * 16777216 + x1 * 65536 + x2 * 256 ∧
    orW (x0 * 16777216 + x1 * 65536 + x2 * 256) x3 = ((x0 * 256 + x1) * 256 + x2) * 256 + x3 := by
  refine ⟨or_add 24 _ _ (by omega) (by omega) (by omega) (by omega) (by omega), or_add 16 _ _ (by omega) (by omega) (by omega) (by omega) (by omega), ?_⟩
  unfold orW
  rw [or_add 8 _ _ (by omega) (by omega) (by omega) (by omega) (by omega)]
  omega
end Go.Proofs.YthhjcfejgoddlaaGreatDoor
end

section
set_option linter.unusedSimpArgs false
set_option linter.unusedVariables false
set_option maxRecDepth 100000
namespace Go.Proofs.YthhjcfejgoddlaaGreatDoor
open Go Go.Abs
attribute [local go_sem] wrap64 Int.tdiv_eq_ediv_of_nonneg Int.tmod_eq_emod_of_nonneg eq_self Bool.false_eq_true Bool.true_eq_false Bool.not_true Bool.not_false
attribute [local go_sem_proc] Nat.reduceAdd Nat.reduceMul Nat.reduceEqDiff Nat.reduceLT Nat.reduceLeDiff Int.reduceEq Int.reduceNeg Int.reduceToNat reduceCtorEq Int.reduceBNe Int.reduceBEq

/-! FromBytes. -/
attribute [local go_sem high] bin_orW
def fwd (l : List UInt8) (k : Nat) : Int := w4 l (1 + 4 * k)
theorem wds_rev (l : List UInt8) (m : Nat) (h : l.length = 1 + 4 * m) : (((List.range m).map (fwd l)).reverse) = wds l m := by
  refine list_ext_getD (by simp [wds]) fun j hj => ?_
  have hj' : j < m := by simpa using hj
  have e1 : (((List.range m).map (fwd l)).reverse).getD j 0 = fwd l (m - 1 - j) := by
    simp [List.getD, List.getElem?_reverse, hj']
    try (rw [List.getElem?_range (by omega)]; rfl)
  have e2 : (wds l m).getD j 0 = w4 l (l.length - 4 - 4 * j) := by
    simp [wds, List.getD, hj']
  rw [e1, e2]
  unfold fwd
  congr 1; omega
theorem take4 (l : List UInt8) (k m : Nat) (h : l.length = 1 + 4 * m) (hk : k < m) : ∃ y0 y1 y2 y3 : UInt8, ((l.drop 1).drop (4 * k)).take 4 = [y0, y1, y2, y3] ∧ fwd l k = (((y0.toNat : Int) * 256 + y1.toNat) * 256 + y2.toNat) * 256 + y3.toNat := by
  refine ⟨l.getD (1 + 4 * k) 0, l.getD (1 + 4 * k + 1) 0, l.getD (1 + 4 * k + 2) 0, l.getD (1 + 4 * k + 3) 0, ?_, rfl⟩
  rw [List.drop_drop]
  have g : ∀ i, i < l.length → l.drop i = l.getD i 0 :: l.drop (i + 1) := fun i hi => by
    rw [List.drop_eq_getElem_cons hi]; simp [List.getD, hi]
  rw [g (1 + 4 * k) (by omega), g (1 + 4 * k + 1) (by omega), g (1 + 4 * k + 1 + 1) (by omega), g (1 + 4 * k + 1 + 1 + 1) (by omega)]
  rfl
def fbS (neg : Bool) (l : List UInt8) {n : Nat} (pre : List (Fin n)) (s : Sto) (n : Nat) : Prop :=
  (pre = [] ∧ s = [(1, .box [B neg, .nil] false), (0, .box [B false, .nil] false)] ∧ 2 ≤ n) ∨ (pre ≠ [] ∧ ∃ k, 2 ≤ k ∧ k < n ∧ s = [(1, .box [B neg, .own k] false), (k, .row 3 1 ((pre.map fun j => fwd l j.val).map eI) false), (0, .box [B false, .nil] false)])
set_option maxHeartbeats 8000000 in
theorem FromBytes_pc (l : List UInt8) (hl : l.length ≤ 1000000) : PC Tryz.prog 72 [bL l] (fbV l) := by
  have h0 := bX_rng l 0
  by_cases hb : fbBad l
  · unfold fbV
    rw [if_pos hb]
    by_cases hn : l = []
    · subst hn
      unfold bL
      simp only [List.map_nil]
      refine PCr.pc (PCr.of tab_ok Tryz.func72 rfl rfl rfl fun c hc hm => ?_)
      rw [show Tryz.f72.ntmps = _ from Tryz.ntmps72] at hc
      simp only [Tryz.f72]
      repeat' first | (exact absurd hlt (by decide)) | (refine AWp.seq fun K hK => ?_) | ((first | refine AWp.draw (id := 6) [.take 0, .take 1, .take 2, .take 3, .take 4, .take 5, .take 6, .take 7, .take 8, .take 9, .take 10, .take 11, .take 12, .take 13, .take 14, .take 15, .take 16, .take 17, .take 18, .take 19, .take 20, .take 21, .take 22, .take 23, .take 24, .grp [25], .take 26, .grp [27]] mixed_ok (by kernel_rfl) (by rw [hc]; rfl) ?_ | refine AWp.region (by rw [hc]; rfl) ?_ | refine AWp.skip ?_ | refine AWp.exit ?_ | refine AWp.label ?_ | refine AWp.ret ?_ | refine appK_g ?_); simp -implicitDefEqProofs (maxSteps := 1000000) (disch := omega) only [go_sem, ↓reduceIte]) | ((first | refine hK _ ?_ | (clear hK; first | refine hK _ ?_ | (clear hK; first | refine hK _ ?_ | (clear hK; refine hK _ ?_)))); clear hK) | (refine AWp.cond ?_; simp -implicitDefEqProofs (maxSteps := 1000000) (disch := omega) only [go_sem, ↓reduceIte]; try (refine ⟨fun hlt => ?_, fun hlt => ?_⟩ <;> (try simp only [cla, clb, ne_eq, reduceCtorEq] at hlt) <;> (try exact hlt.elim))) | (refine AWp.block ?_) | ((first | refine gdO_split (fun hlt => ?_) (fun hlt => ?_) | refine tkO_split (fun hlt => ?_) (fun hlt => ?_) | refine opO_split (fun hlt => ?_) (fun hlt => ?_)) <;> have hgd := hlt <;> (try simp only [cla, clb, ne_eq, cld] at hlt) <;> (simp -implicitDefEqProofs (maxSteps := 1000000) (disch := omega) only [go_sem, ↓reduceIte, hgd]) <;> clear hgd) | (with_reducible refine And.intro ?_ ?_; · first | omega | assumption | exact ⟨_, _, rfl, rfl⟩) | fail
    · have hp : 0 < l.length := List.length_pos_iff.2 hn
      have e1 : ((l.length : Int) == 0) = false := by rw [beq_eq_false_iff_ne]; omega
      have e0 := eU_getD l 0 hp
      have e2 : ((l.length : Int) != 1 + 4 * (bX l 0 % 128)) = true := by
        rw [bne_iff_ne]; unfold fbBad nB at hb; unfold bX; omega
      unfold bL
      generalize bX l 0 = x0 at *
      refine PCr.pc (PCr.of tab_ok Tryz.func72 rfl rfl rfl fun c hc hm => ?_)
      rw [show Tryz.f72.ntmps = _ from Tryz.ntmps72] at hc
      simp only [Tryz.f72]
      repeat' first | (exact absurd hlt (by decide)) | (refine AWp.seq fun K hK => ?_) | ((first | refine AWp.draw (id := 6) [.take 0, .take 1, .take 2, .take 3, .take 4, .take 5, .take 6, .take 7, .take 8, .take 9, .take 10, .take 11, .take 12, .take 13, .take 14, .take 15, .take 16, .take 17, .take 18, .take 19, .take 20, .take 21, .take 22, .take 23, .take 24, .grp [25], .take 26, .grp [27]] mixed_ok (by kernel_rfl) (by rw [hc]; rfl) ?_ | refine AWp.region (by rw [hc]; rfl) ?_ | refine AWp.skip ?_ | refine AWp.exit ?_ | refine AWp.label ?_ | refine AWp.ret ?_ | refine appK_g ?_); simp -implicitDefEqProofs (maxSteps := 1000000) (disch := omega) only [go_sem, ↓reduceIte, e1, e0, e2, List.length_map]) | ((first | refine hK _ ?_ | (clear hK; first | refine hK _ ?_ | (clear hK; first | refine hK _ ?_ | (clear hK; refine hK _ ?_)))); clear hK) | (refine AWp.cond ?_; simp -implicitDefEqProofs (maxSteps := 1000000) (disch := omega) only [go_sem, ↓reduceIte, e1, e0, e2, List.length_map]; try (refine ⟨fun hlt => ?_, fun hlt => ?_⟩ <;> (try simp only [cla, clb, ne_eq, reduceCtorEq] at hlt) <;> (try exact hlt.elim))) | (refine AWp.block ?_) | ((first | refine gdO_split (fun hlt => ?_) (fun hlt => ?_) | refine tkO_split (fun hlt => ?_) (fun hlt => ?_) | refine opO_split (fun hlt => ?_) (fun hlt => ?_)) <;> have hgd := hlt <;> (try simp only [cla, clb, ne_eq, cld] at hlt) <;> (simp -implicitDefEqProofs (maxSteps := 1000000) (disch := omega) only [go_sem, ↓reduceIte, e1, e0, e2, List.length_map, hgd]) <;> clear hgd) | (with_reducible refine And.intro ?_ ?_; · first | omega | assumption | exact ⟨_, _, rfl, rfl⟩) | fail
  · unfold fbV
    rw [if_neg hb]
    have hb' : l.length = 1 + 4 * nB l := Classical.not_not.1 hb
    have hp : 0 < l.length := by omega
    have hnB : nB l < 128 := Nat.mod_lt _ (by decide)
    have e1 : ((l.length : Int) == 0) = false := by rw [beq_eq_false_iff_ne]; omega
    have e0 := eU_getD l 0 hp
    have e2 : ((l.length : Int) != 1 + 4 * (bX l 0 % 128)) = false := by
      rw [bne_eq_false_iff_eq]; unfold nB at hb'; unfold bX; omega
    have e3 : decide ((127 : Int) < bX l 0) = sB l := by unfold sB bX; rw [decide_eq_decide]; omega
    obtain ⟨m, hmm⟩ : ∃ m, m = nB l := ⟨_, rfl⟩
    rw [← hmm] at hb' hnB ⊢
    generalize sB l = neg at *
    have hC := Check_pc neg (wds l m) (by simp [wds]; omega)
    have hlm := chunkE_len (l.drop 1) m
    have hch := chunk_pc ((l.drop 1).map eU)
    have hdr : List.drop 1 (List.take l.length (List.map eU l)) = (l.drop 1).map eU := by rw [List.take_of_length_le (by simp), List.map_drop]
    refine PCr.pc (PCr.of tab_ok Tryz.func72 rfl rfl rfl fun c hc hm => ?_)
    rw [show Tryz.f72.ntmps = _ from Tryz.ntmps72] at hc
    simp only [Tryz.f72]
    repeat' first | (exact absurd hlt (by decide)) | (refine AWp.seq fun K hK => ?_) | ((first | refine AWp.draw (id := 6) [.take 0, .take 1, .take 2, .take 3, .take 4, .take 5, .take 6, .take 7, .take 8, .take 9, .take 10, .take 11, .take 12, .take 13, .take 14, .take 15, .take 16, .take 17, .take 18, .take 19, .take 20, .take 21, .take 22, .take 23, .take 24, .grp [25], .take 26, .grp [27]] mixed_ok (by kernel_rfl) (by rw [hc]; rfl) ?_ | refine AWp.region (by rw [hc]; rfl) ?_ | refine AWp.skip ?_ | refine AWp.exit ?_ | refine AWp.label ?_ | refine AWp.ret ?_ | refine appK_g ?_); simp -implicitDefEqProofs (maxSteps := 1000000) (disch := omega) only [go_sem, ↓reduceIte, bL, e1, e0, e2, e3, List.length_map]) | ((first | refine hK _ ?_ | (clear hK; first | refine hK _ ?_ | (clear hK; first | refine hK _ ?_ | (clear hK; refine hK _ ?_)))); clear hK) | (refine AWp.cond ?_; simp -implicitDefEqProofs (maxSteps := 1000000) (disch := omega) only [go_sem, ↓reduceIte, bL, e1, e0, e2, e3, List.length_map]; try (refine ⟨fun hlt => ?_, fun hlt => ?_⟩ <;> (try simp only [cla, clb, ne_eq, reduceCtorEq] at hlt) <;> (try exact hlt.elim))) | (refine AWp.block ?_) | ((first | refine gdO_split (fun hlt => ?_) (fun hlt => ?_) | refine tkO_split (fun hlt => ?_) (fun hlt => ?_) | refine opO_split (fun hlt => ?_) (fun hlt => ?_)) <;> have hgd := hlt <;> (try simp only [cla, clb, ne_eq, cld] at hlt) <;> (simp -implicitDefEqProofs (maxSteps := 1000000) (disch := omega) only [go_sem, ↓reduceIte, bL, e1, e0, e2, e3, List.length_map, hgd]) <;> clear hgd) | (with_reducible refine And.intro ?_ ?_; · first | omega | assumption | exact ⟨_, _, rfl, rfl⟩) | fail
    refine ⟨fun e he j hj => ?_, ?_⟩
    · obtain ⟨x, _, rfl⟩ := List.mem_map.1 he
      cases hj; rfl
    rw [hdr]
    refine ⟨_, hch, ?_⟩
    try simp -implicitDefEqProofs (maxSteps := 1000000) (disch := omega) only [go_sem, ↓reduceIte]
    clear hdr hch e0 e1 e2 e3
    repeat' first | (exact absurd hlt (by decide)) | (refine AWp.seq fun K hK => ?_) | ((first | refine AWp.draw (id := 6) [.take 0, .take 1, .take 2, .take 3, .take 4, .take 5, .take 6, .take 7, .take 8, .take 9, .take 10, .take 11, .take 12, .take 13, .take 14, .take 15, .take 16, .take 17, .take 18, .take 19, .take 20, .take 21, .take 22, .take 23, .take 24, .grp [25], .take 26, .grp [27]] mixed_ok (by kernel_rfl) (by rw [hc]; rfl) ?_ | refine AWp.region (by rw [hc]; rfl) ?_ | refine AWp.skip ?_ | refine AWp.exit ?_ | refine AWp.label ?_ | refine AWp.ret ?_ | refine appK_g ?_); simp -implicitDefEqProofs (maxSteps := 1000000) (disch := omega) only [go_sem, ↓reduceIte]) | ((first | refine hK _ ?_ | (clear hK; first | refine hK _ ?_ | (clear hK; first | refine hK _ ?_ | (clear hK; refine hK _ ?_)))); clear hK) | (refine AWp.cond ?_; simp -implicitDefEqProofs (maxSteps := 1000000) (disch := omega) only [go_sem, ↓reduceIte]; try (refine ⟨fun hlt => ?_, fun hlt => ?_⟩ <;> (try simp only [cla, clb, ne_eq, reduceCtorEq] at hlt) <;> (try exact hlt.elim))) | (refine AWp.block ?_) | ((first | refine gdO_split (fun hlt => ?_) (fun hlt => ?_) | refine tkO_split (fun hlt => ?_) (fun hlt => ?_) | refine opO_split (fun hlt => ?_) (fun hlt => ?_)) <;> have hgd := hlt <;> (try simp only [cla, clb, ne_eq, cld] at hlt) <;> (simp -implicitDefEqProofs (maxSteps := 1000000) (disch := omega) only [go_sem, ↓reduceIte, hgd]) <;> clear hgd) | (with_reducible refine And.intro ?_ ?_; · first | omega | assumption | exact ⟨_, _, rfl, rfl⟩) | fail
    refine AWp.rangeF 147 [.cptr [.lst ((l.drop 1).map eU)], .cptr [.int .i64 4]] (chunkE (l.drop 1) m) [(5, 30)] (by simp [go_sem]) (chunk_it (l.drop 1) m (by rw [List.length_drop]; omega) (by omega)) (fun el hel => ?_) (by rw [hc]; rfl) (.one _ _ _ _ _ _) (by rw [hc]; rfl) hm.2
      (fun pre s n => fbS neg l pre s n) (fun code pre s n => False) (.inl ⟨rfl, rfl, Nat.le_refl _⟩) ?_ ?_ ?_
    · obtain ⟨k, _, rfl⟩ := List.mem_map.1 hel; rfl
    · intro c' l' pre k s n hc' hm' hlen hn hI
      have hc := hc'.trans hc
      have hk : k.val < m := by have := k.isLt; omega
      obtain ⟨y0, y1, y2, y3, hq, hf⟩ := take4 l k.val m hb' hk
      rw [chunkE_get, hq]
      simp only [List.map_cons, List.map_nil, eU]
      have r0 := y0.toNat_lt
      have r1 := y1.toNat_lt
      have r2 := y2.toNat_lt
      have r3 := y3.toNat_lt
      obtain ⟨x0, hx0⟩ : ∃ x : Int, (y0.toNat : Int) = x := ⟨_, rfl⟩
      obtain ⟨x1, hx1⟩ : ∃ x : Int, (y1.toNat : Int) = x := ⟨_, rfl⟩
      obtain ⟨x2, hx2⟩ : ∃ x : Int, (y2.toNat : Int) = x := ⟨_, rfl⟩
      obtain ⟨x3, hx3⟩ : ∃ x : Int, (y3.toNat : Int) = x := ⟨_, rfl⟩
      rw [hx0, hx1, hx2, hx3] at hf
      simp only [hx0, hx1, hx2, hx3]
      have hx0' : 0 ≤ x0 ∧ x0 < 256 := by omega
      have hx1' : 0 ≤ x1 ∧ x1 < 256 := by omega
      have hx2' : 0 ≤ x2 ∧ x2 < 256 := by omega
      have hx3' : 0 ≤ x3 ∧ x3 < 256 := by omega
      obtain ⟨o1, o2, o3⟩ := or4 x0 x1 x2 x3 hx0' hx1' hx2' hx3'
      have w0 : IntKind.i64.wrap (x0 * 2 ^ min 24 64) = x0 * 16777216 := wrap64 (by simp only [show (2 : Int) ^ min 24 64 = 16777216 from rfl]; omega)
      have w1 : IntKind.i64.wrap (x1 * 2 ^ min 16 64) = x1 * 65536 := wrap64 (by simp only [show (2 : Int) ^ min 16 64 = 65536 from rfl]; omega)
      have w2 : IntKind.i64.wrap (x2 * 2 ^ min 8 64) = x2 * 256 := wrap64 (by simp only [show (2 : Int) ^ min 8 64 = 256 from rfl]; omega)
      have q0 : [[DV.int IntKind.u8 x0], [DV.int IntKind.u8 x1], [DV.int IntKind.u8 x2], [DV.int IntKind.u8 x3]].getD 0 [] = [DV.int IntKind.u8 x0] := rfl
      have q1 : [[DV.int IntKind.u8 x0], [DV.int IntKind.u8 x1], [DV.int IntKind.u8 x2], [DV.int IntKind.u8 x3]].getD 1 [] = [DV.int IntKind.u8 x1] := rfl
      have q2 : [[DV.int IntKind.u8 x0], [DV.int IntKind.u8 x1], [DV.int IntKind.u8 x2], [DV.int IntKind.u8 x3]].getD 2 [] = [DV.int IntKind.u8 x2] := rfl
      have q3 : [[DV.int IntKind.u8 x0], [DV.int IntKind.u8 x1], [DV.int IntKind.u8 x2], [DV.int IntKind.u8 x3]].getD 3 [] = [DV.int IntKind.u8 x3] := rfl
      simp only at hm' hn
      refine AWp.postSub ?_
      rcases hI with ⟨rfl, rfl, h2⟩ | ⟨hne, j, hj2, hjn, rfl⟩
      · have g4 : ¬ n = 1 := by omega
        have g6 : ¬ n = 0 := by omega
        have g7 : ¬ 1 = n := by omega
        have g8 : ¬ 0 = n := by omega
        simp -implicitDefEqProofs (maxSteps := 1000000) (disch := omega) only [go_sem, ↓reduceIte]
        repeat' first | (exact absurd hlt (by decide)) | (refine AWp.seq fun K hK => ?_) | (first | refine AWp.draw2 (id := 6) [.take 0, .take 1, .take 2, .take 3, .take 4, .take 5, .take 6, .take 7, .take 8, .take 9, .take 10, .take 11, .take 12, .take 13, .take 14, .take 15, .take 16, .take 17, .take 18, .take 19, .take 20, .take 21, .take 22, .take 23, .take 24, .grp [25], .take 26, .grp [27]] mixed_ok (by kernel_rfl) (by rw [hc]; rfl) ?_) | ((first | refine planK_step fun K hK => ?_ | refine planK_one fun K hK => ?_); simp -implicitDefEqProofs (maxSteps := 1000000) (disch := omega) only [go_sem, ↓reduceIte, o1, o2, o3, w0, w1, w2, q0, q1, q2, q3, g4, g6, g7, g8]) | (refine planK_end ?_; try (simp -implicitDefEqProofs (maxSteps := 1000000) (disch := omega) only [go_sem, ↓reduceIte, o1, o2, o3, w0, w1, w2, q0, q1, q2, q3, g4, g6, g7, g8])) | ((first | refine AWp.region (by rw [hc]; rfl) ?_ | refine AWp.skip ?_ | refine AWp.exit ?_ | refine AWp.label ?_ | refine AWp.ret ?_ | refine appK_g ?_); simp -implicitDefEqProofs (maxSteps := 1000000) (disch := omega) only [go_sem, ↓reduceIte, o1, o2, o3, w0, w1, w2, q0, q1, q2, q3, g4, g6, g7, g8]) | ((first | refine hK _ ?_ | (clear hK; first | refine hK _ ?_ | (clear hK; first | refine hK _ ?_ | (clear hK; refine hK _ ?_)))); clear hK) | (refine AWp.cond ?_; simp -implicitDefEqProofs (maxSteps := 1000000) (disch := omega) only [go_sem, ↓reduceIte, o1, o2, o3, w0, w1, w2, q0, q1, q2, q3, g4, g6, g7, g8]; try (refine ⟨fun hlt => ?_, fun hlt => ?_⟩ <;> (try simp only [cla, clb, ne_eq, reduceCtorEq] at hlt) <;> (try exact hlt.elim))) | (refine AWp.block ?_) | ((first | refine gdO_split (fun hlt => ?_) (fun hlt => ?_) | refine tkO_split (fun hlt => ?_) (fun hlt => ?_) | refine opO_split (fun hlt => ?_) (fun hlt => ?_)) <;> have hgd := hlt <;> (try simp only [cla, clb, ne_eq, cld] at hlt) <;> (simp -implicitDefEqProofs (maxSteps := 1000000) (disch := omega) only [go_sem, ↓reduceIte, o1, o2, o3, w0, w1, w2, q0, q1, q2, q3, g4, g6, g7, g8, hgd]) <;> clear hgd) | (with_reducible refine And.intro ?_ ?_; · first | omega | assumption | exact ⟨_, _, rfl, rfl⟩) | fail
        refine ⟨⟨[], [(1, .box [B neg, .own n] false), (n, .row 3 1 (([k].map fun j => fwd l j.val).map eI) false), (0, .box [B false, .nil] false)], n + 1, 0⟩, Sub.of (fun i => i) ⟨by rw [hm']; simp only; omega, fun _ _ => rfl⟩ rfl trivial ?_ (fun _ _ _ _ h => h), .inr ⟨by simp, n, by omega, by simp only; omega, rfl⟩⟩
        have hrow : (([k].map fun j => fwd l j.val).map eI) = [[.int .i64 (((x0 * 256 + x1) * 256 + x2) * 256 + x3)]] := by simp [eI, hf]
        rw [hrow]
        simp only [Abs.subS, Abs.get_cons, g4, g6, g7, g8, ↓reduceIte, Abs.renO, Abs.okO, List.map_cons, List.map_nil, Abs.ren, Abs.okR, Nat.reduceEqDiff]
        refine ⟨by simp only [List.all_cons, List.all_nil, Bool.and_true]; show (true && Nat.blt n (n + 1)) = true; rw [Bool.true_and, Nat.blt_eq]; omega, by rw [Nat.blt_eq]; omega, rfl, trivial, by rw [Nat.blt_eq]; omega, trivial, rfl, by rw [Nat.blt_eq]; omega, rfl, trivial⟩
      · have g1 : ¬ n = j := by omega
        have g2 : ¬ 1 = j := by omega
        have g3 : ¬ 0 = j := by omega
        have g4 : ¬ n = 1 := by omega
        have g6 : ¬ n = 0 := by omega
        have g7 : ¬ 1 = n := by omega
        have g8 : ¬ 0 = n := by omega
        have g9 : ¬ n + 1 = j := by omega
        have g10 : ¬ j = 1 := by omega
        have g11 : ¬ j = 0 := by omega
        have hpl : (pre.map fun j => fwd l j.val).length ≤ 1000 := by rw [List.length_map]; omega
        obtain ⟨ws, hws⟩ : ∃ ws, (pre.map fun j => fwd l j.val) = ws := ⟨_, rfl⟩
        rw [hws] at hpl ⊢
        simp -implicitDefEqProofs (maxSteps := 1000000) (disch := omega) only [go_sem, ↓reduceIte]
        repeat' first | (exact absurd hlt (by decide)) | (refine AWp.seq fun K hK => ?_) | (first | refine AWp.draw2 (id := 6) [.take 0, .take 1, .take 2, .take 3, .take 4, .take 5, .take 6, .take 7, .take 8, .take 9, .take 10, .take 11, .take 12, .take 13, .take 14, .take 15, .take 16, .take 17, .take 18, .take 19, .take 20, .take 21, .take 22, .take 23, .take 24, .grp [25], .take 26, .grp [27]] mixed_ok (by kernel_rfl) (by rw [hc]; rfl) ?_) | ((first | refine planK_step fun K hK => ?_ | refine planK_one fun K hK => ?_); simp -implicitDefEqProofs (maxSteps := 1000000) (disch := omega) only [go_sem, ↓reduceIte, o1, o2, o3, w0, w1, w2, q0, q1, q2, q3, g1, g2, g3, g4, g6, g7, g8, g9, g10, g11]) | (refine planK_end ?_; try (simp -implicitDefEqProofs (maxSteps := 1000000) (disch := omega) only [go_sem, ↓reduceIte, o1, o2, o3, w0, w1, w2, q0, q1, q2, q3, g1, g2, g3, g4, g6, g7, g8, g9, g10, g11])) | ((first | refine AWp.region (by rw [hc]; rfl) ?_ | refine AWp.skip ?_ | refine AWp.exit ?_ | refine AWp.label ?_ | refine AWp.ret ?_ | refine appK_g ?_); simp -implicitDefEqProofs (maxSteps := 1000000) (disch := omega) only [go_sem, ↓reduceIte, o1, o2, o3, w0, w1, w2, q0, q1, q2, q3, g1, g2, g3, g4, g6, g7, g8, g9, g10, g11]) | ((first | refine hK _ ?_ | (clear hK; first | refine hK _ ?_ | (clear hK; first | refine hK _ ?_ | (clear hK; refine hK _ ?_)))); clear hK) | (refine AWp.cond ?_; simp -implicitDefEqProofs (maxSteps := 1000000) (disch := omega) only [go_sem, ↓reduceIte, o1, o2, o3, w0, w1, w2, q0, q1, q2, q3, g1, g2, g3, g4, g6, g7, g8, g9, g10, g11]; try (refine ⟨fun hlt => ?_, fun hlt => ?_⟩ <;> (try simp only [cla, clb, ne_eq, reduceCtorEq] at hlt) <;> (try exact hlt.elim))) | (refine AWp.block ?_) | ((first | refine gdO_split (fun hlt => ?_) (fun hlt => ?_) | refine tkO_split (fun hlt => ?_) (fun hlt => ?_) | refine opO_split (fun hlt => ?_) (fun hlt => ?_)) <;> have hgd := hlt <;> (try simp only [cla, clb, ne_eq, cld] at hlt) <;> (simp -implicitDefEqProofs (maxSteps := 1000000) (disch := omega) only [go_sem, ↓reduceIte, o1, o2, o3, w0, w1, w2, q0, q1, q2, q3, g1, g2, g3, g4, g6, g7, g8, g9, g10, g11, hgd]) <;> clear hgd) | (with_reducible refine And.intro ?_ ?_; · first | omega | assumption | exact ⟨_, _, rfl, rfl⟩) | fail
        refine ⟨⟨[], [(1, .box [B neg, .own n] false), (n, .row 3 1 (((pre ++ [k]).map fun j => fwd l j.val).map eI) false), (0, .box [B false, .nil] false)], n + 1, 0⟩, Sub.of (fun i => i) ⟨by rw [hm']; simp only; omega, fun _ _ => rfl⟩ rfl trivial ?_ (fun _ _ _ _ h => h), .inr ⟨by simp, n, by omega, by simp only; omega, rfl⟩⟩
        have hrow : (((pre ++ [k]).map fun j => fwd l j.val).map eI) = ws.map eI ++ [[.int .i64 (((x0 * 256 + x1) * 256 + x2) * 256 + x3)]] := by rw [List.map_append, hws, List.map_append]; simp [eI, hf]
        rw [hrow]
        simp only [Abs.subS, Abs.get_cons, g4, g6, g7, g8, ↓reduceIte, Abs.renO, Abs.okO, List.map_cons, List.map_nil, Abs.ren, Abs.okR, Nat.reduceEqDiff]
        refine ⟨by simp only [List.all_cons, List.all_nil, Bool.and_true]; show (true && Nat.blt n (n + 1)) = true; rw [Bool.true_and, Nat.blt_eq]; omega, by rw [Nat.blt_eq]; omega, rfl, trivial, by rw [Nat.blt_eq]; omega, trivial, rfl, by rw [Nat.blt_eq]; omega, rfl, trivial⟩
    · intro s n hI
      rcases hI with ⟨hnil, rfl, h2⟩ | ⟨hne, j, hj2, hjn, rfl⟩
      · obtain rfl : m = 0 := by
          have := congrArg List.length hnil
          rw [List.length_finRange, hlm] at this; exact this
        have hw0 : wds l 0 = [] := rfl
        rw [hw0] at hC ⊢
        by_cases hok : okI neg []
        · rw [if_pos hok] at hC ⊢
          simp -implicitDefEqProofs (maxSteps := 1000000) (disch := omega) only [go_sem, ↓reduceIte]
          repeat' first | (exact absurd hlt (by decide)) | (refine AWp.seq fun K hK => ?_) | ((first | refine AWp.draw (id := 6) [.take 0, .take 1, .take 2, .take 3, .take 4, .take 5, .take 6, .take 7, .take 8, .take 9, .take 10, .take 11, .take 12, .take 13, .take 14, .take 15, .take 16, .take 17, .take 18, .take 19, .take 20, .take 21, .take 22, .take 23, .take 24, .grp [25], .take 26, .grp [27]] mixed_ok (by kernel_rfl) (by rw [hc]; rfl) ?_ | refine AWp.region (by rw [hc]; rfl) ?_ | refine AWp.skip ?_ | refine AWp.exit ?_ | refine AWp.label ?_ | refine AWp.ret ?_ | refine appK_g ?_); simp -implicitDefEqProofs (maxSteps := 1000000) (disch := omega) only [go_sem, ↓reduceIte]) | ((first | refine hK _ ?_ | (clear hK; first | refine hK _ ?_ | (clear hK; first | refine hK _ ?_ | (clear hK; refine hK _ ?_)))); clear hK) | (refine AWp.cond ?_; simp -implicitDefEqProofs (maxSteps := 1000000) (disch := omega) only [go_sem, ↓reduceIte]; try (refine ⟨fun hlt => ?_, fun hlt => ?_⟩ <;> (try simp only [cla, clb, ne_eq, reduceCtorEq] at hlt) <;> (try exact hlt.elim))) | (refine AWp.block ?_) | ((first | refine gdO_split (fun hlt => ?_) (fun hlt => ?_) | refine tkO_split (fun hlt => ?_) (fun hlt => ?_) | refine opO_split (fun hlt => ?_) (fun hlt => ?_)) <;> have hgd := hlt <;> (try simp only [cla, clb, ne_eq, cld] at hlt) <;> (simp -implicitDefEqProofs (maxSteps := 1000000) (disch := omega) only [go_sem, ↓reduceIte, hgd]) <;> clear hgd) | (with_reducible refine And.intro ?_ ?_; · first | omega | assumption | exact ⟨_, _, rfl, rfl⟩) | fail
          refine ⟨_, rev_nil, ?_⟩
          try simp -implicitDefEqProofs (maxSteps := 1000000) (disch := omega) only [go_sem, ↓reduceIte]
          repeat' first | (exact absurd hlt (by decide)) | (refine AWp.seq fun K hK => ?_) | ((first | refine AWp.draw (id := 6) [.take 0, .take 1, .take 2, .take 3, .take 4, .take 5, .take 6, .take 7, .take 8, .take 9, .take 10, .take 11, .take 12, .take 13, .take 14, .take 15, .take 16, .take 17, .take 18, .take 19, .take 20, .take 21, .take 22, .take 23, .take 24, .grp [25], .take 26, .grp [27]] mixed_ok (by kernel_rfl) (by rw [hc]; rfl) ?_ | refine AWp.region (by rw [hc]; rfl) ?_ | refine AWp.skip ?_ | refine AWp.exit ?_ | refine AWp.label ?_ | refine AWp.ret ?_ | refine appK_g ?_); simp -implicitDefEqProofs (maxSteps := 1000000) (disch := omega) only [go_sem, ↓reduceIte]) | ((first | refine hK _ ?_ | (clear hK; first | refine hK _ ?_ | (clear hK; first | refine hK _ ?_ | (clear hK; refine hK _ ?_)))); clear hK) | (refine AWp.cond ?_; simp -implicitDefEqProofs (maxSteps := 1000000) (disch := omega) only [go_sem, ↓reduceIte]; try (refine ⟨fun hlt => ?_, fun hlt => ?_⟩ <;> (try simp only [cla, clb, ne_eq, reduceCtorEq] at hlt) <;> (try exact hlt.elim))) | (refine AWp.block ?_) | ((first | refine gdO_split (fun hlt => ?_) (fun hlt => ?_) | refine tkO_split (fun hlt => ?_) (fun hlt => ?_) | refine opO_split (fun hlt => ?_) (fun hlt => ?_)) <;> have hgd := hlt <;> (try simp only [cla, clb, ne_eq, cld] at hlt) <;> (simp -implicitDefEqProofs (maxSteps := 1000000) (disch := omega) only [go_sem, ↓reduceIte, hgd]) <;> clear hgd) | (with_reducible refine And.intro ?_ ?_; · first | omega | assumption | exact ⟨_, _, rfl, rfl⟩) | ((first | refine ⟨_, hC, ?_⟩); simp -implicitDefEqProofs (maxSteps := 1000000) (disch := omega) only [go_sem, ↓reduceIte]) | fail
          all_goals (first | rfl | (rw [hw0, if_pos hok]; done) | (rw [hw0, if_pos hok]; rfl))
        · rw [if_neg hok] at hC ⊢
          simp -implicitDefEqProofs (maxSteps := 1000000) (disch := omega) only [go_sem, ↓reduceIte]
          repeat' first | (exact absurd hlt (by decide)) | (refine AWp.seq fun K hK => ?_) | ((first | refine AWp.draw (id := 6) [.take 0, .take 1, .take 2, .take 3, .take 4, .take 5, .take 6, .take 7, .take 8, .take 9, .take 10, .take 11, .take 12, .take 13, .take 14, .take 15, .take 16, .take 17, .take 18, .take 19, .take 20, .take 21, .take 22, .take 23, .take 24, .grp [25], .take 26, .grp [27]] mixed_ok (by kernel_rfl) (by rw [hc]; rfl) ?_ | refine AWp.region (by rw [hc]; rfl) ?_ | refine AWp.skip ?_ | refine AWp.exit ?_ | refine AWp.label ?_ | refine AWp.ret ?_ | refine appK_g ?_); simp -implicitDefEqProofs (maxSteps := 1000000) (disch := omega) only [go_sem, ↓reduceIte]) | ((first | refine hK _ ?_ | (clear hK; first | refine hK _ ?_ | (clear hK; first | refine hK _ ?_ | (clear hK; refine hK _ ?_)))); clear hK) | (refine AWp.cond ?_; simp -implicitDefEqProofs (maxSteps := 1000000) (disch := omega) only [go_sem, ↓reduceIte]; try (refine ⟨fun hlt => ?_, fun hlt => ?_⟩ <;> (try simp only [cla, clb, ne_eq, reduceCtorEq] at hlt) <;> (try exact hlt.elim))) | (refine AWp.block ?_) | ((first | refine gdO_split (fun hlt => ?_) (fun hlt => ?_) | refine tkO_split (fun hlt => ?_) (fun hlt => ?_) | refine opO_split (fun hlt => ?_) (fun hlt => ?_)) <;> have hgd := hlt <;> (try simp only [cla, clb, ne_eq, cld] at hlt) <;> (simp -implicitDefEqProofs (maxSteps := 1000000) (disch := omega) only [go_sem, ↓reduceIte, hgd]) <;> clear hgd) | (with_reducible refine And.intro ?_ ?_; · first | omega | assumption | exact ⟨_, _, rfl, rfl⟩) | fail
          refine ⟨_, rev_nil, ?_⟩
          try simp -implicitDefEqProofs (maxSteps := 1000000) (disch := omega) only [go_sem, ↓reduceIte]
          repeat' first | (exact absurd hlt (by decide)) | (refine AWp.seq fun K hK => ?_) | ((first | refine AWp.draw (id := 6) [.take 0, .take 1, .take 2, .take 3, .take 4, .take 5, .take 6, .take 7, .take 8, .take 9, .take 10, .take 11, .take 12, .take 13, .take 14, .take 15, .take 16, .take 17, .take 18, .take 19, .take 20, .take 21, .take 22, .take 23, .take 24, .grp [25], .take 26, .grp [27]] mixed_ok (by kernel_rfl) (by rw [hc]; rfl) ?_ | refine AWp.region (by rw [hc]; rfl) ?_ | refine AWp.skip ?_ | refine AWp.exit ?_ | refine AWp.label ?_ | refine AWp.ret ?_ | refine appK_g ?_); simp -implicitDefEqProofs (maxSteps := 1000000) (disch := omega) only [go_sem, ↓reduceIte]) | ((first | refine hK _ ?_ | (clear hK; first | refine hK _ ?_ | (clear hK; first | refine hK _ ?_ | (clear hK; refine hK _ ?_)))); clear hK) | (refine AWp.cond ?_; simp -implicitDefEqProofs (maxSteps := 1000000) (disch := omega) only [go_sem, ↓reduceIte]; try (refine ⟨fun hlt => ?_, fun hlt => ?_⟩ <;> (try simp only [cla, clb, ne_eq, reduceCtorEq] at hlt) <;> (try exact hlt.elim))) | (refine AWp.block ?_) | ((first | refine gdO_split (fun hlt => ?_) (fun hlt => ?_) | refine tkO_split (fun hlt => ?_) (fun hlt => ?_) | refine opO_split (fun hlt => ?_) (fun hlt => ?_)) <;> have hgd := hlt <;> (try simp only [cla, clb, ne_eq, cld] at hlt) <;> (simp -implicitDefEqProofs (maxSteps := 1000000) (disch := omega) only [go_sem, ↓reduceIte, hgd]) <;> clear hgd) | (with_reducible refine And.intro ?_ ?_; · first | omega | assumption | exact ⟨_, _, rfl, rfl⟩) | ((first | refine ⟨_, hC, ?_⟩); simp -implicitDefEqProofs (maxSteps := 1000000) (disch := omega) only [go_sem, ↓reduceIte]) | fail
          all_goals (first | rfl | (rw [hw0, if_neg hok]; done) | (rw [hw0, if_neg hok]; rfl))
      · obtain ⟨ws, hws⟩ : ∃ ws, ((List.finRange (chunkE (l.drop 1) m).length).map fun j => fwd l j.val) = ws := ⟨_, rfl⟩
        rw [hws]
        have hwr : ws.reverse = wds l m := by
          rw [← wds_rev l m hb', ← hws]
          congr 1
          exact List.ext_getElem (by rw [List.length_map, List.length_finRange, hlm, List.length_map, List.length_range]) (fun i h1 h2 => by simp)
        have hwl : ws.length ≤ 1000000 := by
          have := congrArg List.length hwr
          simp [wds] at this; omega
        simp -implicitDefEqProofs (maxSteps := 1000000) (disch := omega) only [go_sem, ↓reduceIte]
        first | (refine hK _ ?_; clear hK) | (clear hK; refine hK _ ?_; clear hK) | (clear hK; clear hK; refine hK _ ?_; clear hK) | (clear hK; clear hK; clear hK; refine hK _ ?_; clear hK)
        refine AWp.sub (σ' := ⟨[(2, .ptr 0 0), (4, .ptr 1 0)], rvS neg ws, 3, 1⟩) (Sub.of0 hm (fun i => if i = 2 then j else i) rfl ?_ ?_ ?_) ?_
        all_goals (try dsimp only)
        all_goals (first | omega | (simp -implicitDefEqProofs (maxSteps := 1000000) (disch := omega) only [rvS, id, go_sem, Nat.blt_eq, Nat.reduceAdd, Nat.reduceSub, Nat.reduceEqDiff, Nat.reduceLT, ↓reduceIte, and_true, true_and, AV.dat.injEq, DV.int.injEq, DV.bool.injEq, DV.lst.injEq, eq_self_iff_true]; first | done | omega | (simp; done) | (simp; omega)) | (simp; done) | (simp; omega) | skip)
        · intro a b h1 h2 h
          change a < 3 at h1; change b < 3 at h2
          try simp only at h
          (repeat' split at h) <;> omega
        · simp only [rvS]
          repeat' first | (refine AWp.regionXi (id := 7) 2 rfl rfl rfl (by rw [hc]; rfl) ?_; simp -implicitDefEqProofs (maxSteps := 1000000) (disch := omega) only [go_sem, ↓reduceIte]) | (exact absurd hlt (by decide)) | (refine AWp.seq fun K hK => ?_) | ((first | refine AWp.draw (id := 6) [.take 0, .take 1, .take 2, .take 3, .take 4, .take 5, .take 6, .take 7, .take 8, .take 9, .take 10, .take 11, .take 12, .take 13, .take 14, .take 15, .take 16, .take 17, .take 18, .take 19, .take 20, .take 21, .take 22, .take 23, .take 24, .grp [25], .take 26, .grp [27]] mixed_ok (by kernel_rfl) (by rw [hc]; rfl) ?_ | refine AWp.region (by rw [hc]; rfl) ?_ | refine AWp.skip ?_ | refine AWp.exit ?_ | refine AWp.label ?_ | refine AWp.ret ?_ | refine appK_g ?_); simp -implicitDefEqProofs (maxSteps := 1000000) (disch := omega) only [go_sem, ↓reduceIte]) | ((first | refine hK _ ?_ | (clear hK; first | refine hK _ ?_ | (clear hK; first | refine hK _ ?_ | (clear hK; refine hK _ ?_)))); clear hK) | (refine AWp.cond ?_; simp -implicitDefEqProofs (maxSteps := 1000000) (disch := omega) only [go_sem, ↓reduceIte]; try (refine ⟨fun hlt => ?_, fun hlt => ?_⟩ <;> (try simp only [cla, clb, ne_eq, reduceCtorEq] at hlt) <;> (try exact hlt.elim))) | (refine AWp.block ?_) | ((first | refine gdO_split (fun hlt => ?_) (fun hlt => ?_) | refine tkO_split (fun hlt => ?_) (fun hlt => ?_) | refine opO_split (fun hlt => ?_) (fun hlt => ?_)) <;> have hgd := hlt <;> (try simp only [cla, clb, ne_eq, cld] at hlt) <;> (simp -implicitDefEqProofs (maxSteps := 1000000) (disch := omega) only [go_sem, ↓reduceIte, hgd]) <;> clear hgd) | (with_reducible refine And.intro ?_ ?_; · first | omega | assumption | exact ⟨_, _, rfl, rfl⟩) | fail
          refine ⟨_, rev_po neg ws hwl, ?_⟩
          rintro _ _ _ ⟨rfl, rfl, rfl⟩
          rw [hwr]
          simp only [rvS]
          generalize wds l m = d at *
          try simp -implicitDefEqProofs (maxSteps := 1000000) (disch := omega) only [go_sem, ↓reduceIte]
          by_cases hok : okI neg d
          · rw [if_pos hok] at hC
            repeat' first | (exact absurd hlt (by decide)) | (refine AWp.seq fun K hK => ?_) | ((first | refine AWp.draw (id := 6) [.take 0, .take 1, .take 2, .take 3, .take 4, .take 5, .take 6, .take 7, .take 8, .take 9, .take 10, .take 11, .take 12, .take 13, .take 14, .take 15, .take 16, .take 17, .take 18, .take 19, .take 20, .take 21, .take 22, .take 23, .take 24, .grp [25], .take 26, .grp [27]] mixed_ok (by kernel_rfl) (by rw [hc]; rfl) ?_ | refine AWp.region (by rw [hc]; rfl) ?_ | refine AWp.skip ?_ | refine AWp.exit ?_ | refine AWp.label ?_ | refine AWp.ret ?_ | refine appK_g ?_); simp -implicitDefEqProofs (maxSteps := 1000000) (disch := omega) only [go_sem, ↓reduceIte]) | ((first | refine hK _ ?_ | (clear hK; first | refine hK _ ?_ | (clear hK; first | refine hK _ ?_ | (clear hK; refine hK _ ?_)))); clear hK) | (refine AWp.cond ?_; simp -implicitDefEqProofs (maxSteps := 1000000) (disch := omega) only [go_sem, ↓reduceIte]; try (refine ⟨fun hlt => ?_, fun hlt => ?_⟩ <;> (try simp only [cla, clb, ne_eq, reduceCtorEq] at hlt) <;> (try exact hlt.elim))) | (refine AWp.block ?_) | ((first | refine gdO_split (fun hlt => ?_) (fun hlt => ?_) | refine tkO_split (fun hlt => ?_) (fun hlt => ?_) | refine opO_split (fun hlt => ?_) (fun hlt => ?_)) <;> have hgd := hlt <;> (try simp only [cla, clb, ne_eq, cld] at hlt) <;> (simp -implicitDefEqProofs (maxSteps := 1000000) (disch := omega) only [go_sem, ↓reduceIte, hgd]) <;> clear hgd) | (with_reducible refine And.intro ?_ ?_; · first | omega | assumption | exact ⟨_, _, rfl, rfl⟩) | ((first | refine ⟨_, hC, ?_⟩); simp -implicitDefEqProofs (maxSteps := 1000000) (disch := omega) only [go_sem, ↓reduceIte]) | fail
            all_goals (first | rfl | rw [if_pos hok])
          · rw [if_neg hok] at hC
            repeat' first | (exact absurd hlt (by decide)) | (refine AWp.seq fun K hK => ?_) | ((first | refine AWp.draw (id := 6) [.take 0, .take 1, .take 2, .take 3, .take 4, .take 5, .take 6, .take 7, .take 8, .take 9, .take 10, .take 11, .take 12, .take 13, .take 14, .take 15, .take 16, .take 17, .take 18, .take 19, .take 20, .take 21, .take 22, .take 23, .take 24, .grp [25], .take 26, .grp [27]] mixed_ok (by kernel_rfl) (by rw [hc]; rfl) ?_ | refine AWp.region (by rw [hc]; rfl) ?_ | refine AWp.skip ?_ | refine AWp.exit ?_ | refine AWp.label ?_ | refine AWp.ret ?_ | refine appK_g ?_); simp -implicitDefEqProofs (maxSteps := 1000000) (disch := omega) only [go_sem, ↓reduceIte]) | ((first | refine hK _ ?_ | (clear hK; first | refine hK _ ?_ | (clear hK; first | refine hK _ ?_ | (clear hK; refine hK _ ?_)))); clear hK) | (refine AWp.cond ?_; simp -implicitDefEqProofs (maxSteps := 1000000) (disch := omega) only [go_sem, ↓reduceIte]; try (refine ⟨fun hlt => ?_, fun hlt => ?_⟩ <;> (try simp only [cla, clb, ne_eq, reduceCtorEq] at hlt) <;> (try exact hlt.elim))) | (refine AWp.block ?_) | ((first | refine gdO_split (fun hlt => ?_) (fun hlt => ?_) | refine tkO_split (fun hlt => ?_) (fun hlt => ?_) | refine opO_split (fun hlt => ?_) (fun hlt => ?_)) <;> have hgd := hlt <;> (try simp only [cla, clb, ne_eq, cld] at hlt) <;> (simp -implicitDefEqProofs (maxSteps := 1000000) (disch := omega) only [go_sem, ↓reduceIte, hgd]) <;> clear hgd) | (with_reducible refine And.intro ?_ ?_; · first | omega | assumption | exact ⟨_, _, rfl, rfl⟩) | ((first | refine ⟨_, hC, ?_⟩); simp -implicitDefEqProofs (maxSteps := 1000000) (disch := omega) only [go_sem, ↓reduceIte]) | fail
            all_goals (first | rfl | rw [if_neg hok])
    · intro code pre s n hpf hI
      exact hI.elim
end Go.Proofs.YthhjcfejgoddlaaGreatDoor
end

section
set_option linter.unusedSimpArgs false
set_option linter.unusedVariables false
set_option maxRecDepth 100000
set_option exponentiation.threshold 2000
namespace Go.Proofs.YthhjcfejgoddlaaGreatDoor
open Go Go.Abs

/-! The forms: each function and its reference give the same. -/
def q4i (d : List Int) (k : Nat) : List Int := [IntKind.wrap .u8 ((d.getD (d.length - 1 - k) 0).fdiv (2 ^ min 24 64)), IntKind.wrap .u8 ((d.getD (d.length - 1 - k) 0).fdiv (2 ^ min 16 64)), IntKind.wrap .u8 ((d.getD (d.length - 1 - k) 0).fdiv (2 ^ min 8 64)), IntKind.wrap .u8 (d.getD (d.length - 1 - k) 0)]
theorem q4i_flat (d : List Int) (h : Int) (n : Nat) : ([.int .u8 h] :: (List.range n).flatMap (q4 d) : List (List DV)) = (h :: (List.range n).flatMap (q4i d)).map eB := by
  rw [List.map_cons, List.map_flatMap]
  rfl
end Go.Proofs.YthhjcfejgoddlaaGreatDoor
end

section
set_option linter.unusedSimpArgs false
set_option linter.unusedVariables false
set_option maxRecDepth 100000
set_option exponentiation.threshold 2000
namespace Go.Proofs.YthhjcfejgoddlaaGreatDoor
open Go Go.Abs

/-! There and back: texts. -/
theorem ndl_all {l : List UInt8} (h : isD l) : ndl l = l.length := by
  rcases Nat.lt_or_ge (ndl l) l.length with g | g
  · exfalso
    have h1 := ndl_end g
    have h2 := h (l.getD (ndl l) 0) (by
      have : l.getD (ndl l) 0 = l[ndl l] := by simp [List.getD, g]
      rw [this]; exact List.getElem_mem g)
    unfold isDb at h1
    rw [decide_eq_false_iff_not] at h1
    exact h1 h2
  · exact Nat.le_antisymm (ndl_le l) g
theorem dv_1 (c : UInt8) (h : 48 ≤ c.toNat ∧ c.toNat ≤ 57) : dv 0 [c] = c.toNat - 48 := by
  rw [dv_cons, dv_nil]; omega
theorem c48 {c : UInt8} : c = 48 ↔ c.toNat = 48 := by rw [← UInt8.toNat_inj]; rfl
theorem canon_not {neg : Bool} {r : List UInt8} (hr : canon r) (h1 : r.length ≤ 360) (h2 : neg = true → dv 0 r ≠ 0) : ¬ rdE r ∧ ¬ rdN neg r := by
  obtain ⟨a, b, d⟩ := hr
  have hn := ndl_all a
  refine ⟨fun h => ?_, fun h => ?_⟩
  · have := h.1; omega
  · rcases h with h | h | ⟨h, g⟩
    · omega
    · exact h hn
    · match r, b, d with
      | c :: r', _, d =>
        simp only [List.getD_cons_zero] at h
        subst h
        have hl : (48 :: r' : List UInt8).length = 1 := d.resolve_right fun h => h rfl
        have hr' : r' = [] := by simpa using hl
        subst hr'
        rcases g with g | g
        · rw [hn] at g; simp at g
        · exact h2 g (by rw [dv_1 48 (by decide)]; rfl)
theorem rdV_canon {neg : Bool} {r : List UInt8} (hr : canon r) (h1 : r.length ≤ 360) (h2 : neg = true → dv 0 r ≠ 0) : rdV neg r = .tup [Z (sg neg (dv 0 r)), I 0] := by
  obtain ⟨a, b⟩ := canon_not hr h1 h2
  unfold rdV
  rw [if_neg a, if_neg b]
theorem canon_of {neg : Bool} {r : List UInt8} (a : ¬ rdE r) (b : ¬ rdN neg r) : canon r ∧ r.length ≤ 360 ∧ (neg = true → dv 0 r ≠ 0) := by
  have n0 : ndl r ≠ 0 := fun h => b (.inl h)
  have hn0 : ndl r = r.length := Classical.not_not.1 fun h => b (.inr (.inl h))
  have hd : isD r := by have := ndl_isD r; rwa [hn0, List.take_length] at this
  have h3 : r.getD 0 0 = 48 → r.length ≤ 1 ∧ neg = false := fun h => by
    refine ⟨Nat.not_lt.1 fun g => b (.inr (.inr ⟨h, .inl (by omega)⟩)), ?_⟩
    cases neg
    · rfl
    · exact absurd (.inr (.inr ⟨h, .inr rfl⟩)) b
  have hl : r.length ≤ 360 := by
    rcases Nat.lt_or_ge 360 r.length with h | h
    · exfalso
      have h48 : r.getD 0 0 = 48 := Classical.not_not.1 fun h3 => a ⟨by omega, h3⟩
      have := (h3 h48).1; omega
    · exact h
  have hc : canon r := by
    refine ⟨hd, by omega, ?_⟩
    by_cases h : r.getD 0 0 = 48
    · left; have := (h3 h).1; omega
    · right
      match r, (show 0 < r.length by omega), h with
      | c :: r', _, h => exact h
  refine ⟨hc, hl, fun hneg e => ?_⟩
  have hne : r.getD 0 0 ≠ 48 := fun h => by rw [(h3 h).2] at hneg; cases hneg
  rcases canon_lo hc with h | h
  · match r, h, hne with
    | [c], _, hne =>
      have hcd := hd c (by simp)
      rw [dv_1 c hcd] at e
      exact hne (c48.2 (by simp only [List.getD_cons_zero] at *; omega))
  · have := Nat.pow_pos (n := r.length - 1) (show 0 < 10 by decide)
    omega
theorem wr_cons (neg : Bool) (d : List Int) : wr neg d = (if neg then [45] else []) ++ wr false d := by
  cases neg <;> simp [wr, wrh]
theorem cut_canon (neg : Bool) {r : List UInt8} (hr : canon r) : Lib.hasPrefix ((if neg then [45] else []) ++ r) [45] = neg ∧ Lib.trimPrefix ((if neg then [45] else []) ++ r) [45] = r := by
  obtain ⟨a, b, _⟩ := hr
  cases neg
  · match r, b with
    | c :: r', _ =>
      have hc := a c (by simp)
      have h45 : (45 == c) = false := by
        rw [beq_eq_false_iff_ne]
        intro e; subst e
        have : (45 : UInt8).toNat = 45 := rfl
        omega
      have h1 : Lib.hasPrefix (c :: r') [45] = false := by simp [Lib.hasPrefix, List.isPrefixOf, h45]
      refine ⟨by simpa using h1, ?_⟩
      simp [Lib.trimPrefix, h1]
  · have h1 : Lib.hasPrefix (45 :: r) [45] = true := by simp [Lib.hasPrefix, List.isPrefixOf]
    refine ⟨by simpa using h1, ?_⟩
    simp [Lib.trimPrefix, h1]
theorem cut_back (t : List UInt8) : t = (if Lib.hasPrefix t [45] then [45] else []) ++ Lib.trimPrefix t [45] := by
  match t with
  | [] => simp [Lib.trimPrefix, Lib.hasPrefix, List.isPrefixOf]
  | c :: t' =>
    by_cases h : c = 45
    · subst h
      have h1 : Lib.hasPrefix (45 :: t') [45] = true := by simp [Lib.hasPrefix, List.isPrefixOf]
      simp [Lib.trimPrefix, h1]
    · have h45 : (45 == c) = false := by rw [beq_eq_false_iff_ne]; exact fun e => h e.symm
      have h1 : Lib.hasPrefix (c :: t') [45] = false := by simp [Lib.hasPrefix, List.isPrefixOf, h45]
      simp [Lib.trimPrefix, h1]
theorem wr_short (x : Int) (lx : lenZ x ≤ 40) : (wr false (D x.natAbs)).length ≤ 360 := by
  have hw := wr_canon x.natAbs (by unfold lenZ at *; rwa [Int.natAbs_natCast])
  rcases canon_lo hw.1 with h | h
  · omega
  · rw [hw.2] at h
    have h1 := D_len x.natAbs
    have h2 := Bp_mono (show (D x.natAbs).length ≤ 40 from lx)
    rw [Bp_nat 40] at h2
    have h3 : (10 : Nat) ^ (9 * 40) = 10 ^ 360 := rfl
    rw [h3] at h2
    have h4 : ((x.natAbs : Nat) : Int) < ((10 ^ 360 : Nat) : Int) := Int.lt_of_lt_of_le h1 h2
    have h5 := Int.ofNat_lt.1 h4
    have h6 := (Nat.pow_lt_pow_iff_right (show 1 < 10 by decide)).1 (Nat.lt_of_le_of_lt h h5)
    omega
theorem Read_back (x : Int) (lx : lenZ x ≤ 40) : PC Tryz.prog 67 [.dat (.str (bs (wr (decide (x < 0)) (D x.natAbs))))] (.tup [Z x, I 0]) := by
  have hw := wr_canon x.natAbs (by unfold lenZ at *; rwa [Int.natAbs_natCast])
  have hl := wr_short x lx
  rw [wr_cons]
  have hc := cut_canon (decide (x < 0)) hw.1
  have hp := Read_pc ((if decide (x < 0) = true then [45] else []) ++ wr false (D x.natAbs)) (by rw [List.length_append]; split <;> simp <;> omega)
  rw [hc.1, hc.2, rdV_canon hw.1 hl (fun h => by rw [hw.2]; have := of_decide_eq_true h; omega), hw.2, Z_sg] at hp
  exact hp
theorem Read_cases (t : List UInt8) (ht : t.length ≤ 1000000) : (∃ e : Int, e ≠ 0 ∧ PC Tryz.prog 67 [.dat (.str (bs t))] (.tup [Zr false [], I e])) ∨
    ∃ x : Int, lenZ x ≤ 40 ∧ PC Tryz.prog 67 [.dat (.str (bs t))] (.tup [Z x, I 0]) ∧ PC Tryz.prog 65 [Z x] (.tup [.dat (.str (bs t)), I 0]) := by
  have p := Read_pc t ht
  have hb := cut_back t
  generalize Lib.hasPrefix t [45] = neg at *
  generalize Lib.trimPrefix t [45] = r at *
  unfold rdV at p
  by_cases h1 : rdE r
  · rw [if_pos h1] at p
    exact .inl ⟨2, by decide, p⟩
  · rw [if_neg h1] at p
    by_cases h2 : rdN neg r
    · rw [if_pos h2] at p
      exact .inl ⟨12, by decide, p⟩
    · rw [if_neg h2] at p
      obtain ⟨hc, hl, hn⟩ := canon_of h1 h2
      have hv := dv_lt hc.1
      have hp : (10 : Nat) ^ r.length ≤ 10 ^ 360 := Nat.pow_le_pow_right (by decide) hl
      have lx : lenZ (sg neg (dv 0 r)) ≤ 40 := by
        unfold lenZ
        rw [sg_natAbs]
        rcases Nat.lt_or_ge 40 (D (dv 0 r)).length with h | h
        · exfalso
          have h0 : dv 0 r ≠ 0 := fun e => by rw [e, D_zero] at h; simp at h
          have h3 := D_len_ge h0
          have h4 := Bp_mono (show 40 ≤ (D (dv 0 r)).length - 1 by omega)
          rw [Bp_nat] at h4
          have h5 : (10 : Nat) ^ (9 * 40) = 10 ^ 360 := rfl
          rw [h5] at h4
          have h6 : ((10 ^ 360 : Nat) : Int) ≤ ((dv 0 r : Nat) : Int) := Int.le_trans h4 h3
          have h7 := Int.ofNat_le.1 h6
          omega
        · exact h
      refine .inr ⟨_, lx, p, ?_⟩
      have ht := Text_ok _ lx
      unfold textR at ht
      have hs : decide (sg neg (dv 0 r) < 0) = neg := by
        cases neg
        · exact decide_eq_false (by unfold sg; simp)
        · have := hn rfl
          exact decide_eq_true (by unfold sg; simp; omega)
      have hw := wr_canon (dv 0 r) (by unfold lenZ at *; rw [sg_natAbs] at lx; rwa [Int.natAbs_natCast])
      rw [hs, sg_natAbs, wr_cons, canon_eq hw.1 hc hw.2, ← hb] at ht
      exact ht
end Go.Proofs.YthhjcfejgoddlaaGreatDoor
end

section
set_option linter.unusedSimpArgs false
set_option linter.unusedVariables false
set_option maxRecDepth 100000
namespace Go.Proofs.YthhjcfejgoddlaaGreatDoor
open Go Go.Abs

/-! There and back: bytes. -/
theorem w4_inj {l l' : List UInt8} {i j : Nat} (h : w4 l i = w4 l' j) : bX l i = bX l' j ∧ bX l (i + 1) = bX l' (j + 1) ∧ bX l (i + 2) = bX l' (j + 2) ∧ bX l (i + 3) = bX l' (j + 3) := by
  unfold w4 at h
  have a0 := bX_rng l i
  have a1 := bX_rng l (i + 1)
  have a2 := bX_rng l (i + 2)
  have a3 := bX_rng l (i + 3)
  have b0 := bX_rng l' j
  have b1 := bX_rng l' (j + 1)
  have b2 := bX_rng l' (j + 2)
  have b3 := bX_rng l' (j + 3)
  omega
theorem bX_eq {l l' : List UInt8} {i j : Nat} (h : bX l i = bX l' j) : l.getD i 0 = l'.getD j 0 := by
  unfold bX at h
  exact UInt8.toNat_inj.1 (by omega)
theorem list8_ext {l m : List UInt8} (h : l.length = m.length) (hg : ∀ j, j < l.length → l.getD j 0 = m.getD j 0) : l = m := by
  refine List.ext_getElem h fun j h1 h2 => ?_
  have := hg j h1
  simpa [List.getD, h1, h2] using this
theorem wds_getD (l : List UInt8) (m j : Nat) (h : j < m) : (wds l m).getD j 0 = w4 l (l.length - 4 - 4 * j) := by
  simp [wds, List.getD, h]
theorem wds_len (l : List UInt8) (m : Nat) : (wds l m).length = m := by simp [wds]
theorem fb_inj {l l' : List UInt8} (h : ¬ fbBad l) (h' : ¬ fbBad l') (hs : sB l = sB l') (hw : wds l (nB l) = wds l' (nB l')) : l = l' := by
  have e := Classical.not_not.1 h
  have e' := Classical.not_not.1 h'
  have hn : nB l = nB l' := by have := congrArg List.length hw; rwa [wds_len, wds_len] at this
  have hl : l.length = l'.length := by omega
  refine list8_ext hl fun j hj => ?_
  rcases Nat.eq_zero_or_pos j with h0 | h0
  · subst h0
    refine UInt8.toNat_inj.1 ?_
    unfold sB at hs
    unfold nB at hn
    have a := (l.getD 0 0).toNat_lt
    have b := (l'.getD 0 0).toNat_lt
    by_cases c : 128 ≤ (l.getD 0 0).toNat
    · rw [decide_eq_true c] at hs
      have := of_decide_eq_true hs.symm
      omega
    · rw [decide_eq_false c] at hs
      have := of_decide_eq_false hs.symm
      omega
  · obtain ⟨k, i, hk, hi, rfl⟩ : ∃ k i, k < nB l ∧ i < 4 ∧ j = 1 + 4 * k + i := ⟨(j - 1) / 4, (j - 1) % 4, by omega, by omega, by omega⟩
    have hwk := congrArg (fun z => z.getD (nB l - 1 - k) 0) hw
    try simp only at hwk
    rw [wds_getD _ _ _ (by omega), wds_getD _ _ _ (by omega), show l.length - 4 - 4 * (nB l - 1 - k) = 1 + 4 * k by omega, show l'.length - 4 - 4 * (nB l - 1 - k) = 1 + 4 * k by omega] at hwk
    obtain ⟨x0, x1, x2, x3⟩ := w4_inj hwk
    match i, hi with
    | 0, _ => exact bX_eq x0
    | 1, _ => exact bX_eq x1
    | 2, _ => exact bX_eq x2
    | 3, _ => exact bX_eq x3
theorem u8s (zs : List Int) (h : ∀ z ∈ zs, 0 ≤ z ∧ z < 256) : zs.map eB = (zs.map fun z => UInt8.ofNat z.toNat).map eU := by
  rw [List.map_map]
  refine List.map_congr_left fun z hz => ?_
  have := h z hz
  show [DV.int .u8 z] = [DV.int .u8 ((UInt8.ofNat z.toNat).toNat : Int)]
  rw [UInt8.toNat_ofNat', show ((z.toNat % 2 ^ 8 : Nat) : Int) = z by omega]
theorem flat4 {α : Type} (f : Nat → List α) (hf : ∀ k, (f k).length = 4) (d : α) (n : Nat) : ∀ k i, k < n → i < 4 → ((List.range n).flatMap f).getD (4 * k + i) d = (f k).getD i d := by
  induction n with
  | zero => intro k i h; omega
  | succ n ih =>
    intro k i hk hi
    rw [List.range_succ, List.flatMap_append]
    have hlen : ((List.range n).flatMap f).length = 4 * n := by
      clear ih hk
      induction n with
      | zero => rfl
      | succ n ih => rw [List.range_succ, List.flatMap_append, List.length_append, ih]; simp [hf]; omega
    rcases Nat.lt_or_ge k n with h | h
    · rw [List.getD_eq_getElem?_getD, List.getElem?_append_left (by omega), ← List.getD_eq_getElem?_getD]
      exact ih k i h hi
    · obtain rfl : k = n := by omega
      rw [List.getD_eq_getElem?_getD, List.getElem?_append_right (by omega), hlen, show 4 * k + i - 4 * k = i by omega]
      simp
def u8 (z : Int) : UInt8 := UInt8.ofNat z.toNat
theorem u8_to {z : Int} (h : 0 ≤ z ∧ z < 256) : ((u8 z).toNat : Int) = z := by
  unfold u8
  rw [UInt8.toNat_ofNat']; omega
def q4u (d : List Int) (k : Nat) : List UInt8 := (q4i d k).map u8
def byL (x : Int) : List UInt8 := u8 (if x < 0 then (D x.natAbs).length + 128 else (D x.natAbs).length) :: (List.range (D x.natAbs).length).flatMap (q4u (D x.natAbs))
theorem q4i_rng (d : List Int) (k : Nat) : ∀ z ∈ q4i d k, 0 ≤ z ∧ z < 256 := by
  intro z hz
  simp only [q4i, wrap8, List.mem_cons, List.not_mem_nil, or_false] at hz
  omega
theorem by_map (h : Int) (h1 : 0 ≤ h ∧ h < 256) (d : List Int) (n : Nat) : (h :: (List.range n).flatMap (q4i d)).map eB = (u8 h :: (List.range n).flatMap (q4u d)).map eU := by
  rw [u8s _ (fun z hz => by
    rcases List.mem_cons.1 hz with rfl | hz
    · exact h1
    · obtain ⟨k, _, hk⟩ := List.mem_flatMap.1 hz
      exact q4i_rng d k z hk), List.map_cons, List.map_flatMap]
  rfl
theorem Bytes_l (x : Int) (lx : lenZ x ≤ 40) : PC Tryz.prog 69 [Z x] (.tup [.dat (.lst ((byL x).map eU)), I 0]) := by
  have hl : (D x.natAbs).length ≤ 40 := lx
  unfold byL
  by_cases hx : x < 0
  · have p := Bytes_neg x hx lx
    unfold bytesN hdN at p
    rw [q4i_flat, wrap8, wrap8, show (((D x.natAbs).length : Int) % 256 + 128) % 256 = (D x.natAbs).length + 128 by omega, by_map _ (by omega)] at p
    rw [if_pos hx]; exact p
  · have p := Bytes_pos x (by omega) lx
    unfold bytesP at p
    rw [q4i_flat, wrap8, show ((D x.natAbs).length : Int) % 256 = (D x.natAbs).length by omega, by_map _ (by omega)] at p
    rw [if_neg hx]; exact p
theorem q4u_len (d : List Int) (n : Nat) : ((List.range n).flatMap (q4u d)).length = 4 * n := by
  induction n with
  | zero => rfl
  | succ n ih => rw [List.range_succ, List.flatMap_append, List.length_append, ih]; simp [q4u, q4i]; omega
theorem byL_ok (x : Int) (lx : lenZ x ≤ 40) : ¬ fbBad (byL x) ∧ sB (byL x) = decide (x < 0) ∧ wds (byL x) (nB (byL x)) = D x.natAbs ∧ (byL x).length ≤ 1000 := by
  have hl : (D x.natAbs).length ≤ 40 := lx
  have h0 : (((byL x).getD 0 0).toNat : Int) = (if x < 0 then ((D x.natAbs).length : Int) + 128 else ((D x.natAbs).length : Int)) := u8_to (z := if x < 0 then ((D x.natAbs).length : Int) + 128 else ((D x.natAbs).length : Int)) (by split <;> omega)
  have hn : nB (byL x) = (D x.natAbs).length := by unfold nB; split at h0 <;> omega
  have hlen : (byL x).length = 1 + 4 * (D x.natAbs).length := by
    unfold byL
    rw [List.length_cons]
    have := q4u_len (D x.natAbs) (D x.natAbs).length
    omega
  refine ⟨fun h => h (by rw [hn]; exact hlen), ?_, ?_, by omega⟩
  · unfold sB
    rw [decide_eq_decide]
    split at h0 <;> omega
  · rw [hn]
    have hd := dig_D x.natAbs
    have hget : ∀ k i, k < (D x.natAbs).length → i < 4 → bX (byL x) (1 + 4 * k + i) = (q4i (D x.natAbs) k).getD i 0 := fun k i hk hi => by
      unfold bX byL
      rw [show 1 + 4 * k + i = (4 * k + i) + 1 by omega, List.getD_cons_succ, flat4 _ (fun k => by simp [q4u, q4i]) _ _ k i hk hi]
      have h1 : (q4u (D x.natAbs) k).getD i 0 = u8 ((q4i (D x.natAbs) k).getD i 0) := by
        match i, hi with
        | 0, _ => rfl
        | 1, _ => rfl
        | 2, _ => rfl
        | 3, _ => rfl
      rw [h1]
      refine u8_to (q4i_rng (D x.natAbs) k _ ?_)
      have : i < (q4i (D x.natAbs) k).length := hi
      rw [List.getD_eq_getElem?_getD, List.getElem?_eq_getElem this]
      exact List.getElem_mem this
    refine list_ext_getD (wds_len _ _) fun j hj => ?_
    rw [wds_len] at hj
    rw [wds_getD _ _ _ hj, hlen, show 1 + 4 * (D x.natAbs).length - 4 - 4 * j = 1 + 4 * ((D x.natAbs).length - 1 - j) + 0 by omega]
    have hv := dig_getD hd j
    unfold w4
    rw [hget _ 0 (by omega) (by omega), Nat.add_zero, hget _ 1 (by omega) (by omega), hget _ 2 (by omega) (by omega), hget _ 3 (by omega) (by omega)]
    have e : (D x.natAbs).length - 1 - ((D x.natAbs).length - 1 - j) = j := by omega
    simp only [q4i, e, wrap8, List.getD_cons_zero, List.getD_cons_succ]
    generalize (D x.natAbs).getD j 0 = v at *
    have e1 : v.fdiv (2 ^ min 24 64) = v / 16777216 := Int.fdiv_eq_ediv_of_nonneg _ (by decide)
    have e2 : v.fdiv (2 ^ min 16 64) = v / 65536 := Int.fdiv_eq_ediv_of_nonneg _ (by decide)
    have e3 : v.fdiv (2 ^ min 8 64) = v / 256 := Int.fdiv_eq_ediv_of_nonneg _ (by decide)
    rw [e1, e2, e3]
    omega
theorem FromBytes_back (x : Int) (lx : lenZ x ≤ 40) : PC Tryz.prog 72 [.dat (.lst ((byL x).map eU))] (.tup [Z x, I 0]) := by
  obtain ⟨a, b, c, d⟩ := byL_ok x lx
  have p := FromBytes_pc (byL x) (by omega)
  unfold fbV at p
  rw [if_neg a, b, c, if_pos (okZ lx)] at p
  exact p
theorem FromBytes_cases (l : List UInt8) (hl : l.length ≤ 1000000) : (∃ e : Int, e ≠ 0 ∧ PC Tryz.prog 72 [.dat (.lst (l.map eU))] (.tup [Zr false [], I e])) ∨
    ∃ x : Int, lenZ x ≤ 40 ∧ PC Tryz.prog 72 [.dat (.lst (l.map eU))] (.tup [Z x, I 0]) ∧ PC Tryz.prog 69 [Z x] (.tup [.dat (.lst (l.map eU)), I 0]) := by
  have p := FromBytes_pc l hl
  unfold fbV at p
  by_cases h1 : fbBad l
  · rw [if_pos h1] at p; exact .inl ⟨12, by decide, p⟩
  · rw [if_neg h1] at p
    by_cases h2 : okI (sB l) (wds l (nB l))
    · rw [if_pos h2] at p
      obtain ⟨e1, l1, e2⟩ := okI_Z h2
      have q := Bytes_l _ l1
      obtain ⟨a, b, c, d⟩ := byL_ok _ l1
      have hz : Zr (sB l) (wds l (nB l)) = Zr (decide (sg (sB l) (val (wds l (nB l))).toNat < 0)) (D (sg (sB l) (val (wds l (nB l))).toNat).natAbs) := e1
      have hs : sB l = decide (sg (sB l) (val (wds l (nB l))).toNat < 0) := by
        have := congrArg (fun z => match z with | AV.agg (.dat (.bool b) :: _) => b | _ => false) hz
        exact this
      have hd : wds l (nB l) = D (sg (sB l) (val (wds l (nB l))).toNat).natAbs := by rw [sg_natAbs]; exact e2
      have hll : byL (sg (sB l) (val (wds l (nB l))).toNat) = l := fb_inj a h1 (by rw [b, ← hs]) (by rw [c, ← hd])
      rw [hll] at q
      rw [e1] at p
      exact .inr ⟨_, l1, p, q⟩
    · rw [if_neg h2] at p; exact .inl ⟨12, by decide, p⟩
end Go.Proofs.YthhjcfejgoddlaaGreatDoor
end

section
set_option linter.unusedSimpArgs false
set_option linter.unusedVariables false
set_option maxRecDepth 100000
namespace Go.Proofs.YthhjcfejgoddlaaGreatDoor
open Go Go.Abs
attribute [local go_sem] wrap64 Int.tdiv_eq_ediv_of_nonneg Int.tmod_eq_emod_of_nonneg eq_self Bool.false_eq_true Bool.true_eq_false Bool.not_true Bool.not_false
attribute [local go_sem_proc] Nat.reduceAdd Nat.reduceMul Nat.reduceEqDiff Nat.reduceLT Nat.reduceLeDiff Int.reduceEq Int.reduceNeg Int.reduceToNat reduceCtorEq Int.reduceBNe Int.reduceBEq

theorem right15 (na : Bool) (a : List Int) (h : okI na a) : PC Tryz.prog 17 [.dat (.lst [[.bool na, .lst (a.map eI)]])] (B true) := by
  have hr := right_pc [(na, a)] (by simp)
  rwa [show (List.all [(na, a)] fun z => decide (okI z.1 z.2)) = true by
    simp only [List.all_cons, List.all_nil, Bool.and_true]; exact decide_eq_true h] at hr
theorem right15b (na : Bool) (a : List Int) (h : ¬ okI na a) : PC Tryz.prog 17 [.dat (.lst [[.bool na, .lst (a.map eI)]])] (B false) := by
  have hr := right_pc [(na, a)] (by simp)
  rwa [show (List.all [(na, a)] fun z => decide (okI z.1 z.2)) = false by
    simp only [List.all_cons, List.all_nil, Bool.and_true]; exact decide_eq_false h] at hr
theorem eq15 (l : List UInt8) (h : l.length ≤ 1000000) : PC Tryz.prog 71 [.dat (.lst (l.map eU)), .dat (.lst (l.map eU))] (B true) := by
  have p := equalB_pc (l.map fun x => (x.toNat : Int)) (l.map fun x => (x.toNat : Int)) (by simpa using h) (by simpa using h)
  rw [decide_eq_true rfl] at p
  have e : LB (l.map fun x => (x.toNat : Int)) = .dat (.lst (l.map eU)) := by
    unfold LB
    rw [List.map_map]
    rfl
  rwa [e] at p
theorem Read15 (s : List UInt8) (h : s.length ≤ 1000000) : ∃ x e : Int, PC Tryz.prog 67 [.dat (.str (bs s))] (.tup [.agg (zC x), I e]) ∧ (e = 0 → PC Tryz.prog 65 [.agg (zC x)] (.tup [.dat (.str (bs s)), I 0])) := by
  rcases Read_cases s h with ⟨e, he, p⟩ | ⟨x, _, p, q⟩
  · exact ⟨0, e, by rw [← Z_zero] at p; exact p, fun h => absurd h he⟩
  · exact ⟨x, 0, p, fun _ => q⟩
theorem FromBytes15 (l : List UInt8) (h : l.length ≤ 1000000) : ∃ x e : Int, PC Tryz.prog 72 [.dat (.lst (l.map eU))] (.tup [.agg (zC x), I e]) ∧ (e = 0 → PC Tryz.prog 69 [.agg (zC x)] (.tup [.dat (.lst (l.map eU)), I 0])) := by
  rcases FromBytes_cases l h with ⟨e, he, p⟩ | ⟨x, _, p, q⟩
  · exact ⟨0, e, by rw [← Z_zero] at p; exact p, fun h => absurd h he⟩
  · exact ⟨x, 0, p, fun _ => q⟩
set_option maxHeartbeats 8000000 in
theorem NumBack_x (x : Int) (lx : lenZ x ≤ 40) (s l : List UInt8) (h1 : s.length ≤ 2000) (h2 : l.length ≤ 2000) : PC Tryz.prog 15 [.agg (zC x), .dat (.str (bs s)), .dat (.lst (l.map eU))] (B true) := by
  have hs := sane_ok
  have hsz := bs_size s
  have c2 : decide ((2000 : Int) < (s.length : Int)) = false := decide_eq_false (by omega)
  have c3 : decide ((2000 : Int) < (l.length : Int)) = false := decide_eq_false (by omega)
  have hr : PC Tryz.prog 17 [.dat (.lst [zD x])] (B true) := right15 _ _ (okZ lx)
  have p1 : PC Tryz.prog 65 [.agg (zC x)] (.tup [.dat (.str (bs (wr (decide (x < 0)) (D x.natAbs)))), I 0]) := Text_ok x lx
  have p2 : PC Tryz.prog 67 [.dat (.str (bs (wr (decide (x < 0)) (D x.natAbs))))] (.tup [.agg (zC x), I 0]) := Read_back x lx
  have p3 : PC Tryz.prog 69 [.agg (zC x)] (.tup [.dat (.lst ((byL x).map eU)), I 0]) := Bytes_l x lx
  have p4 : PC Tryz.prog 72 [.dat (.lst ((byL x).map eU))] (.tup [.agg (zC x), I 0]) := FromBytes_back x lx
  have g := gotA x 0
  have v := valA x
  have sm := sameA (x, 0) (x, 0) lx lx rfl
  obtain ⟨y, e, q1, q2⟩ := Read15 s (by omega)
  obtain ⟨y', e', q3, q4⟩ := FromBytes15 l (by omega)
  have s6 := eq15 l (by omega)
  generalize wr (decide (x < 0)) (D x.natAbs) = t at *
  generalize (byL x).map eU = k at *
  generalize hms : l.map eU = ml at *
  have hml : ml.length = l.length := by rw [← hms, List.length_map]
  clear hms
  refine PCr.pc (PCr.of tab_ok Tryz.func15 rfl rfl rfl fun c hc hm => ?_)
  rw [show Tryz.f15.ntmps = _ from Tryz.ntmps15] at hc
  simp only [Tryz.f15]
  repeat' first | (exact absurd hlt (by decide)) | (refine AWp.seq fun K hK => ?_) | (first | refine AWp.draw2 (id := 8) [.take 0, .take 1, .take 2, .take 3, .take 4, .take 5, .take 6, .take 7, .take 8, .take 9, .take 10, .take 11, .take 12, .take 13, .take 14, .take 15, .take 16, .take 17, .take 18, .take 19, .take 20, .take 21, .take 22, .take 23, .take 24, .take 25, .take 26, .take 27] mixed_ok (by kernel_rfl) (by rw [hc]; rfl) ?_) | ((first | refine planK_step fun K hK => ?_ | refine planK_one fun K hK => ?_); simp -implicitDefEqProofs (maxSteps := 1000000) (disch := omega) only [go_sem, ↓reduceIte, zC_len, pC_len, zD_len, zC_map, pC_map, zC_toCs, pC_toCs, zC_dCs, pC_dCs, zC_dats0, zC_take, pC_take, pC_take2, pC_get2, zC_get0, zC_get1, zC_drop, pC_drop, pC_drop3, zC_drop2, List.nil_append, List.append_nil, bne_self_eq_false, beq_self_eq_true, hsz, hml, c2, c3]) | (refine planK_end ?_; try (simp -implicitDefEqProofs (maxSteps := 1000000) (disch := omega) only [go_sem, ↓reduceIte, zC_len, pC_len, zD_len, zC_map, pC_map, zC_toCs, pC_toCs, zC_dCs, pC_dCs, zC_dats0, zC_take, pC_take, pC_take2, pC_get2, zC_get0, zC_get1, zC_drop, pC_drop, pC_drop3, zC_drop2, List.nil_append, List.append_nil, bne_self_eq_false, beq_self_eq_true, hsz, hml, c2, c3])) | ((first | refine AWp.region (by rw [hc]; rfl) ?_ | refine AWp.skip ?_ | refine AWp.exit ?_ | refine AWp.label ?_ | refine AWp.ret ?_ | refine appK_g ?_); simp -implicitDefEqProofs (maxSteps := 1000000) (disch := omega) only [go_sem, ↓reduceIte, zC_len, pC_len, zD_len, zC_map, pC_map, zC_toCs, pC_toCs, zC_dCs, pC_dCs, zC_dats0, zC_take, pC_take, pC_take2, pC_get2, zC_get0, zC_get1, zC_drop, pC_drop, pC_drop3, zC_drop2, List.nil_append, List.append_nil, bne_self_eq_false, beq_self_eq_true, hsz, hml, c2, c3]) | ((first | refine hK _ ?_ | (clear hK; first | refine hK _ ?_ | (clear hK; first | refine hK _ ?_ | (clear hK; refine hK _ ?_)))); clear hK) | (refine AWp.cond ?_; simp -implicitDefEqProofs (maxSteps := 1000000) (disch := omega) only [go_sem, ↓reduceIte, zC_len, pC_len, zD_len, zC_map, pC_map, zC_toCs, pC_toCs, zC_dCs, pC_dCs, zC_dats0, zC_take, pC_take, pC_take2, pC_get2, zC_get0, zC_get1, zC_drop, pC_drop, pC_drop3, zC_drop2, List.nil_append, List.append_nil, bne_self_eq_false, beq_self_eq_true, hsz, hml, c2, c3]; try (refine ⟨fun hlt => ?_, fun hlt => ?_⟩ <;> (try simp only [cla, clb, ne_eq, reduceCtorEq] at hlt) <;> (try exact hlt.elim))) | (refine AWp.block ?_) | ((first | refine gdO_split (fun hlt => ?_) (fun hlt => ?_) | refine tkO_split (fun hlt => ?_) (fun hlt => ?_) | refine opO_split (fun hlt => ?_) (fun hlt => ?_)) <;> have hgd := hlt <;> (try simp only [cla, clb, ne_eq, cld] at hlt) <;> (simp -implicitDefEqProofs (maxSteps := 1000000) (disch := omega) only [go_sem, ↓reduceIte, zC_len, pC_len, zD_len, zC_map, pC_map, zC_toCs, pC_toCs, zC_dCs, pC_dCs, zC_dats0, zC_take, pC_take, pC_take2, pC_get2, zC_get0, zC_get1, zC_drop, pC_drop, pC_drop3, zC_drop2, List.nil_append, List.append_nil, bne_self_eq_false, beq_self_eq_true, hsz, hml, c2, c3, hgd]) <;> clear hgd) | (with_reducible refine And.intro ?_ ?_; · first | omega | assumption | exact ⟨_, _, rfl, rfl⟩) | ((first | refine ⟨_, hs, ?_⟩ | refine ⟨_, hr, ?_⟩ | refine ⟨_, p1, ?_⟩ | refine ⟨_, p2, ?_⟩ | refine ⟨_, p3, ?_⟩ | refine ⟨_, p4, ?_⟩ | refine ⟨_, g, ?_⟩ | refine ⟨_, v, ?_⟩ | refine ⟨_, sm, ?_⟩ | refine ⟨_, q1, ?_⟩ | refine ⟨_, q3, ?_⟩ | refine ⟨_, s6, ?_⟩ | refine ⟨_, q2 (by assumption), ?_⟩ | refine ⟨_, q4 (by assumption), ?_⟩); try (simp -implicitDefEqProofs (maxSteps := 1000000) (disch := omega) only [go_sem, ↓reduceIte, zC_len, pC_len, zD_len, zC_map, pC_map, zC_toCs, pC_toCs, zC_dCs, pC_dCs, zC_dats0, zC_take, pC_take, pC_take2, pC_get2, zC_get0, zC_get1, zC_drop, pC_drop, pC_drop3, zC_drop2, List.nil_append, List.append_nil, bne_self_eq_false, beq_self_eq_true, hsz, hml, c2, c3])) | fail
set_option maxHeartbeats 8000000 in
theorem NumBack_b (na : Bool) (a : List Int) (ha : ¬ okI na a) (s l : List UInt8) (h1 : s.length ≤ 2000) (h2 : l.length ≤ 2000) : PC Tryz.prog 15 [Zr na a, .dat (.str (bs s)), .dat (.lst (l.map eU))] (B true) := by
  have hs := sane_ok
  have hsz := bs_size s
  have c2 : decide ((2000 : Int) < (s.length : Int)) = false := decide_eq_false (by omega)
  have c3 : decide ((2000 : Int) < (l.length : Int)) = false := decide_eq_false (by omega)
  have hr := right15b na a ha
  obtain ⟨y, e, q1, q2⟩ := Read15 s (by omega)
  obtain ⟨y', e', q3, q4⟩ := FromBytes15 l (by omega)
  have s6 := eq15 l (by omega)
  generalize hms : l.map eU = ml at *
  have hml : ml.length = l.length := by rw [← hms, List.length_map]
  clear hms
  refine PCr.pc (PCr.of tab_ok Tryz.func15 rfl rfl rfl fun c hc hm => ?_)
  rw [show Tryz.f15.ntmps = _ from Tryz.ntmps15] at hc
  simp only [Tryz.f15]
  repeat' first | (exact absurd hlt (by decide)) | (refine AWp.seq fun K hK => ?_) | (first | refine AWp.draw2 (id := 8) [.take 0, .take 1, .take 2, .take 3, .take 4, .take 5, .take 6, .take 7, .take 8, .take 9, .take 10, .take 11, .take 12, .take 13, .take 14, .take 15, .take 16, .take 17, .take 18, .take 19, .take 20, .take 21, .take 22, .take 23, .take 24, .take 25, .take 26, .take 27] mixed_ok (by kernel_rfl) (by rw [hc]; rfl) ?_) | ((first | refine planK_step fun K hK => ?_ | refine planK_one fun K hK => ?_); simp -implicitDefEqProofs (maxSteps := 1000000) (disch := omega) only [go_sem, ↓reduceIte, zC_len, pC_len, zD_len, zC_map, pC_map, zC_toCs, pC_toCs, zC_dCs, pC_dCs, zC_dats0, zC_take, pC_take, pC_take2, pC_get2, zC_get0, zC_get1, zC_drop, pC_drop, pC_drop3, zC_drop2, List.nil_append, List.append_nil, bne_self_eq_false, beq_self_eq_true, hsz, hml, c2, c3]) | (refine planK_end ?_; try (simp -implicitDefEqProofs (maxSteps := 1000000) (disch := omega) only [go_sem, ↓reduceIte, zC_len, pC_len, zD_len, zC_map, pC_map, zC_toCs, pC_toCs, zC_dCs, pC_dCs, zC_dats0, zC_take, pC_take, pC_take2, pC_get2, zC_get0, zC_get1, zC_drop, pC_drop, pC_drop3, zC_drop2, List.nil_append, List.append_nil, bne_self_eq_false, beq_self_eq_true, hsz, hml, c2, c3])) | ((first | refine AWp.region (by rw [hc]; rfl) ?_ | refine AWp.skip ?_ | refine AWp.exit ?_ | refine AWp.label ?_ | refine AWp.ret ?_ | refine appK_g ?_); simp -implicitDefEqProofs (maxSteps := 1000000) (disch := omega) only [go_sem, ↓reduceIte, zC_len, pC_len, zD_len, zC_map, pC_map, zC_toCs, pC_toCs, zC_dCs, pC_dCs, zC_dats0, zC_take, pC_take, pC_take2, pC_get2, zC_get0, zC_get1, zC_drop, pC_drop, pC_drop3, zC_drop2, List.nil_append, List.append_nil, bne_self_eq_false, beq_self_eq_true, hsz, hml, c2, c3]) | ((first | refine hK _ ?_ | (clear hK; first | refine hK _ ?_ | (clear hK; first | refine hK _ ?_ | (clear hK; refine hK _ ?_)))); clear hK) | (refine AWp.cond ?_; simp -implicitDefEqProofs (maxSteps := 1000000) (disch := omega) only [go_sem, ↓reduceIte, zC_len, pC_len, zD_len, zC_map, pC_map, zC_toCs, pC_toCs, zC_dCs, pC_dCs, zC_dats0, zC_take, pC_take, pC_take2, pC_get2, zC_get0, zC_get1, zC_drop, pC_drop, pC_drop3, zC_drop2, List.nil_append, List.append_nil, bne_self_eq_false, beq_self_eq_true, hsz, hml, c2, c3]; try (refine ⟨fun hlt => ?_, fun hlt => ?_⟩ <;> (try simp only [cla, clb, ne_eq, reduceCtorEq] at hlt) <;> (try exact hlt.elim))) | (refine AWp.block ?_) | ((first | refine gdO_split (fun hlt => ?_) (fun hlt => ?_) | refine tkO_split (fun hlt => ?_) (fun hlt => ?_) | refine opO_split (fun hlt => ?_) (fun hlt => ?_)) <;> have hgd := hlt <;> (try simp only [cla, clb, ne_eq, cld] at hlt) <;> (simp -implicitDefEqProofs (maxSteps := 1000000) (disch := omega) only [go_sem, ↓reduceIte, zC_len, pC_len, zD_len, zC_map, pC_map, zC_toCs, pC_toCs, zC_dCs, pC_dCs, zC_dats0, zC_take, pC_take, pC_take2, pC_get2, zC_get0, zC_get1, zC_drop, pC_drop, pC_drop3, zC_drop2, List.nil_append, List.append_nil, bne_self_eq_false, beq_self_eq_true, hsz, hml, c2, c3, hgd]) <;> clear hgd) | (with_reducible refine And.intro ?_ ?_; · first | omega | assumption | exact ⟨_, _, rfl, rfl⟩) | ((first | refine ⟨_, hs, ?_⟩ | refine ⟨_, hr, ?_⟩ | refine ⟨_, q1, ?_⟩ | refine ⟨_, q3, ?_⟩ | refine ⟨_, s6, ?_⟩ | refine ⟨_, q2 (by assumption), ?_⟩ | refine ⟨_, q4 (by assumption), ?_⟩); try (simp -implicitDefEqProofs (maxSteps := 1000000) (disch := omega) only [go_sem, ↓reduceIte, zC_len, pC_len, zD_len, zC_map, pC_map, zC_toCs, pC_toCs, zC_dCs, pC_dCs, zC_dats0, zC_take, pC_take, pC_take2, pC_get2, zC_get0, zC_get1, zC_drop, pC_drop, pC_drop3, zC_drop2, List.nil_append, List.append_nil, bne_self_eq_false, beq_self_eq_true, hsz, hml, c2, c3])) | fail
theorem NumBack_ok (na : Bool) (a : List Int) (s l : List UInt8) : PC Tryz.prog 15 [Zr na a, .dat (.str (bs s)), .dat (.lst (l.map eU))] (B true) := by
  have hs := sane_ok
  have hsz := bs_size s
  by_cases hsl : s.length ≤ 2000
  · have c2 : decide ((2000 : Int) < (s.length : Int)) = false := decide_eq_false (by omega)
    by_cases hll : l.length ≤ 2000
    · by_cases h : okI na a
      · obtain ⟨x, e1, l1⟩ := okI_ex h
        rw [e1]
        exact NumBack_x x l1 s l hsl hll
      · exact NumBack_b na a h s l hsl hll
    · have c3 : decide ((2000 : Int) < (l.length : Int)) = true := decide_eq_true (by omega)
      refine PCr.pc (PCr.of tab_ok Tryz.func15 rfl rfl rfl fun c hc hm => ?_)
      rw [show Tryz.f15.ntmps = _ from Tryz.ntmps15] at hc
      simp only [Tryz.f15]
      repeat' first | (exact absurd hlt (by decide)) | (refine AWp.seq fun K hK => ?_) | ((first | refine AWp.draw (id := 8) [.take 0, .take 1, .take 2, .take 3, .take 4, .take 5, .take 6, .take 7, .take 8, .take 9, .take 10, .take 11, .take 12, .take 13, .take 14, .take 15, .take 16, .take 17, .take 18, .take 19, .take 20, .take 21, .take 22, .take 23, .take 24, .take 25, .take 26, .take 27] mixed_ok (by kernel_rfl) (by rw [hc]; rfl) ?_ | refine AWp.region (by rw [hc]; rfl) ?_ | refine AWp.skip ?_ | refine AWp.exit ?_ | refine AWp.label ?_ | refine AWp.ret ?_ | refine appK_g ?_); simp -implicitDefEqProofs (maxSteps := 1000000) (disch := omega) only [go_sem, ↓reduceIte, hsz, List.length_map, c2, c3]) | ((first | refine hK _ ?_ | (clear hK; first | refine hK _ ?_ | (clear hK; first | refine hK _ ?_ | (clear hK; refine hK _ ?_)))); clear hK) | (refine AWp.cond ?_; simp -implicitDefEqProofs (maxSteps := 1000000) (disch := omega) only [go_sem, ↓reduceIte, hsz, List.length_map, c2, c3]; try (refine ⟨fun hlt => ?_, fun hlt => ?_⟩ <;> (try simp only [cla, clb, ne_eq, reduceCtorEq] at hlt) <;> (try exact hlt.elim))) | (refine AWp.block ?_) | ((first | refine gdO_split (fun hlt => ?_) (fun hlt => ?_) | refine tkO_split (fun hlt => ?_) (fun hlt => ?_) | refine opO_split (fun hlt => ?_) (fun hlt => ?_)) <;> have hgd := hlt <;> (try simp only [cla, clb, ne_eq, cld] at hlt) <;> (simp -implicitDefEqProofs (maxSteps := 1000000) (disch := omega) only [go_sem, ↓reduceIte, hsz, List.length_map, c2, c3, hgd]) <;> clear hgd) | (with_reducible refine And.intro ?_ ?_; · first | omega | assumption | exact ⟨_, _, rfl, rfl⟩) | ((first | refine ⟨_, hs, ?_⟩); simp -implicitDefEqProofs (maxSteps := 1000000) (disch := omega) only [go_sem, ↓reduceIte, hsz, List.length_map, c2, c3]) | fail
  · have c2 : decide ((2000 : Int) < (s.length : Int)) = true := decide_eq_true (by omega)
    refine PCr.pc (PCr.of tab_ok Tryz.func15 rfl rfl rfl fun c hc hm => ?_)
    rw [show Tryz.f15.ntmps = _ from Tryz.ntmps15] at hc
    simp only [Tryz.f15]
    repeat' first | (exact absurd hlt (by decide)) | (refine AWp.seq fun K hK => ?_) | ((first | refine AWp.draw (id := 8) [.take 0, .take 1, .take 2, .take 3, .take 4, .take 5, .take 6, .take 7, .take 8, .take 9, .take 10, .take 11, .take 12, .take 13, .take 14, .take 15, .take 16, .take 17, .take 18, .take 19, .take 20, .take 21, .take 22, .take 23, .take 24, .take 25, .take 26, .take 27] mixed_ok (by kernel_rfl) (by rw [hc]; rfl) ?_ | refine AWp.region (by rw [hc]; rfl) ?_ | refine AWp.skip ?_ | refine AWp.exit ?_ | refine AWp.label ?_ | refine AWp.ret ?_ | refine appK_g ?_); simp -implicitDefEqProofs (maxSteps := 1000000) (disch := omega) only [go_sem, ↓reduceIte, hsz, c2]) | ((first | refine hK _ ?_ | (clear hK; first | refine hK _ ?_ | (clear hK; first | refine hK _ ?_ | (clear hK; refine hK _ ?_)))); clear hK) | (refine AWp.cond ?_; simp -implicitDefEqProofs (maxSteps := 1000000) (disch := omega) only [go_sem, ↓reduceIte, hsz, c2]; try (refine ⟨fun hlt => ?_, fun hlt => ?_⟩ <;> (try simp only [cla, clb, ne_eq, reduceCtorEq] at hlt) <;> (try exact hlt.elim))) | (refine AWp.block ?_) | ((first | refine gdO_split (fun hlt => ?_) (fun hlt => ?_) | refine tkO_split (fun hlt => ?_) (fun hlt => ?_) | refine opO_split (fun hlt => ?_) (fun hlt => ?_)) <;> have hgd := hlt <;> (try simp only [cla, clb, ne_eq, cld] at hlt) <;> (simp -implicitDefEqProofs (maxSteps := 1000000) (disch := omega) only [go_sem, ↓reduceIte, hsz, c2, hgd]) <;> clear hgd) | (with_reducible refine And.intro ?_ ?_; · first | omega | assumption | exact ⟨_, _, rfl, rfl⟩) | ((first | refine ⟨_, hs, ?_⟩); simp -implicitDefEqProofs (maxSteps := 1000000) (disch := omega) only [go_sem, ↓reduceIte, hsz, c2]) | fail
end Go.Proofs.YthhjcfejgoddlaaGreatDoor
end
