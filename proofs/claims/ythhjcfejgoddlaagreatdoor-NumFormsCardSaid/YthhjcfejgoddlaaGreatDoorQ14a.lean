/- The contract of the law's function. -/
import Derived.Test.YthhjcfejgoddlaaGreatDoorKd
import Derived.Test.YthhjcfejgoddlaaGreatDoorSb
import Derived.Test.YthhjcfejgoddlaaGreatDoorSc
import Derived.Laws.BytesString
import Derived.Lib.DecodeN
import Derived.Test.YthhjcfejgoddlaaGreatDoorSa
import Derived.OwnWalkIn
import Derived.TacticsInMore
import Derived.LoopNIn
import Derived.LoopIn
import Derived.BigRegionIn
section
set_option linter.unusedSimpArgs false
set_option linter.unusedVariables false
set_option maxRecDepth 100000
namespace Go.Proofs.YthhjcfejgoddlaaGreatDoor
open Go Go.Abs
attribute [local go_sem] wrap64 Int.tdiv_eq_ediv_of_nonneg Int.tmod_eq_emod_of_nonneg eq_self Bool.false_eq_true Bool.true_eq_false Bool.not_true Bool.not_false
attribute [local go_sem_proc] Nat.reduceAdd Nat.reduceMul Nat.reduceEqDiff Nat.reduceLT Nat.reduceLeDiff Int.reduceEq Int.reduceNeg Int.reduceToNat reduceCtorEq Int.reduceBNe Int.reduceBEq

def GP (p : Int × Int) : AV := GZ p.1 p.2
def okP (p : Int × Int) : Prop := lenZ p.1 ≤ 40
theorem lenZ_0 : lenZ 0 ≤ 40 := by unfold lenZ; rw [Int.natAbs_zero, D_zero]; exact Nat.zero_le _
theorem gotP (p : Int × Int) : PC Tryz.prog 24 [Z p.1, I p.2] (GP p) := got_pc _ _ _
theorem same_P (p q : Int × Int) (hp : okP p) (hq : okP q) : PC Tryz.prog 26 [GP p, GP q] (B (decide (p = q))) := by
  have h := same_Z p.1 q.1 p.2 q.2 (Nat.le_trans hp (by decide)) (Nat.le_trans hq (by decide))
  rwa [show decide (p.2 = q.2 ∧ p.1 = q.1) = decide (p = q) by rw [decide_eq_decide, Prod.ext_iff]; exact And.comm] at h
end Go.Proofs.YthhjcfejgoddlaaGreatDoor
end

section
set_option linter.unusedSimpArgs false
set_option linter.unusedVariables false
set_option maxRecDepth 100000
namespace Go.Proofs.YthhjcfejgoddlaaGreatDoor
open Go Go.Abs
attribute [local go_sem] wrap64 Int.tdiv_eq_ediv_of_nonneg Int.tmod_eq_emod_of_nonneg eq_self Bool.false_eq_true Bool.true_eq_false Bool.not_true Bool.not_false
attribute [local go_sem_proc] Nat.reduceAdd Nat.reduceMul Nat.reduceEqDiff Nat.reduceLT Nat.reduceLeDiff Int.reduceEq Int.reduceNeg Int.reduceToNat reduceCtorEq Int.reduceBNe Int.reduceBEq

theorem okI_def (neg : Bool) (d : List Int) : okI neg d ↔ d.length ≤ 40 ∧ (d.length = 0 → neg = false) ∧ (0 < d.length → d.getD (d.length - 1) 0 ≠ 0) ∧ ∀ j, j < d.length → 0 ≤ d.getD j 0 ∧ d.getD j 0 < 1000000000 := by
  rw [okI_iff]
  have e : ((d.any fun x => decide (x < 0 ∨ 1000000000 ≤ x)) = false) ↔ ∀ j, j < d.length → 0 ≤ d.getD j 0 ∧ d.getD j 0 < 1000000000 := by
    rw [List.any_eq_false]
    constructor
    · intro h j hj
      have h1 := h (d.getD j 0) (by simp [hj])
      simp only [decide_eq_true_eq] at h1; omega
    · intro h x hx
      obtain ⟨j, hj, rfl⟩ := List.getElem_of_mem hx
      have h1 := h j hj
      simp only [List.getD, List.getElem?_eq_getElem hj, Option.getD_some] at h1
      simp only [decide_eq_true_eq]; omega
  rw [e]
def F77 (neg : Bool) (d : List Int) (i : Nat) : St := ⟨[(1, .ptr 0 0), (3, I d.length), (4, I i)], [(0, .box [B neg, L d] false)], 1, 0⟩
theorem Is_f (d : List Int) : PC Tryz.prog 77 [Zr false d] (B (decide (okI false d))) := by
  refine PCr.pc (PCr.of tab_ok Tryz.func77 rfl rfl rfl fun c hc hm => ?_)
  rw [show Tryz.f77.ntmps = _ from Tryz.ntmps77] at hc
  simp only [Tryz.f77]
  repeat' first | (refine AWp.seq fun K hK => ?_) | ((first | refine AWp.region (by rw [hc]; rfl) ?_ | refine AWp.skip ?_ | refine AWp.exit ?_ | refine AWp.label ?_ | refine AWp.ret ?_ | refine appK_g ?_); simp -implicitDefEqProofs (maxSteps := 1000000) (disch := omega) only [go_sem, ↓reduceIte]) | ((first | refine hK _ ?_ | (clear hK; first | refine hK _ ?_ | (clear hK; first | refine hK _ ?_ | (clear hK; refine hK _ ?_)))); clear hK) | (refine AWp.cond ?_; simp -implicitDefEqProofs (maxSteps := 1000000) (disch := omega) only [go_sem, ↓reduceIte]; try (refine ⟨fun hlt => ?_, fun hlt => ?_⟩ <;> (try simp only [cla, clb, ne_eq, reduceCtorEq] at hlt) <;> (try exact hlt.elim))) | (refine AWp.block ?_) | ((first | refine gdO_split (fun hlt => ?_) (fun hlt => ?_) | refine tkO_split (fun hlt => ?_) (fun hlt => ?_) | refine opO_split (fun hlt => ?_) (fun hlt => ?_)) <;> have hgd := hlt <;> (try simp only [cla, clb, ne_eq, cld] at hlt) <;> (simp -implicitDefEqProofs (maxSteps := 1000000) (disch := omega) only [go_sem, ↓reduceIte, hgd]) <;> clear hgd) | (with_reducible refine And.intro ?_ ?_; · first | omega | assumption | exact ⟨_, _, rfl, rfl⟩) | fail
  all_goals try (exfalso; omega)
  all_goals try contradiction
  all_goals try (refine (decide_eq_false ?_).symm; rw [okI_def]; rintro ⟨h1, h2, h3, h4⟩; first | omega | (exact h3 (by omega) (by assumption)) | (exact absurd (h2 (by omega)) (by decide)))
  all_goals
    refine AWp.loopInv (F77 false d) (fun i => d.length - i) (fun i => i ≤ d.length ∧ ∀ j, j < i → 0 ≤ d.getD j 0 ∧ d.getD j 0 < 1000000000) 0 ⟨Nat.zero_le _, fun j h => absurd h (Nat.not_lt_zero _)⟩ (Sub.of0 hm id rfl ?_ ?_ (fun _ _ _ _ h => h)) ?_
    all_goals (try dsimp only)
    all_goals (first | omega | (simp -implicitDefEqProofs (maxSteps := 1000000) (disch := omega) only [F77, id, go_sem, Nat.blt_eq, Nat.reduceAdd, Nat.reduceSub, Nat.reduceEqDiff, Nat.reduceLT, ↓reduceIte, and_true, true_and, AV.dat.injEq, DV.int.injEq, DV.bool.injEq, DV.lst.injEq, eq_self_iff_true]; first | done | omega | (simp; done) | (simp; omega)) | (simp; done) | (simp; omega) | skip)
    rintro i ⟨h1, h2⟩ ih
    simp only [F77]
    repeat' first | (refine AWp.seq fun K hK => ?_) | ((first | refine AWp.region (by rw [hc]; rfl) ?_ | refine AWp.skip ?_ | refine AWp.exit ?_ | refine AWp.label ?_ | refine AWp.ret ?_ | refine appK_g ?_); simp -implicitDefEqProofs (maxSteps := 1000000) (disch := omega) only [go_sem, ↓reduceIte]) | ((first | refine hK _ ?_ | (clear hK; first | refine hK _ ?_ | (clear hK; first | refine hK _ ?_ | (clear hK; refine hK _ ?_)))); clear hK) | (refine AWp.cond ?_; simp -implicitDefEqProofs (maxSteps := 1000000) (disch := omega) only [go_sem, ↓reduceIte]; try (refine ⟨fun hlt => ?_, fun hlt => ?_⟩ <;> (try simp only [cla, clb, ne_eq, reduceCtorEq] at hlt) <;> (try exact hlt.elim))) | (refine AWp.block ?_) | ((first | refine gdO_split (fun hlt => ?_) (fun hlt => ?_) | refine tkO_split (fun hlt => ?_) (fun hlt => ?_) | refine opO_split (fun hlt => ?_) (fun hlt => ?_)) <;> have hgd := hlt <;> (try simp only [cla, clb, ne_eq, cld] at hlt) <;> (simp -implicitDefEqProofs (maxSteps := 1000000) (disch := omega) only [go_sem, ↓reduceIte, hgd]) <;> clear hgd) | (with_reducible refine And.intro ?_ ?_; · first | omega | assumption | exact ⟨_, _, rfl, rfl⟩) | fail
    all_goals try (exfalso; omega)
    all_goals try (refine (decide_eq_false ?_).symm; rw [okI_def]; rintro ⟨k1, k2, k3, k4⟩; have := k4 i (by omega); omega)
    all_goals try (refine (decide_eq_true ?_).symm; rw [okI_def]; exact ⟨by omega, fun _ => by first | rfl | omega, fun _ => by first | assumption | omega, fun j hj => h2 j (by omega)⟩)
    all_goals
      refine ih (i + 1) _ ⟨by omega, fun j hj => ?_⟩ (by omega) (Sub.of0 hm id rfl ?_ ?_ (fun _ _ _ _ h => h))
      · by_cases h : j = i
        · subst h; exact ⟨by assumption, by assumption⟩
        · exact h2 j (by omega)
      all_goals (try dsimp only)
      all_goals (first | omega | (simp -implicitDefEqProofs (maxSteps := 1000000) (disch := omega) only [F77, id, go_sem, Nat.blt_eq, Nat.reduceAdd, Nat.reduceSub, Nat.reduceEqDiff, Nat.reduceLT, ↓reduceIte, and_true, true_and, AV.dat.injEq, DV.int.injEq, DV.bool.injEq, DV.lst.injEq, eq_self_iff_true]; first | done | omega | (simp; done) | (simp; omega)) | (simp; done) | (simp; omega) | skip)
theorem Is_t (d : List Int) : PC Tryz.prog 77 [Zr true d] (B (decide (okI true d))) := by
  refine PCr.pc (PCr.of tab_ok Tryz.func77 rfl rfl rfl fun c hc hm => ?_)
  rw [show Tryz.f77.ntmps = _ from Tryz.ntmps77] at hc
  simp only [Tryz.f77]
  repeat' first | (refine AWp.seq fun K hK => ?_) | ((first | refine AWp.region (by rw [hc]; rfl) ?_ | refine AWp.skip ?_ | refine AWp.exit ?_ | refine AWp.label ?_ | refine AWp.ret ?_ | refine appK_g ?_); simp -implicitDefEqProofs (maxSteps := 1000000) (disch := omega) only [go_sem, ↓reduceIte]) | ((first | refine hK _ ?_ | (clear hK; first | refine hK _ ?_ | (clear hK; first | refine hK _ ?_ | (clear hK; refine hK _ ?_)))); clear hK) | (refine AWp.cond ?_; simp -implicitDefEqProofs (maxSteps := 1000000) (disch := omega) only [go_sem, ↓reduceIte]; try (refine ⟨fun hlt => ?_, fun hlt => ?_⟩ <;> (try simp only [cla, clb, ne_eq, reduceCtorEq] at hlt) <;> (try exact hlt.elim))) | (refine AWp.block ?_) | ((first | refine gdO_split (fun hlt => ?_) (fun hlt => ?_) | refine tkO_split (fun hlt => ?_) (fun hlt => ?_) | refine opO_split (fun hlt => ?_) (fun hlt => ?_)) <;> have hgd := hlt <;> (try simp only [cla, clb, ne_eq, cld] at hlt) <;> (simp -implicitDefEqProofs (maxSteps := 1000000) (disch := omega) only [go_sem, ↓reduceIte, hgd]) <;> clear hgd) | (with_reducible refine And.intro ?_ ?_; · first | omega | assumption | exact ⟨_, _, rfl, rfl⟩) | fail
  all_goals try (exfalso; omega)
  all_goals try contradiction
  all_goals try (refine (decide_eq_false ?_).symm; rw [okI_def]; rintro ⟨h1, h2, h3, h4⟩; first | omega | (exact h3 (by omega) (by assumption)) | (exact absurd (h2 (by omega)) (by decide)))
  all_goals
    refine AWp.loopInv (F77 true d) (fun i => d.length - i) (fun i => i ≤ d.length ∧ ∀ j, j < i → 0 ≤ d.getD j 0 ∧ d.getD j 0 < 1000000000) 0 ⟨Nat.zero_le _, fun j h => absurd h (Nat.not_lt_zero _)⟩ (Sub.of0 hm id rfl ?_ ?_ (fun _ _ _ _ h => h)) ?_
    all_goals (try dsimp only)
    all_goals (first | omega | (simp -implicitDefEqProofs (maxSteps := 1000000) (disch := omega) only [F77, id, go_sem, Nat.blt_eq, Nat.reduceAdd, Nat.reduceSub, Nat.reduceEqDiff, Nat.reduceLT, ↓reduceIte, and_true, true_and, AV.dat.injEq, DV.int.injEq, DV.bool.injEq, DV.lst.injEq, eq_self_iff_true]; first | done | omega | (simp; done) | (simp; omega)) | (simp; done) | (simp; omega) | skip)
    rintro i ⟨h1, h2⟩ ih
    simp only [F77]
    repeat' first | (refine AWp.seq fun K hK => ?_) | ((first | refine AWp.region (by rw [hc]; rfl) ?_ | refine AWp.skip ?_ | refine AWp.exit ?_ | refine AWp.label ?_ | refine AWp.ret ?_ | refine appK_g ?_); simp -implicitDefEqProofs (maxSteps := 1000000) (disch := omega) only [go_sem, ↓reduceIte]) | ((first | refine hK _ ?_ | (clear hK; first | refine hK _ ?_ | (clear hK; first | refine hK _ ?_ | (clear hK; refine hK _ ?_)))); clear hK) | (refine AWp.cond ?_; simp -implicitDefEqProofs (maxSteps := 1000000) (disch := omega) only [go_sem, ↓reduceIte]; try (refine ⟨fun hlt => ?_, fun hlt => ?_⟩ <;> (try simp only [cla, clb, ne_eq, reduceCtorEq] at hlt) <;> (try exact hlt.elim))) | (refine AWp.block ?_) | ((first | refine gdO_split (fun hlt => ?_) (fun hlt => ?_) | refine tkO_split (fun hlt => ?_) (fun hlt => ?_) | refine opO_split (fun hlt => ?_) (fun hlt => ?_)) <;> have hgd := hlt <;> (try simp only [cla, clb, ne_eq, cld] at hlt) <;> (simp -implicitDefEqProofs (maxSteps := 1000000) (disch := omega) only [go_sem, ↓reduceIte, hgd]) <;> clear hgd) | (with_reducible refine And.intro ?_ ?_; · first | omega | assumption | exact ⟨_, _, rfl, rfl⟩) | fail
    all_goals try (exfalso; omega)
    all_goals try (refine (decide_eq_false ?_).symm; rw [okI_def]; rintro ⟨k1, k2, k3, k4⟩; have := k4 i (by omega); omega)
    all_goals try (refine (decide_eq_true ?_).symm; rw [okI_def]; exact ⟨by omega, fun _ => by first | rfl | omega, fun _ => by first | assumption | omega, fun j hj => h2 j (by omega)⟩)
    all_goals
      refine ih (i + 1) _ ⟨by omega, fun j hj => ?_⟩ (by omega) (Sub.of0 hm id rfl ?_ ?_ (fun _ _ _ _ h => h))
      · by_cases h : j = i
        · subst h; exact ⟨by assumption, by assumption⟩
        · exact h2 j (by omega)
      all_goals (try dsimp only)
      all_goals (first | omega | (simp -implicitDefEqProofs (maxSteps := 1000000) (disch := omega) only [F77, id, go_sem, Nat.blt_eq, Nat.reduceAdd, Nat.reduceSub, Nat.reduceEqDiff, Nat.reduceLT, ↓reduceIte, and_true, true_and, AV.dat.injEq, DV.int.injEq, DV.bool.injEq, DV.lst.injEq, eq_self_iff_true]; first | done | omega | (simp; done) | (simp; omega)) | (simp; done) | (simp; omega) | skip)
theorem Is_pc (neg : Bool) (d : List Int) : PC Tryz.prog 77 [Zr neg d] (B (decide (okI neg d))) := by
  cases neg
  · exact Is_f d
  · exact Is_t d

def F122 (zs : List (Bool × List Int)) (f : FuncId) (i : Nat) : St := ⟨[(0, LZ zs), (1, .dat (.fn f [])), (7, I zs.length), (8, I i)], [], 0, 0⟩
theorem idxZ_pc (zs : List (Bool × List Int)) (f : FuncId) (p : Bool × List Int → Bool) (lz : zs.length ≤ 1000000) (hp : ∀ z, PC Tryz.prog f [Zr z.1 z.2] (B (p z))) : PC Tryz.prog 122 [LZ zs, .dat (.fn f [])] (I (idx p zs)) := by
  refine PCr.pc (PCr.of tab_ok Tryz.func122 rfl rfl rfl fun c hc hm => ?_)
  rw [show Tryz.f122.ntmps = _ from Tryz.ntmps122] at hc
  simp only [Tryz.f122]
  repeat' first | (refine AWp.seq fun K hK => ?_) | ((first | refine AWp.region (by rw [hc]; rfl) ?_ | refine AWp.skip ?_ | refine AWp.exit ?_ | refine AWp.label ?_ | refine AWp.ret ?_ | refine appK_g ?_); simp -implicitDefEqProofs (maxSteps := 1000000) (disch := omega) only [go_sem, ↓reduceIte]) | ((first | refine hK _ ?_ | (clear hK; first | refine hK _ ?_ | (clear hK; first | refine hK _ ?_ | (clear hK; refine hK _ ?_)))); clear hK) | (refine AWp.cond ?_; simp -implicitDefEqProofs (maxSteps := 1000000) (disch := omega) only [go_sem, ↓reduceIte]; try (refine ⟨fun hlt => ?_, fun hlt => ?_⟩ <;> (try simp only [cla, clb, ne_eq, reduceCtorEq] at hlt) <;> (try exact hlt.elim))) | (refine AWp.block ?_) | ((first | refine gdO_split (fun hlt => ?_) (fun hlt => ?_) | refine tkO_split (fun hlt => ?_) (fun hlt => ?_) | refine opO_split (fun hlt => ?_) (fun hlt => ?_)) <;> have hgd := hlt <;> (try simp only [cla, clb, ne_eq, cld] at hlt) <;> (simp -implicitDefEqProofs (maxSteps := 1000000) (disch := omega) only [go_sem, ↓reduceIte, hgd]) <;> clear hgd) | (with_reducible refine And.intro ?_ ?_; · first | omega | assumption | exact ⟨_, _, rfl, rfl⟩) | fail
  refine AWp.loopInv (F122 zs f) (fun i => zs.length - i) (fun i => i ≤ zs.length ∧ ∀ j, j < i → p (zs.getD j (false, [])) = false) 0 ⟨Nat.zero_le _, fun j h => absurd h (Nat.not_lt_zero _)⟩ (Sub.of0 hm id rfl ?_ ?_ (fun _ _ _ _ h => h)) ?_
  all_goals (try dsimp only)
  all_goals (first | omega | (simp -implicitDefEqProofs (maxSteps := 1000000) (disch := omega) only [F122, id, go_sem, Nat.blt_eq, Nat.reduceAdd, Nat.reduceSub, Nat.reduceEqDiff, Nat.reduceLT, ↓reduceIte, and_true, true_and, AV.dat.injEq, DV.int.injEq, DV.bool.injEq, DV.lst.injEq, eq_self_iff_true]; first | done | omega | (simp; done) | (simp; omega)) | (simp; done) | (simp; omega) | skip)
  rintro i ⟨h1, h2⟩ ih
  simp only [F122]
  generalize hz : zs.getD i (false, []) = z at *
  have hpi := hp z
  repeat' first | (refine AWp.seq fun K hK => ?_) | ((first | refine AWp.region (by rw [hc]; rfl) ?_ | refine AWp.skip ?_ | refine AWp.exit ?_ | refine AWp.label ?_ | refine AWp.ret ?_ | refine appK_g ?_); simp -implicitDefEqProofs (maxSteps := 1000000) (disch := omega) only [go_sem, ↓reduceIte, hz]) | ((first | refine hK _ ?_ | (clear hK; first | refine hK _ ?_ | (clear hK; first | refine hK _ ?_ | (clear hK; refine hK _ ?_)))); clear hK) | (refine AWp.cond ?_; simp -implicitDefEqProofs (maxSteps := 1000000) (disch := omega) only [go_sem, ↓reduceIte, hz]; try (refine ⟨fun hlt => ?_, fun hlt => ?_⟩ <;> (try simp only [cla, clb, ne_eq, reduceCtorEq] at hlt) <;> (try exact hlt.elim))) | (refine AWp.block ?_) | ((first | refine gdO_split (fun hlt => ?_) (fun hlt => ?_) | refine tkO_split (fun hlt => ?_) (fun hlt => ?_) | refine opO_split (fun hlt => ?_) (fun hlt => ?_)) <;> have hgd := hlt <;> (try simp only [cla, clb, ne_eq, cld] at hlt) <;> (simp -implicitDefEqProofs (maxSteps := 1000000) (disch := omega) only [go_sem, ↓reduceIte, hz, hgd]) <;> clear hgd) | (with_reducible refine And.intro ?_ ?_; · first | omega | assumption | exact ⟨_, _, rfl, rfl⟩) | (refine ⟨_, hpi, ?_⟩; simp -implicitDefEqProofs (maxSteps := 1000000) (disch := omega) only [go_sem, ↓reduceIte]) | fail
  · have hi : i < zs.length := by omega
    have e : ∀ j (hj : j < zs.length), zs.getD j (false, []) = zs[j] := fun j hj => by simp [hj]
    rw [idx_some p zs i hi (by rw [← e, hz]; exact hlt) (fun j hj => by rw [← e]; exact h2 j hj)]
  · refine ih (i + 1) _ ⟨by omega, fun j hj => ?_⟩ (by omega) (Sub.of0 hm id rfl ?_ ?_ (fun _ _ _ _ h => h))
    · by_cases h : j = i
      · subst h; rw [hz]; assumption
      · exact h2 j (by omega)
    all_goals (try dsimp only)
    all_goals (first | omega | (simp -implicitDefEqProofs (maxSteps := 1000000) (disch := omega) only [F122, id, go_sem, Nat.blt_eq, Nat.reduceAdd, Nat.reduceSub, Nat.reduceEqDiff, Nat.reduceLT, ↓reduceIte, and_true, true_and, AV.dat.injEq, DV.int.injEq, DV.bool.injEq, DV.lst.injEq, eq_self_iff_true]; first | done | omega | (simp; done) | (simp; omega)) | (simp; done) | (simp; omega) | skip)
  · rw [idx_none p zs (fun j hj => by have := h2 j (by omega); simpa [hj] using this)]
theorem hasZ_pc (zs : List (Bool × List Int)) (f : FuncId) (p : Bool × List Int → Bool) (lz : zs.length ≤ 1000000) (hp : ∀ z, PC Tryz.prog f [Zr z.1 z.2] (B (p z))) : PC Tryz.prog 75 [LZ zs, .dat (.fn f [])] (B (zs.any p)) := by
  have hi := idxZ_pc zs f p lz hp
  rw [← idx_ge]
  refine PCr.pc (PCr.of tab_ok Tryz.func75 rfl rfl rfl fun c hc hm => ?_)
  rw [show Tryz.f75.ntmps = _ from Tryz.ntmps75] at hc
  simp only [Tryz.f75]
  repeat' first | (refine AWp.seq fun K hK => ?_) | ((first | refine AWp.region (by rw [hc]; rfl) ?_ | refine AWp.skip ?_ | refine AWp.exit ?_ | refine AWp.label ?_ | refine AWp.ret ?_ | refine appK_g ?_); simp -implicitDefEqProofs (maxSteps := 1000000) (disch := omega) only [go_sem, ↓reduceIte]) | ((first | refine hK _ ?_ | (clear hK; first | refine hK _ ?_ | (clear hK; first | refine hK _ ?_ | (clear hK; refine hK _ ?_)))); clear hK) | (refine AWp.cond ?_; simp -implicitDefEqProofs (maxSteps := 1000000) (disch := omega) only [go_sem, ↓reduceIte]; try (refine ⟨fun hlt => ?_, fun hlt => ?_⟩ <;> (try simp only [cla, clb, ne_eq, reduceCtorEq] at hlt) <;> (try exact hlt.elim))) | (refine AWp.block ?_) | ((first | refine gdO_split (fun hlt => ?_) (fun hlt => ?_) | refine tkO_split (fun hlt => ?_) (fun hlt => ?_) | refine opO_split (fun hlt => ?_) (fun hlt => ?_)) <;> have hgd := hlt <;> (try simp only [cla, clb, ne_eq, cld] at hlt) <;> (simp -implicitDefEqProofs (maxSteps := 1000000) (disch := omega) only [go_sem, ↓reduceIte, hgd]) <;> clear hgd) | (with_reducible refine And.intro ?_ ?_; · first | omega | assumption | exact ⟨_, _, rfl, rfl⟩) | ((first | refine ⟨_, hi, ?_⟩); simp -implicitDefEqProofs (maxSteps := 1000000) (disch := omega) only [go_sem, ↓reduceIte]) | fail
end Go.Proofs.YthhjcfejgoddlaaGreatDoor
end

section
/- Where the simplifier need not look: what follows a step is looked at when the walk gets there. -/
namespace Go.Abs
variable {P : Program} {T : Tab} {c : Ctx} {ro : Option Nat}

@[congr] theorem runO_cg {ops l : List Oper} {σ σ' : St} {K : St → Prop} (h : σ = σ') : runO P T ops l σ K = runO P T ops l σ' K := by rw [h]
@[congr] theorem gdO_cg {ops rest : List Oper} {o : Oper} {want : Bool} {σ : St} {K : St → Prop} {q q' : AV} (h : q = q') : gdO P T ops o rest want σ K q = gdO P T ops o rest want σ K q' := by rw [h]
@[congr] theorem stepK_cg {o : Oper} {σ σ' : St} {K : St → Prop} (h : σ = σ') : stepK P T o σ K = stepK P T o σ' K := by rw [h]
@[congr] theorem planK_cg {ops : Array Oper} {l : List Pl} {σ σ' : St} {X : St → Prop} (h : σ = σ') : planK P T ops l σ X = planK P T ops l σ' X := by rw [h]
@[congr] theorem takeQ_cg {ops : Array Oper} {i : Nat} {σ σ' : St} {X : St → Prop} (h : σ = σ') : takeQ P T ops i σ X = takeQ P T ops i σ' X := by rw [h]
@[congr] theorem opQ_cg {ops : Array Oper} {i : Nat} {σ σ' : St} {X : St → Prop} (h : σ = σ') : opQ P T ops i σ X = opQ P T ops i σ' X := by rw [h]
@[congr] theorem tkO_cg {o : Oper} {want : Bool} {σ : St} {X : St → Prop} {q q' : AV} (h : q = q') : tkO P T o want σ X q = tkO P T o want σ X q' := by rw [h]
@[congr] theorem opO_cg {o : Oper} {want : Bool} {σ : St} {X : St → Prop} {q q' : AV} (h : q = q') : opO P T o want σ X q = opO P T o want σ X q' := by rw [h]
@[congr] theorem treeK_cg {ops : Array Oper} {t : Tr} {σ σ' : St} {X : St → Prop} (h : σ = σ') : treeK P T ops t σ X = treeK P T ops t σ' X := by rw [h]
@[congr] theorem takesK_cg {ops : Array Oper} {t : Tr} {l : List Nat} {σ σ' : St} {X : St → Prop} (h : σ = σ') : takesK P T ops t l σ X = takesK P T ops t l σ' X := by rw [h]
@[congr] theorem loadK_cg {s s' : Sto} {t : TypeId} {x x' : AV} {K : AV → Prop} (h : s = s') (h' : x = x') : loadK s T t x K = loadK s' T t x' K := by rw [h, h']
@[congr] theorem storeK_cg {s s' : Sto} {t : TypeId} {x x' y y' : AV} {K : Sto → Prop} (h : s = s') (h' : x = x') (h'' : y = y') : storeK T t x y s K = storeK T t x' y' s' K := by rw [h, h', h'']
@[congr] theorem faddrK_cg {t : TypeId} {f : Nat} {x x' : AV} {K : AV → Prop} (h : x = x') : faddrK T t f x K = faddrK T t f x' K := by rw [h]
@[congr] theorem iaddrK_cg {s s' : Sto} {t : TypeId} {x x' y y' : AV} {K : AV → Prop} (h : s = s') (h' : x = x') (h'' : y = y') : iaddrK s T t x y K = iaddrK s' T t x' y' K := by rw [h, h', h'']
@[congr] theorem binC_cg {op : BinOp} {t : TypeId} {yo : Operand} {x x' y y' : AV} {K : AV → Prop} (h : x = x') (h' : y = y') : binC T op t yo x y K = binC T op t yo x' y' K := by rw [h, h']
@[congr] theorem binK_cg {op : BinOp} {t : TypeId} {x x' y y' : AV} {K : AV → Prop} (h : x = x') (h' : y = y') : binK T op t x y K = binK T op t x' y' K := by rw [h, h']
@[congr] theorem unK_cg {op : UnOp} {x x' : AV} {K : AV → Prop} (h : x = x') : unK op x K = unK op x' K := by rw [h]
@[congr] theorem extK_cg {x x' : AV} {i : Nat} {K : AV → Prop} (h : x = x') : extK x i K = extK x' i K := by rw [h]
@[congr] theorem lenK_cg {s s' : Sto} {t : TypeId} {x x' : AV} {K : AV → Prop} (h : s = s') (h' : x = x') : lenK s T t x K = lenK s' T t x' K := by rw [h, h']
@[congr] theorem pickK_cg {q q' x x' y y' : AV} {K : AV → Prop} (h : q = q') (h' : x = x') (h'' : y = y') : pickK q x y K = pickK q' x' y' K := by rw [h, h', h'']
@[congr] theorem callQ_cg {f f' : AV} {xs xs' : List AV} {K : AV → Prop} (h : f = f') (h' : xs = xs') : callQ P f xs K = callQ P f' xs' K := by rw [h, h']
@[congr] theorem calleeK_cg {s s' : Sto} {f f' : AV} {xs xs' : List AV} {K : AV → Sto → Prop} (h : s = s') (h' : f = f') (h'' : xs = xs') : calleeK P s f xs K = calleeK P s' f' xs' K := by rw [h, h', h'']
@[congr] theorem sliceK_cg {t : TypeId} {len : Nat} {ps ps' : List (Nat × AV)} {s s' : Sto} {n : Nat} {K : AV → Sto → Nat → Prop} (h : ps = ps') (h' : s = s') : sliceK T t len ps s n K = sliceK T t len ps' s' n K := by rw [h, h']
@[congr] theorem rowK_cg {t : TypeId} {len : Nat} {ps ps' : List (Nat × AV)} {K : AV → Prop} (h : ps = ps') : rowK T t len ps K = rowK T t len ps' K := by rw [h]
@[congr] theorem structK_cg {t : TypeId} {ps ps' : List (Nat × AV)} {K : AV → Prop} (h : ps = ps') : structK T t ps K = structK T t ps' K := by rw [h]
@[congr] theorem allocK_cg {t : TypeId} {s s' : Sto} {n n' : Nat} {K : AV → Sto → Nat → Prop} (h : s = s') (h' : n = n') : allocK T t s n K = allocK T t s' n' K := by rw [h, h']
@[congr] theorem boxK_cg {x x' : AV} {s s' : Sto} {n n' : Nat} {K : AV → Sto → Nat → Prop} (h : s = s') (h' : n = n') (h'' : x = x') : boxK x s n K = boxK x' s' n' K := by rw [h, h', h'']
@[congr] theorem condK_cg {q q' : AV} {X Y : Prop} (h : q = q') : condK q X Y = condK q' X Y := by rw [h]
@[congr] theorem AWp_cg {code : Code} {σ σ' : St} {Q : Exit → St → Prop} (h : σ = σ') : AWp P T c ro code σ Q = AWp P T c ro code σ' Q := by rw [h]
@[congr] theorem LoopAt_cg {code : Code} {σ σ' : St} {Q : Exit → St → Prop} (h : σ = σ') : LoopAt P T c ro code σ Q = LoopAt P T c ro code σ' Q := by rw [h]
end Go.Abs
end

section
set_option linter.unusedSimpArgs false
set_option linter.unusedVariables false
set_option maxRecDepth 100000
namespace Go.Proofs.YthhjcfejgoddlaaGreatDoor
open Go Go.Abs

theorem same_T (p q : Int × Int) (hp : okP p) (hq : okP q) (h : p = q) : PC Tryz.prog 26 [GP p, GP q] (B true) := by
  have := same_P p q hp hq
  rwa [decide_eq_true h] at this
/-- An integer, as a number. -/
theorem okI_ex {neg : Bool} {d : List Int} (h : okI neg d) : ∃ x : Int, Zr neg d = Z x ∧ lenZ x ≤ 40 :=
  ⟨_, (okI_Z h).1, (okI_Z h).2.1⟩
theorem LZ1 (na : Bool) (a : List Int) : LZ [(na, a)] = .dat (.lst [[.bool na, .lst (a.map eI)]]) := rfl
end Go.Proofs.YthhjcfejgoddlaaGreatDoor
end

section
set_option linter.unusedSimpArgs false
set_option linter.unusedVariables false
set_option maxRecDepth 100000
namespace Go.Proofs.YthhjcfejgoddlaaGreatDoor
open Go Go.Abs

/-- The cells of an integer and of a result, kept closed in a walk. -/
def zC (x : Int) : List AV := [B (decide (x < 0)), L (D x.natAbs)]
def pC (p : Int × Int) : List AV := [B (decide (p.1 < 0)), L (D p.1.natAbs), I p.2]
def zD (x : Int) : List DV := [.bool (decide (x < 0)), .lst ((D x.natAbs).map eI)]
def ppD (p : Int × Int) : List DV := [.bool (decide (p.1 < 0)), .lst ((D p.1.natAbs).map eI), .int .i64 p.2]
theorem zC_len (x : Int) : (zC x).length = 2 := rfl
theorem pC_len (p : Int × Int) : (pC p).length = 3 := rfl
theorem zD_len (x : Int) : (zD x).length = 2 := rfl
theorem zC_map (x : Int) : (zD x).map .dat = zC x := rfl
theorem pC_map (p : Int × Int) : (ppD p).map .dat = pC p := rfl
theorem zC_toCs (x : Int) (s : Sto) : toCs s (zC x) = some (zD x, s) := rfl
theorem pC_toCs (p : Int × Int) (s : Sto) : toCs s (pC p) = some (ppD p, s) := rfl
theorem zC_dCs (x : Int) : dCs (zC x) = some (zD x) := rfl
theorem pC_dCs (p : Int × Int) : dCs (pC p) = some (ppD p) := rfl
theorem zC_dats0 (x : Int) : dats0 (zC x) = some (zD x) := rfl
theorem zC_take (x : Int) : List.take 2 (zC x) = zC x := rfl
theorem pC_take (p : Int × Int) : List.take 3 (pC p) = pC p := rfl
theorem pC_take2 (p : Int × Int) : List.take 2 (pC p) = zC p.1 := rfl
theorem pC_get2 (p : Int × Int) : (pC p)[2]? = some (I p.2) := rfl
theorem zC_get0 (x : Int) : (zC x)[0]? = some (B (decide (x < 0))) := rfl
theorem zC_get1 (x : Int) : (zC x)[1]? = some (L (D x.natAbs)) := rfl
theorem zC_drop (x : Int) : List.drop 0 (zC x) = zC x := rfl
theorem pC_drop (p : Int × Int) : List.drop 0 (pC p) = pC p := rfl
end Go.Proofs.YthhjcfejgoddlaaGreatDoor
end

section
set_option linter.unusedSimpArgs false
set_option linter.unusedVariables false
set_option maxRecDepth 100000
namespace Go.Proofs.YthhjcfejgoddlaaGreatDoor
open Go Go.Abs

/-! The contracts over closed cells. -/
theorem gotA (x e : Int) : PC Tryz.prog 24 [.agg (zC x), I e] (.agg (pC (x, e))) := gotP (x, e)
theorem sameA (p q : Int × Int) (hp : okP p) (hq : okP q) (h : p = q) : PC Tryz.prog 26 [.agg (pC p), .agg (pC q)] (B true) := same_T p q hp hq h
theorem rsameA (x y : Int) (lx : lenZ x ≤ 40) (ly : lenZ y ≤ 40) : PC Tryz.prog 36 [.agg (zC x), .agg (zC y)] (B (decide (x = y))) := Same_Z x y (Nat.le_trans lx (by decide)) (Nat.le_trans ly (by decide))
end Go.Proofs.YthhjcfejgoddlaaGreatDoor
end

section
namespace Go.Proofs.YthhjcfejgoddlaaGreatDoor
open Go Go.Abs
theorem pC_drop3 (p : Int × Int) : List.drop 3 (pC p) = [] := rfl
theorem zC_drop2 (x : Int) : List.drop 2 (zC x) = [] := rfl
end Go.Proofs.YthhjcfejgoddlaaGreatDoor
end

section
/- A string made of one byte. -/
namespace Go.Abs
open Go.RowKit
variable {P : Program} {T : Tab} {c : Ctx} {φ : Nat → Lay} {s : Sto} {n : Nat} {w : World}

theorem convB_ok (hT : TabOk P T) (hm : Mem c φ s n w) {k : Nat} {e t5 src dst : TypeId} {m : Int} {f : Bool} {i j l : TI} {u : Value} {K : AV → Prop} (hk : get k s = some (.row e 1 [[.int .u8 m]] f))
    (hu : RV φ n (c.AA φ s) w (.own k) u) (h1 : tget src T = some i) (h1' : i.desc = .slice t5) (h2 : tget dst T = some j) (h2' : j.desc = .string) (h3 : tget t5 T = some l) (h3' : l.desc = .int .u8)
    (h : K (.dat (.str (ByteArray.empty.push (UInt8.ofNat m.toNat))))) : Val P φ n (c.AA φ s) w (convert src dst u) K := by
  obtain ⟨hb, hn, hz, hsz, hes, hlen, cur, hh, hcl, hlc, hmx, hone, hv⟩ := hm.obj k _ hk
  have hl1 : (φ k).len = 1 := by simpa using hlen.symm
  have u1 := (hT _ _ h1).2
  have u2 := (hT _ _ h2).2
  have u3 := (hT _ _ h3).2
  rw [h1'] at u1
  rw [h2'] at u2
  rw [h3'] at u3
  have hcur : 0 < cur.length := by
    have e0 : cur.length = (φ k).cap := by rw [hcl, Nat.mul_one]
    omega
  have hc0 : cur.getD 0 undef = .int .u8 m := by
    have h0 := hv 0 _ 0 _ rfl rfl
    generalize hx : cur.getD (0 * 1 + 0) undef = x at h0
    cases h0
    rfl
  cases hu with
  | own _ hi =>
    rw [hl1]
    have hld := run_loadCells (P := P) w ⟨(φ k).b, 0, none⟩ 1 (fun _ => .int .u8 m) (fun j hj => by
      have hj0 : j = 0 := by omega
      subst hj0
      show w.cell? ⟨(φ k).b, 0 + 0, none⟩ = _
      rw [cell_of_row w _ _ _ _ _ hh]
      simp only [List.getD, List.getElem?_eq_getElem hcur, Option.getD_some] at hc0
      simp only [Nat.add_zero, List.getElem?_toArray, List.getElem?_eq_getElem hcur, hc0])
    refine ⟨.dat (.str (ByteArray.empty.push (UInt8.ofNat m.toNat))), .string (ByteArray.empty.push (UInt8.ofNat m.toNat)), ?_, .dat _ _ (.str _), h⟩
    have hb := run_bytesToString (P := P) w ⟨(φ k).b, 0, none⟩ 1 (φ k).cap [m] (by rw [hld]; rfl)
    simp only [List.foldl_cons, List.foldl_nil] at hb
    unfold convert
    simp only [Sem.run_bind, run_underlying u1, run_underlying u2, run_underlying u3, Result.andThen_ok, hb]
end Go.Abs
end

section
set_option linter.unusedSimpArgs false
set_option linter.unusedVariables false
set_option maxRecDepth 100000
namespace Go.Proofs.YthhjcfejgoddlaaGreatDoor
open Go Go.Abs
attribute [local go_sem] wrap64 Int.tdiv_eq_ediv_of_nonneg Int.tmod_eq_emod_of_nonneg eq_self Bool.false_eq_true Bool.true_eq_false Bool.not_true Bool.not_false
attribute [local go_sem_proc] Nat.reduceAdd Nat.reduceMul Nat.reduceEqDiff Nat.reduceLT Nat.reduceLeDiff Int.reduceEq Int.reduceNeg Int.reduceToNat reduceCtorEq Int.reduceBNe Int.reduceBEq

/-! The reference's digits. -/
theorem dv_lin : ∀ (l : List UInt8) (acc : Nat), dv acc l = acc * 10 ^ l.length + dv 0 l
  | [], acc => by simp [dv_nil]
  | x :: r, acc => by
    rw [dv_cons, dv_cons, dv_lin r (acc * 10 + _), dv_lin r (0 * 10 + _), List.length_cons, Nat.pow_succ]
    grind
theorem dv_cons0 (x : UInt8) (r : List UInt8) : dv 0 (x :: r) = (x.toNat - 48) * 10 ^ r.length + dv 0 r := by
  rw [dv_cons, dv_lin, Nat.zero_mul, Nat.zero_add]
theorem dv_lt : ∀ {l : List UInt8}, isD l → dv 0 l < 10 ^ l.length
  | [], _ => by simp [dv_nil]
  | x :: r, h => by
    have h1 := dv_lt (l := r) (fun y hy => h y (by simp [hy]))
    have h2 := h x (by simp)
    rw [dv_cons0, List.length_cons, Nat.pow_succ]
    have h3 : (x.toNat - 48) * 10 ^ r.length ≤ 9 * 10 ^ r.length := Nat.mul_le_mul_right _ (by omega)
    omega
/-- Digits without a zero ahead. -/
def canon (l : List UInt8) : Prop := isD l ∧ 0 < l.length ∧ (l.length = 1 ∨ l.headD 0 ≠ 48)
theorem canon_lo {l : List UInt8} (h : canon l) : l.length = 1 ∨ 10 ^ (l.length - 1) ≤ dv 0 l := by
  obtain ⟨h1, h2, h3⟩ := h
  rcases h3 with h3 | h3
  · exact .inl h3
  · right
    match l, h2 with
    | x :: r, _ =>
      have h4 := h1 x (by simp)
      have h5 : x.toNat ≠ 48 := fun e => h3 (UInt8.toNat_inj.1 e)
      rw [dv_cons0, List.length_cons, Nat.add_sub_cancel]
      have h6 : 1 * 10 ^ r.length ≤ (x.toNat - 48) * 10 ^ r.length := Nat.mul_le_mul_right _ (by omega)
      omega
theorem canon_len {l m : List UInt8} (hl : canon l) (hm : canon m) (e : dv 0 l = dv 0 m) : l.length = m.length := by
  have key : ∀ {l m : List UInt8}, canon l → canon m → dv 0 l = dv 0 m → l.length ≤ m.length := by
    intro l m hl hm e
    rcases canon_lo hl with h | h
    · have := hm.2.1; omega
    · have h2 := dv_lt hm.1
      have h3 : 10 ^ (l.length - 1) < 10 ^ m.length := by omega
      have := (Nat.pow_lt_pow_iff_right (by decide : 1 < 10)).1 h3
      omega
  exact Nat.le_antisymm (key hl hm e) (key hm hl e.symm)
theorem push_bs (x : UInt8) (m : List UInt8) : ByteArray.empty.push x ++ bs m = bs (x :: m) := by
  apply ByteArray.ext; simp [bs]
theorem u8_dig {x : Int} (h : 0 ≤ x) : (UInt8.ofNat (IntKind.u8.wrap (48 + x % 10)).toNat).toNat = 48 + (x % 10).toNat := by
  have e : IntKind.u8.wrap (48 + x % 10) = 48 + x % 10 := by
    unfold IntKind.wrap
    show (if (false && _) = true then _ else (48 + x % 10) % 256) = _
    simp only [Bool.false_and, Bool.false_eq_true, ↓reduceIte]
    omega
  rw [e, show (48 + x % 10).toNat = 48 + (x % 10).toNat by omega, byte_ofNat (by omega)]
theorem val_tk (d : List Int) (i : Nat) (h : i < d.length) : val (d.take (i + 1)) = val (d.take i) + Bp i * d.getD i 0 := by
  rw [List.take_add_one, val_append, List.length_take, Nat.min_eq_left (by omega)]
  simp [List.getElem?_eq_getElem h, val, List.getD]
theorem Bp_nat (i : Nat) : Bp i = ((10 ^ (9 * i) : Nat) : Int) := by
  unfold Bp
  rw [show (1000000000 : Int) = ((10 ^ 9 : Nat) : Int) by decide, ← Int.natCast_pow, ← Nat.pow_mul]

theorem bs_nil : bs [] = ⟨#[]⟩ := rfl
structure DS where
  i : Nat
  l : List UInt8
def F108 (d : List Int) (t : DS) : St := ⟨[(0, L d), (3, .dat (.str (bs t.l))), (4, I t.i)], [], 0, 0⟩
structure DK where
  k : Nat
  x : Int
  m : List UInt8
def G108 (d : List Int) (i : Nat) (t : DK) : St := ⟨[(0, L d), (3, .dat (.str (bs t.m))), (4, I i), (5, I t.x), (6, I t.k)], [], 0, 0⟩
def H108 (m : List UInt8) : St := ⟨[(3, .dat (.str (bs m)))], [], 0, 0⟩
set_option maxHeartbeats 4000000 in
theorem rdig_pc (d : List Int) (hd : dig d) (hl : d.length ≤ 1000) : PCr Tryz.prog 108 [L d] (fun r => ∃ l, r = .dat (.str (bs l)) ∧ canon l ∧ ((dv 0 l : Nat) : Int) = val d) := by
  refine PCr.of tab_ok Tryz.func108 rfl rfl rfl fun c hc hm => ?_
  rw [show Tryz.f108.ntmps = _ from Tryz.ntmps108] at hc
  simp only [Tryz.f108]
  repeat' first | (refine AWp.seq fun K hK => ?_) | ((first | refine AWp.region (by rw [hc]; rfl) ?_ | refine AWp.skip ?_ | refine AWp.exit ?_ | refine AWp.label ?_ | refine AWp.ret ?_ | refine appK_g ?_); simp -implicitDefEqProofs (maxSteps := 1000000) (disch := omega) only [go_sem, ↓reduceIte]) | ((first | refine hK _ ?_ | (clear hK; first | refine hK _ ?_ | (clear hK; first | refine hK _ ?_ | (clear hK; refine hK _ ?_)))); clear hK) | (refine AWp.cond ?_; simp -implicitDefEqProofs (maxSteps := 1000000) (disch := omega) only [go_sem, ↓reduceIte]; try (refine ⟨fun hlt => ?_, fun hlt => ?_⟩ <;> (try simp only [cla, clb, ne_eq, reduceCtorEq] at hlt) <;> (try exact hlt.elim))) | (refine AWp.block ?_) | ((first | refine gdO_split (fun hlt => ?_) (fun hlt => ?_) | refine tkO_split (fun hlt => ?_) (fun hlt => ?_) | refine opO_split (fun hlt => ?_) (fun hlt => ?_)) <;> have hgd := hlt <;> (try simp only [cla, clb, ne_eq, cld] at hlt) <;> (simp -implicitDefEqProofs (maxSteps := 1000000) (disch := omega) only [go_sem, ↓reduceIte, hgd]) <;> clear hgd) | (with_reducible refine And.intro ?_ ?_; · first | omega | assumption | exact ⟨_, _, rfl, rfl⟩) | fail
  · refine ⟨[48], ?_, ⟨fun x hx => by simp at hx; subst hx; decide, by decide, .inl rfl⟩, ?_⟩
    · rfl
    · rw [List.eq_nil_of_length_eq_zero (by omega : d.length = 0)]; decide
  refine AWp.loopInv (F108 d) (fun t => d.length - t.i) (fun t => t.i ≤ d.length ∧ isD t.l ∧ t.l.length = 9 * t.i ∧ ((dv 0 t.l : Nat) : Int) = val (d.take t.i)) ⟨0, []⟩ ⟨Nat.zero_le _, fun x h => by simp at h, rfl, rfl⟩ (Sub.of0 hm id rfl ?_ ?_ (fun _ _ _ _ h => h)) ?_
  all_goals (try dsimp only)
  all_goals (first | omega | (simp -implicitDefEqProofs (maxSteps := 1000000) (disch := omega) only [F108, bs_nil, id, go_sem, Nat.blt_eq, Nat.reduceAdd, Nat.reduceSub, Nat.reduceEqDiff, Nat.reduceLT, ↓reduceIte, and_true, true_and, AV.dat.injEq, DV.int.injEq, DV.bool.injEq, DV.lst.injEq, eq_self_iff_true]; first | done | omega | (simp; done) | (simp; omega)) | (simp; done) | (simp; omega) | skip)
  rintro ⟨i, l⟩ ⟨h1, h2, h3, h4⟩ ih
  simp only [F108] at h1 h2 h3 h4 ⊢
  repeat' first | (refine AWp.seq fun K hK => ?_) | ((first | refine AWp.region (by rw [hc]; rfl) ?_ | refine AWp.skip ?_ | refine AWp.exit ?_ | refine AWp.label ?_ | refine AWp.ret ?_ | refine appK_g ?_); simp -implicitDefEqProofs (maxSteps := 1000000) (disch := omega) only [go_sem, ↓reduceIte]) | ((first | refine hK _ ?_ | (clear hK; first | refine hK _ ?_ | (clear hK; first | refine hK _ ?_ | (clear hK; refine hK _ ?_)))); clear hK) | (refine AWp.cond ?_; simp -implicitDefEqProofs (maxSteps := 1000000) (disch := omega) only [go_sem, ↓reduceIte]; try (refine ⟨fun hlt => ?_, fun hlt => ?_⟩ <;> (try simp only [cla, clb, ne_eq, reduceCtorEq] at hlt) <;> (try exact hlt.elim))) | (refine AWp.block ?_) | ((first | refine gdO_split (fun hlt => ?_) (fun hlt => ?_) | refine tkO_split (fun hlt => ?_) (fun hlt => ?_) | refine opO_split (fun hlt => ?_) (fun hlt => ?_)) <;> have hgd := hlt <;> (try simp only [cla, clb, ne_eq, cld] at hlt) <;> (simp -implicitDefEqProofs (maxSteps := 1000000) (disch := omega) only [go_sem, ↓reduceIte, hgd]) <;> clear hgd) | (with_reducible refine And.intro ?_ ?_; · first | omega | assumption | exact ⟨_, _, rfl, rfl⟩) | fail
  · -- one part
    have hdi := dig_getD hd i
    refine AWp.loopInv (G108 d i) (fun t => 9 - t.k) (fun t => t.k ≤ 9 ∧ isD t.m ∧ t.m.length = 9 * i + t.k ∧ 0 ≤ t.x ∧ t.x < 1000000000 ∧ t.x < 10 ^ (9 - t.k) ∧ ((dv 0 t.m : Nat) : Int) + t.x * ((10 ^ (9 * i + t.k) : Nat) : Int) = val (d.take i) + d.getD i 0 * ((10 ^ (9 * i) : Nat) : Int)) ⟨0, d.getD i 0, l⟩ ⟨Nat.zero_le _, h2, h3, hdi.1, hdi.2, hdi.2, by rw [h4]; rfl⟩ (Sub.of0 hm id rfl ?_ ?_ (fun _ _ _ _ h => h)) ?_
    all_goals (try dsimp only)
    all_goals (first | omega | (simp -implicitDefEqProofs (maxSteps := 1000000) (disch := omega) only [G108, id, go_sem, Nat.blt_eq, Nat.reduceAdd, Nat.reduceSub, Nat.reduceEqDiff, Nat.reduceLT, ↓reduceIte, and_true, true_and, AV.dat.injEq, DV.int.injEq, DV.bool.injEq, DV.lst.injEq, eq_self_iff_true]; first | done | omega | (simp; done) | (simp; omega)) | (simp; done) | (simp; omega) | skip)
    rintro ⟨k, x, m⟩ ⟨g1, g2, g3, g4, g7, g5, g6⟩ ih2
    simp only [G108] at g1 g2 g3 g4 g7 g5 g6 ⊢
    repeat' first | (refine AWp.regionStp (id := 11) 5 (fun σ1 K => ∃ k m f, evA σ1.t (.tmp 28) = .own k ∧ get k σ1.s = some (.row 5 1 [[.int .u8 m]] f) ∧ K (.dat (.str (ByteArray.empty.push (UInt8.ofNat m.toNat)))) σ1.s σ1.n) rfl rfl (by intro cl h; cases h) (fun φ a w σ1 K hT hR ⟨k, m, f, e1, e2, h⟩ => .of_val hR.mem (convB_ok hT hR.mem e2 (e1 ▸ hR.ev (.tmp 28)) rfl rfl rfl rfl rfl rfl h) rfl) (by rw [hc]; rfl) ?_; simp -implicitDefEqProofs (maxSteps := 1000000) (disch := omega) only [go_sem, ↓reduceIte]) | (refine AWp.seq fun K hK => ?_) | ((first | refine AWp.region (by rw [hc]; rfl) ?_ | refine AWp.skip ?_ | refine AWp.exit ?_ | refine AWp.label ?_ | refine AWp.ret ?_ | refine appK_g ?_); simp -implicitDefEqProofs (maxSteps := 1000000) (disch := omega) only [go_sem, ↓reduceIte]) | ((first | refine hK _ ?_ | (clear hK; first | refine hK _ ?_ | (clear hK; first | refine hK _ ?_ | (clear hK; refine hK _ ?_)))); clear hK) | (refine AWp.cond ?_; simp -implicitDefEqProofs (maxSteps := 1000000) (disch := omega) only [go_sem, ↓reduceIte]; try (refine ⟨fun hlt => ?_, fun hlt => ?_⟩ <;> (try simp only [cla, clb, ne_eq, reduceCtorEq] at hlt) <;> (try exact hlt.elim))) | (refine AWp.block ?_) | ((first | refine gdO_split (fun hlt => ?_) (fun hlt => ?_) | refine tkO_split (fun hlt => ?_) (fun hlt => ?_) | refine opO_split (fun hlt => ?_) (fun hlt => ?_)) <;> have hgd := hlt <;> (try simp only [cla, clb, ne_eq, cld] at hlt) <;> (simp -implicitDefEqProofs (maxSteps := 1000000) (disch := omega) only [go_sem, ↓reduceIte, hgd]) <;> clear hgd) | (with_reducible refine And.intro ?_ ?_; · first | omega | assumption | exact ⟨_, _, rfl, rfl⟩) | fail
    · refine ⟨0, _, _, rfl, rfl, ?_, ?_⟩
      · rw [bs_size]
        show 1 + m.length ≤ _
        omega
      · have hc8 := u8_dig g4
        rw [push_bs]
        generalize UInt8.ofNat (IntKind.u8.wrap (48 + x % 10)).toNat = c8 at *
        first | (refine hK _ ?_; clear hK) | (clear hK; refine hK _ ?_; clear hK) | (clear hK; clear hK; refine hK _ ?_; clear hK) | (clear hK; clear hK; clear hK; refine hK _ ?_; clear hK)
        repeat' first | (refine AWp.seq fun K hK => ?_) | ((first | refine AWp.region (by rw [hc]; rfl) ?_ | refine AWp.skip ?_ | refine AWp.exit ?_ | refine AWp.label ?_ | refine AWp.ret ?_ | refine appK_g ?_); simp -implicitDefEqProofs (maxSteps := 1000000) (disch := omega) only [go_sem, ↓reduceIte]) | ((first | refine hK _ ?_ | (clear hK; first | refine hK _ ?_ | (clear hK; first | refine hK _ ?_ | (clear hK; refine hK _ ?_)))); clear hK) | (refine AWp.cond ?_; simp -implicitDefEqProofs (maxSteps := 1000000) (disch := omega) only [go_sem, ↓reduceIte]; try (refine ⟨fun hlt => ?_, fun hlt => ?_⟩ <;> (try simp only [cla, clb, ne_eq, reduceCtorEq] at hlt) <;> (try exact hlt.elim))) | (refine AWp.block ?_) | ((first | refine gdO_split (fun hlt => ?_) (fun hlt => ?_) | refine tkO_split (fun hlt => ?_) (fun hlt => ?_) | refine opO_split (fun hlt => ?_) (fun hlt => ?_)) <;> have hgd := hlt <;> (try simp only [cla, clb, ne_eq, cld] at hlt) <;> (simp -implicitDefEqProofs (maxSteps := 1000000) (disch := omega) only [go_sem, ↓reduceIte, hgd]) <;> clear hgd) | (with_reducible refine And.intro ?_ ?_; · first | omega | assumption | exact ⟨_, _, rfl, rfl⟩) | fail
        refine ih2 ⟨k + 1, x / 10, c8 :: m⟩ _ ⟨by show k + 1 ≤ 9; omega, ?_, by show (c8 :: m).length = 9 * i + (k + 1); rw [List.length_cons, g3]; omega, by show 0 ≤ x / 10; omega, by show x / 10 < 1000000000; omega, ?_, ?_⟩ (by show 9 - (k + 1) < 9 - k; omega) (Sub.of0 hm id rfl ?_ ?_ (fun _ _ _ _ h => h))
        · intro y hy
          rcases List.mem_cons.1 hy with rfl | hy
          · omega
          · exact g2 y hy
        · show x / 10 < 10 ^ (9 - (k + 1))
          rw [show 9 - k = (9 - (k + 1)) + 1 by omega, Int.pow_succ] at g5
          omega
        · show ((dv 0 (c8 :: m) : Nat) : Int) + x / 10 * ((10 ^ (9 * i + (k + 1)) : Nat) : Int) = _
          rw [← g6, dv_cons0, g3, show c8.toNat - 48 = (x % 10).toNat by omega, show 9 * i + (k + 1) = (9 * i + k) + 1 by omega, Nat.pow_succ]
          have e1 : (((x % 10).toNat : Nat) : Int) = x % 10 := by omega
          have e2 : x = 10 * (x / 10) + x % 10 := by omega
          simp only [Int.natCast_add, Int.natCast_mul, e1]
          generalize ((10 ^ (9 * i + k) : Nat) : Int) = p
          generalize x / 10 = q at *
          generalize x % 10 = r at *
          subst e2
          show _ + q * (p * 10) = _
          grind
        all_goals (try dsimp only)
        all_goals (first | omega | (simp -implicitDefEqProofs (maxSteps := 1000000) (disch := omega) only [G108, id, go_sem, Nat.blt_eq, Nat.reduceAdd, Nat.reduceSub, Nat.reduceEqDiff, Nat.reduceLT, ↓reduceIte, and_true, true_and, AV.dat.injEq, DV.int.injEq, DV.bool.injEq, DV.lst.injEq, eq_self_iff_true]; first | done | omega | (simp; done) | (simp; omega)) | (simp; done) | (simp; omega) | skip)
    · have hk9 : k = 9 := by omega
      subst hk9
      have hx0 : x = 0 := by
        have : (10 : Int) ^ (9 - 9) = 1 := rfl
        rw [this] at g5; omega
      subst hx0
      refine ih ⟨i + 1, m⟩ _ ⟨by show i + 1 ≤ d.length; omega, g2, by show m.length = 9 * (i + 1); omega, ?_⟩ (by show d.length - (i + 1) < d.length - i; omega) (Sub.of0 hm id rfl ?_ ?_ (fun _ _ _ _ h => h))
      · show ((dv 0 m : Nat) : Int) = val (d.take (i + 1))
        rw [val_tk d i (by omega), Bp_nat]
        rw [Int.zero_mul, Int.add_zero] at g6
        rw [g6, Int.mul_comm]
      all_goals (try dsimp only)
      all_goals (first | omega | (simp -implicitDefEqProofs (maxSteps := 1000000) (disch := omega) only [F108, id, go_sem, Nat.blt_eq, Nat.reduceAdd, Nat.reduceSub, Nat.reduceEqDiff, Nat.reduceLT, ↓reduceIte, and_true, true_and, AV.dat.injEq, DV.int.injEq, DV.bool.injEq, DV.lst.injEq, eq_self_iff_true]; first | done | omega | (simp; done) | (simp; omega)) | (simp; done) | (simp; omega) | skip)
  · have hi : i = d.length := by omega
    subst hi
    rw [List.take_length] at h4
    refine AWp.loopInv H108 (fun m => m.length) (fun m => isD m ∧ 0 < m.length ∧ m.length ≤ 9 * d.length ∧ ((dv 0 m : Nat) : Int) = val d) l ⟨h2, by omega, by omega, h4⟩ (Sub.of0 hm id rfl ?_ ?_ (fun _ _ _ _ h => h)) ?_
    all_goals (try dsimp only)
    all_goals (first | omega | (simp -implicitDefEqProofs (maxSteps := 1000000) (disch := omega) only [H108, id, go_sem, Nat.blt_eq, Nat.reduceAdd, Nat.reduceSub, Nat.reduceEqDiff, Nat.reduceLT, ↓reduceIte, and_true, true_and, AV.dat.injEq, DV.int.injEq, DV.bool.injEq, DV.lst.injEq, eq_self_iff_true]; first | done | omega | (simp; done) | (simp; omega)) | (simp; done) | (simp; omega) | skip)
    rintro m ⟨g1, g2, g3, g4⟩ ih3
    simp only [H108]
    match m, g2 with
    | y :: r, _ =>
    have hsz : (bs (y :: r)).size = r.length + 1 := by rw [bs_size, List.length_cons]
    have hex : (bs (y :: r)).extract 1 (bs (y :: r)).size = bs r := by
      apply ByteArray.ext
      rw [hsz]
      simp [bs]
    have hby : byteAt (bs (y :: r)) 0 = (y.toNat : Int) := rfl
    repeat' first | (refine AWp.seq fun K hK => ?_) | ((first | refine AWp.region (by rw [hc]; rfl) ?_ | refine AWp.skip ?_ | refine AWp.exit ?_ | refine AWp.label ?_ | refine AWp.ret ?_ | refine appK_g ?_); simp -implicitDefEqProofs (maxSteps := 1000000) (disch := omega) only [go_sem, ↓reduceIte]) | ((first | refine hK _ ?_ | (clear hK; first | refine hK _ ?_ | (clear hK; first | refine hK _ ?_ | (clear hK; refine hK _ ?_)))); clear hK) | (refine AWp.cond ?_; simp -implicitDefEqProofs (maxSteps := 1000000) (disch := omega) only [go_sem, ↓reduceIte]; try (refine ⟨fun hlt => ?_, fun hlt => ?_⟩ <;> (try simp only [cla, clb, ne_eq, reduceCtorEq] at hlt) <;> (try exact hlt.elim))) | (refine AWp.block ?_) | ((first | refine gdO_split (fun hlt => ?_) (fun hlt => ?_) | refine tkO_split (fun hlt => ?_) (fun hlt => ?_) | refine opO_split (fun hlt => ?_) (fun hlt => ?_)) <;> have hgd := hlt <;> (try simp only [cla, clb, ne_eq, cld] at hlt) <;> (simp -implicitDefEqProofs (maxSteps := 1000000) (disch := omega) only [go_sem, ↓reduceIte, hgd]) <;> clear hgd) | (with_reducible refine And.intro ?_ ?_; · first | omega | assumption | exact ⟨_, _, rfl, rfl⟩) | fail
    · refine ih3 r _ ⟨fun z hz => g1 z (by simp [hz]), by omega, by simp only [List.length_cons] at g3; omega, ?_⟩ (by simp) (Sub.of0 hm id rfl ?_ ?_ (fun _ _ _ _ h => h))
      · rw [← g4, dv_cons0, show y.toNat - 48 = 0 by omega, Nat.zero_mul, Nat.zero_add]
      · rw [hex]
        simp -implicitDefEqProofs only [H108, id, go_sem, ↓reduceIte]
      all_goals (try dsimp only)
      all_goals (first | omega | (simp -implicitDefEqProofs (maxSteps := 1000000) (disch := omega) only [H108, id, go_sem, Nat.blt_eq, Nat.reduceAdd, Nat.reduceSub, Nat.reduceEqDiff, Nat.reduceLT, ↓reduceIte, and_true, true_and, AV.dat.injEq, DV.int.injEq, DV.bool.injEq, DV.lst.injEq, eq_self_iff_true]; first | done | omega | (simp; done) | (simp; omega)) | (simp; done) | (simp; omega) | skip)
    · refine ⟨y :: r, rfl, ⟨g1, Nat.succ_pos _, .inr fun e => ?_⟩, g4⟩
      simp only [List.headD_cons] at e
      subst e
      exact absurd hby (by assumption)
    · exact ⟨y :: r, rfl, ⟨g1, Nat.succ_pos _, .inl (by rw [List.length_cons]; omega)⟩, g4⟩
end Go.Proofs.YthhjcfejgoddlaaGreatDoor
end

section
set_option linter.unusedSimpArgs false
set_option linter.unusedVariables false
set_option maxRecDepth 100000
namespace Go.Proofs.YthhjcfejgoddlaaGreatDoor
open Go Go.Abs Go.RowKit
attribute [local go_sem] wrap64 Int.tdiv_eq_ediv_of_nonneg Int.tmod_eq_emod_of_nonneg eq_self Bool.false_eq_true Bool.true_eq_false Bool.not_true Bool.not_false
attribute [local go_sem_proc] Nat.reduceAdd Nat.reduceMul Nat.reduceEqDiff Nat.reduceLT Nat.reduceLeDiff Int.reduceEq Int.reduceNeg Int.reduceToNat reduceCtorEq Int.reduceBNe Int.reduceBEq

theorem Text_bad (neg : Bool) (d : List Int) (ld : d.length ≤ 1000000) (hb : ¬ okI neg d) : PC Tryz.prog 65 [Zr neg d] (.tup [.dat (.str ⟨#[]⟩), I 10]) := by
  have h := Check_pc neg d ld
  rw [if_neg hb] at h
  refine PCr.pc (PCr.of tab_ok Tryz.func65 rfl rfl rfl fun c hc hm => ?_)
  rw [show Tryz.f65.ntmps = _ from Tryz.ntmps65] at hc
  simp only [Tryz.f65]
  repeat' first | (exact absurd hlt (by decide)) | (refine AWp.seq fun K hK => ?_) | ((first | refine AWp.region (by rw [hc]; rfl) ?_ | refine AWp.skip ?_ | refine AWp.exit ?_ | refine AWp.label ?_ | refine AWp.ret ?_ | refine appK_g ?_); simp -implicitDefEqProofs (maxSteps := 1000000) (disch := omega) only [go_sem, ↓reduceIte]) | ((first | refine hK _ ?_ | (clear hK; first | refine hK _ ?_ | (clear hK; first | refine hK _ ?_ | (clear hK; refine hK _ ?_)))); clear hK) | (refine AWp.cond ?_; simp -implicitDefEqProofs (maxSteps := 1000000) (disch := omega) only [go_sem, ↓reduceIte]; try (refine ⟨fun hlt => ?_, fun hlt => ?_⟩ <;> (try simp only [cla, clb, ne_eq, reduceCtorEq] at hlt) <;> (try exact hlt.elim))) | (refine AWp.block ?_) | ((first | refine gdO_split (fun hlt => ?_) (fun hlt => ?_) | refine tkO_split (fun hlt => ?_) (fun hlt => ?_) | refine opO_split (fun hlt => ?_) (fun hlt => ?_)) <;> have hgd := hlt <;> (try simp only [cla, clb, ne_eq, cld] at hlt) <;> (simp -implicitDefEqProofs (maxSteps := 1000000) (disch := omega) only [go_sem, ↓reduceIte, hgd]) <;> clear hgd) | (with_reducible refine And.intro ?_ ?_; · first | omega | assumption | exact ⟨_, _, rfl, rfl⟩) | ((first | refine ⟨_, h, ?_⟩); simp -implicitDefEqProofs (maxSteps := 1000000) (disch := omega) only [go_sem, ↓reduceIte]) | fail
/-- The digits of a text, without the sign. -/
theorem decDigits_head : ∀ u : Nat, u ≠ 0 → (Lib.decDigits u).headD 0 ≠ 48
  | u, hu => by
    rw [Lib.decDigits]
    split
    · rename_i h
      simp only [List.headD_cons]
      intro e
      have := congrArg UInt8.toNat e
      rw [byte_ofNat h] at this
      simp at this; omega
    · rename_i h
      have hd := decDigits_head (u / 10) (by omega)
      have hp := decDigits_pos (u / 10)
      match hh : Lib.decDigits (u / 10), hp with
      | y :: r, _ =>
        rw [hh] at hd
        simpa using hd
  termination_by u => u
theorem wr_canon (n : Nat) (hn : lenZ (n : Int) ≤ 40) : canon (wr false (D n)) ∧ dv 0 (wr false (D n)) = n := by
  have hd := dig_D n
  by_cases h0 : n = 0
  · subst h0
    rw [D_zero]
    refine ⟨⟨?_, by decide, .inl rfl⟩, by decide⟩
    intro x hx
    have : x = 48 := by simpa [wr, wrh] using hx
    subst this; decide
  · have hne : D n ≠ [] := fun e => h0 (D_nil.1 e)
    have e : wr false (D n) = (List.range (D n).length).flatMap (chk (D n)) := by
      unfold wr wrh; rw [if_neg hne]; rfl
    rw [e]
    have hv := body_dv hd (D n).length (Nat.le_refl _)
    rw [Nat.sub_self, List.drop_zero, val_D] at hv
    refine ⟨⟨body_isD hd _, ?_, .inr ?_⟩, by exact_mod_cast hv⟩
    · have := wr_pos false (D n) hd
      unfold wrh at this; rw [if_neg hne] at this; simpa using this
    · obtain ⟨m, hm⟩ : ∃ m, (D n).length = m + 1 := ⟨(D n).length - 1, by have : (D n).length ≠ 0 := fun e => hne (List.eq_nil_of_length_eq_zero e); omega⟩
      rw [hm, List.range_succ_eq_map, List.flatMap_cons, chk_0]
      have hk := (okI_def _ _).1 (okZ hn)
      rw [Int.natAbs_natCast] at hk
      have ht := hk.2.2.1 (by omega)
      have hr := dig_getD hd ((D n).length - 1)
      rw [Nat.sub_zero, itoa_dec hr.1]
      have hd2 := decDigits_head ((D n).getD ((D n).length - 1) 0).toNat (by omega)
      have hp := decDigits_pos ((D n).getD ((D n).length - 1) 0).toNat
      match hh : Lib.decDigits ((D n).getD ((D n).length - 1) 0).toNat, hp with
      | y :: r, _ =>
        rw [hh] at hd2
        simpa using hd2
end Go.Proofs.YthhjcfejgoddlaaGreatDoor
end

section
/- Drawn regions, one operation at a time. -/
namespace Go.Abs
variable {P : Program} {T : Tab}
theorem planK_step {ops : Array Oper} {i : Nat} {l : List Pl} {σ : St} {X : St → Prop} (h : ∀ K : St → Prop, (∀ σ', planK P T ops l σ' X → K σ') → takeQ P T ops i σ K) : planK P T ops (.take i :: l) σ X := h _ (fun _ h => h)
theorem planK_one {ops : Array Oper} {i : Nat} {l : List Pl} {σ : St} {X : St → Prop} (h : ∀ K : St → Prop, (∀ σ', planK P T ops l σ' X → K σ') → opQ P T ops i σ K) : planK P T ops (.grp [i] :: l) σ X := by
  rw [plan_one]; exact h _ (fun _ h => h)
theorem planK_end {ops : Array Oper} {σ : St} {X : St → Prop} (h : X σ) : planK P T ops [] σ X := h
/-! Which operations wait for one, reckoned in one go. -/
def wstep (ops : Array Oper) (i : Nat) (r : List Bool) (k : Nat) : Bool :=
  match ops[k]? with
  | some o => o.after.any fun e => Region.binds .any e && (Nat.beq e.on i || r.getD e.on false)
  | none => false
def wl (ops : Array Oper) (i : Nat) : Nat → List Bool
  | 0 => []
  | k + 1 => (fun r => r ++ [wstep ops i r k]) (wl ops i k)
theorem wl_len (ops : Array Oper) (i : Nat) : ∀ k, (wl ops i k).length = k
  | 0 => rfl
  | k + 1 => by simp [wl, wl_len ops i k]
theorem waits_mono {ops : Array Oper} : ∀ {f g : Nat} {j i : Nat}, f ≤ g → waits ops f j i = true → waits ops g j i = true
  | 0, _, j, i, _, h => by simp [waits] at h
  | f + 1, 0, j, i, hg, h => by omega
  | f + 1, g + 1, j, i, hg, h => by
    unfold waits at h ⊢
    split at h
    · rename_i oj hj
      obtain ⟨e, he, hb⟩ := Array.any_eq_true'.1 h
      refine Array.any_eq_true'.2 ⟨e, he, ?_⟩
      simp only [Bool.and_eq_true, Bool.or_eq_true] at hb ⊢
      exact ⟨hb.1, hb.2.imp id (waits_mono (by omega))⟩
    · cases h
theorem wl_ok {ops : Array Oper} {i : Nat} : ∀ k j, (wl ops i k).getD j false = true → waits ops (j + 1) j i = true
  | 0, j, h => by simp [wl] at h
  | k + 1, j, h => by
    have hl := wl_len ops i k
    rw [show wl ops i (k + 1) = wl ops i k ++ [wstep ops i (wl ops i k) k] from rfl] at h
    rcases Nat.lt_trichotomy j k with g | g | g
    · refine wl_ok k j ?_
      simp only [List.getD, List.getElem?_append_left (show j < (wl ops i k).length by omega)] at h ⊢
      exact h
    · subst g
      simp only [List.getD, List.getElem?_append_right (show (wl ops i j).length ≤ j by omega), hl, Nat.sub_self, List.getElem?_cons_zero, Option.getD_some] at h
      unfold wstep at h
      unfold waits
      split at h
      · rename_i oj hj
        obtain ⟨e, he, hb⟩ := Array.any_eq_true'.1 h
        rw [hj]
        refine Array.any_eq_true'.2 ⟨e, he, ?_⟩
        simp only [Bool.and_eq_true, Bool.or_eq_true] at hb ⊢
        refine ⟨hb.1, hb.2.imp id fun h3 => ?_⟩
        have hlt : e.on < j := by
          rcases Nat.lt_or_ge e.on j with g | g
          · exact g
          · rw [List.getD, List.getElem?_eq_none (by omega)] at h3; cases h3
        exact waits_mono (by omega) (wl_ok j e.on h3)
      · cases h
    · rw [List.getD, List.getElem?_eq_none (by simp; omega)] at h; cases h
def takeOk2 (ops : Array Oper) (listed : Array Bool) (i : Nat) : Bool :=
  match ops[i]? with
  | none => false
  | some oi => quietB oi.op && (Region.ready .any ops listed).contains i && (fun r => (List.range ops.size).all fun j => Nat.beq j i || listed.getD j true || (r.getD j false || match ops[j]? with
    | some oj => oi.apart ops oj && (sfree oi.op || quietB oj.op || newB oj.op)
    | none => true)) (wl ops i ops.size)
theorem takeOk_of {ops : Array Oper} {listed : Array Bool} {i : Nat} (h : takeOk2 ops listed i = true) : takeOk ops listed i = true := by
  unfold takeOk2 at h
  unfold takeOk
  cases hi : ops[i]? with
  | none => rw [hi] at h; exact h
  | some oi =>
    rw [hi] at h
    simp only [Bool.and_eq_true, List.all_eq_true, List.mem_range] at h ⊢
    refine ⟨h.1, fun j hj => ?_⟩
    have h0 := h.2 j hj
    rw [Bool.or_eq_true] at h0 ⊢
    rcases h0 with h1 | h1
    · exact .inl h1
    · right
      rw [Bool.or_eq_true] at h1
      rw [Array.getElem?_eq_getElem hj] at h1 ⊢
      simp only at h1 ⊢
      rcases h1 with h1 | h1
      · rw [waits_mono (show j + 1 ≤ ops.size by omega) (wl_ok _ _ h1), Bool.true_or]
      · rw [h1, Bool.or_true]
def planOk2 (ops : Array Oper) : List Pl → Array Bool → Bool
  | [], listed => (Region.ready .any ops listed).isEmpty
  | .take i :: l, listed => takeOk2 ops listed i && planOk2 ops l (listed.setIfInBounds i true)
  | .grp g :: l, listed => permOk ops g.length listed g && planOk2 ops l (g.foldl (fun a i => a.setIfInBounds i true) listed)
theorem planOk_of {ops : Array Oper} : ∀ {l : List Pl} {listed : Array Bool}, planOk2 ops l listed = true → planOk ops l listed = true
  | [], _, h => h
  | .take i :: l, listed, h => by
    simp only [planOk2, planOk, Bool.and_eq_true] at h ⊢
    exact ⟨takeOk_of h.1, planOk_of h.2⟩
  | .grp g :: l, listed, h => by
    simp only [planOk2, planOk, Bool.and_eq_true] at h ⊢
    exact ⟨h.1, planOk_of h.2⟩
def plansOk2 (ops : Array Oper) (l : List Pl) : Bool := Nat.beq (lens l) ops.size && planOk2 ops l (Array.replicate ops.size false)
theorem AWp.draw2 {c : Ctx} {ro : Option Nat} {id : Nat} {ops : Array Oper} {σ : St} {Q : Exit → St → Prop} (l : List Pl) (hm : P.follows .mixedOrders = true) (hp : plansOk2 ops l = true) (hok : ops.toList.all (dstOk c.N) = true)
    (h : planK P T ops l σ fun σ' => Q .normal σ') : AWp P T c ro (.region id ops true) σ Q :=
  AWp.draw l hm (by
    unfold plansOk2 at hp
    unfold plansOk
    rw [Bool.and_eq_true] at hp ⊢
    exact ⟨hp.1, planOk_of hp.2⟩) hok h
end Go.Abs
end

section
set_option linter.unusedSimpArgs false
set_option linter.unusedVariables false
set_option maxRecDepth 100000
namespace Go.Proofs.YthhjcfejgoddlaaGreatDoor
open Go Go.Abs
attribute [local go_sem] wrap64 Int.tdiv_eq_ediv_of_nonneg Int.tmod_eq_emod_of_nonneg eq_self Bool.false_eq_true Bool.true_eq_false Bool.not_true Bool.not_false
attribute [local go_sem_proc] Nat.reduceAdd Nat.reduceMul Nat.reduceEqDiff Nat.reduceLT Nat.reduceLeDiff Int.reduceEq Int.reduceNeg Int.reduceToNat reduceCtorEq Int.reduceBNe Int.reduceBEq

def F113 (xs : List Int) (m : Nat) : St := ⟨[(0, L xs), (3, I m)], [], 0, 0⟩
theorem tr_take {xs : List Int} {m : Nat} (h : m ≤ xs.length) (h2 : tr (xs.take m) = tr xs) (h3 : m = 0 ∨ xs.getD (m - 1) 0 ≠ 0) : tr xs = xs.take m := by
  rcases h3 with h3 | h3
  · subst h3; rw [← h2]; rfl
  · rcases Nat.eq_zero_or_pos m with h0 | h0
    · subst h0; rw [← h2]; rfl
    · rw [← h2, show m = m - 1 + 1 by omega, take_last (by omega), tr_snoc_ne _ h3]
set_option maxHeartbeats 1000000 in
theorem shorn_pc (xs : List Int) (lx : xs.length ≤ 1000000) : PC Tryz.prog 113 [L xs] (L (tr xs)) := by
  refine PCr.pc (PCr.of tab_ok Tryz.func113 rfl rfl rfl fun c hc hm => ?_)
  rw [show Tryz.f113.ntmps = _ from Tryz.ntmps113] at hc
  simp only [Tryz.f113]
  repeat' first | (refine AWp.seq fun K hK => ?_) | ((first | refine AWp.region (by rw [hc]; rfl) ?_ | refine AWp.skip ?_ | refine AWp.exit ?_ | refine AWp.label ?_ | refine AWp.ret ?_ | refine appK_g ?_); simp -implicitDefEqProofs (maxSteps := 1000000) (disch := omega) only [go_sem, ↓reduceIte]) | ((first | refine hK _ ?_ | (clear hK; first | refine hK _ ?_ | (clear hK; first | refine hK _ ?_ | (clear hK; refine hK _ ?_)))); clear hK) | (refine AWp.cond ?_; simp -implicitDefEqProofs (maxSteps := 1000000) (disch := omega) only [go_sem, ↓reduceIte]; try (refine ⟨fun hlt => ?_, fun hlt => ?_⟩ <;> (try simp only [cla, clb, ne_eq, reduceCtorEq] at hlt) <;> (try exact hlt.elim))) | (refine AWp.block ?_) | ((first | refine gdO_split (fun hlt => ?_) (fun hlt => ?_) | refine tkO_split (fun hlt => ?_) (fun hlt => ?_) | refine opO_split (fun hlt => ?_) (fun hlt => ?_)) <;> have hgd := hlt <;> (try simp only [cla, clb, ne_eq, cld] at hlt) <;> (simp -implicitDefEqProofs (maxSteps := 1000000) (disch := omega) only [go_sem, ↓reduceIte, hgd]) <;> clear hgd) | (with_reducible refine And.intro ?_ ?_; · first | omega | assumption | exact ⟨_, _, rfl, rfl⟩) | fail
  refine AWp.loopInv (F113 xs) (fun m => m) (fun m => m ≤ xs.length ∧ tr (xs.take m) = tr xs) xs.length (by simp) (Sub.of0 hm id rfl ?_ ?_ (fun _ _ _ _ h => h)) ?_
  all_goals (try dsimp only)
  all_goals (first | omega | (simp -implicitDefEqProofs (maxSteps := 1000000) (disch := omega) only [F113, id, go_sem, Nat.blt_eq, Nat.reduceAdd, Nat.reduceSub, Nat.reduceEqDiff, Nat.reduceLT, ↓reduceIte, and_true, true_and, AV.dat.injEq, DV.int.injEq, DV.bool.injEq, DV.lst.injEq, eq_self_iff_true]; first | done | omega | (simp; done) | (simp; omega)) | (simp; done) | (simp; omega) | skip)
  rintro m ⟨h1, h2⟩ ih
  simp only [F113]
  have hl : (xs.take m).length = m := by simp; omega
  repeat' first | (refine AWp.seq fun K hK => ?_) | ((first | refine AWp.region (by rw [hc]; rfl) ?_ | refine AWp.skip ?_ | refine AWp.exit ?_ | refine AWp.label ?_ | refine AWp.ret ?_ | refine appK_g ?_); simp -implicitDefEqProofs (maxSteps := 1000000) (disch := omega) only [go_sem, ↓reduceIte]) | ((first | refine hK _ ?_ | (clear hK; first | refine hK _ ?_ | (clear hK; first | refine hK _ ?_ | (clear hK; refine hK _ ?_)))); clear hK) | (refine AWp.cond ?_; simp -implicitDefEqProofs (maxSteps := 1000000) (disch := omega) only [go_sem, ↓reduceIte]; try (refine ⟨fun hlt => ?_, fun hlt => ?_⟩ <;> (try simp only [cla, clb, ne_eq, reduceCtorEq] at hlt) <;> (try exact hlt.elim))) | (refine AWp.block ?_) | ((first | refine gdO_split (fun hlt => ?_) (fun hlt => ?_) | refine tkO_split (fun hlt => ?_) (fun hlt => ?_) | refine opO_split (fun hlt => ?_) (fun hlt => ?_)) <;> have hgd := hlt <;> (try simp only [cla, clb, ne_eq, cld] at hlt) <;> (simp -implicitDefEqProofs (maxSteps := 1000000) (disch := omega) only [go_sem, ↓reduceIte, hgd]) <;> clear hgd) | (with_reducible refine And.intro ?_ ?_; · first | omega | assumption | exact ⟨_, _, rfl, rfl⟩) | fail
  case refine_3.refine_1.refine_2.refine_2.refine_1 =>
    refine ih (m - 1) _ ⟨by omega, ?_⟩ (by omega) (Sub.of0 hm id rfl ?_ ?_ (fun _ _ _ _ h => h))
    · rw [← h2, show List.take m xs = List.take (m - 1) xs ++ [xs.getD (m - 1) 0] by rw [← take_last (by omega)]; congr 1; omega, hlt, tr_snoc]
    all_goals (try dsimp only)
    all_goals (first | omega | (simp -implicitDefEqProofs (maxSteps := 1000000) (disch := omega) only [F113, id, go_sem, Nat.blt_eq, Nat.reduceAdd, Nat.reduceSub, Nat.reduceEqDiff, Nat.reduceLT, ↓reduceIte, and_true, true_and, AV.dat.injEq, DV.int.injEq, DV.bool.injEq, DV.lst.injEq, eq_self_iff_true]; first | done | omega | (simp; done) | (simp; omega)) | (simp; done) | (simp; omega) | skip)
  all_goals
    have ht := tr_take h1 h2 (by first | exact .inr (by assumption) | exact .inl (by omega))
    refine ⟨fun h => ?_, fun h => ⟨by omega, ?_⟩⟩
    all_goals
      first | (refine hK _ ?_; clear hK) | (clear hK; refine hK _ ?_; clear hK) | (clear hK; clear hK; refine hK _ ?_; clear hK) | (clear hK; clear hK; clear hK; refine hK _ ?_; clear hK)
      repeat' first | (refine AWp.seq fun K hK => ?_) | ((first | refine AWp.region (by rw [hc]; rfl) ?_ | refine AWp.skip ?_ | refine AWp.exit ?_ | refine AWp.label ?_ | refine AWp.ret ?_ | refine appK_g ?_); simp -implicitDefEqProofs (maxSteps := 1000000) (disch := omega) only [go_sem, ↓reduceIte]) | ((first | refine hK _ ?_ | (clear hK; first | refine hK _ ?_ | (clear hK; first | refine hK _ ?_ | (clear hK; refine hK _ ?_)))); clear hK) | (refine AWp.cond ?_; simp -implicitDefEqProofs (maxSteps := 1000000) (disch := omega) only [go_sem, ↓reduceIte]; try (refine ⟨fun hlt => ?_, fun hlt => ?_⟩ <;> (try simp only [cla, clb, ne_eq, reduceCtorEq] at hlt) <;> (try exact hlt.elim))) | (refine AWp.block ?_) | ((first | refine gdO_split (fun hlt => ?_) (fun hlt => ?_) | refine tkO_split (fun hlt => ?_) (fun hlt => ?_) | refine opO_split (fun hlt => ?_) (fun hlt => ?_)) <;> have hgd := hlt <;> (try simp only [cla, clb, ne_eq, cld] at hlt) <;> (simp -implicitDefEqProofs (maxSteps := 1000000) (disch := omega) only [go_sem, ↓reduceIte, hgd]) <;> clear hgd) | (with_reducible refine And.intro ?_ ?_; · first | omega | assumption | exact ⟨_, _, rfl, rfl⟩) | fail
    · have h3 : List.take m xs = [] := by simpa using h
      rw [ht, h3]; rfl
    · rw [ht]
def F101 (xs ys : List Int) : Nat × List Int × Int → St := fun ⟨i, out, carry⟩ =>
  ⟨[(0, L xs), (1, L ys), (5, gL 0 (out.map eI)), (6, I carry), (7, I i)], gS 3 1 0 (out.map eI) false [], 1, 0⟩
theorem atF_lt {xs : List Int} {i : Nat} (h : i < xs.length) : atF xs i = xs.getD i 0 := by unfold atF; rw [if_pos (by omega)]; rfl
theorem atF_ge {xs : List Int} {i : Nat} (h : xs.length ≤ i) : atF xs i = 0 := by unfold atF; rw [if_neg (by omega)]
set_option maxHeartbeats 4000000 in
theorem rsum_pc (xs ys : List Int) (hx : dig xs) (hy : dig ys) (lx : xs.length ≤ 100000) (ly : ys.length ≤ 100000) :
    PC Tryz.prog 101 [L xs, L ys] (L (tr (addF xs ys (max xs.length ys.length) 0 0))) := by
  have hlen : (addF xs ys (max xs.length ys.length) 0 0).length ≤ 1000000 := by
    have := (addF_val xs ys hx hy (max xs.length ys.length) 0 0 (Int.le_refl _) (by decide) (by omega) (by omega)).2.1
    omega
  have hsh := shorn_pc _ hlen
  refine PCr.pc (PCr.of tab_ok Tryz.func101 rfl rfl rfl fun c hc hm => ?_)
  rw [show Tryz.f101.ntmps = _ from Tryz.ntmps101] at hc
  simp only [Tryz.f101]
  generalize hn : max xs.length ys.length = n at *
  repeat' first | (refine AWp.seq fun K hK => ?_) | ((first | refine AWp.region (by rw [hc]; rfl) ?_ | refine AWp.skip ?_ | refine AWp.exit ?_ | refine AWp.label ?_ | refine AWp.ret ?_ | refine appK_g ?_); simp -implicitDefEqProofs (maxSteps := 1000000) (disch := omega) only [go_sem, ↓reduceIte]) | ((first | refine hK _ ?_ | (clear hK; first | refine hK _ ?_ | (clear hK; first | refine hK _ ?_ | (clear hK; refine hK _ ?_)))); clear hK) | (refine AWp.cond ?_; simp -implicitDefEqProofs (maxSteps := 1000000) (disch := omega) only [go_sem, ↓reduceIte]; try (refine ⟨fun hlt => ?_, fun hlt => ?_⟩ <;> (try simp only [cla, clb, ne_eq, reduceCtorEq] at hlt) <;> (try exact hlt.elim))) | (refine AWp.block ?_) | ((first | refine gdO_split (fun hlt => ?_) (fun hlt => ?_) | refine tkO_split (fun hlt => ?_) (fun hlt => ?_) | refine opO_split (fun hlt => ?_) (fun hlt => ?_)) <;> have hgd := hlt <;> (try simp only [cla, clb, ne_eq, cld] at hlt) <;> (simp -implicitDefEqProofs (maxSteps := 1000000) (disch := omega) only [go_sem, ↓reduceIte, hgd]) <;> clear hgd) | (with_reducible refine And.intro ?_ ?_; · first | omega | assumption | exact ⟨_, _, rfl, rfl⟩) | fail
  refine AWp.loopInv (F101 xs ys) (fun a => n - a.1) (fun a => a.1 ≤ n ∧ 0 ≤ a.2.2 ∧ a.2.2 ≤ 1 ∧ a.2.1.length = a.1 ∧ a.2.1 ++ addF xs ys (n - a.1) a.1 a.2.2 = addF xs ys n 0 0) (0, [], 0) (by simp) (Sub.of0 hm id rfl ?_ ?_ (fun _ _ _ _ h => h)) ?_
  all_goals (try dsimp only)
  all_goals (first | omega | (simp -implicitDefEqProofs (maxSteps := 1000000) (disch := omega) only [F101, hn, id, go_sem, Nat.blt_eq, Nat.reduceAdd, Nat.reduceSub, Nat.reduceEqDiff, Nat.reduceLT, ↓reduceIte, and_true, true_and, AV.dat.injEq, DV.int.injEq, DV.bool.injEq, DV.lst.injEq, eq_self_iff_true]; first | done | omega | (simp; done) | (simp; omega)) | (simp; done) | (simp; omega) | skip)
  rintro ⟨i, out, carry⟩ ⟨h1, h2, h3, h4, h5⟩ ih
  simp only at h1 h2 h3 h4 h5
  have a1 := atF_dig hx i
  have a2 := atF_dig hy i
  have d1 := dig_getD hx i
  have d2 := dig_getD hy i
  have hx2 : i = n → PC Tryz.prog 113 [.dat (.lst (out.map eI ++ [[.int .i64 carry]]))] (L (tr (addF xs ys n 0 0))) := fun e => by
    have e2 : addF xs ys n 0 0 = out ++ [carry] := by rw [← h5, e, Nat.sub_self]; rfl
    rw [e2] at hsh ⊢
    rwa [show L (out ++ [carry]) = .dat (.lst (out.map eI ++ [[.int .i64 carry]])) by simp [L, dL, eI]] at hsh
  have key : ∀ x : Int, x = atF xs i + atF ys i + carry → i < n → (out ++ [x % 1000000000]) ++ addF xs ys (n - (i + 1)) (i + 1) (x / 1000000000) = addF xs ys n 0 0 := fun x e hi => by
    rw [← h5, show n - i = (n - (i + 1)) + 1 by omega, e]; simp [addF]
  simp only [F101]
  repeat' first | (refine AWp.seq fun K hK => ?_) | ((first | refine AWp.region (by rw [hc]; rfl) ?_ | refine AWp.skip ?_ | refine AWp.exit ?_ | refine AWp.label ?_ | refine AWp.ret ?_ | refine appK_g ?_); simp -implicitDefEqProofs (maxSteps := 1000000) (disch := omega) only [go_sem, ↓reduceIte]) | ((first | refine hK _ ?_ | (clear hK; first | refine hK _ ?_ | (clear hK; first | refine hK _ ?_ | (clear hK; refine hK _ ?_)))); clear hK) | (refine AWp.cond ?_; simp -implicitDefEqProofs (maxSteps := 1000000) (disch := omega) only [go_sem, ↓reduceIte]; try (refine ⟨fun hlt => ?_, fun hlt => ?_⟩ <;> (try simp only [cla, clb, ne_eq, reduceCtorEq] at hlt) <;> (try exact hlt.elim))) | (refine AWp.block ?_) | ((first | refine gdO_split (fun hlt => ?_) (fun hlt => ?_) | refine tkO_split (fun hlt => ?_) (fun hlt => ?_) | refine opO_split (fun hlt => ?_) (fun hlt => ?_)) <;> have hgd := hlt <;> (try simp only [cla, clb, ne_eq, cld] at hlt) <;> (simp -implicitDefEqProofs (maxSteps := 1000000) (disch := omega) only [go_sem, ↓reduceIte, hgd]) <;> clear hgd) | (with_reducible refine And.intro ?_ ?_; · first | omega | assumption | exact ⟨_, _, rfl, rfl⟩) | ((first | refine ⟨_, hx2 (by omega), ?_⟩); simp -implicitDefEqProofs (maxSteps := 1000000) (disch := omega) only [go_sem, ↓reduceIte]) | fail
  · have e1 := atF_lt (xs := xs) (i := i) (by omega)
    have e2 := atF_lt (xs := ys) (i := i) (by omega)
    have hxx : (carry + xs.getD i 0 + ys.getD i 0) = atF xs i + atF ys i + carry := by omega
    refine ih (i + 1, out ++ [(carry + xs.getD i 0 + ys.getD i 0) % 1000000000], (carry + xs.getD i 0 + ys.getD i 0) / 1000000000) _ ⟨by simp only; omega, by simp only; omega, by simp only; omega, by simp only [List.length_append, List.length_cons, List.length_nil]; omega, key _ hxx (by omega)⟩ (by simp only; omega) (Sub.of0 hm (fun _ => 2) rfl ?_ ?_ ?_)
    all_goals (try dsimp only)
    all_goals (first | omega | (simp -implicitDefEqProofs (maxSteps := 1000000) (disch := omega) only [F101, id, go_sem, Nat.blt_eq, Nat.reduceAdd, Nat.reduceSub, Nat.reduceEqDiff, Nat.reduceLT, ↓reduceIte, and_true, true_and, AV.dat.injEq, DV.int.injEq, DV.bool.injEq, DV.lst.injEq, eq_self_iff_true]; first | done | omega | (simp; done) | (simp; omega)) | (simp; done) | (simp; omega) | skip)
  · have e1 := atF_lt (xs := xs) (i := i) (by omega)
    have e2 := atF_ge (xs := ys) (i := i) (by omega)
    have hxx : (carry + xs.getD i 0) = atF xs i + atF ys i + carry := by omega
    refine ih (i + 1, out ++ [(carry + xs.getD i 0) % 1000000000], (carry + xs.getD i 0) / 1000000000) _ ⟨by simp only; omega, by simp only; omega, by simp only; omega, by simp only [List.length_append, List.length_cons, List.length_nil]; omega, key _ hxx (by omega)⟩ (by simp only; omega) (Sub.of0 hm (fun _ => 2) rfl ?_ ?_ ?_)
    all_goals (try dsimp only)
    all_goals (first | omega | (simp -implicitDefEqProofs (maxSteps := 1000000) (disch := omega) only [F101, id, go_sem, Nat.blt_eq, Nat.reduceAdd, Nat.reduceSub, Nat.reduceEqDiff, Nat.reduceLT, ↓reduceIte, and_true, true_and, AV.dat.injEq, DV.int.injEq, DV.bool.injEq, DV.lst.injEq, eq_self_iff_true]; first | done | omega | (simp; done) | (simp; omega)) | (simp; done) | (simp; omega) | skip)
  · have e1 := atF_ge (xs := xs) (i := i) (by omega)
    have e2 := atF_lt (xs := ys) (i := i) (by omega)
    have hxx : (carry + ys.getD i 0) = atF xs i + atF ys i + carry := by omega
    refine ih (i + 1, out ++ [(carry + ys.getD i 0) % 1000000000], (carry + ys.getD i 0) / 1000000000) _ ⟨by simp only; omega, by simp only; omega, by simp only; omega, by simp only [List.length_append, List.length_cons, List.length_nil]; omega, key _ hxx (by omega)⟩ (by simp only; omega) (Sub.of0 hm (fun _ => 2) rfl ?_ ?_ ?_)
    all_goals (try dsimp only)
    all_goals (first | omega | (simp -implicitDefEqProofs (maxSteps := 1000000) (disch := omega) only [F101, id, go_sem, Nat.blt_eq, Nat.reduceAdd, Nat.reduceSub, Nat.reduceEqDiff, Nat.reduceLT, ↓reduceIte, and_true, true_and, AV.dat.injEq, DV.int.injEq, DV.bool.injEq, DV.lst.injEq, eq_self_iff_true]; first | done | omega | (simp; done) | (simp; omega)) | (simp; done) | (simp; omega) | skip)
  · have e1 := atF_ge (xs := xs) (i := i) (by omega)
    have e2 := atF_ge (xs := ys) (i := i) (by omega)
    have hxx : carry = atF xs i + atF ys i + carry := by omega
    refine ih (i + 1, out ++ [carry % 1000000000], carry / 1000000000) _ ⟨by simp only; omega, by simp only; omega, by simp only; omega, by simp only [List.length_append, List.length_cons, List.length_nil]; omega, key _ hxx (by omega)⟩ (by simp only; omega) (Sub.of0 hm (fun _ => 2) rfl ?_ ?_ ?_)
    all_goals (try dsimp only)
    all_goals (first | omega | (simp -implicitDefEqProofs (maxSteps := 1000000) (disch := omega) only [F101, id, go_sem, Nat.blt_eq, Nat.reduceAdd, Nat.reduceSub, Nat.reduceEqDiff, Nat.reduceLT, ↓reduceIte, and_true, true_and, AV.dat.injEq, DV.int.injEq, DV.bool.injEq, DV.lst.injEq, eq_self_iff_true]; first | done | omega | (simp; done) | (simp; omega)) | (simp; done) | (simp; omega) | skip)
  all_goals trace_state
end Go.Proofs.YthhjcfejgoddlaaGreatDoor
end

section
set_option linter.unusedSimpArgs false
set_option linter.unusedVariables false
set_option maxRecDepth 100000
namespace Go.Proofs.YthhjcfejgoddlaaGreatDoor
open Go Go.Abs
attribute [local go_sem] wrap64 Int.tdiv_eq_ediv_of_nonneg Int.tmod_eq_emod_of_nonneg eq_self Bool.false_eq_true Bool.true_eq_false Bool.not_true Bool.not_false
attribute [local go_sem_proc] Nat.reduceAdd Nat.reduceMul Nat.reduceEqDiff Nat.reduceLT Nat.reduceLeDiff Int.reduceEq Int.reduceNeg Int.reduceToNat reduceCtorEq Int.reduceBNe Int.reduceBEq

theorem rsum_D (m n : Nat) (lm : (D m).length ≤ 100000) (ln : (D n).length ≤ 100000) : PC Tryz.prog 101 [L (D m), L (D n)] (L (D (m + n))) := by
  have h := rsum_pc (D m) (D n) (dig_D m) (dig_D n) lm ln
  obtain ⟨g1, _, g3⟩ := add_D m n
  rwa [tr_D g1, g3, Int.toNat_natCast] at h
end Go.Proofs.YthhjcfejgoddlaaGreatDoor
end

section
set_option linter.unusedSimpArgs false
set_option linter.unusedVariables false
set_option maxRecDepth 100000
namespace Go.Proofs.YthhjcfejgoddlaaGreatDoor
open Go Go.Abs
attribute [local go_sem] wrap64 Int.tdiv_eq_ediv_of_nonneg Int.tmod_eq_emod_of_nonneg eq_self Bool.false_eq_true Bool.true_eq_false Bool.not_true Bool.not_false
attribute [local go_sem_proc] Nat.reduceAdd Nat.reduceMul Nat.reduceEqDiff Nat.reduceLT Nat.reduceLeDiff Int.reduceEq Int.reduceNeg Int.reduceToNat reduceCtorEq Int.reduceBNe Int.reduceBEq

theorem Bp_add (i k : Nat) : Bp (i + k) = Bp i * Bp k := by unfold Bp; exact Int.pow_add _ _ _
theorem tk_step {l l' ys : List Int} {i k : Nat} {a cy x : Int} (hk : k < ys.length) (hl : i + k < l'.length) (hx : x = l'.getD (i + k) 0 + a * ys.getD k 0 + cy) (h : val l' + cy * Bp (i + k) = val l + a * val (ys.take k) * Bp i) :
    val (l'.set (i + k) (x % 1000000000)) + x / 1000000000 * Bp (i + (k + 1)) = val l + a * val (ys.take (k + 1)) * Bp i := by
  rw [val_set _ _ _ hl, show i + (k + 1) = (i + k) + 1 by omega, Bp_succ, take_last hk, val_append, List.length_take, Nat.min_eq_left (by omega), show x % 1000000000 = x - 1000000000 * (x / 1000000000) by omega]
  rw [Bp_add] at *
  have e : val [ys.getD k 0] = ys.getD k 0 := by simp [val]
  rw [e]
  generalize x / 1000000000 = q at *
  generalize l'.getD (i + k) 0 = p at *
  subst hx
  grind
def F104 (xs ys : List Int) : Nat × List Int → St := fun ⟨i, l⟩ => ⟨[(0, L xs), (1, L ys), (5, .own 0), (6, I i)], [(0, .row 3 1 (l.map eI) false)], 1, 0⟩
def G104 (xs ys : List Int) (i : Nat) : Nat × Int × List Int → St := fun ⟨k, cy, l⟩ => ⟨[(0, L xs), (1, L ys), (5, .own 0), (6, I i), (7, I cy), (8, I k)], [(0, .row 3 1 (l.map eI) false)], 1, 0⟩
set_option maxHeartbeats 4000000 in
theorem rtimes_pc (xs ys : List Int) (hx : dig xs) (hy : dig ys) (lx : xs.length ≤ 1000) (ly : ys.length ≤ 1000) : PC Tryz.prog 104 [L xs, L ys] (L (D (val xs * val ys).toNat)) := by
  refine PCr.pc (PCr.of tab_ok Tryz.func104 rfl rfl rfl fun c hc hm => ?_)
  rw [show Tryz.f104.ntmps = _ from Tryz.ntmps104] at hc
  simp only [Tryz.f104]
  repeat' first | (refine AWp.seq fun K hK => ?_) | ((first | refine AWp.draw (id := 9) [.take 0, .take 1, .take 2, .take 3, .take 4, .take 5, .take 6, .take 7, .take 8, .take 9, .take 10, .take 11, .take 12, .take 13, .take 14, .take 15, .take 16, .take 17, .take 18] mixed_ok (by kernel_rfl) (by rw [hc]; rfl) ?_ | refine AWp.region (by rw [hc]; rfl) ?_ | refine AWp.skip ?_ | refine AWp.exit ?_ | refine AWp.label ?_ | refine AWp.ret ?_ | refine appK_g ?_); simp -implicitDefEqProofs (maxSteps := 1000000) (disch := omega) only [go_sem, ↓reduceIte]) | ((first | refine hK _ ?_ | (clear hK; first | refine hK _ ?_ | (clear hK; first | refine hK _ ?_ | (clear hK; refine hK _ ?_)))); clear hK) | (refine AWp.cond ?_; simp -implicitDefEqProofs (maxSteps := 1000000) (disch := omega) only [go_sem, ↓reduceIte]; try (refine ⟨fun hlt => ?_, fun hlt => ?_⟩ <;> (try simp only [cla, clb, ne_eq, reduceCtorEq] at hlt) <;> (try exact hlt.elim))) | (refine AWp.block ?_) | ((first | refine gdO_split (fun hlt => ?_) (fun hlt => ?_) | refine tkO_split (fun hlt => ?_) (fun hlt => ?_) | refine opO_split (fun hlt => ?_) (fun hlt => ?_)) <;> have hgd := hlt <;> (try simp only [cla, clb, ne_eq, cld] at hlt) <;> (simp -implicitDefEqProofs (maxSteps := 1000000) (disch := omega) only [go_sem, ↓reduceIte, hgd]) <;> clear hgd) | (with_reducible refine And.intro ?_ ?_; · first | omega | assumption | exact ⟨_, _, rfl, rfl⟩) | fail
  have hrep : (List.replicate (↑xs.length + ↑ys.length + 1 : Int).toNat [DV.int IntKind.i64 0]) = (List.replicate (xs.length + ys.length + 1) (0 : Int)).map eI := by
    rw [List.map_replicate, show (↑xs.length + ↑ys.length + 1 : Int).toNat = xs.length + ys.length + 1 by omega]; rfl
  rw [hrep]
  refine AWp.loopInv (F104 xs ys) (fun a => xs.length - a.1) (fun a => a.1 ≤ xs.length ∧ dig a.2 ∧ a.2.length = xs.length + ys.length + 1 ∧ val a.2 = val (xs.take a.1) * val ys ∧ ∀ j, a.1 + ys.length ≤ j → a.2.getD j 0 = 0) (0, List.replicate (xs.length + ys.length + 1) 0) ⟨Nat.zero_le _, fun x hx => by rw [List.eq_of_mem_replicate hx]; decide, by simp, by rw [val_replicate0]; simp [val], fun j _ => by simp [List.getD, List.getElem?_replicate]; split <;> rfl⟩ (Sub.of0 hm id rfl ?_ ?_ (fun _ _ _ _ h => h)) ?_
  all_goals (try dsimp only)
  all_goals (first | omega | (simp -implicitDefEqProofs (maxSteps := 1000000) (disch := omega) only [F104, id, go_sem, Nat.blt_eq, Nat.reduceAdd, Nat.reduceSub, Nat.reduceEqDiff, Nat.reduceLT, ↓reduceIte, and_true, true_and, AV.dat.injEq, DV.int.injEq, DV.bool.injEq, DV.lst.injEq, eq_self_iff_true]; first | done | omega | (simp; done) | (simp; omega)) | (simp; done) | (simp; omega) | skip)
  rintro ⟨i, l⟩ ⟨h1, h2, h3, h4, h5⟩ ih
  simp only at h1 h2 h3 h4 h5
  simp only [F104]
  repeat' first | (refine AWp.seq fun K hK => ?_) | ((first | refine AWp.draw (id := 9) [.take 0, .take 1, .take 2, .take 3, .take 4, .take 5, .take 6, .take 7, .take 8, .take 9, .take 10, .take 11, .take 12, .take 13, .take 14, .take 15, .take 16, .take 17, .take 18] mixed_ok (by kernel_rfl) (by rw [hc]; rfl) ?_ | refine AWp.region (by rw [hc]; rfl) ?_ | refine AWp.skip ?_ | refine AWp.exit ?_ | refine AWp.label ?_ | refine AWp.ret ?_ | refine appK_g ?_); simp -implicitDefEqProofs (maxSteps := 1000000) (disch := omega) only [go_sem, ↓reduceIte]) | ((first | refine hK _ ?_ | (clear hK; first | refine hK _ ?_ | (clear hK; first | refine hK _ ?_ | (clear hK; refine hK _ ?_)))); clear hK) | (refine AWp.cond ?_; simp -implicitDefEqProofs (maxSteps := 1000000) (disch := omega) only [go_sem, ↓reduceIte]; try (refine ⟨fun hlt => ?_, fun hlt => ?_⟩ <;> (try simp only [cla, clb, ne_eq, reduceCtorEq] at hlt) <;> (try exact hlt.elim))) | (refine AWp.block ?_) | ((first | refine gdO_split (fun hlt => ?_) (fun hlt => ?_) | refine tkO_split (fun hlt => ?_) (fun hlt => ?_) | refine opO_split (fun hlt => ?_) (fun hlt => ?_)) <;> have hgd := hlt <;> (try simp only [cla, clb, ne_eq, cld] at hlt) <;> (simp -implicitDefEqProofs (maxSteps := 1000000) (disch := omega) only [go_sem, ↓reduceIte, hgd]) <;> clear hgd) | (with_reducible refine And.intro ?_ ?_; · first | omega | assumption | exact ⟨_, _, rfl, rfl⟩) | fail
  · have hai := dig_getD hx i
    refine AWp.loopInv (G104 xs ys i) (fun a => ys.length - a.1) (fun a => a.1 ≤ ys.length ∧ 0 ≤ a.2.1 ∧ a.2.1 < 1000000000 ∧ dig a.2.2 ∧ a.2.2.length = xs.length + ys.length + 1 ∧ val a.2.2 + a.2.1 * Bp (i + a.1) = val l + xs.getD i 0 * val (ys.take a.1) * Bp i ∧ ∀ j, i + ys.length ≤ j → a.2.2.getD j 0 = 0) (0, 0, l) ⟨Nat.zero_le _, by simp, by simp, h2, h3, by simp [val], h5⟩ (Sub.of0 hm id rfl ?_ ?_ (fun _ _ _ _ h => h)) ?_
    all_goals (try dsimp only)
    all_goals (first | omega | (simp -implicitDefEqProofs (maxSteps := 1000000) (disch := omega) only [G104, id, go_sem, Nat.blt_eq, Nat.reduceAdd, Nat.reduceSub, Nat.reduceEqDiff, Nat.reduceLT, ↓reduceIte, and_true, true_and, AV.dat.injEq, DV.int.injEq, DV.bool.injEq, DV.lst.injEq, eq_self_iff_true]; first | done | omega | (simp; done) | (simp; omega)) | (simp; done) | (simp; omega) | skip)
    rintro ⟨k, cy, l'⟩ ⟨g1, g2, g3, g4, g5, g6, g7⟩ ih2
    simp only at g1 g2 g3 g4 g5 g6 g7
    have hbk := dig_getD hy k
    have hlk := dig_getD g4 (i + k)
    have hp1 : xs.getD i 0 * ys.getD k 0 ≤ 999999999 * 999999999 := Int.mul_le_mul (by omega) (by omega) hbk.1 (by omega)
    have hp : 0 ≤ xs.getD i 0 * ys.getD k 0 := Int.mul_nonneg hai.1 hbk.1
    have g8 := g7 (i + ys.length) (Nat.le_refl _)
    simp only [G104]
    repeat' first | (refine AWp.seq fun K hK => ?_) | ((first | refine AWp.draw (id := 9) [.take 0, .take 1, .take 2, .take 3, .take 4, .take 5, .take 6, .take 7, .take 8, .take 9, .take 10, .take 11, .take 12, .take 13, .take 14, .take 15, .take 16, .take 17, .take 18] mixed_ok (by kernel_rfl) (by rw [hc]; rfl) ?_ | refine AWp.region (by rw [hc]; rfl) ?_ | refine AWp.skip ?_ | refine AWp.exit ?_ | refine AWp.label ?_ | refine AWp.ret ?_ | refine appK_g ?_); simp -implicitDefEqProofs (maxSteps := 1000000) (disch := omega) only [go_sem, ↓reduceIte, g8, Int.zero_add]) | ((first | refine hK _ ?_ | (clear hK; first | refine hK _ ?_ | (clear hK; first | refine hK _ ?_ | (clear hK; refine hK _ ?_)))); clear hK) | (refine AWp.cond ?_; simp -implicitDefEqProofs (maxSteps := 1000000) (disch := omega) only [go_sem, ↓reduceIte, g8, Int.zero_add]; try (refine ⟨fun hlt => ?_, fun hlt => ?_⟩ <;> (try simp only [cla, clb, ne_eq, reduceCtorEq] at hlt) <;> (try exact hlt.elim))) | (refine AWp.block ?_) | ((first | refine gdO_split (fun hlt => ?_) (fun hlt => ?_) | refine tkO_split (fun hlt => ?_) (fun hlt => ?_) | refine opO_split (fun hlt => ?_) (fun hlt => ?_)) <;> have hgd := hlt <;> (try simp only [cla, clb, ne_eq, cld] at hlt) <;> (simp -implicitDefEqProofs (maxSteps := 1000000) (disch := omega) only [go_sem, ↓reduceIte, g8, Int.zero_add, hgd]) <;> clear hgd) | (with_reducible refine And.intro ?_ ?_; · first | omega | assumption | exact ⟨_, _, rfl, rfl⟩) | fail
    · generalize hxx : l'.getD (i + k) 0 + xs.getD i 0 * ys.getD k 0 + cy = x at *
      refine ih2 (k + 1, x / 1000000000, l'.set (i + k) (x % 1000000000)) _ ⟨by simp only; omega, by simp only; omega, by simp only; omega, dig_set g4 _ (by omega), by simp only [List.length_set]; exact g5, tk_step (by omega) (by omega) hxx.symm g6, fun j hj => ?_⟩ (by simp only; omega) (Sub.of0 hm id rfl ?_ ?_ (fun _ _ _ _ h => h))
      · rw [getD_set_ne _ _ _ _ (by omega)]; exact g7 j hj
      all_goals (try dsimp only)
      all_goals (first | omega | (simp -implicitDefEqProofs (maxSteps := 1000000) (disch := omega) only [G104, id, go_sem, Nat.blt_eq, Nat.reduceAdd, Nat.reduceSub, Nat.reduceEqDiff, Nat.reduceLT, ↓reduceIte, and_true, true_and, AV.dat.injEq, DV.int.injEq, DV.bool.injEq, DV.lst.injEq, eq_self_iff_true]; first | done | omega | (simp; done) | (simp; omega)) | (simp; done) | (simp; omega) | skip)
    · have hke : k = ys.length := by omega
      subst hke
      rw [List.take_length] at g6
      refine ih (i + 1, l'.set (i + ys.length) cy) _ ⟨by simp only; omega, dig_set g4 _ (by omega), by simp only [List.length_set]; exact g5, ?_, fun j hj => ?_⟩ (by simp only; omega) (Sub.of0 hm id rfl ?_ ?_ (fun _ _ _ _ h => h))
      · simp only
        rw [val_set _ _ _ (by omega), g8, Int.sub_zero, g6, h4, take_last (by omega), val_append, List.length_take, Nat.min_eq_left h1]
        have e : val [xs.getD i 0] = xs.getD i 0 := by simp [val]
        rw [e]; grind
      · rw [getD_set_ne _ _ _ _ (by simp only at hj; omega)]; exact g7 j (by simp only at hj; omega)
      all_goals (try dsimp only)
      all_goals (first | omega | (simp -implicitDefEqProofs (maxSteps := 1000000) (disch := omega) only [F104, id, go_sem, Nat.blt_eq, Nat.reduceAdd, Nat.reduceSub, Nat.reduceEqDiff, Nat.reduceLT, ↓reduceIte, and_true, true_and, AV.dat.injEq, DV.int.injEq, DV.bool.injEq, DV.lst.injEq, eq_self_iff_true]; first | done | omega | (simp; done) | (simp; omega)) | (simp; done) | (simp; omega) | skip)
  · have hie : i = xs.length := by omega
    subst hie
    rw [List.take_length] at h4
    have hsh := shorn_pc l (by omega)
    rw [tr_D h2, h4] at hsh
    refine ⟨_, hsh, ?_⟩
    try simp -implicitDefEqProofs (maxSteps := 1000000) (disch := omega) only [go_sem, ↓reduceIte]
    first | (refine hK _ ?_; clear hK) | (clear hK; refine hK _ ?_; clear hK) | (clear hK; clear hK; refine hK _ ?_; clear hK) | (clear hK; clear hK; clear hK; refine hK _ ?_; clear hK)
    repeat' first | (refine AWp.seq fun K hK => ?_) | ((first | refine AWp.draw (id := 9) [.take 0, .take 1, .take 2, .take 3, .take 4, .take 5, .take 6, .take 7, .take 8, .take 9, .take 10, .take 11, .take 12, .take 13, .take 14, .take 15, .take 16, .take 17, .take 18] mixed_ok (by kernel_rfl) (by rw [hc]; rfl) ?_ | refine AWp.region (by rw [hc]; rfl) ?_ | refine AWp.skip ?_ | refine AWp.exit ?_ | refine AWp.label ?_ | refine AWp.ret ?_ | refine appK_g ?_); simp -implicitDefEqProofs (maxSteps := 1000000) (disch := omega) only [go_sem, ↓reduceIte]) | ((first | refine hK _ ?_ | (clear hK; first | refine hK _ ?_ | (clear hK; first | refine hK _ ?_ | (clear hK; refine hK _ ?_)))); clear hK) | (refine AWp.cond ?_; simp -implicitDefEqProofs (maxSteps := 1000000) (disch := omega) only [go_sem, ↓reduceIte]; try (refine ⟨fun hlt => ?_, fun hlt => ?_⟩ <;> (try simp only [cla, clb, ne_eq, reduceCtorEq] at hlt) <;> (try exact hlt.elim))) | (refine AWp.block ?_) | ((first | refine gdO_split (fun hlt => ?_) (fun hlt => ?_) | refine tkO_split (fun hlt => ?_) (fun hlt => ?_) | refine opO_split (fun hlt => ?_) (fun hlt => ?_)) <;> have hgd := hlt <;> (try simp only [cla, clb, ne_eq, cld] at hlt) <;> (simp -implicitDefEqProofs (maxSteps := 1000000) (disch := omega) only [go_sem, ↓reduceIte, hgd]) <;> clear hgd) | (with_reducible refine And.intro ?_ ?_; · first | omega | assumption | exact ⟨_, _, rfl, rfl⟩) | fail
theorem rtimes_D (m n : Nat) (lm : (D m).length ≤ 1000) (ln : (D n).length ≤ 1000) : PC Tryz.prog 104 [L (D m), L (D n)] (L (D (m * n))) := by
  have h := rtimes_pc (D m) (D n) (dig_D m) (dig_D n) lm ln
  rw [val_D, val_D] at h
  rwa [show ((m : Int) * n).toNat = m * n by rw [← Int.natCast_mul]; rfl] at h
end Go.Proofs.YthhjcfejgoddlaaGreatDoor
end

section
set_option linter.unusedSimpArgs false
set_option linter.unusedVariables false
set_option maxRecDepth 100000
namespace Go.Proofs.YthhjcfejgoddlaaGreatDoor
open Go Go.Abs
attribute [local go_sem] wrap64 Int.tdiv_eq_ediv_of_nonneg Int.tmod_eq_emod_of_nonneg eq_self Bool.false_eq_true Bool.true_eq_false Bool.not_true Bool.not_false
attribute [local go_sem_proc] Nat.reduceAdd Nat.reduceMul Nat.reduceEqDiff Nat.reduceLT Nat.reduceLeDiff Int.reduceEq Int.reduceNeg Int.reduceToNat reduceCtorEq Int.reduceBNe Int.reduceBEq

theorem shorn_one (x : Nat) (h : x < 1000000000) : PC Tryz.prog 113 [.dat (.lst [[.int .i64 (x : Int)]])] (L (D x)) := by
  have hs := shorn_pc [(x : Int)] (by simp)
  have hd : dig [(x : Int)] := fun y hy => by rw [List.mem_singleton.1 hy]; omega
  rw [tr_D hd, show val [(x : Int)] = x by simp [val], Int.toNat_natCast] at hs
  exact hs
theorem len1 {x : Nat} (h : x < 1000000000) : (D x).length ≤ 1 := D_one_len h
theorem D_sm {n : Nat} (h0 : n ≠ 0) (h1 : n < 1000000000) : D n = [(n : Int)] := by
  rw [D_pos h0, show n / 1000000000 = 0 by omega, D_zero, show n % 1000000000 = n by omega]
end Go.Proofs.YthhjcfejgoddlaaGreatDoor
end

section
set_option linter.unusedSimpArgs false
set_option linter.unusedVariables false
set_option maxRecDepth 100000
namespace Go.Proofs.YthhjcfejgoddlaaGreatDoor
open Go Go.Abs
attribute [local go_sem] wrap64 Int.tdiv_eq_ediv_of_nonneg Int.tmod_eq_emod_of_nonneg eq_self Bool.false_eq_true Bool.true_eq_false Bool.not_true Bool.not_false
attribute [local go_sem_proc] Nat.reduceAdd Nat.reduceMul Nat.reduceEqDiff Nat.reduceLT Nat.reduceLeDiff Int.reduceEq Int.reduceNeg Int.reduceToNat reduceCtorEq Int.reduceBNe Int.reduceBEq

def F64 (neg : Bool) : Nat × List Int → St := fun ⟨m, out⟩ => ⟨[(2, .ptr 0 0), (0, I (sg neg m)), (3, B neg), (4, gL 1 (out.map eI))], gS 3 1 1 (out.map eI) false [(0, .box [B false, .nil] false)], 2, 0⟩
theorem tmod_neg (m : Nat) : (-(m : Int)).tmod 1000000000 = -((m : Int) % 1000000000) := by
  rw [Int.neg_tmod, Int.tmod_eq_emod_of_nonneg (by omega)]
theorem tdiv_neg (m : Nat) : (-(m : Int)).tdiv 1000000000 = -((m : Int) / 1000000000) := by
  rw [Int.neg_tdiv, Int.tdiv_eq_ediv_of_nonneg (by omega)]
set_option maxHeartbeats 2000000 in
theorem rFromInt_pc (n : Int) (h0 : -9223372036854775808 ≤ n) (h1 : n ≤ 9223372036854775807) : PC Tryz.prog 64 [I n] (Z n) := by
  show PC Tryz.prog 64 [I n] (Zr (decide (n < 0)) (D n.natAbs))
  refine PCr.pc (PCr.of tab_ok Tryz.func64 rfl rfl rfl fun c hc hm => ?_)
  rw [show Tryz.f64.ntmps = _ from Tryz.ntmps64] at hc
  simp only [Tryz.f64]
  repeat' first | (refine AWp.seq fun K hK => ?_) | ((first | refine AWp.region (by rw [hc]; rfl) ?_ | refine AWp.skip ?_ | refine AWp.exit ?_ | refine AWp.label ?_ | refine AWp.ret ?_ | refine appK_g ?_); simp -implicitDefEqProofs (maxSteps := 1000000) (disch := omega) only [go_sem, ↓reduceIte]) | ((first | refine hK _ ?_ | (clear hK; first | refine hK _ ?_ | (clear hK; first | refine hK _ ?_ | (clear hK; refine hK _ ?_)))); clear hK) | (refine AWp.cond ?_; simp -implicitDefEqProofs (maxSteps := 1000000) (disch := omega) only [go_sem, ↓reduceIte]; try (refine ⟨fun hlt => ?_, fun hlt => ?_⟩ <;> (try simp only [cla, clb, ne_eq, reduceCtorEq] at hlt) <;> (try exact hlt.elim))) | (refine AWp.block ?_) | ((first | refine gdO_split (fun hlt => ?_) (fun hlt => ?_) | refine tkO_split (fun hlt => ?_) (fun hlt => ?_) | refine opO_split (fun hlt => ?_) (fun hlt => ?_)) <;> have hgd := hlt <;> (try simp only [cla, clb, ne_eq, cld] at hlt) <;> (simp -implicitDefEqProofs (maxSteps := 1000000) (disch := omega) only [go_sem, ↓reduceIte, hgd]) <;> clear hgd) | (with_reducible refine And.intro ?_ ?_; · first | omega | assumption | exact ⟨_, _, rfl, rfl⟩) | fail
  have e0 : I n = I (sg (decide (n < 0)) n.natAbs) := by rw [Z_sg]
  have hN : n.natAbs ≤ 9223372036854775808 := by omega
  refine AWp.loopInv (F64 (decide (n < 0))) (fun a => a.1) (fun a => a.1 ≤ n.natAbs ∧ a.2 ++ D a.1 = D n.natAbs ∧ a.2.length ≤ 1000) (n.natAbs, []) ⟨Nat.le_refl _, rfl, by simp⟩ (Sub.of0 hm id rfl ?_ ?_ (fun _ _ _ _ h => h)) ?_
  all_goals (try dsimp only)
  all_goals (first | omega | (simp -implicitDefEqProofs (maxSteps := 1000000) (disch := omega) only [F64, Z_sg, id, go_sem, Nat.blt_eq, Nat.reduceAdd, Nat.reduceSub, Nat.reduceEqDiff, Nat.reduceLT, ↓reduceIte, and_true, true_and, AV.dat.injEq, DV.int.injEq, DV.bool.injEq, DV.lst.injEq, eq_self_iff_true]; first | done | omega | (simp; done) | (simp; omega)) | (simp; done) | (simp; omega) | skip)
  rintro ⟨m, out⟩ ⟨g1, g2, g3⟩ ih
  simp only at g1 g2 g3
  simp only [F64]
  by_cases hm0 : m = 0
  · subst hm0
    rw [D_zero, List.append_nil] at g2
    have hsg : sg (decide (n < 0)) 0 = 0 := by unfold sg; split <;> rfl
    rw [hsg]
    generalize decide (n < 0) = neg at *
    rcases out with _ | ⟨o, os⟩
    · repeat' first | (exact absurd hlt (by decide)) | (refine AWp.seq fun K hK => ?_) | ((first | refine AWp.region (by rw [hc]; rfl) ?_ | refine AWp.skip ?_ | refine AWp.exit ?_ | refine AWp.label ?_ | refine AWp.ret ?_ | refine appK_g ?_); simp -implicitDefEqProofs (maxSteps := 1000000) (disch := omega) only [go_sem, ↓reduceIte, gL, gS, List.map_nil]) | ((first | refine hK _ ?_ | (clear hK; first | refine hK _ ?_ | (clear hK; first | refine hK _ ?_ | (clear hK; refine hK _ ?_)))); clear hK) | (refine AWp.cond ?_; simp -implicitDefEqProofs (maxSteps := 1000000) (disch := omega) only [go_sem, ↓reduceIte, gL, gS, List.map_nil]; try (refine ⟨fun hlt => ?_, fun hlt => ?_⟩ <;> (try simp only [cla, clb, ne_eq, reduceCtorEq] at hlt) <;> (try exact hlt.elim))) | (refine AWp.block ?_) | ((first | refine gdO_split (fun hlt => ?_) (fun hlt => ?_) | refine tkO_split (fun hlt => ?_) (fun hlt => ?_) | refine opO_split (fun hlt => ?_) (fun hlt => ?_)) <;> have hgd := hlt <;> (try simp only [cla, clb, ne_eq, cld] at hlt) <;> (simp -implicitDefEqProofs (maxSteps := 1000000) (disch := omega) only [go_sem, ↓reduceIte, gL, gS, List.map_nil, hgd]) <;> clear hgd) | (with_reducible refine And.intro ?_ ?_; · first | omega | assumption | exact ⟨_, _, rfl, rfl⟩) | fail
      rw [← g2]; rfl
    · repeat' first | (exact absurd hlt (by decide)) | (refine AWp.seq fun K hK => ?_) | ((first | refine AWp.region (by rw [hc]; rfl) ?_ | refine AWp.skip ?_ | refine AWp.exit ?_ | refine AWp.label ?_ | refine AWp.ret ?_ | refine appK_g ?_); simp -implicitDefEqProofs (maxSteps := 1000000) (disch := omega) only [go_sem, ↓reduceIte, gL, gS, List.map_cons]) | ((first | refine hK _ ?_ | (clear hK; first | refine hK _ ?_ | (clear hK; first | refine hK _ ?_ | (clear hK; refine hK _ ?_)))); clear hK) | (refine AWp.cond ?_; simp -implicitDefEqProofs (maxSteps := 1000000) (disch := omega) only [go_sem, ↓reduceIte, gL, gS, List.map_cons]; try (refine ⟨fun hlt => ?_, fun hlt => ?_⟩ <;> (try simp only [cla, clb, ne_eq, reduceCtorEq] at hlt) <;> (try exact hlt.elim))) | (refine AWp.block ?_) | ((first | refine gdO_split (fun hlt => ?_) (fun hlt => ?_) | refine tkO_split (fun hlt => ?_) (fun hlt => ?_) | refine opO_split (fun hlt => ?_) (fun hlt => ?_)) <;> have hgd := hlt <;> (try simp only [cla, clb, ne_eq, cld] at hlt) <;> (simp -implicitDefEqProofs (maxSteps := 1000000) (disch := omega) only [go_sem, ↓reduceIte, gL, gS, List.map_cons, hgd]) <;> clear hgd) | (with_reducible refine And.intro ?_ ?_; · first | omega | assumption | exact ⟨_, _, rfl, rfl⟩) | fail
      rw [← g2]; rfl
  · have hlen : ∀ k, (out ++ [k]).length ≤ 1000 := fun k => by
      have h1 := congrArg List.length g2
      rw [List.length_append, D_pos hm0] at h1
      simp only [List.length_cons] at h1
      have h2 : (D n.natAbs).length ≤ 3 := Nat.le_trans (D_len_le (n := 9223372036854775808) hN) (by decide +kernel)
      simp only [List.length_append, List.length_cons, List.length_nil]; omega
    have hstep : (out ++ [((m % 1000000000 : Nat) : Int)]) ++ D (m / 1000000000) = D n.natAbs := by
      rw [← g2, D_pos hm0]; simp
    generalize decide (n < 0) = neg at *
    cases neg
    all_goals
      simp only [sg, Bool.false_eq_true, ↓reduceIte]
      repeat' first | (exact absurd hlt (by decide)) | (refine AWp.seq fun K hK => ?_) | ((first | refine AWp.region (by rw [hc]; rfl) ?_ | refine AWp.skip ?_ | refine AWp.exit ?_ | refine AWp.label ?_ | refine AWp.ret ?_ | refine appK_g ?_); simp -implicitDefEqProofs (maxSteps := 1000000) (disch := omega) only [go_sem, ↓reduceIte, tmod_neg, tdiv_neg]) | ((first | refine hK _ ?_ | (clear hK; first | refine hK _ ?_ | (clear hK; first | refine hK _ ?_ | (clear hK; refine hK _ ?_)))); clear hK) | (refine AWp.cond ?_; simp -implicitDefEqProofs (maxSteps := 1000000) (disch := omega) only [go_sem, ↓reduceIte, tmod_neg, tdiv_neg]; try (refine ⟨fun hlt => ?_, fun hlt => ?_⟩ <;> (try simp only [cla, clb, ne_eq, reduceCtorEq] at hlt) <;> (try exact hlt.elim))) | (refine AWp.block ?_) | ((first | refine gdO_split (fun hlt => ?_) (fun hlt => ?_) | refine tkO_split (fun hlt => ?_) (fun hlt => ?_) | refine opO_split (fun hlt => ?_) (fun hlt => ?_)) <;> have hgd := hlt <;> (try simp only [cla, clb, ne_eq, cld] at hlt) <;> (simp -implicitDefEqProofs (maxSteps := 1000000) (disch := omega) only [go_sem, ↓reduceIte, tmod_neg, tdiv_neg, hgd]) <;> clear hgd) | (with_reducible refine And.intro ?_ ?_; · first | omega | assumption | exact ⟨_, _, rfl, rfl⟩) | fail
      all_goals try (exfalso; omega)
      all_goals
        have e1 : (m : Int) / 1000000000 = ((m / 1000000000 : Nat) : Int) := by omega
        have e2 : (m : Int) % 1000000000 = ((m % 1000000000 : Nat) : Int) := by omega
        have e3 : (0 : Int) - -((m % 1000000000 : Nat) : Int) = ((m % 1000000000 : Nat) : Int) := by omega
        have e4 : 0 ≤ -((m : Int) % 1000000000) → -((m % 1000000000 : Nat) : Int) = ((m % 1000000000 : Nat) : Int) := by omega
        try have e4 := e4 (by omega)
        simp only [e1, e2, e3]
        try simp only [e4]
        refine ih (m / 1000000000, out ++ [((m % 1000000000 : Nat) : Int)]) _ ⟨by simp only; omega, hstep, hlen _⟩ (by simp only; omega) (Sub.of0 hm (fun i => if i = 0 then 0 else 3) rfl ?_ ?_ ?_)
        all_goals (try dsimp only)
        all_goals (first | omega | (simp -implicitDefEqProofs (maxSteps := 1000000) (disch := omega) only [F64, sg, id, go_sem, Nat.blt_eq, Nat.reduceAdd, Nat.reduceSub, Nat.reduceEqDiff, Nat.reduceLT, ↓reduceIte, and_true, true_and, AV.dat.injEq, DV.int.injEq, DV.bool.injEq, DV.lst.injEq, eq_self_iff_true]; first | done | omega | (simp; done) | (simp; omega)) | (simp; done) | (simp; omega) | skip)
        all_goals
          intro a b h1 h2 h
          change a < 2 at h1; change b < 2 at h2
          (split at h <;> split at h) <;> omega
end Go.Proofs.YthhjcfejgoddlaaGreatDoor
end

section
set_option linter.unusedSimpArgs false
set_option linter.unusedVariables false
set_option maxRecDepth 100000
namespace Go.Proofs.YthhjcfejgoddlaaGreatDoor
open Go Go.Abs
attribute [local go_sem] wrap64 Int.tdiv_eq_ediv_of_nonneg Int.tmod_eq_emod_of_nonneg eq_self Bool.false_eq_true Bool.true_eq_false Bool.not_true Bool.not_false
attribute [local go_sem_proc] Nat.reduceAdd Nat.reduceMul Nat.reduceEqDiff Nat.reduceLT Nat.reduceLeDiff Int.reduceEq Int.reduceNeg Int.reduceToNat reduceCtorEq Int.reduceBNe Int.reduceBEq

/-- Two functions answer alike: an integer and an error. -/
def Alike (f g : FuncId) (args : List AV) : Prop := ∃ x e : Int, lenZ x ≤ 40 ∧ PC Tryz.prog f args (.tup [.agg (zC x), I e]) ∧ PC Tryz.prog g args (.tup [.agg (zC x), I e])
theorem Alike.bad {f g : FuncId} {args : List AV} {e : Int} (h : PC Tryz.prog f args (.tup [Zr false [], I e])) (k : PC Tryz.prog g args (.tup [Zr false [], I e])) : Alike f g args := by
  rw [← Z_zero] at h k
  exact ⟨0, e, lenZ_0, h, k⟩
end Go.Proofs.YthhjcfejgoddlaaGreatDoor
end

section
set_option linter.unusedSimpArgs false
set_option linter.unusedVariables false
set_option maxRecDepth 100000
namespace Go.Proofs.YthhjcfejgoddlaaGreatDoor
open Go Go.Abs
attribute [local go_sem] wrap64 Int.tdiv_eq_ediv_of_nonneg Int.tmod_eq_emod_of_nonneg eq_self Bool.false_eq_true Bool.true_eq_false Bool.not_true Bool.not_false
attribute [local go_sem_proc] Nat.reduceAdd Nat.reduceMul Nat.reduceEqDiff Nat.reduceLT Nat.reduceLeDiff Int.reduceEq Int.reduceNeg Int.reduceToNat reduceCtorEq Int.reduceBNe Int.reduceBEq

theorem fewb1_pc (neg : Bool) (d : List Int) : PC Tryz.prog 97 [Zr neg d] (B (decide (100 < d.length))) := by
  refine PCr.pc (PCr.of tab_ok Tryz.func97 rfl rfl rfl fun c hc hm => ?_)
  rw [show Tryz.f97.ntmps = _ from Tryz.ntmps97] at hc
  simp only [Tryz.f97]
  repeat' first | (refine AWp.seq fun K hK => ?_) | ((first | refine AWp.region (by rw [hc]; rfl) ?_ | refine AWp.skip ?_ | refine AWp.exit ?_ | refine AWp.label ?_ | refine AWp.ret ?_ | refine appK_g ?_); simp -implicitDefEqProofs (maxSteps := 1000000) (disch := omega) only [go_sem, ↓reduceIte]) | ((first | refine hK _ ?_ | (clear hK; first | refine hK _ ?_ | (clear hK; first | refine hK _ ?_ | (clear hK; refine hK _ ?_)))); clear hK) | (refine AWp.cond ?_; simp -implicitDefEqProofs (maxSteps := 1000000) (disch := omega) only [go_sem, ↓reduceIte]; try (refine ⟨fun hlt => ?_, fun hlt => ?_⟩ <;> (try simp only [cla, clb, ne_eq, reduceCtorEq] at hlt) <;> (try exact hlt.elim))) | (refine AWp.block ?_) | ((first | refine gdO_split (fun hlt => ?_) (fun hlt => ?_) | refine tkO_split (fun hlt => ?_) (fun hlt => ?_) | refine opO_split (fun hlt => ?_) (fun hlt => ?_)) <;> have hgd := hlt <;> (try simp only [cla, clb, ne_eq, cld] at hlt) <;> (simp -implicitDefEqProofs (maxSteps := 1000000) (disch := omega) only [go_sem, ↓reduceIte, hgd]) <;> clear hgd) | (with_reducible refine And.intro ?_ ?_; · first | omega | assumption | exact ⟨_, _, rfl, rfl⟩) | fail
  rw [decide_eq_decide]; omega
theorem fewb_pc (zs : List (Bool × List Int)) (lz : zs.length ≤ 1000000) : PC Tryz.prog 42 [LZ zs] (B (zs.all fun z => decide (z.2.length ≤ 100))) := by
  have h := hasZ_pc zs 97 (fun z => decide (100 < z.2.length)) lz (fun z => fewb1_pc z.1 z.2)
  rw [show (zs.all fun z => decide (z.2.length ≤ 100)) = !(zs.any fun z => decide (100 < z.2.length)) by
    rw [List.all_eq_not_any_not]; congr 1; congr 1; funext z; rw [← decide_not, decide_eq_decide]; omega]
  refine PCr.pc (PCr.of tab_ok Tryz.func42 rfl rfl rfl fun c hc hm => ?_)
  rw [show Tryz.f42.ntmps = _ from Tryz.ntmps42] at hc
  simp only [Tryz.f42]
  repeat' first | (refine AWp.seq fun K hK => ?_) | ((first | refine AWp.region (by rw [hc]; rfl) ?_ | refine AWp.skip ?_ | refine AWp.exit ?_ | refine AWp.label ?_ | refine AWp.ret ?_ | refine appK_g ?_); simp -implicitDefEqProofs (maxSteps := 1000000) (disch := omega) only [go_sem, ↓reduceIte]) | ((first | refine hK _ ?_ | (clear hK; first | refine hK _ ?_ | (clear hK; first | refine hK _ ?_ | (clear hK; refine hK _ ?_)))); clear hK) | (refine AWp.cond ?_; simp -implicitDefEqProofs (maxSteps := 1000000) (disch := omega) only [go_sem, ↓reduceIte]; try (refine ⟨fun hlt => ?_, fun hlt => ?_⟩ <;> (try simp only [cla, clb, ne_eq, reduceCtorEq] at hlt) <;> (try exact hlt.elim))) | (refine AWp.block ?_) | ((first | refine gdO_split (fun hlt => ?_) (fun hlt => ?_) | refine tkO_split (fun hlt => ?_) (fun hlt => ?_) | refine opO_split (fun hlt => ?_) (fun hlt => ?_)) <;> have hgd := hlt <;> (try simp only [cla, clb, ne_eq, cld] at hlt) <;> (simp -implicitDefEqProofs (maxSteps := 1000000) (disch := omega) only [go_sem, ↓reduceIte, hgd]) <;> clear hgd) | (with_reducible refine And.intro ?_ ?_; · first | omega | assumption | exact ⟨_, _, rfl, rfl⟩) | ((first | refine ⟨_, h, ?_⟩); simp -implicitDefEqProofs (maxSteps := 1000000) (disch := omega) only [go_sem, ↓reduceIte]) | fail
end Go.Proofs.YthhjcfejgoddlaaGreatDoor
end

section
set_option linter.unusedSimpArgs false
set_option linter.unusedVariables false
set_option maxRecDepth 100000
namespace Go.Proofs.YthhjcfejgoddlaaGreatDoor
open Go Go.Abs Go.RowKit

/-! How many digits a text begins with. -/
def isDb (c : UInt8) : Bool := decide (48 ≤ c.toNat ∧ c.toNat ≤ 57)
def ndl (l : List UInt8) : Nat := (l.takeWhile isDb).length
theorem ndl_t {c : UInt8} {l : List UInt8} (h : isDb c = true) : ndl (c :: l) = ndl l + 1 := by simp [ndl, h]
theorem ndl_f {c : UInt8} {l : List UInt8} (h : isDb c = false) : ndl (c :: l) = 0 := by simp [ndl, h]
theorem ndl_le (l : List UInt8) : ndl l ≤ l.length := by
  induction l with
  | nil => exact Nat.le_refl _
  | cons c l ih =>
    cases h : isDb c
    · rw [ndl_f h]; exact Nat.zero_le _
    · rw [ndl_t h, List.length_cons]; omega
theorem ndl_isD (l : List UInt8) : isD (l.take (ndl l)) := by
  induction l with
  | nil => intro c hc; simp at hc
  | cons c l ih =>
    cases h : isDb c
    · rw [ndl_f h]; intro c hc; simp at hc
    · rw [ndl_t h, List.take_succ_cons]
      intro x hx
      rcases List.mem_cons.1 hx with rfl | hx
      · exact of_decide_eq_true h
      · exact ih x hx
theorem ndl_get {l : List UInt8} (j : Nat) (h : j < ndl l) : isDb (l.getD j 0) = true := by
  have hl := ndl_le l
  have := ndl_isD l (l.getD j 0) (by
    rw [List.getD, List.getElem?_eq_getElem (by omega), Option.getD_some]
    exact List.mem_of_getElem? (i := j) (by rw [List.getElem?_take_of_lt h]; exact List.getElem?_eq_getElem (by omega)))
  exact decide_eq_true this
theorem ndl_end {l : List UInt8} (h : ndl l < l.length) : isDb (l.getD (ndl l) 0) = false := by
  induction l with
  | nil => simp [ndl] at h
  | cons c l ih =>
    cases hc : isDb c
    · rw [ndl_f hc]; exact hc
    · rw [ndl_t hc] at h ⊢
      rw [List.length_cons] at h
      exact ih (by omega)
theorem dec_lead (n b b1 b2 b3 : Nat) : (b < 128 ∧ Lib.decodeN n b b1 b2 b3 = (b, 1)) ∨ (128 ≤ b ∧ 128 ≤ (Lib.decodeN n b b1 b2 b3).1) := by
  by_cases h : b < 128
  · exact .inl ⟨h, by unfold Lib.decodeN; rw [if_pos h]⟩
  · refine .inr ⟨by omega, ?_⟩
    unfold Lib.decodeN
    rw [if_neg h]
    repeat' split
    all_goals simp only
    all_goals omega
theorem dec_of (s : ByteArray) (i : Nat) : pD (Utf8.decode s i).1 = !(isDb (s.get! i)) ∧ (isDb (s.get! i) = true → (Utf8.decode s i).2 = 1) := by
  rw [Lib.decode_at]
  unfold pD isDb
  rw [← decide_not, decide_eq_decide, decide_eq_true_eq]
  rcases dec_lead (s.size - i) (s.get! i).toNat (s.get! (i + 1)).toNat (s.get! (i + 2)).toNat (s.get! (i + 3)).toNat with ⟨h1, h2⟩ | ⟨h1, h2⟩
  · rw [h2]
    exact ⟨by constructor <;> intro h <;> omega, fun _ => rfl⟩
  · exact ⟨by constructor <;> intro h <;> omega, fun h => by omega⟩
theorem bs_get! {l : List UInt8} {i : Nat} (h : i < l.length) : (bs l).get! i = l.getD i 0 := by
  simp [bs, ByteArray.get!, List.getD, h, getElem!_pos]
theorem idx_from (l : List UInt8) : ∀ (f pos : Nat), pos ≤ l.length → l.length ≤ pos + f → Lib.idxFuncFrom pD true (bs l) f pos = if ndl (l.drop pos) = (l.drop pos).length then -1 else ((pos + ndl (l.drop pos) : Nat) : Int)
  | 0, pos, h1, h2 => by
    have : pos = l.length := by omega
    subst this
    simp [Lib.idxFuncFrom, ndl]
  | f + 1, pos, h1, h2 => by
    unfold Lib.idxFuncFrom
    rw [bs_size]
    by_cases hp : pos < l.length
    · rw [if_pos hp]
      obtain ⟨d1, d2⟩ := dec_of (bs l) pos
      rw [bs_get! hp] at d1 d2
      have e : l.drop pos = l.getD pos 0 :: l.drop (pos + 1) := by
        rw [List.drop_eq_getElem_cons hp]; simp [List.getD, hp]
      rw [d1, e]
      cases hb : isDb (l.getD pos 0)
      · rw [if_pos (by rfl), ndl_f hb, if_neg (by simp)]; simp
      · rw [if_neg (by simp), d2 hb, ndl_t hb, idx_from l f (pos + 1) (by omega) (by omega), List.length_cons]
        by_cases h3 : ndl (l.drop (pos + 1)) = (l.drop (pos + 1)).length
        · rw [if_pos h3, if_pos (by omega)]
        · rw [if_neg h3, if_neg (by omega)]; omega
    · rw [if_neg hp]
      have : pos = l.length := by omega
      subst this
      simp [ndl]
theorem digN_bs (l : List UInt8) : digN (bs l) = (ndl l : Int) := by
  unfold digN Lib.idxFunc
  rw [bs_size, idx_from l l.length 0 (Nat.zero_le _) (by omega), List.drop_zero]
  have := ndl_le l
  by_cases h : ndl l = l.length
  · rw [if_pos h, if_pos (by omega), h]
  · rw [if_neg h, if_neg (by omega)]; simp
/-! Digits as numbers. -/
theorem parse10 : ∀ (l : List UInt8) (acc : Nat), isD l → dv acc l < 1844674407370955162 → Lib.parseUint10 acc l = .ok (dv acc l)
  | [], acc, _, _ => rfl
  | c :: l, acc, hd, h => by
    have hc := hd c (by simp)
    have hl : isD l := fun x hx => hd x (by simp [hx])
    have hge := dv_ge l (acc * 10 + (c.toNat - 48))
    rw [dv_cons] at h ⊢
    rw [Lib.parseUint10, if_pos hc, if_neg (by omega), if_neg (by omega)]
    exact parse10 l _ hl h
theorem atoi_isD {l : List UInt8} (h : isD l) (h0 : l ≠ []) (h1 : l.length ≤ 9) : Lib.atoiAll l = .ok ((dv 0 l : Nat) : Int) := by
  have hlt := dv_lt h
  have hle : 10 ^ l.length ≤ 10 ^ 9 := Nat.pow_le_pow_right (by decide) h1
  match l, h0 with
  | c :: r, _ =>
    have hc := h c (by simp)
    unfold Lib.atoiAll
    have e1 : ¬ (c.toNat = 43 ∨ c.toNat = 45) := by omega
    have e2 : ¬ c.toNat = 45 := by omega
    have e3 : ¬ c.toNat = 43 := by omega
    simp only [e2, e3, or_self, if_false]
    have : Lib.parseMag (c :: r) = .ok (dv 0 (c :: r)) := by
      unfold Lib.parseMag
      rw [if_neg (by simp)]
      exact parse10 _ 0 h (by omega)
    rw [this]
    simp only
    rw [if_neg (by omega), if_neg (by simp)]
end Go.Proofs.YthhjcfejgoddlaaGreatDoor
end

section
set_option linter.unusedSimpArgs false
set_option linter.unusedVariables false
set_option maxRecDepth 100000
namespace Go.Proofs.YthhjcfejgoddlaaGreatDoor
open Go Go.Abs Go.RowKit
attribute [local go_sem] wrap64 Int.tdiv_eq_ediv_of_nonneg Int.tmod_eq_emod_of_nonneg eq_self Bool.false_eq_true Bool.true_eq_false Bool.not_true Bool.not_false
attribute [local go_sem_proc] Nat.reduceAdd Nat.reduceMul Nat.reduceEqDiff Nat.reduceLT Nat.reduceLeDiff Int.reduceEq Int.reduceNeg Int.reduceToNat reduceCtorEq Int.reduceBNe Int.reduceBEq

/-- What Read answers at a text behind its sign. -/
def rdE (r : List UInt8) : Prop := 360 < ndl r ∧ r.getD 0 0 ≠ 48
def rdN (neg : Bool) (r : List UInt8) : Prop := ndl r = 0 ∨ ndl r ≠ r.length ∨ (r.getD 0 0 = 48 ∧ (1 < ndl r ∨ neg = true))
instance (r : List UInt8) : Decidable (rdE r) := by unfold rdE; infer_instance
instance (neg : Bool) (r : List UInt8) : Decidable (rdN neg r) := by unfold rdN; infer_instance
def rdV (neg : Bool) (r : List UInt8) : AV :=
  if rdE r then .tup [Zr false [], I 2] else if rdN neg r then .tup [Zr false [], I 12] else .tup [Z (sg neg (dv 0 r)), I 0]
theorem byteAt_bs (r : List UInt8) (m : Nat) : byteAt (bs r) m = ((r.getD m 0).toNat : Int) := by simp [byteAt, bs]
theorem b48 (x : UInt8) : ((x.toNat : Int) = 48) = (x = 48) := by
  rw [eq_iff_iff, ← UInt8.toNat_inj]
  show (x.toNat : Int) = 48 ↔ x.toNat = 48
  omega
theorem bs_extract (r : List UInt8) (a b : Nat) : (bs r).extract a b = bs ((r.take b).drop a) := by
  apply ByteArray.ext
  simp [bs, List.drop_take]
theorem drop_split (r : List UInt8) {a b : Nat} (h : a ≤ b) (h2 : b ≤ r.length) : r.drop a = (r.take b).drop a ++ r.drop b := by
  conv => lhs; rw [← List.take_append_drop b r]
  rw [List.drop_append_of_le_length (by rw [List.length_take]; omega)]
def FRd (neg : Bool) (r : List UInt8) : Nat × List Int → St := fun ⟨j, l⟩ => ⟨[(2, .ptr 0 0), (3, I 0), (4, .dat (.str (bs r))), (5, B neg), (6, I r.length), (7, gL 1 (l.map eI)), (8, I ((r.length : Int) - 9 * j))], (0, .box [B false, .nil] false) :: gS 3 1 1 (l.map eI) false [], 2, 0⟩
set_option maxHeartbeats 8000000 in
theorem Read_pc (t : List UInt8) (ht : t.length ≤ 1000000) : PC Tryz.prog 67 [.dat (.str (bs t))] (rdV (Lib.hasPrefix t [45]) (Lib.trimPrefix t [45])) := by
  have hcut := cut_pc (bs t) ⟨#[45]⟩
  rw [bs_toList, show (⟨#[45]⟩ : ByteArray).data.toList = [45] from rfl] at hcut
  have hcut : PC Tryz.prog 116 [.dat (.str (bs t)), .dat (.str ⟨#[45]⟩)] (.tup [.dat (.str (bs (Lib.trimPrefix t [45]))), B (Lib.hasPrefix t [45])]) := hcut
  have hlr : (Lib.trimPrefix t [45]).length ≤ 1000000 := by
    unfold Lib.trimPrefix; split
    · simp; omega
    · exact ht
  generalize Lib.trimPrefix t [45] = r at *
  generalize Lib.hasPrefix t [45] = neg at *
  have hdig := digits_pc (bs r)
  rw [digN_bs] at hdig
  have hle := ndl_le r
  have hsz := bs_size r
  have hb0 := byteAt_bs r 0
  have h48 := b48 (r.getD 0 0)
  rw [← hb0] at h48
  unfold rdV
  by_cases hE : rdE r
  · rw [if_pos hE]
    obtain ⟨e1, e2⟩ := hE
    have e3 : (byteAt (bs r) 0 != 48) = true := by rw [bne_iff_ne, ne_eq, h48]; exact e2
    have e4 : decide ((360 : Int) < (ndl r : Int)) = true := decide_eq_true (by omega)
    refine PCr.pc (PCr.of tab_ok Tryz.func67 rfl rfl rfl fun c hc hm => ?_)
    rw [show Tryz.f67.ntmps = _ from Tryz.ntmps67] at hc
    simp only [Tryz.f67]
    repeat' first | (exact absurd hlt (by decide)) | (refine AWp.seq fun K hK => ?_) | ((first | refine AWp.region (by rw [hc]; rfl) ?_ | refine AWp.skip ?_ | refine AWp.exit ?_ | refine AWp.label ?_ | refine AWp.ret ?_ | refine appK_g ?_); simp -implicitDefEqProofs (maxSteps := 1000000) (disch := omega) only [go_sem, ↓reduceIte, hsz, e3, e4]) | ((first | refine hK _ ?_ | (clear hK; first | refine hK _ ?_ | (clear hK; first | refine hK _ ?_ | (clear hK; refine hK _ ?_)))); clear hK) | (refine AWp.cond ?_; simp -implicitDefEqProofs (maxSteps := 1000000) (disch := omega) only [go_sem, ↓reduceIte, hsz, e3, e4]; try (refine ⟨fun hlt => ?_, fun hlt => ?_⟩ <;> (try simp only [cla, clb, ne_eq, reduceCtorEq] at hlt) <;> (try exact hlt.elim))) | (refine AWp.block ?_) | ((first | refine gdO_split (fun hlt => ?_) (fun hlt => ?_) | refine tkO_split (fun hlt => ?_) (fun hlt => ?_) | refine opO_split (fun hlt => ?_) (fun hlt => ?_)) <;> have hgd := hlt <;> (try simp only [cla, clb, ne_eq, cld] at hlt) <;> (simp -implicitDefEqProofs (maxSteps := 1000000) (disch := omega) only [go_sem, ↓reduceIte, hsz, e3, e4, hgd]) <;> clear hgd) | (with_reducible refine And.intro ?_ ?_; · first | omega | assumption | exact ⟨_, _, rfl, rfl⟩) | ((first | refine ⟨_, hcut, ?_⟩ | refine ⟨_, hdig, ?_⟩); simp -implicitDefEqProofs (maxSteps := 1000000) (disch := omega) only [go_sem, ↓reduceIte, hsz, e3, e4]) | fail
  · rw [if_neg hE]
    have hE' : 360 < ndl r → byteAt (bs r) 0 = 48 := fun h => by
      rw [h48]; exact Classical.not_not.1 fun h2 => hE ⟨h, h2⟩
    by_cases hN : rdN neg r
    · rw [if_pos hN]
      unfold rdN at hN
      rw [← h48] at hN
      by_cases n0 : ndl r = 0
      · have f1 : decide ((360 : Int) < (ndl r : Int)) = false := decide_eq_false (by omega)
        have f2 : ((ndl r : Int) == 0) = true := by rw [beq_iff_eq]; omega
        refine PCr.pc (PCr.of tab_ok Tryz.func67 rfl rfl rfl fun c hc hm => ?_)
        rw [show Tryz.f67.ntmps = _ from Tryz.ntmps67] at hc
        simp only [Tryz.f67]
        repeat' first | (exact absurd hlt (by decide)) | (refine AWp.seq fun K hK => ?_) | ((first | refine AWp.region (by rw [hc]; rfl) ?_ | refine AWp.skip ?_ | refine AWp.exit ?_ | refine AWp.label ?_ | refine AWp.ret ?_ | refine appK_g ?_); simp -implicitDefEqProofs (maxSteps := 1000000) (disch := omega) only [go_sem, ↓reduceIte, hsz, f1, f2]) | ((first | refine hK _ ?_ | (clear hK; first | refine hK _ ?_ | (clear hK; first | refine hK _ ?_ | (clear hK; refine hK _ ?_)))); clear hK) | (refine AWp.cond ?_; simp -implicitDefEqProofs (maxSteps := 1000000) (disch := omega) only [go_sem, ↓reduceIte, hsz, f1, f2]; try (refine ⟨fun hlt => ?_, fun hlt => ?_⟩ <;> (try simp only [cla, clb, ne_eq, reduceCtorEq] at hlt) <;> (try exact hlt.elim))) | (refine AWp.block ?_) | ((first | refine gdO_split (fun hlt => ?_) (fun hlt => ?_) | refine tkO_split (fun hlt => ?_) (fun hlt => ?_) | refine opO_split (fun hlt => ?_) (fun hlt => ?_)) <;> have hgd := hlt <;> (try simp only [cla, clb, ne_eq, cld] at hlt) <;> (simp -implicitDefEqProofs (maxSteps := 1000000) (disch := omega) only [go_sem, ↓reduceIte, hsz, f1, f2, hgd]) <;> clear hgd) | (with_reducible refine And.intro ?_ ?_; · first | omega | assumption | exact ⟨_, _, rfl, rfl⟩) | ((first | refine ⟨_, hcut, ?_⟩ | refine ⟨_, hdig, ?_⟩); simp -implicitDefEqProofs (maxSteps := 1000000) (disch := omega) only [go_sem, ↓reduceIte, hsz, f1, f2]) | fail
      · have f2 : ((ndl r : Int) == 0) = false := by rw [beq_eq_false_iff_ne]; omega
        by_cases n1 : ndl r = r.length
        · have f3 : ((ndl r : Int) != (r.length : Int)) = false := by rw [bne_eq_false_iff_eq]; omega
          obtain ⟨g1, g2⟩ : byteAt (bs r) 0 = 48 ∧ (1 < ndl r ∨ neg = true) := by
            rcases hN with h | h | h
            · exact absurd h n0
            · exact absurd n1 h
            · exact h
          have f4 : (byteAt (bs r) 0 != 48) = false := by rw [bne_eq_false_iff_eq]; exact g1
          have f5 : (byteAt (bs r) 0 == 48) = true := by rw [beq_iff_eq]; exact g1
          by_cases n2 : 1 < ndl r
          · have f6 : decide ((1 : Int) < (ndl r : Int)) = true := decide_eq_true (by omega)
            by_cases n3 : 360 < ndl r
            · have f1 : decide ((360 : Int) < (ndl r : Int)) = true := decide_eq_true (by omega)
              refine PCr.pc (PCr.of tab_ok Tryz.func67 rfl rfl rfl fun c hc hm => ?_)
              rw [show Tryz.f67.ntmps = _ from Tryz.ntmps67] at hc
              simp only [Tryz.f67]
              repeat' first | (exact absurd hlt (by decide)) | (refine AWp.seq fun K hK => ?_) | ((first | refine AWp.region (by rw [hc]; rfl) ?_ | refine AWp.skip ?_ | refine AWp.exit ?_ | refine AWp.label ?_ | refine AWp.ret ?_ | refine appK_g ?_); simp -implicitDefEqProofs (maxSteps := 1000000) (disch := omega) only [go_sem, ↓reduceIte, hsz, f1, f2, f3, f4, f5, f6]) | ((first | refine hK _ ?_ | (clear hK; first | refine hK _ ?_ | (clear hK; first | refine hK _ ?_ | (clear hK; refine hK _ ?_)))); clear hK) | (refine AWp.cond ?_; simp -implicitDefEqProofs (maxSteps := 1000000) (disch := omega) only [go_sem, ↓reduceIte, hsz, f1, f2, f3, f4, f5, f6]; try (refine ⟨fun hlt => ?_, fun hlt => ?_⟩ <;> (try simp only [cla, clb, ne_eq, reduceCtorEq] at hlt) <;> (try exact hlt.elim))) | (refine AWp.block ?_) | ((first | refine gdO_split (fun hlt => ?_) (fun hlt => ?_) | refine tkO_split (fun hlt => ?_) (fun hlt => ?_) | refine opO_split (fun hlt => ?_) (fun hlt => ?_)) <;> have hgd := hlt <;> (try simp only [cla, clb, ne_eq, cld] at hlt) <;> (simp -implicitDefEqProofs (maxSteps := 1000000) (disch := omega) only [go_sem, ↓reduceIte, hsz, f1, f2, f3, f4, f5, f6, hgd]) <;> clear hgd) | (with_reducible refine And.intro ?_ ?_; · first | omega | assumption | exact ⟨_, _, rfl, rfl⟩) | ((first | refine ⟨_, hcut, ?_⟩ | refine ⟨_, hdig, ?_⟩); simp -implicitDefEqProofs (maxSteps := 1000000) (disch := omega) only [go_sem, ↓reduceIte, hsz, f1, f2, f3, f4, f5, f6]) | fail
            · have f1 : decide ((360 : Int) < (ndl r : Int)) = false := decide_eq_false (by omega)
              refine PCr.pc (PCr.of tab_ok Tryz.func67 rfl rfl rfl fun c hc hm => ?_)
              rw [show Tryz.f67.ntmps = _ from Tryz.ntmps67] at hc
              simp only [Tryz.f67]
              repeat' first | (exact absurd hlt (by decide)) | (refine AWp.seq fun K hK => ?_) | ((first | refine AWp.region (by rw [hc]; rfl) ?_ | refine AWp.skip ?_ | refine AWp.exit ?_ | refine AWp.label ?_ | refine AWp.ret ?_ | refine appK_g ?_); simp -implicitDefEqProofs (maxSteps := 1000000) (disch := omega) only [go_sem, ↓reduceIte, hsz, f1, f2, f3, f4, f5, f6]) | ((first | refine hK _ ?_ | (clear hK; first | refine hK _ ?_ | (clear hK; first | refine hK _ ?_ | (clear hK; refine hK _ ?_)))); clear hK) | (refine AWp.cond ?_; simp -implicitDefEqProofs (maxSteps := 1000000) (disch := omega) only [go_sem, ↓reduceIte, hsz, f1, f2, f3, f4, f5, f6]; try (refine ⟨fun hlt => ?_, fun hlt => ?_⟩ <;> (try simp only [cla, clb, ne_eq, reduceCtorEq] at hlt) <;> (try exact hlt.elim))) | (refine AWp.block ?_) | ((first | refine gdO_split (fun hlt => ?_) (fun hlt => ?_) | refine tkO_split (fun hlt => ?_) (fun hlt => ?_) | refine opO_split (fun hlt => ?_) (fun hlt => ?_)) <;> have hgd := hlt <;> (try simp only [cla, clb, ne_eq, cld] at hlt) <;> (simp -implicitDefEqProofs (maxSteps := 1000000) (disch := omega) only [go_sem, ↓reduceIte, hsz, f1, f2, f3, f4, f5, f6, hgd]) <;> clear hgd) | (with_reducible refine And.intro ?_ ?_; · first | omega | assumption | exact ⟨_, _, rfl, rfl⟩) | ((first | refine ⟨_, hcut, ?_⟩ | refine ⟨_, hdig, ?_⟩); simp -implicitDefEqProofs (maxSteps := 1000000) (disch := omega) only [go_sem, ↓reduceIte, hsz, f1, f2, f3, f4, f5, f6]) | fail
          · have f6 : decide ((1 : Int) < (ndl r : Int)) = false := decide_eq_false (by omega)
            have f1 : decide ((360 : Int) < (ndl r : Int)) = false := decide_eq_false (by omega)
            have hneg : neg = true := g2.resolve_left n2
            subst hneg
            refine PCr.pc (PCr.of tab_ok Tryz.func67 rfl rfl rfl fun c hc hm => ?_)
            rw [show Tryz.f67.ntmps = _ from Tryz.ntmps67] at hc
            simp only [Tryz.f67]
            repeat' first | (exact absurd hlt (by decide)) | (refine AWp.seq fun K hK => ?_) | ((first | refine AWp.region (by rw [hc]; rfl) ?_ | refine AWp.skip ?_ | refine AWp.exit ?_ | refine AWp.label ?_ | refine AWp.ret ?_ | refine appK_g ?_); simp -implicitDefEqProofs (maxSteps := 1000000) (disch := omega) only [go_sem, ↓reduceIte, hsz, f1, f2, f3, f4, f5, f6]) | ((first | refine hK _ ?_ | (clear hK; first | refine hK _ ?_ | (clear hK; first | refine hK _ ?_ | (clear hK; refine hK _ ?_)))); clear hK) | (refine AWp.cond ?_; simp -implicitDefEqProofs (maxSteps := 1000000) (disch := omega) only [go_sem, ↓reduceIte, hsz, f1, f2, f3, f4, f5, f6]; try (refine ⟨fun hlt => ?_, fun hlt => ?_⟩ <;> (try simp only [cla, clb, ne_eq, reduceCtorEq] at hlt) <;> (try exact hlt.elim))) | (refine AWp.block ?_) | ((first | refine gdO_split (fun hlt => ?_) (fun hlt => ?_) | refine tkO_split (fun hlt => ?_) (fun hlt => ?_) | refine opO_split (fun hlt => ?_) (fun hlt => ?_)) <;> have hgd := hlt <;> (try simp only [cla, clb, ne_eq, cld] at hlt) <;> (simp -implicitDefEqProofs (maxSteps := 1000000) (disch := omega) only [go_sem, ↓reduceIte, hsz, f1, f2, f3, f4, f5, f6, hgd]) <;> clear hgd) | (with_reducible refine And.intro ?_ ?_; · first | omega | assumption | exact ⟨_, _, rfl, rfl⟩) | ((first | refine ⟨_, hcut, ?_⟩ | refine ⟨_, hdig, ?_⟩); simp -implicitDefEqProofs (maxSteps := 1000000) (disch := omega) only [go_sem, ↓reduceIte, hsz, f1, f2, f3, f4, f5, f6]) | fail
        · have f3 : ((ndl r : Int) != (r.length : Int)) = true := by rw [bne_iff_ne]; omega
          by_cases n3 : 360 < ndl r
          · have f1 : decide ((360 : Int) < (ndl r : Int)) = true := decide_eq_true (by omega)
            have f4 : (byteAt (bs r) 0 != 48) = false := by rw [bne_eq_false_iff_eq]; exact hE' n3
            refine PCr.pc (PCr.of tab_ok Tryz.func67 rfl rfl rfl fun c hc hm => ?_)
            rw [show Tryz.f67.ntmps = _ from Tryz.ntmps67] at hc
            simp only [Tryz.f67]
            repeat' first | (exact absurd hlt (by decide)) | (refine AWp.seq fun K hK => ?_) | ((first | refine AWp.region (by rw [hc]; rfl) ?_ | refine AWp.skip ?_ | refine AWp.exit ?_ | refine AWp.label ?_ | refine AWp.ret ?_ | refine appK_g ?_); simp -implicitDefEqProofs (maxSteps := 1000000) (disch := omega) only [go_sem, ↓reduceIte, hsz, f1, f2, f3, f4]) | ((first | refine hK _ ?_ | (clear hK; first | refine hK _ ?_ | (clear hK; first | refine hK _ ?_ | (clear hK; refine hK _ ?_)))); clear hK) | (refine AWp.cond ?_; simp -implicitDefEqProofs (maxSteps := 1000000) (disch := omega) only [go_sem, ↓reduceIte, hsz, f1, f2, f3, f4]; try (refine ⟨fun hlt => ?_, fun hlt => ?_⟩ <;> (try simp only [cla, clb, ne_eq, reduceCtorEq] at hlt) <;> (try exact hlt.elim))) | (refine AWp.block ?_) | ((first | refine gdO_split (fun hlt => ?_) (fun hlt => ?_) | refine tkO_split (fun hlt => ?_) (fun hlt => ?_) | refine opO_split (fun hlt => ?_) (fun hlt => ?_)) <;> have hgd := hlt <;> (try simp only [cla, clb, ne_eq, cld] at hlt) <;> (simp -implicitDefEqProofs (maxSteps := 1000000) (disch := omega) only [go_sem, ↓reduceIte, hsz, f1, f2, f3, f4, hgd]) <;> clear hgd) | (with_reducible refine And.intro ?_ ?_; · first | omega | assumption | exact ⟨_, _, rfl, rfl⟩) | ((first | refine ⟨_, hcut, ?_⟩ | refine ⟨_, hdig, ?_⟩); simp -implicitDefEqProofs (maxSteps := 1000000) (disch := omega) only [go_sem, ↓reduceIte, hsz, f1, f2, f3, f4]) | fail
          · have f1 : decide ((360 : Int) < (ndl r : Int)) = false := decide_eq_false (by omega)
            refine PCr.pc (PCr.of tab_ok Tryz.func67 rfl rfl rfl fun c hc hm => ?_)
            rw [show Tryz.f67.ntmps = _ from Tryz.ntmps67] at hc
            simp only [Tryz.f67]
            repeat' first | (exact absurd hlt (by decide)) | (refine AWp.seq fun K hK => ?_) | ((first | refine AWp.region (by rw [hc]; rfl) ?_ | refine AWp.skip ?_ | refine AWp.exit ?_ | refine AWp.label ?_ | refine AWp.ret ?_ | refine appK_g ?_); simp -implicitDefEqProofs (maxSteps := 1000000) (disch := omega) only [go_sem, ↓reduceIte, hsz, f1, f2, f3]) | ((first | refine hK _ ?_ | (clear hK; first | refine hK _ ?_ | (clear hK; first | refine hK _ ?_ | (clear hK; refine hK _ ?_)))); clear hK) | (refine AWp.cond ?_; simp -implicitDefEqProofs (maxSteps := 1000000) (disch := omega) only [go_sem, ↓reduceIte, hsz, f1, f2, f3]; try (refine ⟨fun hlt => ?_, fun hlt => ?_⟩ <;> (try simp only [cla, clb, ne_eq, reduceCtorEq] at hlt) <;> (try exact hlt.elim))) | (refine AWp.block ?_) | ((first | refine gdO_split (fun hlt => ?_) (fun hlt => ?_) | refine tkO_split (fun hlt => ?_) (fun hlt => ?_) | refine opO_split (fun hlt => ?_) (fun hlt => ?_)) <;> have hgd := hlt <;> (try simp only [cla, clb, ne_eq, cld] at hlt) <;> (simp -implicitDefEqProofs (maxSteps := 1000000) (disch := omega) only [go_sem, ↓reduceIte, hsz, f1, f2, f3, hgd]) <;> clear hgd) | (with_reducible refine And.intro ?_ ?_; · first | omega | assumption | exact ⟨_, _, rfl, rfl⟩) | ((first | refine ⟨_, hcut, ?_⟩ | refine ⟨_, hdig, ?_⟩); simp -implicitDefEqProofs (maxSteps := 1000000) (disch := omega) only [go_sem, ↓reduceIte, hsz, f1, f2, f3]) | fail
    · rw [if_neg hN]
      unfold rdN at hN
      rw [← h48] at hN
      have hn0 : ndl r = r.length := Classical.not_not.1 fun h => hN (.inr (.inl h))
      have hn1 : 0 < r.length := by
        rcases Nat.eq_zero_or_pos (ndl r) with h | h
        · exact absurd (.inl h) hN
        · omega
      have hn2 : byteAt (bs r) 0 = 48 → r.length ≤ 1 ∧ neg = false := fun h => ⟨Nat.not_lt.1 fun h3 => hN (.inr (.inr ⟨h, .inl (by omega)⟩)), by
        cases neg
        · rfl
        · exact absurd (.inr (.inr ⟨h, .inr rfl⟩)) hN⟩
      have hd : isD r := by have := ndl_isD r; rwa [hn0, List.take_length] at this
      rw [hn0] at hdig hE'
      have hr360 : r.length ≤ 360 := by
        rcases Nat.lt_or_ge 360 r.length with h | h
        · have := hn2 (hE' h); omega
        · exact h
      have f1 : decide ((360 : Int) < (r.length : Int)) = false := decide_eq_false (by omega)
      have f2 : ((r.length : Int) == 0) = false := by rw [beq_eq_false_iff_ne]; omega
      have f3 : ((r.length : Int) != (r.length : Int)) = false := by rw [bne_eq_false_iff_eq]
      clear hN hE hE'
      by_cases n48 : byteAt (bs r) 0 = 48
      · obtain ⟨g1, g2⟩ := hn2 n48
        subst g2
        have f4 : (byteAt (bs r) 0 == 48) = true := by rw [beq_iff_eq]; exact n48
        have f6 : decide ((1 : Int) < (r.length : Int)) = false := decide_eq_false (by omega)
        refine PCr.pc (PCr.of tab_ok Tryz.func67 rfl rfl rfl fun c hc hm => ?_)
        rw [show Tryz.f67.ntmps = _ from Tryz.ntmps67] at hc
        simp only [Tryz.f67]
        repeat' first | (exact absurd hlt (by decide)) | (refine AWp.seq fun K hK => ?_) | ((first | refine AWp.region (by rw [hc]; rfl) ?_ | refine AWp.skip ?_ | refine AWp.exit ?_ | refine AWp.label ?_ | refine AWp.ret ?_ | refine appK_g ?_); simp -implicitDefEqProofs (maxSteps := 1000000) (disch := omega) only [go_sem, ↓reduceIte, hsz, f1, f2, f3, f4, f6]) | ((first | refine hK _ ?_ | (clear hK; first | refine hK _ ?_ | (clear hK; first | refine hK _ ?_ | (clear hK; refine hK _ ?_)))); clear hK) | (refine AWp.cond ?_; simp -implicitDefEqProofs (maxSteps := 1000000) (disch := omega) only [go_sem, ↓reduceIte, hsz, f1, f2, f3, f4, f6]; try (refine ⟨fun hlt => ?_, fun hlt => ?_⟩ <;> (try simp only [cla, clb, ne_eq, reduceCtorEq] at hlt) <;> (try exact hlt.elim))) | (refine AWp.block ?_) | ((first | refine gdO_split (fun hlt => ?_) (fun hlt => ?_) | refine tkO_split (fun hlt => ?_) (fun hlt => ?_) | refine opO_split (fun hlt => ?_) (fun hlt => ?_)) <;> have hgd := hlt <;> (try simp only [cla, clb, ne_eq, cld] at hlt) <;> (simp -implicitDefEqProofs (maxSteps := 1000000) (disch := omega) only [go_sem, ↓reduceIte, hsz, f1, f2, f3, f4, f6, hgd]) <;> clear hgd) | (with_reducible refine And.intro ?_ ?_; · first | omega | assumption | exact ⟨_, _, rfl, rfl⟩) | ((first | refine ⟨_, hcut, ?_⟩ | refine ⟨_, hdig, ?_⟩); simp -implicitDefEqProofs (maxSteps := 1000000) (disch := omega) only [go_sem, ↓reduceIte, hsz, f1, f2, f3, f4, f6]) | fail
        refine AWp.loopInv (FRd false r) (fun a => r.length + 9 - 9 * a.1) (fun a => a.2.length = a.1 ∧ dig a.2 ∧ val a.2 = ((dv 0 (r.drop (r.length - 9 * a.1)) : Nat) : Int) ∧ 9 * a.1 < r.length + 9) (0, []) ⟨rfl, dig_nil, by simp [dv_nil, val], by simp only; omega⟩ (Sub.of0 hm id rfl ?_ ?_ (fun _ _ _ _ h => h)) ?_
        all_goals (try dsimp only)
        all_goals (first | omega | (simp -implicitDefEqProofs (maxSteps := 1000000) (disch := omega) only [FRd, id, go_sem, Nat.blt_eq, Nat.reduceAdd, Nat.reduceSub, Nat.reduceEqDiff, Nat.reduceLT, ↓reduceIte, and_true, true_and, AV.dat.injEq, DV.int.injEq, DV.bool.injEq, DV.lst.injEq, eq_self_iff_true]; first | done | omega | (simp; done) | (simp; omega)) | (simp; done) | (simp; omega) | skip)
        rintro ⟨j, l⟩ ⟨b1, b2, b3, b4⟩ ih
        simp only at b1 b2 b3 b4
        simp only [FRd]
        have hat : 9 * j < r.length → PC Tryz.prog 118 [.dat (.str ((bs r).extract (max 0 ((r.length : Int) - 9 * j - 9)).toNat ((r.length : Int) - 9 * j).toNat))] (.tup [I ((dv 0 ((r.take (r.length - 9 * j)).drop (r.length - 9 * (j + 1))) : Nat) : Int), .dat .inil]) := fun h => by
          rw [show (max 0 ((r.length : Int) - 9 * j - 9)).toNat = r.length - 9 * (j + 1) by omega, show ((r.length : Int) - 9 * j).toNat = r.length - 9 * j by omega, bs_extract]
          refine atoi_pc _ ?_ _ ?_
          · rw [bs_size, List.length_drop, List.length_take]; omega
          · rw [bs_toList]
            refine atoi_isD (fun x hx => hd x (List.mem_of_mem_take (List.mem_of_mem_drop hx))) (fun e => ?_) ?_
            · have := congrArg List.length e
              rw [List.length_drop, List.length_take, List.length_nil] at this; omega
            · rw [List.length_drop, List.length_take]; omega
        have hfin : r.length ≤ 9 * j → PC Tryz.prog 91 [B false, L l] (Z (sg false (dv 0 r))) := fun h => by
          refine signed_v false l (dv 0 r) b2 (by omega) ?_
          rw [b3, show r.length - 9 * j = 0 by omega, List.drop_zero]
        repeat' first | (exact absurd hlt (by decide)) | (refine AWp.seq fun K hK => ?_) | ((first | refine AWp.region (by rw [hc]; rfl) ?_ | refine AWp.skip ?_ | refine AWp.exit ?_ | refine AWp.label ?_ | refine AWp.ret ?_ | refine appK_g ?_); simp -implicitDefEqProofs (maxSteps := 1000000) (disch := omega) only [go_sem, ↓reduceIte, hsz]) | ((first | refine hK _ ?_ | (clear hK; first | refine hK _ ?_ | (clear hK; first | refine hK _ ?_ | (clear hK; refine hK _ ?_)))); clear hK) | (refine AWp.cond ?_; simp -implicitDefEqProofs (maxSteps := 1000000) (disch := omega) only [go_sem, ↓reduceIte, hsz]; try (refine ⟨fun hlt => ?_, fun hlt => ?_⟩ <;> (try simp only [cla, clb, ne_eq, reduceCtorEq] at hlt) <;> (try exact hlt.elim))) | (refine AWp.block ?_) | ((first | refine gdO_split (fun hlt => ?_) (fun hlt => ?_) | refine tkO_split (fun hlt => ?_) (fun hlt => ?_) | refine opO_split (fun hlt => ?_) (fun hlt => ?_)) <;> have hgd := hlt <;> (try simp only [cla, clb, ne_eq, cld] at hlt) <;> (simp -implicitDefEqProofs (maxSteps := 1000000) (disch := omega) only [go_sem, ↓reduceIte, hsz, hgd]) <;> clear hgd) | (with_reducible refine And.intro ?_ ?_; · first | omega | assumption | exact ⟨_, _, rfl, rfl⟩) | ((first | refine ⟨_, hat (by omega), ?_⟩ | refine ⟨_, hfin (by omega), ?_⟩); simp -implicitDefEqProofs (maxSteps := 1000000) (disch := omega) only [go_sem, ↓reduceIte, hsz]) | fail
        · have h9 : 9 * j < r.length := by omega
          have hsl : isD ((r.take (r.length - 9 * j)).drop (r.length - 9 * (j + 1))) := fun x hx => hd x (List.mem_of_mem_take (List.mem_of_mem_drop hx))
          have hx := dv_lt hsl
          have hx2 : 10 ^ ((r.take (r.length - 9 * j)).drop (r.length - 9 * (j + 1))).length ≤ 10 ^ 9 := Nat.pow_le_pow_right (by decide) (by rw [List.length_drop, List.length_take]; omega)
          have hsp : r.drop (r.length - 9 * (j + 1)) = (r.take (r.length - 9 * j)).drop (r.length - 9 * (j + 1)) ++ r.drop (r.length - 9 * j) := by
            exact drop_split r (by omega) (by omega)
          generalize hy : (r.take (r.length - 9 * j)).drop (r.length - 9 * (j + 1)) = sl at *
          refine ih (j + 1, l ++ [((dv 0 sl : Nat) : Int)]) _ ⟨by simp only [List.length_append, List.length_cons, List.length_nil]; omega, dig_snoc b2 ⟨by omega, by omega⟩, ?_, by simp only; omega⟩ (by simp only; omega) (Sub.of0 hm (fun i => if i = 0 then 0 else 3) rfl ?_ ?_ ?_)
          · simp only
            rw [hsp, dv_app, dv_lin (r.drop (r.length - 9 * j)) (dv 0 sl), val_append, b1, b3, Bp_nat, List.length_drop, show r.length - (r.length - 9 * j) = 9 * j by omega]
            simp only [val, Int.natCast_add, Int.natCast_mul]
            grind
          all_goals (try dsimp only)
          all_goals (first | omega | (simp -implicitDefEqProofs (maxSteps := 1000000) (disch := omega) only [FRd, id, go_sem, Nat.blt_eq, Nat.reduceAdd, Nat.reduceSub, Nat.reduceEqDiff, Nat.reduceLT, ↓reduceIte, and_true, true_and, AV.dat.injEq, DV.int.injEq, DV.bool.injEq, DV.lst.injEq, eq_self_iff_true]; first | done | omega | (simp; done) | (simp; omega)) | (simp; done) | (simp; omega) | skip)
          all_goals
            intro a b h1 h2 h
            change a < 2 at h1; change b < 2 at h2
            (split at h <;> split at h) <;> omega
      · have f4 : (byteAt (bs r) 0 == 48) = false := by rw [beq_eq_false_iff_ne]; exact n48
        refine PCr.pc (PCr.of tab_ok Tryz.func67 rfl rfl rfl fun c hc hm => ?_)
        rw [show Tryz.f67.ntmps = _ from Tryz.ntmps67] at hc
        simp only [Tryz.f67]
        repeat' first | (exact absurd hlt (by decide)) | (refine AWp.seq fun K hK => ?_) | ((first | refine AWp.region (by rw [hc]; rfl) ?_ | refine AWp.skip ?_ | refine AWp.exit ?_ | refine AWp.label ?_ | refine AWp.ret ?_ | refine appK_g ?_); simp -implicitDefEqProofs (maxSteps := 1000000) (disch := omega) only [go_sem, ↓reduceIte, hsz, f1, f2, f3, f4]) | ((first | refine hK _ ?_ | (clear hK; first | refine hK _ ?_ | (clear hK; first | refine hK _ ?_ | (clear hK; refine hK _ ?_)))); clear hK) | (refine AWp.cond ?_; simp -implicitDefEqProofs (maxSteps := 1000000) (disch := omega) only [go_sem, ↓reduceIte, hsz, f1, f2, f3, f4]; try (refine ⟨fun hlt => ?_, fun hlt => ?_⟩ <;> (try simp only [cla, clb, ne_eq, reduceCtorEq] at hlt) <;> (try exact hlt.elim))) | (refine AWp.block ?_) | ((first | refine gdO_split (fun hlt => ?_) (fun hlt => ?_) | refine tkO_split (fun hlt => ?_) (fun hlt => ?_) | refine opO_split (fun hlt => ?_) (fun hlt => ?_)) <;> have hgd := hlt <;> (try simp only [cla, clb, ne_eq, cld] at hlt) <;> (simp -implicitDefEqProofs (maxSteps := 1000000) (disch := omega) only [go_sem, ↓reduceIte, hsz, f1, f2, f3, f4, hgd]) <;> clear hgd) | (with_reducible refine And.intro ?_ ?_; · first | omega | assumption | exact ⟨_, _, rfl, rfl⟩) | ((first | refine ⟨_, hcut, ?_⟩ | refine ⟨_, hdig, ?_⟩); simp -implicitDefEqProofs (maxSteps := 1000000) (disch := omega) only [go_sem, ↓reduceIte, hsz, f1, f2, f3, f4]) | fail
        refine AWp.loopInv (FRd neg r) (fun a => r.length + 9 - 9 * a.1) (fun a => a.2.length = a.1 ∧ dig a.2 ∧ val a.2 = ((dv 0 (r.drop (r.length - 9 * a.1)) : Nat) : Int) ∧ 9 * a.1 < r.length + 9) (0, []) ⟨rfl, dig_nil, by simp [dv_nil, val], by simp only; omega⟩ (Sub.of0 hm id rfl ?_ ?_ (fun _ _ _ _ h => h)) ?_
        all_goals (try dsimp only)
        all_goals (first | omega | (simp -implicitDefEqProofs (maxSteps := 1000000) (disch := omega) only [FRd, id, go_sem, Nat.blt_eq, Nat.reduceAdd, Nat.reduceSub, Nat.reduceEqDiff, Nat.reduceLT, ↓reduceIte, and_true, true_and, AV.dat.injEq, DV.int.injEq, DV.bool.injEq, DV.lst.injEq, eq_self_iff_true]; first | done | omega | (simp; done) | (simp; omega)) | (simp; done) | (simp; omega) | skip)
        rintro ⟨j, l⟩ ⟨b1, b2, b3, b4⟩ ih
        simp only at b1 b2 b3 b4
        simp only [FRd]
        have hat : 9 * j < r.length → PC Tryz.prog 118 [.dat (.str ((bs r).extract (max 0 ((r.length : Int) - 9 * j - 9)).toNat ((r.length : Int) - 9 * j).toNat))] (.tup [I ((dv 0 ((r.take (r.length - 9 * j)).drop (r.length - 9 * (j + 1))) : Nat) : Int), .dat .inil]) := fun h => by
          rw [show (max 0 ((r.length : Int) - 9 * j - 9)).toNat = r.length - 9 * (j + 1) by omega, show ((r.length : Int) - 9 * j).toNat = r.length - 9 * j by omega, bs_extract]
          refine atoi_pc _ ?_ _ ?_
          · rw [bs_size, List.length_drop, List.length_take]; omega
          · rw [bs_toList]
            refine atoi_isD (fun x hx => hd x (List.mem_of_mem_take (List.mem_of_mem_drop hx))) (fun e => ?_) ?_
            · have := congrArg List.length e
              rw [List.length_drop, List.length_take, List.length_nil] at this; omega
            · rw [List.length_drop, List.length_take]; omega
        have hfin : r.length ≤ 9 * j → PC Tryz.prog 91 [B neg, L l] (Z (sg neg (dv 0 r))) := fun h => by
          refine signed_v neg l (dv 0 r) b2 (by omega) ?_
          rw [b3, show r.length - 9 * j = 0 by omega, List.drop_zero]
        repeat' first | (exact absurd hlt (by decide)) | (refine AWp.seq fun K hK => ?_) | ((first | refine AWp.region (by rw [hc]; rfl) ?_ | refine AWp.skip ?_ | refine AWp.exit ?_ | refine AWp.label ?_ | refine AWp.ret ?_ | refine appK_g ?_); simp -implicitDefEqProofs (maxSteps := 1000000) (disch := omega) only [go_sem, ↓reduceIte, hsz]) | ((first | refine hK _ ?_ | (clear hK; first | refine hK _ ?_ | (clear hK; first | refine hK _ ?_ | (clear hK; refine hK _ ?_)))); clear hK) | (refine AWp.cond ?_; simp -implicitDefEqProofs (maxSteps := 1000000) (disch := omega) only [go_sem, ↓reduceIte, hsz]; try (refine ⟨fun hlt => ?_, fun hlt => ?_⟩ <;> (try simp only [cla, clb, ne_eq, reduceCtorEq] at hlt) <;> (try exact hlt.elim))) | (refine AWp.block ?_) | ((first | refine gdO_split (fun hlt => ?_) (fun hlt => ?_) | refine tkO_split (fun hlt => ?_) (fun hlt => ?_) | refine opO_split (fun hlt => ?_) (fun hlt => ?_)) <;> have hgd := hlt <;> (try simp only [cla, clb, ne_eq, cld] at hlt) <;> (simp -implicitDefEqProofs (maxSteps := 1000000) (disch := omega) only [go_sem, ↓reduceIte, hsz, hgd]) <;> clear hgd) | (with_reducible refine And.intro ?_ ?_; · first | omega | assumption | exact ⟨_, _, rfl, rfl⟩) | ((first | refine ⟨_, hat (by omega), ?_⟩ | refine ⟨_, hfin (by omega), ?_⟩); simp -implicitDefEqProofs (maxSteps := 1000000) (disch := omega) only [go_sem, ↓reduceIte, hsz]) | fail
        · have h9 : 9 * j < r.length := by omega
          have hsl : isD ((r.take (r.length - 9 * j)).drop (r.length - 9 * (j + 1))) := fun x hx => hd x (List.mem_of_mem_take (List.mem_of_mem_drop hx))
          have hx := dv_lt hsl
          have hx2 : 10 ^ ((r.take (r.length - 9 * j)).drop (r.length - 9 * (j + 1))).length ≤ 10 ^ 9 := Nat.pow_le_pow_right (by decide) (by rw [List.length_drop, List.length_take]; omega)
          have hsp : r.drop (r.length - 9 * (j + 1)) = (r.take (r.length - 9 * j)).drop (r.length - 9 * (j + 1)) ++ r.drop (r.length - 9 * j) := by
            exact drop_split r (by omega) (by omega)
          generalize hy : (r.take (r.length - 9 * j)).drop (r.length - 9 * (j + 1)) = sl at *
          refine ih (j + 1, l ++ [((dv 0 sl : Nat) : Int)]) _ ⟨by simp only [List.length_append, List.length_cons, List.length_nil]; omega, dig_snoc b2 ⟨by omega, by omega⟩, ?_, by simp only; omega⟩ (by simp only; omega) (Sub.of0 hm (fun i => if i = 0 then 0 else 3) rfl ?_ ?_ ?_)
          · simp only
            rw [hsp, dv_app, dv_lin (r.drop (r.length - 9 * j)) (dv 0 sl), val_append, b1, b3, Bp_nat, List.length_drop, show r.length - (r.length - 9 * j) = 9 * j by omega]
            simp only [val, Int.natCast_add, Int.natCast_mul]
            grind
          all_goals (try dsimp only)
          all_goals (first | omega | (simp -implicitDefEqProofs (maxSteps := 1000000) (disch := omega) only [FRd, id, go_sem, Nat.blt_eq, Nat.reduceAdd, Nat.reduceSub, Nat.reduceEqDiff, Nat.reduceLT, ↓reduceIte, and_true, true_and, AV.dat.injEq, DV.int.injEq, DV.bool.injEq, DV.lst.injEq, eq_self_iff_true]; first | done | omega | (simp; done) | (simp; omega)) | (simp; done) | (simp; omega) | skip)
          all_goals
            intro a b h1 h2 h
            change a < 2 at h1; change b < 2 at h2
            (split at h <;> split at h) <;> omega
end Go.Proofs.YthhjcfejgoddlaaGreatDoor
end

section
set_option linter.unusedSimpArgs false
set_option linter.unusedVariables false
set_option maxRecDepth 100000
namespace Go.Proofs.YthhjcfejgoddlaaGreatDoor
open Go Go.Abs Go.RowKit
attribute [local go_sem] wrap64 Int.tdiv_eq_ediv_of_nonneg Int.tmod_eq_emod_of_nonneg eq_self Bool.false_eq_true Bool.true_eq_false Bool.not_true Bool.not_false
attribute [local go_sem_proc] Nat.reduceAdd Nat.reduceMul Nat.reduceEqDiff Nat.reduceLT Nat.reduceLeDiff Int.reduceEq Int.reduceNeg Int.reduceToNat reduceCtorEq Int.reduceBNe Int.reduceBEq

theorem isDigit_pc (x : Int) : PC Tryz.prog 119 [.dat (.int .u8 x)] (B (decide (48 ≤ x ∧ x ≤ 57))) := by
  refine PCr.pc (PCr.of tab_ok Tryz.func119 rfl rfl rfl fun c hc hm => ?_)
  rw [show Tryz.f119.ntmps = _ from Tryz.ntmps119] at hc
  simp only [Tryz.f119]
  repeat' first | (refine AWp.seq fun K hK => ?_) | ((first | refine AWp.region (by rw [hc]; rfl) ?_ | refine AWp.skip ?_ | refine AWp.exit ?_ | refine AWp.label ?_ | refine AWp.ret ?_ | refine appK_g ?_); simp -implicitDefEqProofs (maxSteps := 1000000) (disch := omega) only [go_sem, ↓reduceIte]) | ((first | refine hK _ ?_ | (clear hK; first | refine hK _ ?_ | (clear hK; first | refine hK _ ?_ | (clear hK; refine hK _ ?_)))); clear hK) | (refine AWp.cond ?_; simp -implicitDefEqProofs (maxSteps := 1000000) (disch := omega) only [go_sem, ↓reduceIte]; try (refine ⟨fun hlt => ?_, fun hlt => ?_⟩ <;> (try simp only [cla, clb, ne_eq, reduceCtorEq] at hlt) <;> (try exact hlt.elim))) | (refine AWp.block ?_) | ((first | refine gdO_split (fun hlt => ?_) (fun hlt => ?_) | refine tkO_split (fun hlt => ?_) (fun hlt => ?_) | refine opO_split (fun hlt => ?_) (fun hlt => ?_)) <;> have hgd := hlt <;> (try simp only [cla, clb, ne_eq, cld] at hlt) <;> (simp -implicitDefEqProofs (maxSteps := 1000000) (disch := omega) only [go_sem, ↓reduceIte, hgd]) <;> clear hgd) | (with_reducible refine And.intro ?_ ?_; · first | omega | assumption | exact ⟨_, _, rfl, rfl⟩) | fail
  all_goals first
    | (rw [decide_eq_decide]; omega)
    | (refine (decide_eq_false ?_).symm; omega)
theorem isDb_at (r : List UInt8) (i : Nat) : decide (48 ≤ byteAt (bs r) i ∧ byteAt (bs r) i ≤ 57) = isDb (r.getD i 0) := by
  rw [byteAt_bs]; unfold isDb; rw [decide_eq_decide]; omega
theorem D_len10 {v i : Nat} (h : v < 10 ^ i) : (D v).length ≤ i + 1 := by
  by_cases h0 : v = 0
  · subst h0; rw [D_zero]; exact Nat.zero_le _
  · have h1 := D_len_ge h0
    rw [Bp_nat] at h1
    have h2 : 10 ^ (9 * ((D v).length - 1)) ≤ v := by exact_mod_cast h1
    have h3 := (Nat.pow_lt_pow_iff_right (by decide : 1 < 10)).1 (Nat.lt_of_le_of_lt h2 h)
    omega
theorem Zr_sg {neg : Bool} {v : Nat} (h : neg = true → v ≠ 0) : Zr neg (D v) = Z (sg neg v) := by
  show _ = Zr (decide (sg neg v < 0)) (D (sg neg v).natAbs)
  rw [sg_natAbs]
  congr 1
  cases neg
  · symm; apply decide_eq_false; simp [sg]
  · symm; apply decide_eq_true; have := h rfl; simp [sg]; omega
def F68 (neg : Bool) (r : List UInt8) (i : Nat) : St := ⟨[(0, .dat (.str (bs r))), (2, .ptr 0 0), (3, I 0), (4, B neg), (5, I i)], [(0, .box [B false, .nil] false)], 1, 0⟩
/-- A part of a code. -/
noncomputable def cq : List Bool → Code → Code
  | [], x => x
  | true :: p, .seq x _ => cq p x
  | false :: p, .seq _ y => cq p y
  | _, x => x
noncomputable def body68 : Code := match Tryz.f68.body with
  | some x => x
  | none => .skip
def E68 (neg : Bool) (r : List UInt8) : St := ⟨[(0, .dat (.str (bs r))), (2, .ptr 0 0), (3, I 0), (4, B neg)], [(0, .box [B false, .nil] false)], 1, 0⟩
def G68 (neg : Bool) (r : List UInt8) (i : Nat) : St := ⟨[(0, .dat (.str (bs r))), (2, .ptr 0 0), (3, I 0), (4, B neg), (5, I r.length), (6, L (D (dv 0 (r.take i)))), (7, I i)], [(0, .box [B false, .nil] false)], 1, 0⟩
theorem dv_snoc {r : List UInt8} {i : Nat} (h : i < r.length) : dv 0 (r.take (i + 1)) = dv 0 (r.take i) * 10 + ((r.getD i 0).toNat - 48) := by
  rw [List.take_add_one, dv_app, List.getElem?_eq_getElem h]
  simp [dv_cons, dv_nil, List.getD, h]
theorem rd_digit {r : List UInt8} {i : Nat} (hd : isD r) (h : i < r.length) : IntKind.u8.wrap (byteAt (bs r) i - 48) = (((r.getD i 0).toNat - 48 : Nat) : Int) := by
  have h1 := hd (r.getD i 0) (by simp [List.getD, h])
  rw [byteAt_bs]
  unfold IntKind.wrap
  show (if (false && _) = true then _ else (((r.getD i 0).toNat : Int) - 48) % 256) = _
  simp only [Bool.false_and, Bool.false_eq_true, ↓reduceIte]
  omega
set_option maxHeartbeats 8000000 in
theorem rRead_tail2 (c : Ctx) (hc : c.N = 87) (hm : c.m = 0 ∧ c.fv = []) (neg : Bool) (r : List UInt8) (hlr : r.length ≤ 1000000) (m : Nat) (hmm : m = min (ndl r) 361) : AWp Tryz.prog tab c none (cq [false, false, false, false, false] body68) (F68 neg r m) (retQ tab [.cell 2 24, .tmp 3] (fun x => x = rdV neg r)) := by
  have hsz := bs_size r
  have hle := ndl_le r
  simp only [cq, body68, Tryz.f68, F68]
  have hb0 := byteAt_bs r 0
  have h48 := b48 (r.getD 0 0)
  rw [← hb0] at h48
  have hstr : ((bs r).toList == (⟨#[48]⟩ : ByteArray).toList) = (r == [48]) := by rw [ByteArray.toList_eq, ByteArray.toList_eq, bs_toList]
  unfold rdV
  by_cases hE : rdE r
  · rw [if_pos hE]
    obtain ⟨e1, e2⟩ := hE
    have e3 : (byteAt (bs r) 0 != 48) = true := by rw [bne_iff_ne, ne_eq, h48]; exact e2
    have e4 : decide ((360 : Int) < (m : Int)) = true := decide_eq_true (by omega)
    repeat' first | (exact absurd hlt (by decide)) | (refine AWp.seq fun K hK => ?_) | ((first | refine AWp.draw (id := 15) [.take 0, .take 1, .take 2, .take 3, .take 4, .take 5, .take 6, .take 7, .take 8, .take 9, .take 10, .take 11] mixed_ok (by kernel_rfl) (by rw [hc]; rfl) ?_ | refine AWp.region (by rw [hc]; rfl) ?_ | refine AWp.skip ?_ | refine AWp.exit ?_ | refine AWp.label ?_ | refine AWp.ret ?_ | refine appK_g ?_); simp -implicitDefEqProofs (maxSteps := 1000000) (disch := omega) only [go_sem, ↓reduceIte, hsz, e3, e4]) | ((first | refine hK _ ?_ | (clear hK; first | refine hK _ ?_ | (clear hK; first | refine hK _ ?_ | (clear hK; refine hK _ ?_)))); clear hK) | (refine AWp.cond ?_; simp -implicitDefEqProofs (maxSteps := 1000000) (disch := omega) only [go_sem, ↓reduceIte, hsz, e3, e4]; try (refine ⟨fun hlt => ?_, fun hlt => ?_⟩ <;> (try simp only [cla, clb, ne_eq, reduceCtorEq] at hlt) <;> (try exact hlt.elim))) | (refine AWp.block ?_) | ((first | refine gdO_split (fun hlt => ?_) (fun hlt => ?_) | refine tkO_split (fun hlt => ?_) (fun hlt => ?_) | refine opO_split (fun hlt => ?_) (fun hlt => ?_)) <;> have hgd := hlt <;> (try simp only [cla, clb, ne_eq, cld] at hlt) <;> (simp -implicitDefEqProofs (maxSteps := 1000000) (disch := omega) only [go_sem, ↓reduceIte, hsz, e3, e4, hgd]) <;> clear hgd) | (with_reducible refine And.intro ?_ ?_; · first | omega | assumption | exact ⟨_, _, rfl, rfl⟩) | fail
  · rw [if_neg hE]
    have hE' : 360 < m → byteAt (bs r) 0 = 48 := fun h => by
      rw [h48]; exact Classical.not_not.1 fun h2 => hE ⟨by omega, h2⟩
    by_cases hN : rdN neg r
    · rw [if_pos hN]
      unfold rdN at hN
      rw [← h48] at hN
      by_cases n0 : ndl r = 0
      · have f1 : decide ((360 : Int) < (m : Int)) = false := decide_eq_false (by omega)
        have f2 : ((m : Int) == 0) = true := by rw [beq_iff_eq]; omega
        repeat' first | (exact absurd hlt (by decide)) | (refine AWp.seq fun K hK => ?_) | ((first | refine AWp.draw (id := 15) [.take 0, .take 1, .take 2, .take 3, .take 4, .take 5, .take 6, .take 7, .take 8, .take 9, .take 10, .take 11] mixed_ok (by kernel_rfl) (by rw [hc]; rfl) ?_ | refine AWp.region (by rw [hc]; rfl) ?_ | refine AWp.skip ?_ | refine AWp.exit ?_ | refine AWp.label ?_ | refine AWp.ret ?_ | refine appK_g ?_); simp -implicitDefEqProofs (maxSteps := 1000000) (disch := omega) only [go_sem, ↓reduceIte, hsz, f1, f2]) | ((first | refine hK _ ?_ | (clear hK; first | refine hK _ ?_ | (clear hK; first | refine hK _ ?_ | (clear hK; refine hK _ ?_)))); clear hK) | (refine AWp.cond ?_; simp -implicitDefEqProofs (maxSteps := 1000000) (disch := omega) only [go_sem, ↓reduceIte, hsz, f1, f2]; try (refine ⟨fun hlt => ?_, fun hlt => ?_⟩ <;> (try simp only [cla, clb, ne_eq, reduceCtorEq] at hlt) <;> (try exact hlt.elim))) | (refine AWp.block ?_) | ((first | refine gdO_split (fun hlt => ?_) (fun hlt => ?_) | refine tkO_split (fun hlt => ?_) (fun hlt => ?_) | refine opO_split (fun hlt => ?_) (fun hlt => ?_)) <;> have hgd := hlt <;> (try simp only [cla, clb, ne_eq, cld] at hlt) <;> (simp -implicitDefEqProofs (maxSteps := 1000000) (disch := omega) only [go_sem, ↓reduceIte, hsz, f1, f2, hgd]) <;> clear hgd) | (with_reducible refine And.intro ?_ ?_; · first | omega | assumption | exact ⟨_, _, rfl, rfl⟩) | fail
      · have f2 : ((m : Int) == 0) = false := by rw [beq_eq_false_iff_ne]; omega
        by_cases n1 : m < r.length
        · have f3 : decide ((m : Int) < (r.length : Int)) = true := decide_eq_true (by omega)
          by_cases n3 : 360 < m
          · have f1 : decide ((360 : Int) < (m : Int)) = true := decide_eq_true (by omega)
            have f4 : (byteAt (bs r) 0 != 48) = false := by rw [bne_eq_false_iff_eq]; exact hE' n3
            repeat' first | (exact absurd hlt (by decide)) | (refine AWp.seq fun K hK => ?_) | ((first | refine AWp.draw (id := 15) [.take 0, .take 1, .take 2, .take 3, .take 4, .take 5, .take 6, .take 7, .take 8, .take 9, .take 10, .take 11] mixed_ok (by kernel_rfl) (by rw [hc]; rfl) ?_ | refine AWp.region (by rw [hc]; rfl) ?_ | refine AWp.skip ?_ | refine AWp.exit ?_ | refine AWp.label ?_ | refine AWp.ret ?_ | refine appK_g ?_); simp -implicitDefEqProofs (maxSteps := 1000000) (disch := omega) only [go_sem, ↓reduceIte, hsz, f1, f2, f3, f4]) | ((first | refine hK _ ?_ | (clear hK; first | refine hK _ ?_ | (clear hK; first | refine hK _ ?_ | (clear hK; refine hK _ ?_)))); clear hK) | (refine AWp.cond ?_; simp -implicitDefEqProofs (maxSteps := 1000000) (disch := omega) only [go_sem, ↓reduceIte, hsz, f1, f2, f3, f4]; try (refine ⟨fun hlt => ?_, fun hlt => ?_⟩ <;> (try simp only [cla, clb, ne_eq, reduceCtorEq] at hlt) <;> (try exact hlt.elim))) | (refine AWp.block ?_) | ((first | refine gdO_split (fun hlt => ?_) (fun hlt => ?_) | refine tkO_split (fun hlt => ?_) (fun hlt => ?_) | refine opO_split (fun hlt => ?_) (fun hlt => ?_)) <;> have hgd := hlt <;> (try simp only [cla, clb, ne_eq, cld] at hlt) <;> (simp -implicitDefEqProofs (maxSteps := 1000000) (disch := omega) only [go_sem, ↓reduceIte, hsz, f1, f2, f3, f4, hgd]) <;> clear hgd) | (with_reducible refine And.intro ?_ ?_; · first | omega | assumption | exact ⟨_, _, rfl, rfl⟩) | fail
          · have f1 : decide ((360 : Int) < (m : Int)) = false := decide_eq_false (by omega)
            repeat' first | (exact absurd hlt (by decide)) | (refine AWp.seq fun K hK => ?_) | ((first | refine AWp.draw (id := 15) [.take 0, .take 1, .take 2, .take 3, .take 4, .take 5, .take 6, .take 7, .take 8, .take 9, .take 10, .take 11] mixed_ok (by kernel_rfl) (by rw [hc]; rfl) ?_ | refine AWp.region (by rw [hc]; rfl) ?_ | refine AWp.skip ?_ | refine AWp.exit ?_ | refine AWp.label ?_ | refine AWp.ret ?_ | refine appK_g ?_); simp -implicitDefEqProofs (maxSteps := 1000000) (disch := omega) only [go_sem, ↓reduceIte, hsz, f1, f2, f3]) | ((first | refine hK _ ?_ | (clear hK; first | refine hK _ ?_ | (clear hK; first | refine hK _ ?_ | (clear hK; refine hK _ ?_)))); clear hK) | (refine AWp.cond ?_; simp -implicitDefEqProofs (maxSteps := 1000000) (disch := omega) only [go_sem, ↓reduceIte, hsz, f1, f2, f3]; try (refine ⟨fun hlt => ?_, fun hlt => ?_⟩ <;> (try simp only [cla, clb, ne_eq, reduceCtorEq] at hlt) <;> (try exact hlt.elim))) | (refine AWp.block ?_) | ((first | refine gdO_split (fun hlt => ?_) (fun hlt => ?_) | refine tkO_split (fun hlt => ?_) (fun hlt => ?_) | refine opO_split (fun hlt => ?_) (fun hlt => ?_)) <;> have hgd := hlt <;> (try simp only [cla, clb, ne_eq, cld] at hlt) <;> (simp -implicitDefEqProofs (maxSteps := 1000000) (disch := omega) only [go_sem, ↓reduceIte, hsz, f1, f2, f3, hgd]) <;> clear hgd) | (with_reducible refine And.intro ?_ ?_; · first | omega | assumption | exact ⟨_, _, rfl, rfl⟩) | fail
        · have f3 : decide ((m : Int) < (r.length : Int)) = false := decide_eq_false (by omega)
          obtain ⟨g1, g2⟩ : byteAt (bs r) 0 = 48 ∧ (1 < ndl r ∨ neg = true) := by
            rcases hN with h | h | h
            · exact absurd h n0
            · exfalso; omega
            · exact h
          have f4 : (byteAt (bs r) 0 != 48) = false := by rw [bne_eq_false_iff_eq]; exact g1
          have f5 : (byteAt (bs r) 0 == 48) = true := by rw [beq_iff_eq]; exact g1
          by_cases n2 : 1 < m
          · have f6 : decide ((1 : Int) < (m : Int)) = true := decide_eq_true (by omega)
            by_cases n3 : 360 < m
            · have f1 : decide ((360 : Int) < (m : Int)) = true := decide_eq_true (by omega)
              repeat' first | (exact absurd hlt (by decide)) | (refine AWp.seq fun K hK => ?_) | ((first | refine AWp.draw (id := 15) [.take 0, .take 1, .take 2, .take 3, .take 4, .take 5, .take 6, .take 7, .take 8, .take 9, .take 10, .take 11] mixed_ok (by kernel_rfl) (by rw [hc]; rfl) ?_ | refine AWp.region (by rw [hc]; rfl) ?_ | refine AWp.skip ?_ | refine AWp.exit ?_ | refine AWp.label ?_ | refine AWp.ret ?_ | refine appK_g ?_); simp -implicitDefEqProofs (maxSteps := 1000000) (disch := omega) only [go_sem, ↓reduceIte, hsz, f1, f2, f3, f4, f5, f6]) | ((first | refine hK _ ?_ | (clear hK; first | refine hK _ ?_ | (clear hK; first | refine hK _ ?_ | (clear hK; refine hK _ ?_)))); clear hK) | (refine AWp.cond ?_; simp -implicitDefEqProofs (maxSteps := 1000000) (disch := omega) only [go_sem, ↓reduceIte, hsz, f1, f2, f3, f4, f5, f6]; try (refine ⟨fun hlt => ?_, fun hlt => ?_⟩ <;> (try simp only [cla, clb, ne_eq, reduceCtorEq] at hlt) <;> (try exact hlt.elim))) | (refine AWp.block ?_) | ((first | refine gdO_split (fun hlt => ?_) (fun hlt => ?_) | refine tkO_split (fun hlt => ?_) (fun hlt => ?_) | refine opO_split (fun hlt => ?_) (fun hlt => ?_)) <;> have hgd := hlt <;> (try simp only [cla, clb, ne_eq, cld] at hlt) <;> (simp -implicitDefEqProofs (maxSteps := 1000000) (disch := omega) only [go_sem, ↓reduceIte, hsz, f1, f2, f3, f4, f5, f6, hgd]) <;> clear hgd) | (with_reducible refine And.intro ?_ ?_; · first | omega | assumption | exact ⟨_, _, rfl, rfl⟩) | fail
            · have f1 : decide ((360 : Int) < (m : Int)) = false := decide_eq_false (by omega)
              repeat' first | (exact absurd hlt (by decide)) | (refine AWp.seq fun K hK => ?_) | ((first | refine AWp.draw (id := 15) [.take 0, .take 1, .take 2, .take 3, .take 4, .take 5, .take 6, .take 7, .take 8, .take 9, .take 10, .take 11] mixed_ok (by kernel_rfl) (by rw [hc]; rfl) ?_ | refine AWp.region (by rw [hc]; rfl) ?_ | refine AWp.skip ?_ | refine AWp.exit ?_ | refine AWp.label ?_ | refine AWp.ret ?_ | refine appK_g ?_); simp -implicitDefEqProofs (maxSteps := 1000000) (disch := omega) only [go_sem, ↓reduceIte, hsz, f1, f2, f3, f4, f5, f6]) | ((first | refine hK _ ?_ | (clear hK; first | refine hK _ ?_ | (clear hK; first | refine hK _ ?_ | (clear hK; refine hK _ ?_)))); clear hK) | (refine AWp.cond ?_; simp -implicitDefEqProofs (maxSteps := 1000000) (disch := omega) only [go_sem, ↓reduceIte, hsz, f1, f2, f3, f4, f5, f6]; try (refine ⟨fun hlt => ?_, fun hlt => ?_⟩ <;> (try simp only [cla, clb, ne_eq, reduceCtorEq] at hlt) <;> (try exact hlt.elim))) | (refine AWp.block ?_) | ((first | refine gdO_split (fun hlt => ?_) (fun hlt => ?_) | refine tkO_split (fun hlt => ?_) (fun hlt => ?_) | refine opO_split (fun hlt => ?_) (fun hlt => ?_)) <;> have hgd := hlt <;> (try simp only [cla, clb, ne_eq, cld] at hlt) <;> (simp -implicitDefEqProofs (maxSteps := 1000000) (disch := omega) only [go_sem, ↓reduceIte, hsz, f1, f2, f3, f4, f5, f6, hgd]) <;> clear hgd) | (with_reducible refine And.intro ?_ ?_; · first | omega | assumption | exact ⟨_, _, rfl, rfl⟩) | fail
          · have f6 : decide ((1 : Int) < (m : Int)) = false := decide_eq_false (by omega)
            have f1 : decide ((360 : Int) < (m : Int)) = false := decide_eq_false (by omega)
            have hneg : neg = true := g2.resolve_left (by omega)
            subst hneg
            have hr48 : (r == [48]) = true := by
              rw [beq_iff_eq]
              rw [h48] at g1
              match r, (show r.length = 1 by omega) with
              | [x], _ => rw [List.getD_cons_zero] at g1; rw [g1]
            rw [hr48] at hstr
            repeat' first | (exact absurd hlt (by decide)) | (refine AWp.seq fun K hK => ?_) | ((first | refine AWp.draw (id := 15) [.take 0, .take 1, .take 2, .take 3, .take 4, .take 5, .take 6, .take 7, .take 8, .take 9, .take 10, .take 11] mixed_ok (by kernel_rfl) (by rw [hc]; rfl) ?_ | refine AWp.region (by rw [hc]; rfl) ?_ | refine AWp.skip ?_ | refine AWp.exit ?_ | refine AWp.label ?_ | refine AWp.ret ?_ | refine appK_g ?_); simp -implicitDefEqProofs (maxSteps := 1000000) (disch := omega) only [go_sem, ↓reduceIte, hsz, hstr, f1, f2, f3, f4, f5, f6]) | ((first | refine hK _ ?_ | (clear hK; first | refine hK _ ?_ | (clear hK; first | refine hK _ ?_ | (clear hK; refine hK _ ?_)))); clear hK) | (refine AWp.cond ?_; simp -implicitDefEqProofs (maxSteps := 1000000) (disch := omega) only [go_sem, ↓reduceIte, hsz, hstr, f1, f2, f3, f4, f5, f6]; try (refine ⟨fun hlt => ?_, fun hlt => ?_⟩ <;> (try simp only [cla, clb, ne_eq, reduceCtorEq] at hlt) <;> (try exact hlt.elim))) | (refine AWp.block ?_) | ((first | refine gdO_split (fun hlt => ?_) (fun hlt => ?_) | refine tkO_split (fun hlt => ?_) (fun hlt => ?_) | refine opO_split (fun hlt => ?_) (fun hlt => ?_)) <;> have hgd := hlt <;> (try simp only [cla, clb, ne_eq, cld] at hlt) <;> (simp -implicitDefEqProofs (maxSteps := 1000000) (disch := omega) only [go_sem, ↓reduceIte, hsz, hstr, f1, f2, f3, f4, f5, f6, hgd]) <;> clear hgd) | (with_reducible refine And.intro ?_ ?_; · first | omega | assumption | exact ⟨_, _, rfl, rfl⟩) | fail
    · rw [if_neg hN]
      unfold rdN at hN
      rw [← h48] at hN
      have hn0 : ndl r = r.length := Classical.not_not.1 fun h => hN (.inr (.inl h))
      have hn1 : 0 < r.length := by
        rcases Nat.eq_zero_or_pos (ndl r) with h | h
        · exact absurd (.inl h) hN
        · omega
      have hn2 : byteAt (bs r) 0 = 48 → r.length ≤ 1 ∧ neg = false := fun h => ⟨Nat.not_lt.1 fun h3 => hN (.inr (.inr ⟨h, .inl (by omega)⟩)), by
        cases neg
        · rfl
        · exact absurd (.inr (.inr ⟨h, .inr rfl⟩)) hN⟩
      have hd : isD r := by have := ndl_isD r; rwa [hn0, List.take_length] at this
      have hr360 : r.length ≤ 360 := by
        rcases Nat.lt_or_ge 360 r.length with h | h
        · have := hn2 (hE' (by omega)); omega
        · exact h
      have hml : m = r.length := by omega
      subst hml
      have hv0 : neg = true → dv 0 r ≠ 0 := fun h => by
        have h0 : byteAt (bs r) 0 ≠ 48 := fun h3 => by have := (hn2 h3).2; rw [h] at this; cases this
        rw [ne_eq, h48] at h0
        match r, hn1 with
        | x :: l, _ =>
          rw [List.getD_cons_zero] at h0
          have h4 := hd x (by simp)
          have h5 : x.toNat ≠ 48 := fun e => h0 (UInt8.toNat_inj.1 e)
          rw [dv_cons0]
          have h6 : 1 * 10 ^ l.length ≤ (x.toNat - 48) * 10 ^ l.length := Nat.mul_le_mul_right _ (by omega)
          have h7 : 0 < 10 ^ l.length := Nat.pow_pos (by decide)
          omega
      have f1 : decide ((360 : Int) < (r.length : Int)) = false := decide_eq_false (by omega)
      have f2 : ((r.length : Int) == 0) = false := by rw [beq_eq_false_iff_ne]; omega
      have f3 : decide ((r.length : Int) < (r.length : Int)) = false := decide_eq_false (by omega)
      have f9 : neg = true → (r == [48]) = false := fun h => by
        rw [beq_eq_false_iff_ne]
        rintro rfl
        exact absurd (hn2 rfl).2 (by rw [h]; decide)
      clear hN hE hE'
      rw [← Zr_sg hv0]
      by_cases n2 : 1 < r.length
      · have f6 : decide ((1 : Int) < (r.length : Int)) = true := decide_eq_true (by omega)
        have f5 : (byteAt (bs r) 0 == 48) = false := by rw [beq_eq_false_iff_ne]; exact fun h => by have := (hn2 h).1; omega
        cases neg
        · repeat' first | (exact absurd hlt (by decide)) | (refine AWp.seq fun K hK => ?_) | ((first | refine AWp.draw (id := 15) [.take 0, .take 1, .take 2, .take 3, .take 4, .take 5, .take 6, .take 7, .take 8, .take 9, .take 10, .take 11] mixed_ok (by kernel_rfl) (by rw [hc]; rfl) ?_ | refine AWp.region (by rw [hc]; rfl) ?_ | refine AWp.skip ?_ | refine AWp.exit ?_ | refine AWp.label ?_ | refine AWp.ret ?_ | refine appK_g ?_); simp -implicitDefEqProofs (maxSteps := 1000000) (disch := omega) only [go_sem, ↓reduceIte, hsz, f1, f2, f3, f5, f6]) | ((first | refine hK _ ?_ | (clear hK; first | refine hK _ ?_ | (clear hK; first | refine hK _ ?_ | (clear hK; refine hK _ ?_)))); clear hK) | (refine AWp.cond ?_; simp -implicitDefEqProofs (maxSteps := 1000000) (disch := omega) only [go_sem, ↓reduceIte, hsz, f1, f2, f3, f5, f6]; try (refine ⟨fun hlt => ?_, fun hlt => ?_⟩ <;> (try simp only [cla, clb, ne_eq, reduceCtorEq] at hlt) <;> (try exact hlt.elim))) | (refine AWp.block ?_) | ((first | refine gdO_split (fun hlt => ?_) (fun hlt => ?_) | refine tkO_split (fun hlt => ?_) (fun hlt => ?_) | refine opO_split (fun hlt => ?_) (fun hlt => ?_)) <;> have hgd := hlt <;> (try simp only [cla, clb, ne_eq, cld] at hlt) <;> (simp -implicitDefEqProofs (maxSteps := 1000000) (disch := omega) only [go_sem, ↓reduceIte, hsz, f1, f2, f3, f5, f6, hgd]) <;> clear hgd) | (with_reducible refine And.intro ?_ ?_; · first | omega | assumption | exact ⟨_, _, rfl, rfl⟩) | fail
          refine AWp.sub (Sub.toDat 6 rfl) ?_
          refine AWp.loopInv (G68 false r) (fun i => r.length - i) (fun i => i ≤ r.length) 0 (Nat.zero_le _) (Sub.of0 hm id rfl ?_ ?_ (fun _ _ _ _ h => h)) ?_
          all_goals (try dsimp only)
          all_goals (first | omega | (simp -implicitDefEqProofs (maxSteps := 1000000) (disch := omega) only [G68, List.take_zero, dv_nil, D_zero, List.map_nil, id, go_sem, Nat.blt_eq, Nat.reduceAdd, Nat.reduceSub, Nat.reduceEqDiff, Nat.reduceLT, ↓reduceIte, and_true, true_and, AV.dat.injEq, DV.int.injEq, DV.bool.injEq, DV.lst.injEq, eq_self_iff_true]; first | done | omega | (simp; done) | (simp; omega)) | (simp; done) | (simp; omega) | skip)
          intro i b1 ih
          simp only [G68]
          have hv := dv_lt (l := r.take i) (fun x hx => hd x (List.mem_of_mem_take hx))
          rw [List.length_take, Nat.min_eq_left b1] at hv
          have hlv := D_len10 hv
          have t1 := rtimes_D (dv 0 (r.take i)) 10 (by omega) (by rw [D_sm (by decide) (by decide)]; simp)
          rw [D_sm (n := 10) (by decide) (by decide)] at t1
          have t1 : PC Tryz.prog 104 [L (D (dv 0 (r.take i))), .dat (.lst [[.int .i64 10]])] (L (D (dv 0 (r.take i) * 10))) := t1
          have lt1 := D_mul_len (dv 0 (r.take i)) 10
          have lt2 : (D 10).length ≤ 1 := D_one_len (by decide)
          have hw := fun (h : i < r.length) => rd_digit hd h
          have s1 := fun (h : i < r.length) => shorn_one ((r.getD i 0).toNat - 48) (by have := r.getD i 0 |>.toNat_lt; omega)
          have a1 := rsum_D (dv 0 (r.take i) * 10) ((r.getD i 0).toNat - 48) (by omega) (Nat.le_trans (len1 (by have := r.getD i 0 |>.toNat_lt; omega)) (by omega))
          rcases Nat.lt_or_ge i r.length with hi | hi
          · have hw := hw hi
            have s1 := s1 hi
            rw [← dv_snoc hi] at a1
            have hw2 : IntKind.i64.wrap (((r.getD i 0).toNat - 48 : Nat) : Int) = (((r.getD i 0).toNat - 48 : Nat) : Int) := by rw [IntWalk.i64_left]; exact IntWalk.wrap64_in _ (by have := (r.getD i 0).toNat_lt; omega)
            have hic : decide ((i : Int) < (r.length : Int)) = true := decide_eq_true (by omega)
            repeat' first | (exact absurd hlt (by decide)) | (refine AWp.seq fun K hK => ?_) | ((first | refine AWp.draw (id := 15) [.take 0, .take 1, .take 2, .take 3, .take 4, .take 5, .take 6, .take 7, .take 8, .take 9, .take 10, .take 11] mixed_ok (by kernel_rfl) (by rw [hc]; rfl) ?_ | refine AWp.region (by rw [hc]; rfl) ?_ | refine AWp.skip ?_ | refine AWp.exit ?_ | refine AWp.label ?_ | refine AWp.ret ?_ | refine appK_g ?_); simp -implicitDefEqProofs (maxSteps := 1000000) (disch := omega) only [go_sem, ↓reduceIte, hsz, hw, hw2, hic]) | ((first | refine hK _ ?_ | (clear hK; first | refine hK _ ?_ | (clear hK; first | refine hK _ ?_ | (clear hK; refine hK _ ?_)))); clear hK) | (refine AWp.cond ?_; simp -implicitDefEqProofs (maxSteps := 1000000) (disch := omega) only [go_sem, ↓reduceIte, hsz, hw, hw2, hic]; try (refine ⟨fun hlt => ?_, fun hlt => ?_⟩ <;> (try simp only [cla, clb, ne_eq, reduceCtorEq] at hlt) <;> (try exact hlt.elim))) | (refine AWp.block ?_) | ((first | refine gdO_split (fun hlt => ?_) (fun hlt => ?_) | refine tkO_split (fun hlt => ?_) (fun hlt => ?_) | refine opO_split (fun hlt => ?_) (fun hlt => ?_)) <;> have hgd := hlt <;> (try simp only [cla, clb, ne_eq, cld] at hlt) <;> (simp -implicitDefEqProofs (maxSteps := 1000000) (disch := omega) only [go_sem, ↓reduceIte, hsz, hw, hw2, hic, hgd]) <;> clear hgd) | (with_reducible refine And.intro ?_ ?_; · first | omega | assumption | exact ⟨_, _, rfl, rfl⟩) | ((first | refine ⟨_, t1, ?_⟩ | refine ⟨_, s1, ?_⟩ | refine ⟨_, a1, ?_⟩); simp -implicitDefEqProofs (maxSteps := 1000000) (disch := omega) only [go_sem, ↓reduceIte, hsz, hw, hw2, hic]) | fail
            refine ih (i + 1) _ (by omega) (by omega) (Sub.of0 hm id rfl ?_ ?_ (fun _ _ _ _ h => h))
            all_goals (try dsimp only)
            all_goals (first | omega | (simp -implicitDefEqProofs (maxSteps := 1000000) (disch := omega) only [G68, id, go_sem, Nat.blt_eq, Nat.reduceAdd, Nat.reduceSub, Nat.reduceEqDiff, Nat.reduceLT, ↓reduceIte, and_true, true_and, AV.dat.injEq, DV.int.injEq, DV.bool.injEq, DV.lst.injEq, eq_self_iff_true]; first | done | omega | (simp; done) | (simp; omega)) | (simp; done) | (simp; omega) | skip)
          · have hie : i = r.length := by omega
            subst hie
            rw [List.take_length]
            repeat' first | (exact absurd hlt (by decide)) | (refine AWp.seq fun K hK => ?_) | ((first | refine AWp.draw (id := 15) [.take 0, .take 1, .take 2, .take 3, .take 4, .take 5, .take 6, .take 7, .take 8, .take 9, .take 10, .take 11] mixed_ok (by kernel_rfl) (by rw [hc]; rfl) ?_ | refine AWp.region (by rw [hc]; rfl) ?_ | refine AWp.skip ?_ | refine AWp.exit ?_ | refine AWp.label ?_ | refine AWp.ret ?_ | refine appK_g ?_); simp -implicitDefEqProofs (maxSteps := 1000000) (disch := omega) only [go_sem, ↓reduceIte, hsz, f3]) | ((first | refine hK _ ?_ | (clear hK; first | refine hK _ ?_ | (clear hK; first | refine hK _ ?_ | (clear hK; refine hK _ ?_)))); clear hK) | (refine AWp.cond ?_; simp -implicitDefEqProofs (maxSteps := 1000000) (disch := omega) only [go_sem, ↓reduceIte, hsz, f3]; try (refine ⟨fun hlt => ?_, fun hlt => ?_⟩ <;> (try simp only [cla, clb, ne_eq, reduceCtorEq] at hlt) <;> (try exact hlt.elim))) | (refine AWp.block ?_) | ((first | refine gdO_split (fun hlt => ?_) (fun hlt => ?_) | refine tkO_split (fun hlt => ?_) (fun hlt => ?_) | refine opO_split (fun hlt => ?_) (fun hlt => ?_)) <;> have hgd := hlt <;> (try simp only [cla, clb, ne_eq, cld] at hlt) <;> (simp -implicitDefEqProofs (maxSteps := 1000000) (disch := omega) only [go_sem, ↓reduceIte, hsz, f3, hgd]) <;> clear hgd) | (with_reducible refine And.intro ?_ ?_; · first | omega | assumption | exact ⟨_, _, rfl, rfl⟩) | fail
        · have f9 := f9 rfl
          rw [f9] at hstr
          repeat' first | (exact absurd hlt (by decide)) | (refine AWp.seq fun K hK => ?_) | ((first | refine AWp.draw (id := 15) [.take 0, .take 1, .take 2, .take 3, .take 4, .take 5, .take 6, .take 7, .take 8, .take 9, .take 10, .take 11] mixed_ok (by kernel_rfl) (by rw [hc]; rfl) ?_ | refine AWp.region (by rw [hc]; rfl) ?_ | refine AWp.skip ?_ | refine AWp.exit ?_ | refine AWp.label ?_ | refine AWp.ret ?_ | refine appK_g ?_); simp -implicitDefEqProofs (maxSteps := 1000000) (disch := omega) only [go_sem, ↓reduceIte, hsz, hstr, f1, f2, f3, f5, f6]) | ((first | refine hK _ ?_ | (clear hK; first | refine hK _ ?_ | (clear hK; first | refine hK _ ?_ | (clear hK; refine hK _ ?_)))); clear hK) | (refine AWp.cond ?_; simp -implicitDefEqProofs (maxSteps := 1000000) (disch := omega) only [go_sem, ↓reduceIte, hsz, hstr, f1, f2, f3, f5, f6]; try (refine ⟨fun hlt => ?_, fun hlt => ?_⟩ <;> (try simp only [cla, clb, ne_eq, reduceCtorEq] at hlt) <;> (try exact hlt.elim))) | (refine AWp.block ?_) | ((first | refine gdO_split (fun hlt => ?_) (fun hlt => ?_) | refine tkO_split (fun hlt => ?_) (fun hlt => ?_) | refine opO_split (fun hlt => ?_) (fun hlt => ?_)) <;> have hgd := hlt <;> (try simp only [cla, clb, ne_eq, cld] at hlt) <;> (simp -implicitDefEqProofs (maxSteps := 1000000) (disch := omega) only [go_sem, ↓reduceIte, hsz, hstr, f1, f2, f3, f5, f6, hgd]) <;> clear hgd) | (with_reducible refine And.intro ?_ ?_; · first | omega | assumption | exact ⟨_, _, rfl, rfl⟩) | fail
          refine AWp.sub (Sub.toDat 6 rfl) ?_
          refine AWp.loopInv (G68 true r) (fun i => r.length - i) (fun i => i ≤ r.length) 0 (Nat.zero_le _) (Sub.of0 hm id rfl ?_ ?_ (fun _ _ _ _ h => h)) ?_
          all_goals (try dsimp only)
          all_goals (first | omega | (simp -implicitDefEqProofs (maxSteps := 1000000) (disch := omega) only [G68, List.take_zero, dv_nil, D_zero, List.map_nil, id, go_sem, Nat.blt_eq, Nat.reduceAdd, Nat.reduceSub, Nat.reduceEqDiff, Nat.reduceLT, ↓reduceIte, and_true, true_and, AV.dat.injEq, DV.int.injEq, DV.bool.injEq, DV.lst.injEq, eq_self_iff_true]; first | done | omega | (simp; done) | (simp; omega)) | (simp; done) | (simp; omega) | skip)
          intro i b1 ih
          simp only [G68]
          have hv := dv_lt (l := r.take i) (fun x hx => hd x (List.mem_of_mem_take hx))
          rw [List.length_take, Nat.min_eq_left b1] at hv
          have hlv := D_len10 hv
          have t1 := rtimes_D (dv 0 (r.take i)) 10 (by omega) (by rw [D_sm (by decide) (by decide)]; simp)
          rw [D_sm (n := 10) (by decide) (by decide)] at t1
          have t1 : PC Tryz.prog 104 [L (D (dv 0 (r.take i))), .dat (.lst [[.int .i64 10]])] (L (D (dv 0 (r.take i) * 10))) := t1
          have lt1 := D_mul_len (dv 0 (r.take i)) 10
          have lt2 : (D 10).length ≤ 1 := D_one_len (by decide)
          have hw := fun (h : i < r.length) => rd_digit hd h
          have s1 := fun (h : i < r.length) => shorn_one ((r.getD i 0).toNat - 48) (by have := r.getD i 0 |>.toNat_lt; omega)
          have a1 := rsum_D (dv 0 (r.take i) * 10) ((r.getD i 0).toNat - 48) (by omega) (Nat.le_trans (len1 (by have := r.getD i 0 |>.toNat_lt; omega)) (by omega))
          rcases Nat.lt_or_ge i r.length with hi | hi
          · have hw := hw hi
            have s1 := s1 hi
            rw [← dv_snoc hi] at a1
            have hw2 : IntKind.i64.wrap (((r.getD i 0).toNat - 48 : Nat) : Int) = (((r.getD i 0).toNat - 48 : Nat) : Int) := by rw [IntWalk.i64_left]; exact IntWalk.wrap64_in _ (by have := (r.getD i 0).toNat_lt; omega)
            have hic : decide ((i : Int) < (r.length : Int)) = true := decide_eq_true (by omega)
            repeat' first | (exact absurd hlt (by decide)) | (refine AWp.seq fun K hK => ?_) | ((first | refine AWp.draw (id := 15) [.take 0, .take 1, .take 2, .take 3, .take 4, .take 5, .take 6, .take 7, .take 8, .take 9, .take 10, .take 11] mixed_ok (by kernel_rfl) (by rw [hc]; rfl) ?_ | refine AWp.region (by rw [hc]; rfl) ?_ | refine AWp.skip ?_ | refine AWp.exit ?_ | refine AWp.label ?_ | refine AWp.ret ?_ | refine appK_g ?_); simp -implicitDefEqProofs (maxSteps := 1000000) (disch := omega) only [go_sem, ↓reduceIte, hsz, hw, hw2, hic]) | ((first | refine hK _ ?_ | (clear hK; first | refine hK _ ?_ | (clear hK; first | refine hK _ ?_ | (clear hK; refine hK _ ?_)))); clear hK) | (refine AWp.cond ?_; simp -implicitDefEqProofs (maxSteps := 1000000) (disch := omega) only [go_sem, ↓reduceIte, hsz, hw, hw2, hic]; try (refine ⟨fun hlt => ?_, fun hlt => ?_⟩ <;> (try simp only [cla, clb, ne_eq, reduceCtorEq] at hlt) <;> (try exact hlt.elim))) | (refine AWp.block ?_) | ((first | refine gdO_split (fun hlt => ?_) (fun hlt => ?_) | refine tkO_split (fun hlt => ?_) (fun hlt => ?_) | refine opO_split (fun hlt => ?_) (fun hlt => ?_)) <;> have hgd := hlt <;> (try simp only [cla, clb, ne_eq, cld] at hlt) <;> (simp -implicitDefEqProofs (maxSteps := 1000000) (disch := omega) only [go_sem, ↓reduceIte, hsz, hw, hw2, hic, hgd]) <;> clear hgd) | (with_reducible refine And.intro ?_ ?_; · first | omega | assumption | exact ⟨_, _, rfl, rfl⟩) | ((first | refine ⟨_, t1, ?_⟩ | refine ⟨_, s1, ?_⟩ | refine ⟨_, a1, ?_⟩); simp -implicitDefEqProofs (maxSteps := 1000000) (disch := omega) only [go_sem, ↓reduceIte, hsz, hw, hw2, hic]) | fail
            refine ih (i + 1) _ (by omega) (by omega) (Sub.of0 hm id rfl ?_ ?_ (fun _ _ _ _ h => h))
            all_goals (try dsimp only)
            all_goals (first | omega | (simp -implicitDefEqProofs (maxSteps := 1000000) (disch := omega) only [G68, id, go_sem, Nat.blt_eq, Nat.reduceAdd, Nat.reduceSub, Nat.reduceEqDiff, Nat.reduceLT, ↓reduceIte, and_true, true_and, AV.dat.injEq, DV.int.injEq, DV.bool.injEq, DV.lst.injEq, eq_self_iff_true]; first | done | omega | (simp; done) | (simp; omega)) | (simp; done) | (simp; omega) | skip)
          · have hie : i = r.length := by omega
            subst hie
            rw [List.take_length]
            repeat' first | (exact absurd hlt (by decide)) | (refine AWp.seq fun K hK => ?_) | ((first | refine AWp.draw (id := 15) [.take 0, .take 1, .take 2, .take 3, .take 4, .take 5, .take 6, .take 7, .take 8, .take 9, .take 10, .take 11] mixed_ok (by kernel_rfl) (by rw [hc]; rfl) ?_ | refine AWp.region (by rw [hc]; rfl) ?_ | refine AWp.skip ?_ | refine AWp.exit ?_ | refine AWp.label ?_ | refine AWp.ret ?_ | refine appK_g ?_); simp -implicitDefEqProofs (maxSteps := 1000000) (disch := omega) only [go_sem, ↓reduceIte, hsz, f3]) | ((first | refine hK _ ?_ | (clear hK; first | refine hK _ ?_ | (clear hK; first | refine hK _ ?_ | (clear hK; refine hK _ ?_)))); clear hK) | (refine AWp.cond ?_; simp -implicitDefEqProofs (maxSteps := 1000000) (disch := omega) only [go_sem, ↓reduceIte, hsz, f3]; try (refine ⟨fun hlt => ?_, fun hlt => ?_⟩ <;> (try simp only [cla, clb, ne_eq, reduceCtorEq] at hlt) <;> (try exact hlt.elim))) | (refine AWp.block ?_) | ((first | refine gdO_split (fun hlt => ?_) (fun hlt => ?_) | refine tkO_split (fun hlt => ?_) (fun hlt => ?_) | refine opO_split (fun hlt => ?_) (fun hlt => ?_)) <;> have hgd := hlt <;> (try simp only [cla, clb, ne_eq, cld] at hlt) <;> (simp -implicitDefEqProofs (maxSteps := 1000000) (disch := omega) only [go_sem, ↓reduceIte, hsz, f3, hgd]) <;> clear hgd) | (with_reducible refine And.intro ?_ ?_; · first | omega | assumption | exact ⟨_, _, rfl, rfl⟩) | fail
      · have f6 : decide ((1 : Int) < (r.length : Int)) = false := decide_eq_false (by omega)
        cases neg
        · repeat' first | (exact absurd hlt (by decide)) | (refine AWp.seq fun K hK => ?_) | ((first | refine AWp.draw (id := 15) [.take 0, .take 1, .take 2, .take 3, .take 4, .take 5, .take 6, .take 7, .take 8, .take 9, .take 10, .take 11] mixed_ok (by kernel_rfl) (by rw [hc]; rfl) ?_ | refine AWp.region (by rw [hc]; rfl) ?_ | refine AWp.skip ?_ | refine AWp.exit ?_ | refine AWp.label ?_ | refine AWp.ret ?_ | refine appK_g ?_); simp -implicitDefEqProofs (maxSteps := 1000000) (disch := omega) only [go_sem, ↓reduceIte, hsz, f1, f2, f3, f6]) | ((first | refine hK _ ?_ | (clear hK; first | refine hK _ ?_ | (clear hK; first | refine hK _ ?_ | (clear hK; refine hK _ ?_)))); clear hK) | (refine AWp.cond ?_; simp -implicitDefEqProofs (maxSteps := 1000000) (disch := omega) only [go_sem, ↓reduceIte, hsz, f1, f2, f3, f6]; try (refine ⟨fun hlt => ?_, fun hlt => ?_⟩ <;> (try simp only [cla, clb, ne_eq, reduceCtorEq] at hlt) <;> (try exact hlt.elim))) | (refine AWp.block ?_) | ((first | refine gdO_split (fun hlt => ?_) (fun hlt => ?_) | refine tkO_split (fun hlt => ?_) (fun hlt => ?_) | refine opO_split (fun hlt => ?_) (fun hlt => ?_)) <;> have hgd := hlt <;> (try simp only [cla, clb, ne_eq, cld] at hlt) <;> (simp -implicitDefEqProofs (maxSteps := 1000000) (disch := omega) only [go_sem, ↓reduceIte, hsz, f1, f2, f3, f6, hgd]) <;> clear hgd) | (with_reducible refine And.intro ?_ ?_; · first | omega | assumption | exact ⟨_, _, rfl, rfl⟩) | fail
          refine AWp.sub (Sub.toDat 6 rfl) ?_
          refine AWp.loopInv (G68 false r) (fun i => r.length - i) (fun i => i ≤ r.length) 0 (Nat.zero_le _) (Sub.of0 hm id rfl ?_ ?_ (fun _ _ _ _ h => h)) ?_
          all_goals (try dsimp only)
          all_goals (first | omega | (simp -implicitDefEqProofs (maxSteps := 1000000) (disch := omega) only [G68, List.take_zero, dv_nil, D_zero, List.map_nil, id, go_sem, Nat.blt_eq, Nat.reduceAdd, Nat.reduceSub, Nat.reduceEqDiff, Nat.reduceLT, ↓reduceIte, and_true, true_and, AV.dat.injEq, DV.int.injEq, DV.bool.injEq, DV.lst.injEq, eq_self_iff_true]; first | done | omega | (simp; done) | (simp; omega)) | (simp; done) | (simp; omega) | skip)
          intro i b1 ih
          simp only [G68]
          have hv := dv_lt (l := r.take i) (fun x hx => hd x (List.mem_of_mem_take hx))
          rw [List.length_take, Nat.min_eq_left b1] at hv
          have hlv := D_len10 hv
          have t1 := rtimes_D (dv 0 (r.take i)) 10 (by omega) (by rw [D_sm (by decide) (by decide)]; simp)
          rw [D_sm (n := 10) (by decide) (by decide)] at t1
          have t1 : PC Tryz.prog 104 [L (D (dv 0 (r.take i))), .dat (.lst [[.int .i64 10]])] (L (D (dv 0 (r.take i) * 10))) := t1
          have lt1 := D_mul_len (dv 0 (r.take i)) 10
          have lt2 : (D 10).length ≤ 1 := D_one_len (by decide)
          have hw := fun (h : i < r.length) => rd_digit hd h
          have s1 := fun (h : i < r.length) => shorn_one ((r.getD i 0).toNat - 48) (by have := r.getD i 0 |>.toNat_lt; omega)
          have a1 := rsum_D (dv 0 (r.take i) * 10) ((r.getD i 0).toNat - 48) (by omega) (Nat.le_trans (len1 (by have := r.getD i 0 |>.toNat_lt; omega)) (by omega))
          rcases Nat.lt_or_ge i r.length with hi | hi
          · have hw := hw hi
            have s1 := s1 hi
            rw [← dv_snoc hi] at a1
            have hw2 : IntKind.i64.wrap (((r.getD i 0).toNat - 48 : Nat) : Int) = (((r.getD i 0).toNat - 48 : Nat) : Int) := by rw [IntWalk.i64_left]; exact IntWalk.wrap64_in _ (by have := (r.getD i 0).toNat_lt; omega)
            have hic : decide ((i : Int) < (r.length : Int)) = true := decide_eq_true (by omega)
            repeat' first | (exact absurd hlt (by decide)) | (refine AWp.seq fun K hK => ?_) | ((first | refine AWp.draw (id := 15) [.take 0, .take 1, .take 2, .take 3, .take 4, .take 5, .take 6, .take 7, .take 8, .take 9, .take 10, .take 11] mixed_ok (by kernel_rfl) (by rw [hc]; rfl) ?_ | refine AWp.region (by rw [hc]; rfl) ?_ | refine AWp.skip ?_ | refine AWp.exit ?_ | refine AWp.label ?_ | refine AWp.ret ?_ | refine appK_g ?_); simp -implicitDefEqProofs (maxSteps := 1000000) (disch := omega) only [go_sem, ↓reduceIte, hsz, hw, hw2, hic]) | ((first | refine hK _ ?_ | (clear hK; first | refine hK _ ?_ | (clear hK; first | refine hK _ ?_ | (clear hK; refine hK _ ?_)))); clear hK) | (refine AWp.cond ?_; simp -implicitDefEqProofs (maxSteps := 1000000) (disch := omega) only [go_sem, ↓reduceIte, hsz, hw, hw2, hic]; try (refine ⟨fun hlt => ?_, fun hlt => ?_⟩ <;> (try simp only [cla, clb, ne_eq, reduceCtorEq] at hlt) <;> (try exact hlt.elim))) | (refine AWp.block ?_) | ((first | refine gdO_split (fun hlt => ?_) (fun hlt => ?_) | refine tkO_split (fun hlt => ?_) (fun hlt => ?_) | refine opO_split (fun hlt => ?_) (fun hlt => ?_)) <;> have hgd := hlt <;> (try simp only [cla, clb, ne_eq, cld] at hlt) <;> (simp -implicitDefEqProofs (maxSteps := 1000000) (disch := omega) only [go_sem, ↓reduceIte, hsz, hw, hw2, hic, hgd]) <;> clear hgd) | (with_reducible refine And.intro ?_ ?_; · first | omega | assumption | exact ⟨_, _, rfl, rfl⟩) | ((first | refine ⟨_, t1, ?_⟩ | refine ⟨_, s1, ?_⟩ | refine ⟨_, a1, ?_⟩); simp -implicitDefEqProofs (maxSteps := 1000000) (disch := omega) only [go_sem, ↓reduceIte, hsz, hw, hw2, hic]) | fail
            refine ih (i + 1) _ (by omega) (by omega) (Sub.of0 hm id rfl ?_ ?_ (fun _ _ _ _ h => h))
            all_goals (try dsimp only)
            all_goals (first | omega | (simp -implicitDefEqProofs (maxSteps := 1000000) (disch := omega) only [G68, id, go_sem, Nat.blt_eq, Nat.reduceAdd, Nat.reduceSub, Nat.reduceEqDiff, Nat.reduceLT, ↓reduceIte, and_true, true_and, AV.dat.injEq, DV.int.injEq, DV.bool.injEq, DV.lst.injEq, eq_self_iff_true]; first | done | omega | (simp; done) | (simp; omega)) | (simp; done) | (simp; omega) | skip)
          · have hie : i = r.length := by omega
            subst hie
            rw [List.take_length]
            repeat' first | (exact absurd hlt (by decide)) | (refine AWp.seq fun K hK => ?_) | ((first | refine AWp.draw (id := 15) [.take 0, .take 1, .take 2, .take 3, .take 4, .take 5, .take 6, .take 7, .take 8, .take 9, .take 10, .take 11] mixed_ok (by kernel_rfl) (by rw [hc]; rfl) ?_ | refine AWp.region (by rw [hc]; rfl) ?_ | refine AWp.skip ?_ | refine AWp.exit ?_ | refine AWp.label ?_ | refine AWp.ret ?_ | refine appK_g ?_); simp -implicitDefEqProofs (maxSteps := 1000000) (disch := omega) only [go_sem, ↓reduceIte, hsz, f3]) | ((first | refine hK _ ?_ | (clear hK; first | refine hK _ ?_ | (clear hK; first | refine hK _ ?_ | (clear hK; refine hK _ ?_)))); clear hK) | (refine AWp.cond ?_; simp -implicitDefEqProofs (maxSteps := 1000000) (disch := omega) only [go_sem, ↓reduceIte, hsz, f3]; try (refine ⟨fun hlt => ?_, fun hlt => ?_⟩ <;> (try simp only [cla, clb, ne_eq, reduceCtorEq] at hlt) <;> (try exact hlt.elim))) | (refine AWp.block ?_) | ((first | refine gdO_split (fun hlt => ?_) (fun hlt => ?_) | refine tkO_split (fun hlt => ?_) (fun hlt => ?_) | refine opO_split (fun hlt => ?_) (fun hlt => ?_)) <;> have hgd := hlt <;> (try simp only [cla, clb, ne_eq, cld] at hlt) <;> (simp -implicitDefEqProofs (maxSteps := 1000000) (disch := omega) only [go_sem, ↓reduceIte, hsz, f3, hgd]) <;> clear hgd) | (with_reducible refine And.intro ?_ ?_; · first | omega | assumption | exact ⟨_, _, rfl, rfl⟩) | fail
        · have f9 := f9 rfl
          rw [f9] at hstr
          repeat' first | (exact absurd hlt (by decide)) | (refine AWp.seq fun K hK => ?_) | ((first | refine AWp.draw (id := 15) [.take 0, .take 1, .take 2, .take 3, .take 4, .take 5, .take 6, .take 7, .take 8, .take 9, .take 10, .take 11] mixed_ok (by kernel_rfl) (by rw [hc]; rfl) ?_ | refine AWp.region (by rw [hc]; rfl) ?_ | refine AWp.skip ?_ | refine AWp.exit ?_ | refine AWp.label ?_ | refine AWp.ret ?_ | refine appK_g ?_); simp -implicitDefEqProofs (maxSteps := 1000000) (disch := omega) only [go_sem, ↓reduceIte, hsz, hstr, f1, f2, f3, f6]) | ((first | refine hK _ ?_ | (clear hK; first | refine hK _ ?_ | (clear hK; first | refine hK _ ?_ | (clear hK; refine hK _ ?_)))); clear hK) | (refine AWp.cond ?_; simp -implicitDefEqProofs (maxSteps := 1000000) (disch := omega) only [go_sem, ↓reduceIte, hsz, hstr, f1, f2, f3, f6]; try (refine ⟨fun hlt => ?_, fun hlt => ?_⟩ <;> (try simp only [cla, clb, ne_eq, reduceCtorEq] at hlt) <;> (try exact hlt.elim))) | (refine AWp.block ?_) | ((first | refine gdO_split (fun hlt => ?_) (fun hlt => ?_) | refine tkO_split (fun hlt => ?_) (fun hlt => ?_) | refine opO_split (fun hlt => ?_) (fun hlt => ?_)) <;> have hgd := hlt <;> (try simp only [cla, clb, ne_eq, cld] at hlt) <;> (simp -implicitDefEqProofs (maxSteps := 1000000) (disch := omega) only [go_sem, ↓reduceIte, hsz, hstr, f1, f2, f3, f6, hgd]) <;> clear hgd) | (with_reducible refine And.intro ?_ ?_; · first | omega | assumption | exact ⟨_, _, rfl, rfl⟩) | fail
          refine AWp.sub (Sub.toDat 6 rfl) ?_
          refine AWp.loopInv (G68 true r) (fun i => r.length - i) (fun i => i ≤ r.length) 0 (Nat.zero_le _) (Sub.of0 hm id rfl ?_ ?_ (fun _ _ _ _ h => h)) ?_
          all_goals (try dsimp only)
          all_goals (first | omega | (simp -implicitDefEqProofs (maxSteps := 1000000) (disch := omega) only [G68, List.take_zero, dv_nil, D_zero, List.map_nil, id, go_sem, Nat.blt_eq, Nat.reduceAdd, Nat.reduceSub, Nat.reduceEqDiff, Nat.reduceLT, ↓reduceIte, and_true, true_and, AV.dat.injEq, DV.int.injEq, DV.bool.injEq, DV.lst.injEq, eq_self_iff_true]; first | done | omega | (simp; done) | (simp; omega)) | (simp; done) | (simp; omega) | skip)
          intro i b1 ih
          simp only [G68]
          have hv := dv_lt (l := r.take i) (fun x hx => hd x (List.mem_of_mem_take hx))
          rw [List.length_take, Nat.min_eq_left b1] at hv
          have hlv := D_len10 hv
          have t1 := rtimes_D (dv 0 (r.take i)) 10 (by omega) (by rw [D_sm (by decide) (by decide)]; simp)
          rw [D_sm (n := 10) (by decide) (by decide)] at t1
          have t1 : PC Tryz.prog 104 [L (D (dv 0 (r.take i))), .dat (.lst [[.int .i64 10]])] (L (D (dv 0 (r.take i) * 10))) := t1
          have lt1 := D_mul_len (dv 0 (r.take i)) 10
          have lt2 : (D 10).length ≤ 1 := D_one_len (by decide)
          have hw := fun (h : i < r.length) => rd_digit hd h
          have s1 := fun (h : i < r.length) => shorn_one ((r.getD i 0).toNat - 48) (by have := r.getD i 0 |>.toNat_lt; omega)
          have a1 := rsum_D (dv 0 (r.take i) * 10) ((r.getD i 0).toNat - 48) (by omega) (Nat.le_trans (len1 (by have := r.getD i 0 |>.toNat_lt; omega)) (by omega))
          rcases Nat.lt_or_ge i r.length with hi | hi
          · have hw := hw hi
            have s1 := s1 hi
            rw [← dv_snoc hi] at a1
            have hw2 : IntKind.i64.wrap (((r.getD i 0).toNat - 48 : Nat) : Int) = (((r.getD i 0).toNat - 48 : Nat) : Int) := by rw [IntWalk.i64_left]; exact IntWalk.wrap64_in _ (by have := (r.getD i 0).toNat_lt; omega)
            have hic : decide ((i : Int) < (r.length : Int)) = true := decide_eq_true (by omega)
            repeat' first | (exact absurd hlt (by decide)) | (refine AWp.seq fun K hK => ?_) | ((first | refine AWp.draw (id := 15) [.take 0, .take 1, .take 2, .take 3, .take 4, .take 5, .take 6, .take 7, .take 8, .take 9, .take 10, .take 11] mixed_ok (by kernel_rfl) (by rw [hc]; rfl) ?_ | refine AWp.region (by rw [hc]; rfl) ?_ | refine AWp.skip ?_ | refine AWp.exit ?_ | refine AWp.label ?_ | refine AWp.ret ?_ | refine appK_g ?_); simp -implicitDefEqProofs (maxSteps := 1000000) (disch := omega) only [go_sem, ↓reduceIte, hsz, hw, hw2, hic]) | ((first | refine hK _ ?_ | (clear hK; first | refine hK _ ?_ | (clear hK; first | refine hK _ ?_ | (clear hK; refine hK _ ?_)))); clear hK) | (refine AWp.cond ?_; simp -implicitDefEqProofs (maxSteps := 1000000) (disch := omega) only [go_sem, ↓reduceIte, hsz, hw, hw2, hic]; try (refine ⟨fun hlt => ?_, fun hlt => ?_⟩ <;> (try simp only [cla, clb, ne_eq, reduceCtorEq] at hlt) <;> (try exact hlt.elim))) | (refine AWp.block ?_) | ((first | refine gdO_split (fun hlt => ?_) (fun hlt => ?_) | refine tkO_split (fun hlt => ?_) (fun hlt => ?_) | refine opO_split (fun hlt => ?_) (fun hlt => ?_)) <;> have hgd := hlt <;> (try simp only [cla, clb, ne_eq, cld] at hlt) <;> (simp -implicitDefEqProofs (maxSteps := 1000000) (disch := omega) only [go_sem, ↓reduceIte, hsz, hw, hw2, hic, hgd]) <;> clear hgd) | (with_reducible refine And.intro ?_ ?_; · first | omega | assumption | exact ⟨_, _, rfl, rfl⟩) | ((first | refine ⟨_, t1, ?_⟩ | refine ⟨_, s1, ?_⟩ | refine ⟨_, a1, ?_⟩); simp -implicitDefEqProofs (maxSteps := 1000000) (disch := omega) only [go_sem, ↓reduceIte, hsz, hw, hw2, hic]) | fail
            refine ih (i + 1) _ (by omega) (by omega) (Sub.of0 hm id rfl ?_ ?_ (fun _ _ _ _ h => h))
            all_goals (try dsimp only)
            all_goals (first | omega | (simp -implicitDefEqProofs (maxSteps := 1000000) (disch := omega) only [G68, id, go_sem, Nat.blt_eq, Nat.reduceAdd, Nat.reduceSub, Nat.reduceEqDiff, Nat.reduceLT, ↓reduceIte, and_true, true_and, AV.dat.injEq, DV.int.injEq, DV.bool.injEq, DV.lst.injEq, eq_self_iff_true]; first | done | omega | (simp; done) | (simp; omega)) | (simp; done) | (simp; omega) | skip)
          · have hie : i = r.length := by omega
            subst hie
            rw [List.take_length]
            repeat' first | (exact absurd hlt (by decide)) | (refine AWp.seq fun K hK => ?_) | ((first | refine AWp.draw (id := 15) [.take 0, .take 1, .take 2, .take 3, .take 4, .take 5, .take 6, .take 7, .take 8, .take 9, .take 10, .take 11] mixed_ok (by kernel_rfl) (by rw [hc]; rfl) ?_ | refine AWp.region (by rw [hc]; rfl) ?_ | refine AWp.skip ?_ | refine AWp.exit ?_ | refine AWp.label ?_ | refine AWp.ret ?_ | refine appK_g ?_); simp -implicitDefEqProofs (maxSteps := 1000000) (disch := omega) only [go_sem, ↓reduceIte, hsz, f3]) | ((first | refine hK _ ?_ | (clear hK; first | refine hK _ ?_ | (clear hK; first | refine hK _ ?_ | (clear hK; refine hK _ ?_)))); clear hK) | (refine AWp.cond ?_; simp -implicitDefEqProofs (maxSteps := 1000000) (disch := omega) only [go_sem, ↓reduceIte, hsz, f3]; try (refine ⟨fun hlt => ?_, fun hlt => ?_⟩ <;> (try simp only [cla, clb, ne_eq, reduceCtorEq] at hlt) <;> (try exact hlt.elim))) | (refine AWp.block ?_) | ((first | refine gdO_split (fun hlt => ?_) (fun hlt => ?_) | refine tkO_split (fun hlt => ?_) (fun hlt => ?_) | refine opO_split (fun hlt => ?_) (fun hlt => ?_)) <;> have hgd := hlt <;> (try simp only [cla, clb, ne_eq, cld] at hlt) <;> (simp -implicitDefEqProofs (maxSteps := 1000000) (disch := omega) only [go_sem, ↓reduceIte, hsz, f3, hgd]) <;> clear hgd) | (with_reducible refine And.intro ?_ ?_; · first | omega | assumption | exact ⟨_, _, rfl, rfl⟩) | fail
set_option maxHeartbeats 8000000 in
theorem rRead_tail (c : Ctx) (hc : c.N = 87) (hm : c.m = 0 ∧ c.fv = []) (neg : Bool) (r : List UInt8) (hlr : r.length ≤ 1000000) : AWp Tryz.prog tab c none (cq [false, false, false] body68) (E68 neg r) (retQ tab [.cell 2 24, .tmp 3] (fun x => x = rdV neg r)) := by
  have hsz := bs_size r
  have hle := ndl_le r
  simp only [cq, body68, Tryz.f68]
  obtain ⟨m, hmm⟩ : ∃ m, m = min (ndl r) 361 := ⟨_, rfl⟩
  repeat' first | (refine AWp.cut (x := .block 0 _) (F68 neg r m) ?_ (rRead_tail2 c hc hm neg r hlr m hmm)) | (exact absurd hlt (by decide)) | (refine AWp.seq fun K hK => ?_) | ((first | refine AWp.draw (id := 15) [.take 0, .take 1, .take 2, .take 3, .take 4, .take 5, .take 6, .take 7, .take 8, .take 9, .take 10, .take 11] mixed_ok (by kernel_rfl) (by rw [hc]; rfl) ?_ | refine AWp.region (by rw [hc]; rfl) ?_ | refine AWp.skip ?_ | refine AWp.exit ?_ | refine AWp.label ?_ | refine AWp.ret ?_ | refine appK_g ?_); simp -implicitDefEqProofs (maxSteps := 1000000) (disch := omega) only [go_sem, ↓reduceIte, hsz, E68]) | ((first | refine hK _ ?_ | (clear hK; first | refine hK _ ?_ | (clear hK; first | refine hK _ ?_ | (clear hK; refine hK _ ?_)))); clear hK) | (refine AWp.cond ?_; simp -implicitDefEqProofs (maxSteps := 1000000) (disch := omega) only [go_sem, ↓reduceIte, hsz, E68]; try (refine ⟨fun hlt => ?_, fun hlt => ?_⟩ <;> (try simp only [cla, clb, ne_eq, reduceCtorEq] at hlt) <;> (try exact hlt.elim))) | (refine AWp.block ?_) | ((first | refine gdO_split (fun hlt => ?_) (fun hlt => ?_) | refine tkO_split (fun hlt => ?_) (fun hlt => ?_) | refine opO_split (fun hlt => ?_) (fun hlt => ?_)) <;> have hgd := hlt <;> (try simp only [cla, clb, ne_eq, cld] at hlt) <;> (simp -implicitDefEqProofs (maxSteps := 1000000) (disch := omega) only [go_sem, ↓reduceIte, hsz, E68, hgd]) <;> clear hgd) | (with_reducible refine And.intro ?_ ?_; · first | omega | assumption | exact ⟨_, _, rfl, rfl⟩) | fail
  · refine AWp.loopInv (F68 neg r) (fun i => 361 - i) (fun i => i ≤ ndl r ∧ i ≤ 361) 0 ⟨Nat.zero_le _, Nat.zero_le _⟩ (Sub.of0 hm id rfl ?_ ?_ (fun _ _ _ _ h => h)) ?_
    all_goals (try dsimp only)
    all_goals (first | omega | (simp -implicitDefEqProofs (maxSteps := 1000000) (disch := omega) only [F68, id, go_sem, Nat.blt_eq, Nat.reduceAdd, Nat.reduceSub, Nat.reduceEqDiff, Nat.reduceLT, ↓reduceIte, and_true, true_and, AV.dat.injEq, DV.int.injEq, DV.bool.injEq, DV.lst.injEq, eq_self_iff_true]; first | done | omega | (simp; done) | (simp; omega)) | (simp; done) | (simp; omega) | skip)
    rintro i ⟨b1, b2⟩ ih
    simp only [F68]
    have hdg := isDigit_pc (byteAt (bs r) i)
    rw [isDb_at] at hdg
    have hi1 : isDb (r.getD i 0) = true → i < r.length → i < ndl r := fun h h2 => by
      rcases Nat.lt_or_ge i (ndl r) with h3 | h3
      · exact h3
      · have h4 : i = ndl r := by omega
        subst h4
        rw [ndl_end h2] at h; cases h
    have hi2 : isDb (r.getD i 0) = false → i = ndl r := fun h => by
      rcases Nat.lt_or_ge i (ndl r) with h3 | h3
      · rw [ndl_get i h3] at h; cases h
      · omega
    generalize isDb (r.getD i 0) = q at *
    repeat' first | (exact absurd hlt (by decide)) | (refine AWp.seq fun K hK => ?_) | ((first | refine AWp.draw (id := 15) [.take 0, .take 1, .take 2, .take 3, .take 4, .take 5, .take 6, .take 7, .take 8, .take 9, .take 10, .take 11] mixed_ok (by kernel_rfl) (by rw [hc]; rfl) ?_ | refine AWp.region (by rw [hc]; rfl) ?_ | refine AWp.skip ?_ | refine AWp.exit ?_ | refine AWp.label ?_ | refine AWp.ret ?_ | refine appK_g ?_); simp -implicitDefEqProofs (maxSteps := 1000000) (disch := omega) only [go_sem, ↓reduceIte, hsz]) | ((first | refine hK _ ?_ | (clear hK; first | refine hK _ ?_ | (clear hK; first | refine hK _ ?_ | (clear hK; refine hK _ ?_)))); clear hK) | (refine AWp.cond ?_; simp -implicitDefEqProofs (maxSteps := 1000000) (disch := omega) only [go_sem, ↓reduceIte, hsz]; try (refine ⟨fun hlt => ?_, fun hlt => ?_⟩ <;> (try simp only [cla, clb, ne_eq, reduceCtorEq] at hlt) <;> (try exact hlt.elim))) | (refine AWp.block ?_) | ((first | refine gdO_split (fun hlt => ?_) (fun hlt => ?_) | refine tkO_split (fun hlt => ?_) (fun hlt => ?_) | refine opO_split (fun hlt => ?_) (fun hlt => ?_)) <;> have hgd := hlt <;> (try simp only [cla, clb, ne_eq, cld] at hlt) <;> (simp -implicitDefEqProofs (maxSteps := 1000000) (disch := omega) only [go_sem, ↓reduceIte, hsz, hgd]) <;> clear hgd) | (with_reducible refine And.intro ?_ ?_; · first | omega | assumption | exact ⟨_, _, rfl, rfl⟩) | ((first | refine ⟨_, hdg, ?_⟩); simp -implicitDefEqProofs (maxSteps := 1000000) (disch := omega) only [go_sem, ↓reduceIte, hsz]) | fail
    · refine ih (i + 1) _ ⟨hi1 (by assumption) (by omega), by omega⟩ (by omega) (Sub.of0 hm id rfl ?_ ?_ (fun _ _ _ _ h => h))
      all_goals (try dsimp only)
      all_goals (first | omega | (simp -implicitDefEqProofs (maxSteps := 1000000) (disch := omega) only [F68, id, go_sem, Nat.blt_eq, Nat.reduceAdd, Nat.reduceSub, Nat.reduceEqDiff, Nat.reduceLT, ↓reduceIte, and_true, true_and, AV.dat.injEq, DV.int.injEq, DV.bool.injEq, DV.lst.injEq, eq_self_iff_true]; first | done | omega | (simp; done) | (simp; omega)) | (simp; done) | (simp; omega) | skip)
    · have := hi2 (by assumption)
      show Sub c _ _
      refine Sub.of0 hm id rfl ?_ ?_ (fun _ _ _ _ h => h)
      all_goals (try dsimp only)
      all_goals (first | omega | (simp -implicitDefEqProofs (maxSteps := 1000000) (disch := omega) only [F68, id, go_sem, Nat.blt_eq, Nat.reduceAdd, Nat.reduceSub, Nat.reduceEqDiff, Nat.reduceLT, ↓reduceIte, and_true, true_and, AV.dat.injEq, DV.int.injEq, DV.bool.injEq, DV.lst.injEq, eq_self_iff_true]; first | done | omega | (simp; done) | (simp; omega)) | (simp; done) | (simp; omega) | skip)
    · show Sub c _ _
      refine Sub.of0 hm id rfl ?_ ?_ (fun _ _ _ _ h => h)
      all_goals (try dsimp only)
      all_goals (first | omega | (simp -implicitDefEqProofs (maxSteps := 1000000) (disch := omega) only [F68, id, go_sem, Nat.blt_eq, Nat.reduceAdd, Nat.reduceSub, Nat.reduceEqDiff, Nat.reduceLT, ↓reduceIte, and_true, true_and, AV.dat.injEq, DV.int.injEq, DV.bool.injEq, DV.lst.injEq, eq_self_iff_true]; first | done | omega | (simp; done) | (simp; omega)) | (simp; done) | (simp; omega) | skip)
    · show Sub c _ _
      refine Sub.of0 hm id rfl ?_ ?_ (fun _ _ _ _ h => h)
      all_goals (try dsimp only)
      all_goals (first | omega | (simp -implicitDefEqProofs (maxSteps := 1000000) (disch := omega) only [F68, id, go_sem, Nat.blt_eq, Nat.reduceAdd, Nat.reduceSub, Nat.reduceEqDiff, Nat.reduceLT, ↓reduceIte, and_true, true_and, AV.dat.injEq, DV.int.injEq, DV.bool.injEq, DV.lst.injEq, eq_self_iff_true]; first | done | omega | (simp; done) | (simp; omega)) | (simp; done) | (simp; omega) | skip)
end Go.Proofs.YthhjcfejgoddlaaGreatDoor
end

section
set_option linter.unusedSimpArgs false
set_option linter.unusedVariables false
set_option maxRecDepth 100000
namespace Go.Proofs.YthhjcfejgoddlaaGreatDoor
open Go Go.Abs Go.RowKit
attribute [local go_sem] wrap64 Int.tdiv_eq_ediv_of_nonneg Int.tmod_eq_emod_of_nonneg eq_self Bool.false_eq_true Bool.true_eq_false Bool.not_true Bool.not_false
attribute [local go_sem_proc] Nat.reduceAdd Nat.reduceMul Nat.reduceEqDiff Nat.reduceLT Nat.reduceLeDiff Int.reduceEq Int.reduceNeg Int.reduceToNat reduceCtorEq Int.reduceBNe Int.reduceBEq

theorem bs_tail (y : UInt8) (r : List UInt8) : (bs (y :: r)).extract 1 (bs (y :: r)).size = bs r := by
  rw [bs_size, bs_extract, List.length_cons, List.take_of_length_le (by simp)]; rfl
set_option maxHeartbeats 4000000 in
theorem rRead_pc (t : List UInt8) (ht : t.length ≤ 1000000) : PC Tryz.prog 68 [.dat (.str (bs t))] (rdV (Lib.hasPrefix t [45]) (Lib.trimPrefix t [45])) := by
  have hb := byteAt_bs t 0
  match t, ht, hb with
  | [], _, _ =>
    have htl := fun (c : Ctx) (hc : c.N = 87) (hm : c.m = 0 ∧ c.fv = []) => rRead_tail c hc hm false [] (by simp)
    refine PCr.pc (PCr.of tab_ok Tryz.func68 rfl rfl rfl fun c hc hm => ?_)
    rw [show Tryz.f68.ntmps = _ from Tryz.ntmps68] at hc
    simp only [Tryz.f68]
    repeat' first | (refine AWp.cut (x := .seq (.region 2 _ _) _) (E68 false []) ?_ (htl c hc hm)) | (exact absurd hlt (by decide)) | (refine AWp.seq fun K hK => ?_) | ((first | refine AWp.draw (id := 15) [.take 0, .take 1, .take 2, .take 3, .take 4, .take 5, .take 6, .take 7, .take 8, .take 9, .take 10, .take 11] mixed_ok (by kernel_rfl) (by rw [hc]; rfl) ?_ | refine AWp.region (by rw [hc]; rfl) ?_ | refine AWp.skip ?_ | refine AWp.exit ?_ | refine AWp.label ?_ | refine AWp.ret ?_ | refine appK_g ?_); simp -implicitDefEqProofs (maxSteps := 1000000) (disch := omega) only [go_sem, ↓reduceIte]) | ((first | refine hK _ ?_ | (clear hK; first | refine hK _ ?_ | (clear hK; first | refine hK _ ?_ | (clear hK; refine hK _ ?_)))); clear hK) | (refine AWp.cond ?_; simp -implicitDefEqProofs (maxSteps := 1000000) (disch := omega) only [go_sem, ↓reduceIte]; try (refine ⟨fun hlt => ?_, fun hlt => ?_⟩ <;> (try simp only [cla, clb, ne_eq, reduceCtorEq] at hlt) <;> (try exact hlt.elim))) | (refine AWp.block ?_) | ((first | refine gdO_split (fun hlt => ?_) (fun hlt => ?_) | refine tkO_split (fun hlt => ?_) (fun hlt => ?_) | refine opO_split (fun hlt => ?_) (fun hlt => ?_)) <;> have hgd := hlt <;> (try simp only [cla, clb, ne_eq, cld] at hlt) <;> (simp -implicitDefEqProofs (maxSteps := 1000000) (disch := omega) only [go_sem, ↓reduceIte, hgd]) <;> clear hgd) | (with_reducible refine And.intro ?_ ?_; · first | omega | assumption | exact ⟨_, _, rfl, rfl⟩) | fail
    refine AWp.skip ?_
    show Sub c _ _
    refine Sub.of0 hm id rfl ?_ ?_ (fun _ _ _ _ h => h)
    all_goals (try dsimp only)
    all_goals (first | omega | (simp -implicitDefEqProofs (maxSteps := 1000000) (disch := omega) only [E68, id, go_sem, Nat.blt_eq, Nat.reduceAdd, Nat.reduceSub, Nat.reduceEqDiff, Nat.reduceLT, ↓reduceIte, and_true, true_and, AV.dat.injEq, DV.int.injEq, DV.bool.injEq, DV.lst.injEq, eq_self_iff_true]; first | done | omega | (simp; done) | (simp; omega)) | (simp; done) | (simp; omega) | skip)
  | y :: r, ht, hb =>
    have hsz := bs_size (y :: r)
    have hex := bs_tail y r
    rw [hsz, List.length_cons] at hex
    rw [List.length_cons] at hsz
    rw [List.getD_cons_zero] at hb
    have hlen : decide (0 < ((r.length + 1 : Nat) : Int)) = true := decide_eq_true (by omega)
    by_cases h45 : y = 45
    · subst h45
      have htl := fun (c : Ctx) (hc : c.N = 87) (hm : c.m = 0 ∧ c.fv = []) => rRead_tail c hc hm true r (by simp at ht; omega)
      have hq : (byteAt (bs ((45 : UInt8) :: r)) 0 == 45) = true := by rw [hb]; rfl
      rw [show Lib.hasPrefix ((45 : UInt8) :: r) [45] = true by simp [Lib.hasPrefix], show Lib.trimPrefix ((45 : UInt8) :: r) [45] = r by simp [Lib.trimPrefix, Lib.hasPrefix]]
      refine PCr.pc (PCr.of tab_ok Tryz.func68 rfl rfl rfl fun c hc hm => ?_)
      rw [show Tryz.f68.ntmps = _ from Tryz.ntmps68] at hc
      simp only [Tryz.f68]
      repeat' first | (refine AWp.cut (x := .seq (.region 2 _ _) _) (E68 true r) ?_ (htl c hc hm)) | (exact absurd hlt (by decide)) | (refine AWp.seq fun K hK => ?_) | ((first | refine AWp.draw (id := 15) [.take 0, .take 1, .take 2, .take 3, .take 4, .take 5, .take 6, .take 7, .take 8, .take 9, .take 10, .take 11] mixed_ok (by kernel_rfl) (by rw [hc]; rfl) ?_ | refine AWp.region (by rw [hc]; rfl) ?_ | refine AWp.skip ?_ | refine AWp.exit ?_ | refine AWp.label ?_ | refine AWp.ret ?_ | refine appK_g ?_); simp -implicitDefEqProofs (maxSteps := 1000000) (disch := omega) only [go_sem, ↓reduceIte, hsz, hlen, hq, hex]) | ((first | refine hK _ ?_ | (clear hK; first | refine hK _ ?_ | (clear hK; first | refine hK _ ?_ | (clear hK; refine hK _ ?_)))); clear hK) | (refine AWp.cond ?_; simp -implicitDefEqProofs (maxSteps := 1000000) (disch := omega) only [go_sem, ↓reduceIte, hsz, hlen, hq, hex]; try (refine ⟨fun hlt => ?_, fun hlt => ?_⟩ <;> (try simp only [cla, clb, ne_eq, reduceCtorEq] at hlt) <;> (try exact hlt.elim))) | (refine AWp.block ?_) | ((first | refine gdO_split (fun hlt => ?_) (fun hlt => ?_) | refine tkO_split (fun hlt => ?_) (fun hlt => ?_) | refine opO_split (fun hlt => ?_) (fun hlt => ?_)) <;> have hgd := hlt <;> (try simp only [cla, clb, ne_eq, cld] at hlt) <;> (simp -implicitDefEqProofs (maxSteps := 1000000) (disch := omega) only [go_sem, ↓reduceIte, hsz, hlen, hq, hex, hgd]) <;> clear hgd) | (with_reducible refine And.intro ?_ ?_; · first | omega | assumption | exact ⟨_, _, rfl, rfl⟩) | fail
      all_goals (try refine AWp.skip ?_)
      all_goals (try refine AWp.skip ?_)
      all_goals
        show Sub c _ _
        refine Sub.of0 hm id rfl ?_ ?_ (fun _ _ _ _ h => h)
      all_goals (try dsimp only)
      all_goals (first | omega | (simp -implicitDefEqProofs (maxSteps := 1000000) (disch := omega) only [E68, id, go_sem, Nat.blt_eq, Nat.reduceAdd, Nat.reduceSub, Nat.reduceEqDiff, Nat.reduceLT, ↓reduceIte, and_true, true_and, AV.dat.injEq, DV.int.injEq, DV.bool.injEq, DV.lst.injEq, eq_self_iff_true]; first | done | omega | (simp; done) | (simp; omega)) | (simp; done) | (simp; omega) | skip)
    · have htl := fun (c : Ctx) (hc : c.N = 87) (hm : c.m = 0 ∧ c.fv = []) => rRead_tail c hc hm false (y :: r) ht
      have hq : (byteAt (bs (y :: r)) 0 == 45) = false := by
        rw [hb, beq_eq_false_iff_ne]
        intro h
        exact h45 (UInt8.toNat_inj.1 (by show y.toNat = 45; omega))
      have hp : Lib.hasPrefix (y :: r) [45] = false := by
        rw [Bool.eq_false_iff]; intro h; simp [Lib.hasPrefix] at h; exact h45 (by first | exact h | exact h.symm)
      rw [hp, show Lib.trimPrefix (y :: r) [45] = y :: r by unfold Lib.trimPrefix; rw [hp]; rfl]
      refine PCr.pc (PCr.of tab_ok Tryz.func68 rfl rfl rfl fun c hc hm => ?_)
      rw [show Tryz.f68.ntmps = _ from Tryz.ntmps68] at hc
      simp only [Tryz.f68]
      repeat' first | (refine AWp.cut (x := .seq (.region 2 _ _) _) (E68 false (y :: r)) ?_ (htl c hc hm)) | (exact absurd hlt (by decide)) | (refine AWp.seq fun K hK => ?_) | ((first | refine AWp.draw (id := 15) [.take 0, .take 1, .take 2, .take 3, .take 4, .take 5, .take 6, .take 7, .take 8, .take 9, .take 10, .take 11] mixed_ok (by kernel_rfl) (by rw [hc]; rfl) ?_ | refine AWp.region (by rw [hc]; rfl) ?_ | refine AWp.skip ?_ | refine AWp.exit ?_ | refine AWp.label ?_ | refine AWp.ret ?_ | refine appK_g ?_); simp -implicitDefEqProofs (maxSteps := 1000000) (disch := omega) only [go_sem, ↓reduceIte, hsz, hlen, hq]) | ((first | refine hK _ ?_ | (clear hK; first | refine hK _ ?_ | (clear hK; first | refine hK _ ?_ | (clear hK; refine hK _ ?_)))); clear hK) | (refine AWp.cond ?_; simp -implicitDefEqProofs (maxSteps := 1000000) (disch := omega) only [go_sem, ↓reduceIte, hsz, hlen, hq]; try (refine ⟨fun hlt => ?_, fun hlt => ?_⟩ <;> (try simp only [cla, clb, ne_eq, reduceCtorEq] at hlt) <;> (try exact hlt.elim))) | (refine AWp.block ?_) | ((first | refine gdO_split (fun hlt => ?_) (fun hlt => ?_) | refine tkO_split (fun hlt => ?_) (fun hlt => ?_) | refine opO_split (fun hlt => ?_) (fun hlt => ?_)) <;> have hgd := hlt <;> (try simp only [cla, clb, ne_eq, cld] at hlt) <;> (simp -implicitDefEqProofs (maxSteps := 1000000) (disch := omega) only [go_sem, ↓reduceIte, hsz, hlen, hq, hgd]) <;> clear hgd) | (with_reducible refine And.intro ?_ ?_; · first | omega | assumption | exact ⟨_, _, rfl, rfl⟩) | fail
      all_goals (try refine AWp.skip ?_)
      all_goals
        show Sub c _ _
        refine Sub.of0 hm id rfl ?_ ?_ (fun _ _ _ _ h => h)
      all_goals (try dsimp only)
      all_goals (first | omega | (simp -implicitDefEqProofs (maxSteps := 1000000) (disch := omega) only [E68, id, go_sem, Nat.blt_eq, Nat.reduceAdd, Nat.reduceSub, Nat.reduceEqDiff, Nat.reduceLT, ↓reduceIte, and_true, true_and, AV.dat.injEq, DV.int.injEq, DV.bool.injEq, DV.lst.injEq, eq_self_iff_true]; first | done | omega | (simp; done) | (simp; omega)) | (simp; done) | (simp; omega) | skip)
end Go.Proofs.YthhjcfejgoddlaaGreatDoor
end

section
set_option linter.unusedSimpArgs false
set_option linter.unusedVariables false
set_option maxRecDepth 100000
namespace Go.Proofs.YthhjcfejgoddlaaGreatDoor
open Go Go.Abs
attribute [local go_sem] wrap64 Int.tdiv_eq_ediv_of_nonneg Int.tmod_eq_emod_of_nonneg eq_self Bool.false_eq_true Bool.true_eq_false Bool.not_true Bool.not_false
attribute [local go_sem_proc] Nat.reduceAdd Nat.reduceMul Nat.reduceEqDiff Nat.reduceLT Nat.reduceLeDiff Int.reduceEq Int.reduceNeg Int.reduceToNat reduceCtorEq Int.reduceBNe Int.reduceBEq

theorem rCheck_pc (neg : Bool) (d : List Int) : PC Tryz.prog 62 [Zr neg d] (I (if okI neg d then 0 else 10)) := by
  have h := Is_pc neg d
  by_cases hk : okI neg d
  · rw [decide_eq_true hk] at h
    rw [if_pos hk]
    refine PCr.pc (PCr.of tab_ok Tryz.func62 rfl rfl rfl fun c hc hm => ?_)
    rw [show Tryz.f62.ntmps = _ from Tryz.ntmps62] at hc
    simp only [Tryz.f62]
    repeat' first | (exact absurd hlt (by decide)) | (refine AWp.seq fun K hK => ?_) | ((first | refine AWp.region (by rw [hc]; rfl) ?_ | refine AWp.skip ?_ | refine AWp.exit ?_ | refine AWp.label ?_ | refine AWp.ret ?_ | refine appK_g ?_); simp -implicitDefEqProofs (maxSteps := 1000000) (disch := omega) only [go_sem, ↓reduceIte]) | ((first | refine hK _ ?_ | (clear hK; first | refine hK _ ?_ | (clear hK; first | refine hK _ ?_ | (clear hK; refine hK _ ?_)))); clear hK) | (refine AWp.cond ?_; simp -implicitDefEqProofs (maxSteps := 1000000) (disch := omega) only [go_sem, ↓reduceIte]; try (refine ⟨fun hlt => ?_, fun hlt => ?_⟩ <;> (try simp only [cla, clb, ne_eq, reduceCtorEq] at hlt) <;> (try exact hlt.elim))) | (refine AWp.block ?_) | ((first | refine gdO_split (fun hlt => ?_) (fun hlt => ?_) | refine tkO_split (fun hlt => ?_) (fun hlt => ?_) | refine opO_split (fun hlt => ?_) (fun hlt => ?_)) <;> have hgd := hlt <;> (try simp only [cla, clb, ne_eq, cld] at hlt) <;> (simp -implicitDefEqProofs (maxSteps := 1000000) (disch := omega) only [go_sem, ↓reduceIte, hgd]) <;> clear hgd) | (with_reducible refine And.intro ?_ ?_; · first | omega | assumption | exact ⟨_, _, rfl, rfl⟩) | ((first | refine ⟨_, h, ?_⟩); simp -implicitDefEqProofs (maxSteps := 1000000) (disch := omega) only [go_sem, ↓reduceIte]) | fail
  · rw [decide_eq_false hk] at h
    rw [if_neg hk]
    refine PCr.pc (PCr.of tab_ok Tryz.func62 rfl rfl rfl fun c hc hm => ?_)
    rw [show Tryz.f62.ntmps = _ from Tryz.ntmps62] at hc
    simp only [Tryz.f62]
    repeat' first | (exact absurd hlt (by decide)) | (refine AWp.seq fun K hK => ?_) | ((first | refine AWp.region (by rw [hc]; rfl) ?_ | refine AWp.skip ?_ | refine AWp.exit ?_ | refine AWp.label ?_ | refine AWp.ret ?_ | refine appK_g ?_); simp -implicitDefEqProofs (maxSteps := 1000000) (disch := omega) only [go_sem, ↓reduceIte]) | ((first | refine hK _ ?_ | (clear hK; first | refine hK _ ?_ | (clear hK; first | refine hK _ ?_ | (clear hK; refine hK _ ?_)))); clear hK) | (refine AWp.cond ?_; simp -implicitDefEqProofs (maxSteps := 1000000) (disch := omega) only [go_sem, ↓reduceIte]; try (refine ⟨fun hlt => ?_, fun hlt => ?_⟩ <;> (try simp only [cla, clb, ne_eq, reduceCtorEq] at hlt) <;> (try exact hlt.elim))) | (refine AWp.block ?_) | ((first | refine gdO_split (fun hlt => ?_) (fun hlt => ?_) | refine tkO_split (fun hlt => ?_) (fun hlt => ?_) | refine opO_split (fun hlt => ?_) (fun hlt => ?_)) <;> have hgd := hlt <;> (try simp only [cla, clb, ne_eq, cld] at hlt) <;> (simp -implicitDefEqProofs (maxSteps := 1000000) (disch := omega) only [go_sem, ↓reduceIte, hgd]) <;> clear hgd) | (with_reducible refine And.intro ?_ ?_; · first | omega | assumption | exact ⟨_, _, rfl, rfl⟩) | ((first | refine ⟨_, h, ?_⟩); simp -implicitDefEqProofs (maxSteps := 1000000) (disch := omega) only [go_sem, ↓reduceIte]) | fail
theorem dv_inj : ∀ {l m : List UInt8}, isD l → isD m → l.length = m.length → dv 0 l = dv 0 m → l = m
  | [], [], _, _, _, _ => rfl
  | [], y :: m, _, _, h, _ => by simp at h
  | x :: l, [], _, _, h, _ => by simp at h
  | x :: l, y :: m, hl, hm, h, e => by
    have h1 := hl x (by simp)
    have h2 := hm y (by simp)
    have hl' : isD l := fun z hz => hl z (by simp [hz])
    have hm' : isD m := fun z hz => hm z (by simp [hz])
    have h3 : l.length = m.length := by simpa using h
    have h4 := dv_lt hl'
    have h5 := dv_lt hm'
    rw [dv_cons0, dv_cons0, h3] at e
    rw [h3] at h4
    have e1 : x.toNat - 48 = y.toNat - 48 := by
      have a1 : ((x.toNat - 48) * 10 ^ m.length + dv 0 l) / 10 ^ m.length = x.toNat - 48 := by
        rw [Nat.mul_comm, Nat.mul_add_div (by omega), Nat.div_eq_of_lt h4, Nat.add_zero]
      have a2 : ((y.toNat - 48) * 10 ^ m.length + dv 0 m) / 10 ^ m.length = y.toNat - 48 := by
        rw [Nat.mul_comm, Nat.mul_add_div (by omega), Nat.div_eq_of_lt h5, Nat.add_zero]
      rw [← a1, e, a2]
    rw [e1] at e
    rw [dv_inj hl' hm' h3 (by omega), UInt8.toNat_inj.1 (show x.toNat = y.toNat by omega)]
theorem canon_eq {l m : List UInt8} (hl : canon l) (hm : canon m) (e : dv 0 l = dv 0 m) : l = m := dv_inj hl.1 hm.1 (canon_len hl hm e) e
theorem rText_bad (neg : Bool) (d : List Int) (hb : ¬ okI neg d) : PC Tryz.prog 66 [Zr neg d] (.tup [.dat (.str ⟨#[]⟩), I 10]) := by
  have h := Is_pc neg d
  rw [decide_eq_false hb] at h
  refine PCr.pc (PCr.of tab_ok Tryz.func66 rfl rfl rfl fun c hc hm => ?_)
  rw [show Tryz.f66.ntmps = _ from Tryz.ntmps66] at hc
  simp only [Tryz.f66]
  repeat' first | (exact absurd hlt (by decide)) | (refine AWp.seq fun K hK => ?_) | ((first | refine AWp.region (by rw [hc]; rfl) ?_ | refine AWp.skip ?_ | refine AWp.exit ?_ | refine AWp.label ?_ | refine AWp.ret ?_ | refine appK_g ?_); simp -implicitDefEqProofs (maxSteps := 1000000) (disch := omega) only [go_sem, ↓reduceIte]) | ((first | refine hK _ ?_ | (clear hK; first | refine hK _ ?_ | (clear hK; first | refine hK _ ?_ | (clear hK; refine hK _ ?_)))); clear hK) | (refine AWp.cond ?_; simp -implicitDefEqProofs (maxSteps := 1000000) (disch := omega) only [go_sem, ↓reduceIte]; try (refine ⟨fun hlt => ?_, fun hlt => ?_⟩ <;> (try simp only [cla, clb, ne_eq, reduceCtorEq] at hlt) <;> (try exact hlt.elim))) | (refine AWp.block ?_) | ((first | refine gdO_split (fun hlt => ?_) (fun hlt => ?_) | refine tkO_split (fun hlt => ?_) (fun hlt => ?_) | refine opO_split (fun hlt => ?_) (fun hlt => ?_)) <;> have hgd := hlt <;> (try simp only [cla, clb, ne_eq, cld] at hlt) <;> (simp -implicitDefEqProofs (maxSteps := 1000000) (disch := omega) only [go_sem, ↓reduceIte, hgd]) <;> clear hgd) | (with_reducible refine And.intro ?_ ?_; · first | omega | assumption | exact ⟨_, _, rfl, rfl⟩) | ((first | refine ⟨_, h, ?_⟩); simp -implicitDefEqProofs (maxSteps := 1000000) (disch := omega) only [go_sem, ↓reduceIte]) | fail
set_option maxHeartbeats 4000000 in
theorem rText_ok (x : Int) (lx : lenZ x ≤ 40) : PC Tryz.prog 66 [Z x] (textR x) := by
  have h := Is_pc (decide (x < 0)) (D x.natAbs)
  rw [decide_eq_true (okZ lx)] at h
  have hp : PC Tryz.prog 108 [L (D x.natAbs)] (.dat (.str (bs (wr false (D x.natAbs))))) := by
    have hr := rdig_pc (D x.natAbs) (dig_D _) (by unfold lenZ at lx; omega)
    refine ⟨hr.1, fun w A vs hg hl hv => (hr.2 w A vs hg hl hv).mono ?_⟩
    rintro e w' ⟨v, r, he, ⟨l, rfl, hc1, hc2⟩, hb, hrv⟩
    have hw := wr_canon x.natAbs (by unfold lenZ at *; rwa [Int.natAbs_natCast])
    rw [val_D] at hc2
    have := canon_eq hc1 hw.1 (by rw [hw.2]; exact_mod_cast hc2)
    subst this
    exact ⟨v, he, hb, hrv⟩
  have hsz := bs_size (wr false (D x.natAbs))
  have hwl := wr_len (neg := false) (dig_D x.natAbs)
  have hap : (⟨#[45]⟩ : ByteArray) ++ bs (wr false (D x.natAbs)) = bs (wr true (D x.natAbs)) := by
    rw [show (⟨#[45]⟩ : ByteArray) = bs [45] from rfl, bs_app]; simp [wr, wrh]
  have h45 : (⟨#[45]⟩ : ByteArray).size = 1 := rfl
  unfold lenZ at lx
  unfold textR
  show PC Tryz.prog 66 [Zr (decide (x < 0)) (D x.natAbs)] _
  generalize D x.natAbs = d at *
  generalize decide (x < 0) = neg at *
  cases neg
  · skip
    refine PCr.pc (PCr.of tab_ok Tryz.func66 rfl rfl rfl fun c hc hm => ?_)
    rw [show Tryz.f66.ntmps = _ from Tryz.ntmps66] at hc
    simp only [Tryz.f66]
    repeat' first | (exact absurd hlt (by decide)) | (refine AWp.seq fun K hK => ?_) | ((first | refine AWp.region (by rw [hc]; rfl) ?_ | refine AWp.skip ?_ | refine AWp.exit ?_ | refine AWp.label ?_ | refine AWp.ret ?_ | refine appK_g ?_); simp -implicitDefEqProofs (maxSteps := 1000000) (disch := omega) only [go_sem, ↓reduceIte]) | ((first | refine hK _ ?_ | (clear hK; first | refine hK _ ?_ | (clear hK; first | refine hK _ ?_ | (clear hK; refine hK _ ?_)))); clear hK) | (refine AWp.cond ?_; simp -implicitDefEqProofs (maxSteps := 1000000) (disch := omega) only [go_sem, ↓reduceIte]; try (refine ⟨fun hlt => ?_, fun hlt => ?_⟩ <;> (try simp only [cla, clb, ne_eq, reduceCtorEq] at hlt) <;> (try exact hlt.elim))) | (refine AWp.block ?_) | ((first | refine gdO_split (fun hlt => ?_) (fun hlt => ?_) | refine tkO_split (fun hlt => ?_) (fun hlt => ?_) | refine opO_split (fun hlt => ?_) (fun hlt => ?_)) <;> have hgd := hlt <;> (try simp only [cla, clb, ne_eq, cld] at hlt) <;> (simp -implicitDefEqProofs (maxSteps := 1000000) (disch := omega) only [go_sem, ↓reduceIte, hgd]) <;> clear hgd) | (with_reducible refine And.intro ?_ ?_; · first | omega | assumption | exact ⟨_, _, rfl, rfl⟩) | ((first | refine ⟨_, h, ?_⟩ | refine ⟨_, hp, ?_⟩); try (simp -implicitDefEqProofs (maxSteps := 1000000) (disch := omega) only [go_sem, ↓reduceIte])) | fail
  · skip
    refine PCr.pc (PCr.of tab_ok Tryz.func66 rfl rfl rfl fun c hc hm => ?_)
    rw [show Tryz.f66.ntmps = _ from Tryz.ntmps66] at hc
    simp only [Tryz.f66]
    repeat' first | (exact absurd hlt (by decide)) | (refine AWp.seq fun K hK => ?_) | ((first | refine AWp.region (by rw [hc]; rfl) ?_ | refine AWp.skip ?_ | refine AWp.exit ?_ | refine AWp.label ?_ | refine AWp.ret ?_ | refine appK_g ?_); simp -implicitDefEqProofs (maxSteps := 1000000) (disch := omega) only [go_sem, ↓reduceIte, hap, hsz, h45]) | ((first | refine hK _ ?_ | (clear hK; first | refine hK _ ?_ | (clear hK; first | refine hK _ ?_ | (clear hK; refine hK _ ?_)))); clear hK) | (refine AWp.cond ?_; simp -implicitDefEqProofs (maxSteps := 1000000) (disch := omega) only [go_sem, ↓reduceIte, hap, hsz, h45]; try (refine ⟨fun hlt => ?_, fun hlt => ?_⟩ <;> (try simp only [cla, clb, ne_eq, reduceCtorEq] at hlt) <;> (try exact hlt.elim))) | (refine AWp.block ?_) | ((first | refine gdO_split (fun hlt => ?_) (fun hlt => ?_) | refine tkO_split (fun hlt => ?_) (fun hlt => ?_) | refine opO_split (fun hlt => ?_) (fun hlt => ?_)) <;> have hgd := hlt <;> (try simp only [cla, clb, ne_eq, cld] at hlt) <;> (simp -implicitDefEqProofs (maxSteps := 1000000) (disch := omega) only [go_sem, ↓reduceIte, hap, hsz, h45, hgd]) <;> clear hgd) | (with_reducible refine And.intro ?_ ?_; · first | omega | assumption | exact ⟨_, _, rfl, rfl⟩) | ((first | refine ⟨_, h, ?_⟩ | refine ⟨_, hp, ?_⟩); try (simp -implicitDefEqProofs (maxSteps := 1000000) (disch := omega) only [go_sem, ↓reduceIte, hap, hsz, h45])) | fail
theorem val_drop_le {d : List Int} (hd : dig d) (k : Nat) : val (d.drop k) ≤ val d := by
  induction k with
  | zero => exact Int.le_refl _
  | succ k ih =>
    have h1 := val_drop d k
    have h2 := dig_getD hd k
    have h3 : 0 ≤ val (d.drop (k + 1)) := val_nonneg (fun x hx => hd x (List.mem_of_mem_drop hx))
    omega
def F60 (neg : Bool) (d : List Int) (k : Nat) : St := ⟨[(1, .ptr 0 0), (7, I (if neg then - val (d.drop k) else val (d.drop k))), (8, I ((k : Int) - 1))], [(0, .box [B neg, L d] false)], 1, 0⟩
theorem rToInt_bad (neg : Bool) (d : List Int) (hb : ¬ okI neg d) : PC Tryz.prog 60 [Zr neg d] (.tup [I 0, I 10]) := by
  have h := Is_pc neg d
  rw [decide_eq_false hb] at h
  refine PCr.pc (PCr.of tab_ok Tryz.func60 rfl rfl rfl fun c hc hm => ?_)
  rw [show Tryz.f60.ntmps = _ from Tryz.ntmps60] at hc
  simp only [Tryz.f60]
  repeat' first | (exact absurd hlt (by decide)) | (refine AWp.seq fun K hK => ?_) | ((first | refine AWp.region (by rw [hc]; rfl) ?_ | refine AWp.skip ?_ | refine AWp.exit ?_ | refine AWp.label ?_ | refine AWp.ret ?_ | refine appK_g ?_); simp -implicitDefEqProofs (maxSteps := 1000000) (disch := omega) only [go_sem, ↓reduceIte]) | ((first | refine hK _ ?_ | (clear hK; first | refine hK _ ?_ | (clear hK; first | refine hK _ ?_ | (clear hK; refine hK _ ?_)))); clear hK) | (refine AWp.cond ?_; simp -implicitDefEqProofs (maxSteps := 1000000) (disch := omega) only [go_sem, ↓reduceIte]; try (refine ⟨fun hlt => ?_, fun hlt => ?_⟩ <;> (try simp only [cla, clb, ne_eq, reduceCtorEq] at hlt) <;> (try exact hlt.elim))) | (refine AWp.block ?_) | ((first | refine gdO_split (fun hlt => ?_) (fun hlt => ?_) | refine tkO_split (fun hlt => ?_) (fun hlt => ?_) | refine opO_split (fun hlt => ?_) (fun hlt => ?_)) <;> have hgd := hlt <;> (try simp only [cla, clb, ne_eq, cld] at hlt) <;> (simp -implicitDefEqProofs (maxSteps := 1000000) (disch := omega) only [go_sem, ↓reduceIte, hgd]) <;> clear hgd) | (with_reducible refine And.intro ?_ ?_; · first | omega | assumption | exact ⟨_, _, rfl, rfl⟩) | ((first | refine ⟨_, h, ?_⟩); simp -implicitDefEqProofs (maxSteps := 1000000) (disch := omega) only [go_sem, ↓reduceIte]) | fail
set_option maxHeartbeats 4000000 in
theorem rToInt_ok (x : Int) (lx : lenZ x ≤ 40) : PC Tryz.prog 60 [Z x] (toIntR x) := by
  have h := Is_pc (decide (x < 0)) (D x.natAbs)
  rw [decide_eq_true (okZ lx)] at h
  have f1 := rFromInt_pc (-9223372036854775808) (by decide) (by decide)
  have f2 := rFromInt_pc 9223372036854775807 (by decide) (by decide)
  have l1 : lenZ (-9223372036854775808) ≤ 1000000 := Nat.le_trans (lenZ_le (b := 9223372036854775808) (by decide)) (by unfold lenZ; decide +kernel)
  have l2 : lenZ 9223372036854775807 ≤ 1000000 := by unfold lenZ; decide +kernel
  have c1 := refCompare_Z x (-9223372036854775808) (by omega) l1
  have c2 := refCompare_Z x 9223372036854775807 (by omega) l2
  have d1 : cmpI x (-9223372036854775808) < 0 ↔ x < -9223372036854775808 := by simp only [cmpI]; (repeat' split) <;> omega
  have d2 : 0 < cmpI x 9223372036854775807 ↔ 9223372036854775807 < x := by simp only [cmpI]; (repeat' split) <;> omega
  generalize cmpI x (-9223372036854775808) = k1 at *
  generalize cmpI x 9223372036854775807 = k2 at *
  have hd := dig_D x.natAbs
  have hv := val_D x.natAbs
  have hx : x = if decide (x < 0) = true then - (val (D x.natAbs)) else val (D x.natAbs) := by
    rw [hv]; by_cases hx : x < 0 <;> simp [hx] <;> omega
  obtain ⟨n1, e1, z1⟩ : ∃ n l, Z (-9223372036854775808) = Zr n l := ⟨_, _, rfl⟩
  obtain ⟨n2, e2, z2⟩ : ∃ n l, Z 9223372036854775807 = Zr n l := ⟨_, _, rfl⟩
  rw [z1] at f1 c1
  rw [z2] at f2 c2
  unfold lenZ at lx
  have c1 : PC Tryz.prog 53 [Zr (decide (x < 0)) (D x.natAbs), Zr n1 e1] (I k1) := c1
  have c2 : PC Tryz.prog 53 [Zr (decide (x < 0)) (D x.natAbs), Zr n2 e2] (I k2) := c2
  unfold toIntR
  show PC Tryz.prog 60 [Zr (decide (x < 0)) (D x.natAbs)] _
  have hvd : ∀ k, val ((D x.natAbs).drop k) ≤ x.natAbs := fun k => by rw [← hv]; exact val_drop_le hd k
  have hvn : ∀ k, 0 ≤ val ((D x.natAbs).drop k) := fun k => val_nonneg (fun y hy => hd y (List.mem_of_mem_drop hy))
  have hneg : decide (x < 0) = true → x ≤ 0 := fun h => by have := of_decide_eq_true h; omega
  have hpos : decide (x < 0) = false → 0 ≤ x := fun h => by have := of_decide_eq_false h; omega
  generalize decide (x < 0) = neg at *
  generalize D x.natAbs = d at *
  by_cases g1 : x < -9223372036854775808
  · have q1 : decide (k1 < 0) = true := decide_eq_true (d1.2 g1)
    rw [if_neg (by omega)]
    refine PCr.pc (PCr.of tab_ok Tryz.func60 rfl rfl rfl fun c hc hm => ?_)
    rw [show Tryz.f60.ntmps = _ from Tryz.ntmps60] at hc
    simp only [Tryz.f60]
    repeat' first | (exact absurd hlt (by decide)) | (refine AWp.seq fun K hK => ?_) | ((first | refine AWp.region (by rw [hc]; rfl) ?_ | refine AWp.skip ?_ | refine AWp.exit ?_ | refine AWp.label ?_ | refine AWp.ret ?_ | refine appK_g ?_); simp -implicitDefEqProofs (maxSteps := 1000000) (disch := omega) only [go_sem, ↓reduceIte, q1]) | ((first | refine hK _ ?_ | (clear hK; first | refine hK _ ?_ | (clear hK; first | refine hK _ ?_ | (clear hK; refine hK _ ?_)))); clear hK) | (refine AWp.cond ?_; simp -implicitDefEqProofs (maxSteps := 1000000) (disch := omega) only [go_sem, ↓reduceIte, q1]; try (refine ⟨fun hlt => ?_, fun hlt => ?_⟩ <;> (try simp only [cla, clb, ne_eq, reduceCtorEq] at hlt) <;> (try exact hlt.elim))) | (refine AWp.block ?_) | ((first | refine gdO_split (fun hlt => ?_) (fun hlt => ?_) | refine tkO_split (fun hlt => ?_) (fun hlt => ?_) | refine opO_split (fun hlt => ?_) (fun hlt => ?_)) <;> have hgd := hlt <;> (try simp only [cla, clb, ne_eq, cld] at hlt) <;> (simp -implicitDefEqProofs (maxSteps := 1000000) (disch := omega) only [go_sem, ↓reduceIte, q1, hgd]) <;> clear hgd) | (with_reducible refine And.intro ?_ ?_; · first | omega | assumption | exact ⟨_, _, rfl, rfl⟩) | ((first | refine ⟨_, h, ?_⟩ | refine ⟨_, f1, ?_⟩ | refine ⟨_, f2, ?_⟩ | refine ⟨_, c1, ?_⟩); simp -implicitDefEqProofs (maxSteps := 1000000) (disch := omega) only [go_sem, ↓reduceIte, q1]) | fail
  · have q1 : decide (k1 < 0) = false := decide_eq_false (fun h => g1 (d1.1 h))
    by_cases g2 : 9223372036854775807 < x
    · have q2 : decide (0 < k2) = true := decide_eq_true (d2.2 g2)
      rw [if_neg (by omega)]
      refine PCr.pc (PCr.of tab_ok Tryz.func60 rfl rfl rfl fun c hc hm => ?_)
      rw [show Tryz.f60.ntmps = _ from Tryz.ntmps60] at hc
      simp only [Tryz.f60]
      repeat' first | (exact absurd hlt (by decide)) | (refine AWp.seq fun K hK => ?_) | ((first | refine AWp.region (by rw [hc]; rfl) ?_ | refine AWp.skip ?_ | refine AWp.exit ?_ | refine AWp.label ?_ | refine AWp.ret ?_ | refine appK_g ?_); simp -implicitDefEqProofs (maxSteps := 1000000) (disch := omega) only [go_sem, ↓reduceIte, q1, q2]) | ((first | refine hK _ ?_ | (clear hK; first | refine hK _ ?_ | (clear hK; first | refine hK _ ?_ | (clear hK; refine hK _ ?_)))); clear hK) | (refine AWp.cond ?_; simp -implicitDefEqProofs (maxSteps := 1000000) (disch := omega) only [go_sem, ↓reduceIte, q1, q2]; try (refine ⟨fun hlt => ?_, fun hlt => ?_⟩ <;> (try simp only [cla, clb, ne_eq, reduceCtorEq] at hlt) <;> (try exact hlt.elim))) | (refine AWp.block ?_) | ((first | refine gdO_split (fun hlt => ?_) (fun hlt => ?_) | refine tkO_split (fun hlt => ?_) (fun hlt => ?_) | refine opO_split (fun hlt => ?_) (fun hlt => ?_)) <;> have hgd := hlt <;> (try simp only [cla, clb, ne_eq, cld] at hlt) <;> (simp -implicitDefEqProofs (maxSteps := 1000000) (disch := omega) only [go_sem, ↓reduceIte, q1, q2, hgd]) <;> clear hgd) | (with_reducible refine And.intro ?_ ?_; · first | omega | assumption | exact ⟨_, _, rfl, rfl⟩) | ((first | refine ⟨_, h, ?_⟩ | refine ⟨_, f1, ?_⟩ | refine ⟨_, f2, ?_⟩ | refine ⟨_, c1, ?_⟩ | refine ⟨_, c2, ?_⟩); simp -implicitDefEqProofs (maxSteps := 1000000) (disch := omega) only [go_sem, ↓reduceIte, q1, q2]) | fail
    · have q2 : decide (0 < k2) = false := decide_eq_false (fun h => g2 (d2.1 h))
      rw [if_pos (by omega)]
      refine PCr.pc (PCr.of tab_ok Tryz.func60 rfl rfl rfl fun c hc hm => ?_)
      rw [show Tryz.f60.ntmps = _ from Tryz.ntmps60] at hc
      simp only [Tryz.f60]
      repeat' first | (exact absurd hlt (by decide)) | (refine AWp.seq fun K hK => ?_) | ((first | refine AWp.region (by rw [hc]; rfl) ?_ | refine AWp.skip ?_ | refine AWp.exit ?_ | refine AWp.label ?_ | refine AWp.ret ?_ | refine appK_g ?_); simp -implicitDefEqProofs (maxSteps := 1000000) (disch := omega) only [go_sem, ↓reduceIte, q1, q2]) | ((first | refine hK _ ?_ | (clear hK; first | refine hK _ ?_ | (clear hK; first | refine hK _ ?_ | (clear hK; refine hK _ ?_)))); clear hK) | (refine AWp.cond ?_; simp -implicitDefEqProofs (maxSteps := 1000000) (disch := omega) only [go_sem, ↓reduceIte, q1, q2]; try (refine ⟨fun hlt => ?_, fun hlt => ?_⟩ <;> (try simp only [cla, clb, ne_eq, reduceCtorEq] at hlt) <;> (try exact hlt.elim))) | (refine AWp.block ?_) | ((first | refine gdO_split (fun hlt => ?_) (fun hlt => ?_) | refine tkO_split (fun hlt => ?_) (fun hlt => ?_) | refine opO_split (fun hlt => ?_) (fun hlt => ?_)) <;> have hgd := hlt <;> (try simp only [cla, clb, ne_eq, cld] at hlt) <;> (simp -implicitDefEqProofs (maxSteps := 1000000) (disch := omega) only [go_sem, ↓reduceIte, q1, q2, hgd]) <;> clear hgd) | (with_reducible refine And.intro ?_ ?_; · first | omega | assumption | exact ⟨_, _, rfl, rfl⟩) | ((first | refine ⟨_, h, ?_⟩ | refine ⟨_, f1, ?_⟩ | refine ⟨_, f2, ?_⟩ | refine ⟨_, c1, ?_⟩ | refine ⟨_, c2, ?_⟩); simp -implicitDefEqProofs (maxSteps := 1000000) (disch := omega) only [go_sem, ↓reduceIte, q1, q2]) | fail
      refine AWp.loopInv (F60 neg d) (fun k => k) (fun k => k ≤ d.length) d.length (Nat.le_refl _) (Sub.of0 hm id rfl ?_ ?_ (fun _ _ _ _ h => h)) ?_
      all_goals (try dsimp only)
      all_goals (first | omega | (simp -implicitDefEqProofs (maxSteps := 1000000) (disch := omega) only [F60, List.drop_length, val, id, go_sem, Nat.blt_eq, Nat.reduceAdd, Nat.reduceSub, Nat.reduceEqDiff, Nat.reduceLT, ↓reduceIte, and_true, true_and, AV.dat.injEq, DV.int.injEq, DV.bool.injEq, DV.lst.injEq, eq_self_iff_true]; first | done | omega | (simp; done) | (simp; omega)) | (simp; done) | (simp; omega) | skip)
      intro k hk ih
      simp only [F60]
      rcases k with _ | k
      · rw [List.drop_zero, ← hx]
        repeat' first | (exact absurd hlt (by decide)) | (refine AWp.seq fun K hK => ?_) | ((first | refine AWp.region (by rw [hc]; rfl) ?_ | refine AWp.skip ?_ | refine AWp.exit ?_ | refine AWp.label ?_ | refine AWp.ret ?_ | refine appK_g ?_); simp -implicitDefEqProofs (maxSteps := 1000000) (disch := omega) only [go_sem, ↓reduceIte]) | ((first | refine hK _ ?_ | (clear hK; first | refine hK _ ?_ | (clear hK; first | refine hK _ ?_ | (clear hK; refine hK _ ?_)))); clear hK) | (refine AWp.cond ?_; simp -implicitDefEqProofs (maxSteps := 1000000) (disch := omega) only [go_sem, ↓reduceIte]; try (refine ⟨fun hlt => ?_, fun hlt => ?_⟩ <;> (try simp only [cla, clb, ne_eq, reduceCtorEq] at hlt) <;> (try exact hlt.elim))) | (refine AWp.block ?_) | ((first | refine gdO_split (fun hlt => ?_) (fun hlt => ?_) | refine tkO_split (fun hlt => ?_) (fun hlt => ?_) | refine opO_split (fun hlt => ?_) (fun hlt => ?_)) <;> have hgd := hlt <;> (try simp only [cla, clb, ne_eq, cld] at hlt) <;> (simp -implicitDefEqProofs (maxSteps := 1000000) (disch := omega) only [go_sem, ↓reduceIte, hgd]) <;> clear hgd) | (with_reducible refine And.intro ?_ ?_; · first | omega | assumption | exact ⟨_, _, rfl, rfl⟩) | fail
      · have b1 := hvd k
        have b2 := hvn (k + 1)
        have b3 := val_drop d k
        have b4 := dig_getD hd k
        have e1 : ((k + 1 : Nat) : Int) - 1 = (k : Int) := by omega
        simp only [e1]
        generalize hv1 : val (d.drop (k + 1)) = v at *
        cases neg
        · have := hpos rfl
          simp only [Bool.false_eq_true, ↓reduceIte]
          have hk0 : decide ((0 : Int) ≤ (k : Int)) = true := decide_eq_true (by omega)
          repeat' first | (exact absurd hlt (by decide)) | (refine AWp.seq fun K hK => ?_) | ((first | refine AWp.region (by rw [hc]; rfl) ?_ | refine AWp.skip ?_ | refine AWp.exit ?_ | refine AWp.label ?_ | refine AWp.ret ?_ | refine appK_g ?_); simp -implicitDefEqProofs (maxSteps := 1000000) (disch := omega) only [go_sem, ↓reduceIte, hk0]) | ((first | refine hK _ ?_ | (clear hK; first | refine hK _ ?_ | (clear hK; first | refine hK _ ?_ | (clear hK; refine hK _ ?_)))); clear hK) | (refine AWp.cond ?_; simp -implicitDefEqProofs (maxSteps := 1000000) (disch := omega) only [go_sem, ↓reduceIte, hk0]; try (refine ⟨fun hlt => ?_, fun hlt => ?_⟩ <;> (try simp only [cla, clb, ne_eq, reduceCtorEq] at hlt) <;> (try exact hlt.elim))) | (refine AWp.block ?_) | ((first | refine gdO_split (fun hlt => ?_) (fun hlt => ?_) | refine tkO_split (fun hlt => ?_) (fun hlt => ?_) | refine opO_split (fun hlt => ?_) (fun hlt => ?_)) <;> have hgd := hlt <;> (try simp only [cla, clb, ne_eq, cld] at hlt) <;> (simp -implicitDefEqProofs (maxSteps := 1000000) (disch := omega) only [go_sem, ↓reduceIte, hk0, hgd]) <;> clear hgd) | (with_reducible refine And.intro ?_ ?_; · first | omega | assumption | exact ⟨_, _, rfl, rfl⟩) | fail
          refine ih k _ (by omega) (by omega) (Sub.of0 hm id rfl ?_ ?_ (fun _ _ _ _ h => h))
          all_goals (try dsimp only)
          all_goals (first | omega | (simp -implicitDefEqProofs (maxSteps := 1000000) (disch := omega) only [F60, Bool.false_eq_true, id, go_sem, Nat.blt_eq, Nat.reduceAdd, Nat.reduceSub, Nat.reduceEqDiff, Nat.reduceLT, ↓reduceIte, and_true, true_and, AV.dat.injEq, DV.int.injEq, DV.bool.injEq, DV.lst.injEq, eq_self_iff_true]; first | done | omega | (simp; done) | (simp; omega)) | (simp; done) | (simp; omega) | skip)
        · have := hneg rfl
          simp only [↓reduceIte]
          have hk0 : decide ((0 : Int) ≤ (k : Int)) = true := decide_eq_true (by omega)
          repeat' first | (exact absurd hlt (by decide)) | (refine AWp.seq fun K hK => ?_) | ((first | refine AWp.region (by rw [hc]; rfl) ?_ | refine AWp.skip ?_ | refine AWp.exit ?_ | refine AWp.label ?_ | refine AWp.ret ?_ | refine appK_g ?_); simp -implicitDefEqProofs (maxSteps := 1000000) (disch := omega) only [go_sem, ↓reduceIte, hk0]) | ((first | refine hK _ ?_ | (clear hK; first | refine hK _ ?_ | (clear hK; first | refine hK _ ?_ | (clear hK; refine hK _ ?_)))); clear hK) | (refine AWp.cond ?_; simp -implicitDefEqProofs (maxSteps := 1000000) (disch := omega) only [go_sem, ↓reduceIte, hk0]; try (refine ⟨fun hlt => ?_, fun hlt => ?_⟩ <;> (try simp only [cla, clb, ne_eq, reduceCtorEq] at hlt) <;> (try exact hlt.elim))) | (refine AWp.block ?_) | ((first | refine gdO_split (fun hlt => ?_) (fun hlt => ?_) | refine tkO_split (fun hlt => ?_) (fun hlt => ?_) | refine opO_split (fun hlt => ?_) (fun hlt => ?_)) <;> have hgd := hlt <;> (try simp only [cla, clb, ne_eq, cld] at hlt) <;> (simp -implicitDefEqProofs (maxSteps := 1000000) (disch := omega) only [go_sem, ↓reduceIte, hk0, hgd]) <;> clear hgd) | (with_reducible refine And.intro ?_ ?_; · first | omega | assumption | exact ⟨_, _, rfl, rfl⟩) | fail
          refine ih k _ (by omega) (by omega) (Sub.of0 hm id rfl ?_ ?_ (fun _ _ _ _ h => h))
          all_goals (try dsimp only)
          all_goals (first | omega | (simp -implicitDefEqProofs (maxSteps := 1000000) (disch := omega) only [F60, Bool.false_eq_true, id, go_sem, Nat.blt_eq, Nat.reduceAdd, Nat.reduceSub, Nat.reduceEqDiff, Nat.reduceLT, ↓reduceIte, and_true, true_and, AV.dat.injEq, DV.int.injEq, DV.bool.injEq, DV.lst.injEq, eq_self_iff_true]; first | done | omega | (simp; done) | (simp; omega)) | (simp; done) | (simp; omega) | skip)
end Go.Proofs.YthhjcfejgoddlaaGreatDoor
end

section
set_option linter.unusedSimpArgs false
set_option linter.unusedVariables false
set_option maxRecDepth 100000
namespace Go.Proofs.YthhjcfejgoddlaaGreatDoor
open Go Go.Abs
attribute [local go_sem] wrap64 Int.tdiv_eq_ediv_of_nonneg Int.tmod_eq_emod_of_nonneg eq_self Bool.false_eq_true Bool.true_eq_false Bool.not_true Bool.not_false
attribute [local go_sem_proc] Nat.reduceAdd Nat.reduceMul Nat.reduceEqDiff Nat.reduceLT Nat.reduceLeDiff Int.reduceEq Int.reduceNeg Int.reduceToNat reduceCtorEq Int.reduceBNe Int.reduceBEq

def hdN (x : Int) : Int := IntKind.wrap .u8 (IntKind.wrap .u8 ((D x.natAbs).length : Int) + 128)
def bytesN (x : Int) : AV := .tup [.dat (.lst ([.int .u8 (hdN x)] :: (List.range (D x.natAbs).length).flatMap (q4 (D x.natAbs)))), I 0]
set_option maxHeartbeats 4000000 in
theorem Bytes_neg (x : Int) (hx : x < 0) (lx : lenZ x ≤ 40) : PC Tryz.prog 69 [Z x] (bytesN x) := by
  have hd := dig_D x.natAbs
  have hchk := Check_pc (decide (x < 0)) (D x.natAbs) (by unfold lenZ at lx; omega)
  rw [if_pos (okZ lx)] at hchk
  have e1 : decide (x < 0) = true := decide_eq_true hx
  rw [e1] at hchk
  have hN := downE_len (D x.natAbs)
  unfold lenZ at lx
  refine PCr.pc (PCr.of tab_ok Tryz.func69 rfl rfl rfl fun c hc hm => ?_)
  rw [show Tryz.f69.ntmps = _ from Tryz.ntmps69] at hc
  simp only [Tryz.f69]
  repeat' first | (refine AWp.seq fun K hK => ?_) | ((first | refine AWp.region (by rw [hc]; rfl) ?_ | refine AWp.skip ?_ | refine AWp.exit ?_ | refine AWp.label ?_ | refine AWp.ret ?_ | refine appK_g ?_); simp -implicitDefEqProofs (maxSteps := 1000000) (disch := omega) only [go_sem, ↓reduceIte, e1]) | ((first | refine hK _ ?_ | (clear hK; first | refine hK _ ?_ | (clear hK; first | refine hK _ ?_ | (clear hK; refine hK _ ?_)))); clear hK) | (refine AWp.cond ?_; simp -implicitDefEqProofs (maxSteps := 1000000) (disch := omega) only [go_sem, ↓reduceIte, e1]; try (refine ⟨fun hlt => ?_, fun hlt => ?_⟩ <;> (try simp only [cla, clb, ne_eq, reduceCtorEq] at hlt) <;> (try exact hlt.elim))) | (refine AWp.block ?_) | ((first | refine gdO_split (fun hlt => ?_) (fun hlt => ?_) | refine tkO_split (fun hlt => ?_) (fun hlt => ?_) | refine opO_split (fun hlt => ?_) (fun hlt => ?_)) <;> have hgd := hlt <;> (try simp only [cla, clb, ne_eq, cld] at hlt) <;> (simp -implicitDefEqProofs (maxSteps := 1000000) (disch := omega) only [go_sem, ↓reduceIte, e1, hgd]) <;> clear hgd) | (with_reducible refine And.intro ?_ ?_; · first | omega | assumption | exact ⟨_, _, rfl, rfl⟩) | ((first | refine ⟨_, hchk, ?_⟩ | refine ⟨_, parts_pc _ _, ?_⟩ | refine ⟨_, down_pc _, ?_⟩); simp -implicitDefEqProofs (maxSteps := 1000000) (disch := omega) only [go_sem, ↓reduceIte, e1]) | fail
  refine AWp.rangeF 140 [.cptr [dL (D x.natAbs)]] (downE (D x.natAbs)) [(7, 29)] (by simp [go_sem]) (down_it (D x.natAbs) (by omega)) (fun el hel => ?_) (by rw [hc]; rfl) (.one _ _ _ _ _ _) (by rw [hc]; rfl) hm.2
      (fun pre s n => ∃ k, k ≠ 0 ∧ k ≠ 2 ∧ k < n ∧ s = [(2, .box [.own k] false), (k, .row 5 1 ([.int .u8 (hdN x)] :: pre.flatMap (fun k => q4 (D x.natAbs) k.val)) false), (0, .box [B true, L (D x.natAbs)] false)])
      (fun code pre s n => False) ⟨1, Nat.one_ne_zero, by omega, by show 1 < 3; omega, rfl⟩ ?_ ?_ ?_
  · obtain ⟨k, _, rfl⟩ := List.mem_map.1 hel; rfl
  · intro c' l pre k s n hc' hm' hlen hn hI
    have hc := hc'.trans hc
    have hpl := q4_len (D x.natAbs) pre
    have hk : k.val < (D x.natAbs).length := by have := k.isLt; omega
    rw [downE_get]
    simp only at hm' hn
    obtain ⟨j, hj0, hj2, hjn, rfl⟩ := hI
    refine AWp.postSub ?_
    have g1 : ¬ n = j := by omega
    have g2 : ¬ 2 = j := by omega
    have g3 : ¬ 0 = j := by omega
    have g4 : ¬ n = 1 := by omega
    have g5 : ¬ n = 2 := by omega
    have g6 : ¬ n = 0 := by omega
    have g7 : ¬ 2 = n := by omega
    have g8 : ¬ 0 = n := by omega
    have g9 : ¬ n + 1 = j := by omega
    simp -implicitDefEqProofs (maxSteps := 1000000) (disch := omega) only [go_sem, ↓reduceIte]
    repeat' first | (refine AWp.seq fun K hK => ?_) | ((first | refine AWp.region (by rw [hc]; rfl) ?_ | refine AWp.skip ?_ | refine AWp.exit ?_ | refine AWp.label ?_ | refine AWp.ret ?_ | refine appK_g ?_); simp -implicitDefEqProofs (maxSteps := 1000000) (disch := omega) only [go_sem, ↓reduceIte, hj0, hj2, g1, g2, g3, g4, g5, g6, g7, g8, g9]) | ((first | refine hK _ ?_ | (clear hK; first | refine hK _ ?_ | (clear hK; first | refine hK _ ?_ | (clear hK; refine hK _ ?_)))); clear hK) | (refine AWp.cond ?_; simp -implicitDefEqProofs (maxSteps := 1000000) (disch := omega) only [go_sem, ↓reduceIte, hj0, hj2, g1, g2, g3, g4, g5, g6, g7, g8, g9]; try (refine ⟨fun hlt => ?_, fun hlt => ?_⟩ <;> (try simp only [cla, clb, ne_eq, reduceCtorEq] at hlt) <;> (try exact hlt.elim))) | (refine AWp.block ?_) | ((first | refine gdO_split (fun hlt => ?_) (fun hlt => ?_) | refine tkO_split (fun hlt => ?_) (fun hlt => ?_) | refine opO_split (fun hlt => ?_) (fun hlt => ?_)) <;> have hgd := hlt <;> (try simp only [cla, clb, ne_eq, cld] at hlt) <;> (simp -implicitDefEqProofs (maxSteps := 1000000) (disch := omega) only [go_sem, ↓reduceIte, hj0, hj2, g1, g2, g3, g4, g5, g6, g7, g8, g9, hgd]) <;> clear hgd) | (with_reducible refine And.intro ?_ ?_; · first | omega | assumption | exact ⟨_, _, rfl, rfl⟩) | fail
    refine ⟨⟨[], [(2, .box [.own (n + 1)] false), (n + 1, .row 5 1 ([.int .u8 (hdN x)] :: (pre ++ [k]).flatMap (fun k => q4 (D x.natAbs) k.val)) false), (0, .box [B true, L (D x.natAbs)] false)], n + 1 + 1, 0⟩, Sub.of (fun i => i) ⟨by rw [hm']; simp only; omega, fun _ _ => rfl⟩ rfl trivial ?_ (fun _ _ _ _ h => h), n + 1, by omega, by omega, by simp only; omega, rfl⟩
    have g10 : ¬ n + 1 = 2 := by omega
    have g11 : ¬ n + 1 = 0 := by omega
    simp only [List.flatMap_append, List.flatMap_cons, List.flatMap_nil, List.append_nil, q4]
    simp only [Abs.subS, Abs.get_cons, g4, g5, g6, g10, g11, ↓reduceIte, Abs.renO, Abs.okO, List.map_cons, List.map_nil, Abs.ren, Abs.okR]
    refine ⟨by simp only [List.all_cons, List.all_nil, Bool.and_true]; show Nat.blt (n + 1) (n + 1 + 1) = true; rw [Nat.blt_eq]; omega, by rw [Nat.blt_eq]; omega, rfl, trivial, by rw [Nat.blt_eq]; omega, trivial, rfl, by rw [Nat.blt_eq]; omega, rfl, trivial⟩
  · intro s n hI
    obtain ⟨j, hj0, hj2, hjn, rfl⟩ := hI
    have g2 : ¬ 2 = j := by omega
    have g3 : ¬ 0 = j := by omega
    simp -implicitDefEqProofs (maxSteps := 1000000) (disch := omega) only [go_sem, ↓reduceIte]
    repeat' first | (refine AWp.seq fun K hK => ?_) | ((first | refine AWp.region (by rw [hc]; rfl) ?_ | refine AWp.skip ?_ | refine AWp.exit ?_ | refine AWp.label ?_ | refine AWp.ret ?_ | refine appK_g ?_); simp -implicitDefEqProofs (maxSteps := 1000000) (disch := omega) only [go_sem, ↓reduceIte, hj0, hj2, g2, g3]) | ((first | refine hK _ ?_ | (clear hK; first | refine hK _ ?_ | (clear hK; first | refine hK _ ?_ | (clear hK; refine hK _ ?_)))); clear hK) | (refine AWp.cond ?_; simp -implicitDefEqProofs (maxSteps := 1000000) (disch := omega) only [go_sem, ↓reduceIte, hj0, hj2, g2, g3]; try (refine ⟨fun hlt => ?_, fun hlt => ?_⟩ <;> (try simp only [cla, clb, ne_eq, reduceCtorEq] at hlt) <;> (try exact hlt.elim))) | (refine AWp.block ?_) | ((first | refine gdO_split (fun hlt => ?_) (fun hlt => ?_) | refine tkO_split (fun hlt => ?_) (fun hlt => ?_) | refine opO_split (fun hlt => ?_) (fun hlt => ?_)) <;> have hgd := hlt <;> (try simp only [cla, clb, ne_eq, cld] at hlt) <;> (simp -implicitDefEqProofs (maxSteps := 1000000) (disch := omega) only [go_sem, ↓reduceIte, hj0, hj2, g2, g3, hgd]) <;> clear hgd) | (with_reducible refine And.intro ?_ ?_; · first | omega | assumption | exact ⟨_, _, rfl, rfl⟩) | fail
    rw [fin_flat, hN]; rfl
  · intro code pre s n hpf hI
    exact hI.elim
theorem Bytes_bad (neg : Bool) (d : List Int) (ld : d.length ≤ 1000000) (hb : ¬ okI neg d) : PC Tryz.prog 69 [Zr neg d] (.tup [.dat (.lst []), I 10]) := by
  have h := Check_pc neg d ld
  rw [if_neg hb] at h
  refine PCr.pc (PCr.of tab_ok Tryz.func69 rfl rfl rfl fun c hc hm => ?_)
  rw [show Tryz.f69.ntmps = _ from Tryz.ntmps69] at hc
  simp only [Tryz.f69]
  repeat' first | (refine AWp.seq fun K hK => ?_) | ((first | refine AWp.region (by rw [hc]; rfl) ?_ | refine AWp.skip ?_ | refine AWp.exit ?_ | refine AWp.label ?_ | refine AWp.ret ?_ | refine appK_g ?_); simp -implicitDefEqProofs (maxSteps := 1000000) (disch := omega) only [go_sem, ↓reduceIte]) | ((first | refine hK _ ?_ | (clear hK; first | refine hK _ ?_ | (clear hK; first | refine hK _ ?_ | (clear hK; refine hK _ ?_)))); clear hK) | (refine AWp.cond ?_; simp -implicitDefEqProofs (maxSteps := 1000000) (disch := omega) only [go_sem, ↓reduceIte]; try (refine ⟨fun hlt => ?_, fun hlt => ?_⟩ <;> (try simp only [cla, clb, ne_eq, reduceCtorEq] at hlt) <;> (try exact hlt.elim))) | (refine AWp.block ?_) | ((first | refine gdO_split (fun hlt => ?_) (fun hlt => ?_) | refine tkO_split (fun hlt => ?_) (fun hlt => ?_) | refine opO_split (fun hlt => ?_) (fun hlt => ?_)) <;> have hgd := hlt <;> (try simp only [cla, clb, ne_eq, cld] at hlt) <;> (simp -implicitDefEqProofs (maxSteps := 1000000) (disch := omega) only [go_sem, ↓reduceIte, hgd]) <;> clear hgd) | (with_reducible refine And.intro ?_ ?_; · first | omega | assumption | exact ⟨_, _, rfl, rfl⟩) | ((first | refine ⟨_, h, ?_⟩); simp -implicitDefEqProofs (maxSteps := 1000000) (disch := omega) only [go_sem, ↓reduceIte]) | fail
end Go.Proofs.YthhjcfejgoddlaaGreatDoor
end

section
set_option linter.unusedSimpArgs false
set_option linter.unusedVariables false
set_option maxRecDepth 100000
namespace Go.Proofs.YthhjcfejgoddlaaGreatDoor
open Go Go.Abs
attribute [local go_sem] wrap64 Int.tdiv_eq_ediv_of_nonneg Int.tmod_eq_emod_of_nonneg eq_self Bool.false_eq_true Bool.true_eq_false Bool.not_true Bool.not_false
attribute [local go_sem_proc] Nat.reduceAdd Nat.reduceMul Nat.reduceEqDiff Nat.reduceLT Nat.reduceLeDiff Int.reduceEq Int.reduceNeg Int.reduceToNat reduceCtorEq Int.reduceBNe Int.reduceBEq

theorem wrap8 (x : Int) : IntKind.u8.wrap x = x % 256 := by
  unfold IntKind.wrap
  show (if (false && _) = true then _ else x % 256) = _
  simp only [Bool.false_and, Bool.false_eq_true, ↓reduceIte]
def bq (x : Int) : List (List DV) := [[.int .u8 (IntKind.u8.wrap (x / 16777216))], [.int .u8 (IntKind.u8.wrap (x / 65536 % 256))], [.int .u8 (IntKind.u8.wrap (x / 256 % 256))], [.int .u8 (IntKind.u8.wrap (x % 256))]]
theorem bq_q4 (d : List Int) (k : Nat) : bq (d.getD (d.length - 1 - k) 0) = q4 d k := by
  unfold bq q4
  generalize d.getD (d.length - 1 - k) 0 = x
  have e1 : x.fdiv (2 ^ min 24 64) = x / 16777216 := Int.fdiv_eq_ediv_of_nonneg _ (by decide)
  have e2 : x.fdiv (2 ^ min 16 64) = x / 65536 := Int.fdiv_eq_ediv_of_nonneg _ (by decide)
  have e3 : x.fdiv (2 ^ min 8 64) = x / 256 := Int.fdiv_eq_ediv_of_nonneg _ (by decide)
  rw [e1, e2, e3]
  simp only [wrap8, Int.emod_emod_of_dvd _ (Int.dvd_refl 256)]
theorem q4_rng (d : List Int) (n : Nat) : ((List.range n).flatMap (q4 d)).length = 4 * n := by
  induction n with
  | zero => rfl
  | succ n ih => rw [List.range_succ, List.flatMap_append, List.length_append, ih]; simp [q4]; omega
def F70 (neg : Bool) (d : List Int) (h : Int) (k : Nat) : St := ⟨[(1, .ptr 0 0), (6, .own 1), (7, I ((k : Int) - 1))], [(1, .row 5 1 ([.int .u8 h] :: (List.range (d.length - k)).flatMap (q4 d)) false), (0, .box [B neg, L d] false)], 2, 0⟩
theorem rBytes_bad (neg : Bool) (d : List Int) (hb : ¬ okI neg d) : PC Tryz.prog 70 [Zr neg d] (.tup [.dat (.lst []), I 10]) := by
  have h := Is_pc neg d
  rw [decide_eq_false hb] at h
  refine PCr.pc (PCr.of tab_ok Tryz.func70 rfl rfl rfl fun c hc hm => ?_)
  rw [show Tryz.f70.ntmps = _ from Tryz.ntmps70] at hc
  simp only [Tryz.f70]
  repeat' first | (exact absurd hlt (by decide)) | (refine AWp.seq fun K hK => ?_) | ((first | refine AWp.region (by rw [hc]; rfl) ?_ | refine AWp.skip ?_ | refine AWp.exit ?_ | refine AWp.label ?_ | refine AWp.ret ?_ | refine appK_g ?_); simp -implicitDefEqProofs (maxSteps := 1000000) (disch := omega) only [go_sem, ↓reduceIte]) | ((first | refine hK _ ?_ | (clear hK; first | refine hK _ ?_ | (clear hK; first | refine hK _ ?_ | (clear hK; refine hK _ ?_)))); clear hK) | (refine AWp.cond ?_; simp -implicitDefEqProofs (maxSteps := 1000000) (disch := omega) only [go_sem, ↓reduceIte]; try (refine ⟨fun hlt => ?_, fun hlt => ?_⟩ <;> (try simp only [cla, clb, ne_eq, reduceCtorEq] at hlt) <;> (try exact hlt.elim))) | (refine AWp.block ?_) | ((first | refine gdO_split (fun hlt => ?_) (fun hlt => ?_) | refine tkO_split (fun hlt => ?_) (fun hlt => ?_) | refine opO_split (fun hlt => ?_) (fun hlt => ?_)) <;> have hgd := hlt <;> (try simp only [cla, clb, ne_eq, cld] at hlt) <;> (simp -implicitDefEqProofs (maxSteps := 1000000) (disch := omega) only [go_sem, ↓reduceIte, hgd]) <;> clear hgd) | (with_reducible refine And.intro ?_ ?_; · first | omega | assumption | exact ⟨_, _, rfl, rfl⟩) | ((first | refine ⟨_, h, ?_⟩); simp -implicitDefEqProofs (maxSteps := 1000000) (disch := omega) only [go_sem, ↓reduceIte]) | fail
set_option maxHeartbeats 4000000 in
theorem rBytes_raw (neg : Bool) (d : List Int) (hok : okI neg d) (hd : dig d) : PC Tryz.prog 70 [Zr neg d] (.tup [.dat (.lst ([.int .u8 (if neg then IntKind.u8.wrap ((d.length : Int) + 128) else IntKind.u8.wrap d.length)] :: (List.range d.length).flatMap (q4 d))), I 0]) := by
  have h := Is_pc neg d
  rw [decide_eq_true hok] at h
  have hl := hok.1
  cases neg
  · simp only [↓reduceIte, Bool.false_eq_true]
    refine PCr.pc (PCr.of tab_ok Tryz.func70 rfl rfl rfl fun c hc hm => ?_)
    rw [show Tryz.f70.ntmps = _ from Tryz.ntmps70] at hc
    simp only [Tryz.f70]
    repeat' first | (exact absurd hlt (by decide)) | (refine AWp.seq fun K hK => ?_) | ((first | refine AWp.region (by rw [hc]; rfl) ?_ | refine AWp.skip ?_ | refine AWp.exit ?_ | refine AWp.label ?_ | refine AWp.ret ?_ | refine appK_g ?_); simp -implicitDefEqProofs (maxSteps := 1000000) (disch := omega) only [go_sem, ↓reduceIte]) | ((first | refine hK _ ?_ | (clear hK; first | refine hK _ ?_ | (clear hK; first | refine hK _ ?_ | (clear hK; refine hK _ ?_)))); clear hK) | (refine AWp.cond ?_; simp -implicitDefEqProofs (maxSteps := 1000000) (disch := omega) only [go_sem, ↓reduceIte]; try (refine ⟨fun hlt => ?_, fun hlt => ?_⟩ <;> (try simp only [cla, clb, ne_eq, reduceCtorEq] at hlt) <;> (try exact hlt.elim))) | (refine AWp.block ?_) | ((first | refine gdO_split (fun hlt => ?_) (fun hlt => ?_) | refine tkO_split (fun hlt => ?_) (fun hlt => ?_) | refine opO_split (fun hlt => ?_) (fun hlt => ?_)) <;> have hgd := hlt <;> (try simp only [cla, clb, ne_eq, cld] at hlt) <;> (simp -implicitDefEqProofs (maxSteps := 1000000) (disch := omega) only [go_sem, ↓reduceIte, hgd]) <;> clear hgd) | (with_reducible refine And.intro ?_ ?_; · first | omega | assumption | exact ⟨_, _, rfl, rfl⟩) | ((first | refine ⟨_, h, ?_⟩); simp -implicitDefEqProofs (maxSteps := 1000000) (disch := omega) only [go_sem, ↓reduceIte]) | fail
    refine AWp.loopInv (F70 false d (IntKind.u8.wrap d.length)) (fun k => k) (fun k => k ≤ d.length) d.length (Nat.le_refl _) (Sub.of0 hm id rfl ?_ ?_ (fun _ _ _ _ h => h)) ?_
    all_goals (try dsimp only)
    all_goals (first | omega | (simp -implicitDefEqProofs (maxSteps := 1000000) (disch := omega) only [F70, Nat.sub_self, List.range_zero, List.flatMap_nil, id, go_sem, Nat.blt_eq, Nat.reduceAdd, Nat.reduceSub, Nat.reduceEqDiff, Nat.reduceLT, ↓reduceIte, and_true, true_and, AV.dat.injEq, DV.int.injEq, DV.bool.injEq, DV.lst.injEq, eq_self_iff_true]; first | done | omega | (simp; done) | (simp; omega)) | (simp; done) | (simp; omega) | skip)
    intro k hk ih
    simp only [F70]
    generalize hH : (IntKind.u8.wrap d.length) = hh at *
    rcases k with _ | k
    · rw [Nat.sub_zero]
      repeat' first | (exact absurd hlt (by decide)) | (refine AWp.seq fun K hK => ?_) | ((first | refine AWp.region (by rw [hc]; rfl) ?_ | refine AWp.skip ?_ | refine AWp.exit ?_ | refine AWp.label ?_ | refine AWp.ret ?_ | refine appK_g ?_); simp -implicitDefEqProofs (maxSteps := 1000000) (disch := omega) only [go_sem, ↓reduceIte]) | ((first | refine hK _ ?_ | (clear hK; first | refine hK _ ?_ | (clear hK; first | refine hK _ ?_ | (clear hK; refine hK _ ?_)))); clear hK) | (refine AWp.cond ?_; simp -implicitDefEqProofs (maxSteps := 1000000) (disch := omega) only [go_sem, ↓reduceIte]; try (refine ⟨fun hlt => ?_, fun hlt => ?_⟩ <;> (try simp only [cla, clb, ne_eq, reduceCtorEq] at hlt) <;> (try exact hlt.elim))) | (refine AWp.block ?_) | ((first | refine gdO_split (fun hlt => ?_) (fun hlt => ?_) | refine tkO_split (fun hlt => ?_) (fun hlt => ?_) | refine opO_split (fun hlt => ?_) (fun hlt => ?_)) <;> have hgd := hlt <;> (try simp only [cla, clb, ne_eq, cld] at hlt) <;> (simp -implicitDefEqProofs (maxSteps := 1000000) (disch := omega) only [go_sem, ↓reduceIte, hgd]) <;> clear hgd) | (with_reducible refine And.intro ?_ ?_; · first | omega | assumption | exact ⟨_, _, rfl, rfl⟩) | fail
    · have b4 := dig_getD hd k
      have e1 : ((k + 1 : Nat) : Int) - 1 = (k : Int) := by omega
      have hk0 : decide ((0 : Int) ≤ (k : Int)) = true := decide_eq_true (by omega)
      have hnew : ([DV.int IntKind.u8 hh] :: (List.range (d.length - (k + 1))).flatMap (q4 d)) ++ bq (d.getD k 0) = [DV.int IntKind.u8 hh] :: (List.range (d.length - k)).flatMap (q4 d) := by
        rw [show d.length - k = (d.length - (k + 1)) + 1 by omega, List.range_succ, List.flatMap_append, List.cons_append]
        congr 2
        rw [show d.getD k 0 = d.getD (d.length - 1 - (d.length - (k + 1))) 0 by congr 1; omega, bq_q4]
        simp
      simp only [e1]
      unfold bq at hnew
      have hfl : ((List.range (d.length - (k + 1))).flatMap (q4 d)).length ≤ 1000 := by rw [q4_rng]; omega
      generalize (List.range (d.length - (k + 1))).flatMap (q4 d) = fl at *
      obtain ⟨x, hx⟩ : ∃ x, d.getD k 0 = x := ⟨_, rfl⟩
      rw [hx] at b4 hnew
      repeat' first | (exact absurd hlt (by decide)) | (refine AWp.seq fun K hK => ?_) | ((first | refine AWp.region (by rw [hc]; rfl) ?_ | refine AWp.skip ?_ | refine AWp.exit ?_ | refine AWp.label ?_ | refine AWp.ret ?_ | refine appK_g ?_); simp -implicitDefEqProofs (maxSteps := 1000000) (disch := omega) only [go_sem, ↓reduceIte, hk0, hx]) | ((first | refine hK _ ?_ | (clear hK; first | refine hK _ ?_ | (clear hK; first | refine hK _ ?_ | (clear hK; refine hK _ ?_)))); clear hK) | (refine AWp.cond ?_; simp -implicitDefEqProofs (maxSteps := 1000000) (disch := omega) only [go_sem, ↓reduceIte, hk0, hx]; try (refine ⟨fun hlt => ?_, fun hlt => ?_⟩ <;> (try simp only [cla, clb, ne_eq, reduceCtorEq] at hlt) <;> (try exact hlt.elim))) | (refine AWp.block ?_) | ((first | refine gdO_split (fun hlt => ?_) (fun hlt => ?_) | refine tkO_split (fun hlt => ?_) (fun hlt => ?_) | refine opO_split (fun hlt => ?_) (fun hlt => ?_)) <;> have hgd := hlt <;> (try simp only [cla, clb, ne_eq, cld] at hlt) <;> (simp -implicitDefEqProofs (maxSteps := 1000000) (disch := omega) only [go_sem, ↓reduceIte, hk0, hx, hgd]) <;> clear hgd) | (with_reducible refine And.intro ?_ ?_; · first | omega | assumption | exact ⟨_, _, rfl, rfl⟩) | fail
      refine ih k _ (by omega) (by omega) (Sub.of0 hm (fun i => if i = 0 then 0 else 3) rfl ?_ ?_ ?_)
      · simp only [F70, id, go_sem, Nat.blt_eq, Nat.reduceAdd, Nat.reduceEqDiff, Nat.reduceLT, ↓reduceIte, and_true, true_and]
      · simp only [F70]
        rw [← hnew]
        simp only [go_sem, Nat.blt_eq, Nat.reduceAdd, Nat.reduceEqDiff, Nat.reduceLT, ↓reduceIte, and_true, true_and, Option.some.injEq]
      · intro a b h1 h2 h
        change a < 2 at h1; change b < 2 at h2
        (split at h <;> split at h) <;> omega
  · simp only [↓reduceIte, Bool.false_eq_true]
    refine PCr.pc (PCr.of tab_ok Tryz.func70 rfl rfl rfl fun c hc hm => ?_)
    rw [show Tryz.f70.ntmps = _ from Tryz.ntmps70] at hc
    simp only [Tryz.f70]
    repeat' first | (exact absurd hlt (by decide)) | (refine AWp.seq fun K hK => ?_) | ((first | refine AWp.region (by rw [hc]; rfl) ?_ | refine AWp.skip ?_ | refine AWp.exit ?_ | refine AWp.label ?_ | refine AWp.ret ?_ | refine appK_g ?_); simp -implicitDefEqProofs (maxSteps := 1000000) (disch := omega) only [go_sem, ↓reduceIte]) | ((first | refine hK _ ?_ | (clear hK; first | refine hK _ ?_ | (clear hK; first | refine hK _ ?_ | (clear hK; refine hK _ ?_)))); clear hK) | (refine AWp.cond ?_; simp -implicitDefEqProofs (maxSteps := 1000000) (disch := omega) only [go_sem, ↓reduceIte]; try (refine ⟨fun hlt => ?_, fun hlt => ?_⟩ <;> (try simp only [cla, clb, ne_eq, reduceCtorEq] at hlt) <;> (try exact hlt.elim))) | (refine AWp.block ?_) | ((first | refine gdO_split (fun hlt => ?_) (fun hlt => ?_) | refine tkO_split (fun hlt => ?_) (fun hlt => ?_) | refine opO_split (fun hlt => ?_) (fun hlt => ?_)) <;> have hgd := hlt <;> (try simp only [cla, clb, ne_eq, cld] at hlt) <;> (simp -implicitDefEqProofs (maxSteps := 1000000) (disch := omega) only [go_sem, ↓reduceIte, hgd]) <;> clear hgd) | (with_reducible refine And.intro ?_ ?_; · first | omega | assumption | exact ⟨_, _, rfl, rfl⟩) | ((first | refine ⟨_, h, ?_⟩); simp -implicitDefEqProofs (maxSteps := 1000000) (disch := omega) only [go_sem, ↓reduceIte]) | fail
    refine AWp.loopInv (F70 true d (IntKind.u8.wrap ((d.length : Int) + 128))) (fun k => k) (fun k => k ≤ d.length) d.length (Nat.le_refl _) (Sub.of0 hm id rfl ?_ ?_ (fun _ _ _ _ h => h)) ?_
    all_goals (try dsimp only)
    all_goals (first | omega | (simp -implicitDefEqProofs (maxSteps := 1000000) (disch := omega) only [F70, Nat.sub_self, List.range_zero, List.flatMap_nil, id, go_sem, Nat.blt_eq, Nat.reduceAdd, Nat.reduceSub, Nat.reduceEqDiff, Nat.reduceLT, ↓reduceIte, and_true, true_and, AV.dat.injEq, DV.int.injEq, DV.bool.injEq, DV.lst.injEq, eq_self_iff_true]; first | done | omega | (simp; done) | (simp; omega)) | (simp; done) | (simp; omega) | skip)
    intro k hk ih
    simp only [F70]
    generalize hH : (IntKind.u8.wrap ((d.length : Int) + 128)) = hh at *
    rcases k with _ | k
    · rw [Nat.sub_zero]
      repeat' first | (exact absurd hlt (by decide)) | (refine AWp.seq fun K hK => ?_) | ((first | refine AWp.region (by rw [hc]; rfl) ?_ | refine AWp.skip ?_ | refine AWp.exit ?_ | refine AWp.label ?_ | refine AWp.ret ?_ | refine appK_g ?_); simp -implicitDefEqProofs (maxSteps := 1000000) (disch := omega) only [go_sem, ↓reduceIte]) | ((first | refine hK _ ?_ | (clear hK; first | refine hK _ ?_ | (clear hK; first | refine hK _ ?_ | (clear hK; refine hK _ ?_)))); clear hK) | (refine AWp.cond ?_; simp -implicitDefEqProofs (maxSteps := 1000000) (disch := omega) only [go_sem, ↓reduceIte]; try (refine ⟨fun hlt => ?_, fun hlt => ?_⟩ <;> (try simp only [cla, clb, ne_eq, reduceCtorEq] at hlt) <;> (try exact hlt.elim))) | (refine AWp.block ?_) | ((first | refine gdO_split (fun hlt => ?_) (fun hlt => ?_) | refine tkO_split (fun hlt => ?_) (fun hlt => ?_) | refine opO_split (fun hlt => ?_) (fun hlt => ?_)) <;> have hgd := hlt <;> (try simp only [cla, clb, ne_eq, cld] at hlt) <;> (simp -implicitDefEqProofs (maxSteps := 1000000) (disch := omega) only [go_sem, ↓reduceIte, hgd]) <;> clear hgd) | (with_reducible refine And.intro ?_ ?_; · first | omega | assumption | exact ⟨_, _, rfl, rfl⟩) | fail
    · have b4 := dig_getD hd k
      have e1 : ((k + 1 : Nat) : Int) - 1 = (k : Int) := by omega
      have hk0 : decide ((0 : Int) ≤ (k : Int)) = true := decide_eq_true (by omega)
      have hnew : ([DV.int IntKind.u8 hh] :: (List.range (d.length - (k + 1))).flatMap (q4 d)) ++ bq (d.getD k 0) = [DV.int IntKind.u8 hh] :: (List.range (d.length - k)).flatMap (q4 d) := by
        rw [show d.length - k = (d.length - (k + 1)) + 1 by omega, List.range_succ, List.flatMap_append, List.cons_append]
        congr 2
        rw [show d.getD k 0 = d.getD (d.length - 1 - (d.length - (k + 1))) 0 by congr 1; omega, bq_q4]
        simp
      simp only [e1]
      unfold bq at hnew
      have hfl : ((List.range (d.length - (k + 1))).flatMap (q4 d)).length ≤ 1000 := by rw [q4_rng]; omega
      generalize (List.range (d.length - (k + 1))).flatMap (q4 d) = fl at *
      obtain ⟨x, hx⟩ : ∃ x, d.getD k 0 = x := ⟨_, rfl⟩
      rw [hx] at b4 hnew
      repeat' first | (exact absurd hlt (by decide)) | (refine AWp.seq fun K hK => ?_) | ((first | refine AWp.region (by rw [hc]; rfl) ?_ | refine AWp.skip ?_ | refine AWp.exit ?_ | refine AWp.label ?_ | refine AWp.ret ?_ | refine appK_g ?_); simp -implicitDefEqProofs (maxSteps := 1000000) (disch := omega) only [go_sem, ↓reduceIte, hk0, hx]) | ((first | refine hK _ ?_ | (clear hK; first | refine hK _ ?_ | (clear hK; first | refine hK _ ?_ | (clear hK; refine hK _ ?_)))); clear hK) | (refine AWp.cond ?_; simp -implicitDefEqProofs (maxSteps := 1000000) (disch := omega) only [go_sem, ↓reduceIte, hk0, hx]; try (refine ⟨fun hlt => ?_, fun hlt => ?_⟩ <;> (try simp only [cla, clb, ne_eq, reduceCtorEq] at hlt) <;> (try exact hlt.elim))) | (refine AWp.block ?_) | ((first | refine gdO_split (fun hlt => ?_) (fun hlt => ?_) | refine tkO_split (fun hlt => ?_) (fun hlt => ?_) | refine opO_split (fun hlt => ?_) (fun hlt => ?_)) <;> have hgd := hlt <;> (try simp only [cla, clb, ne_eq, cld] at hlt) <;> (simp -implicitDefEqProofs (maxSteps := 1000000) (disch := omega) only [go_sem, ↓reduceIte, hk0, hx, hgd]) <;> clear hgd) | (with_reducible refine And.intro ?_ ?_; · first | omega | assumption | exact ⟨_, _, rfl, rfl⟩) | fail
      refine ih k _ (by omega) (by omega) (Sub.of0 hm (fun i => if i = 0 then 0 else 3) rfl ?_ ?_ ?_)
      · simp only [F70, id, go_sem, Nat.blt_eq, Nat.reduceAdd, Nat.reduceEqDiff, Nat.reduceLT, ↓reduceIte, and_true, true_and]
      · simp only [F70]
        rw [← hnew]
        simp only [go_sem, Nat.blt_eq, Nat.reduceAdd, Nat.reduceEqDiff, Nat.reduceLT, ↓reduceIte, and_true, true_and, Option.some.injEq]
      · intro a b h1 h2 h
        change a < 2 at h1; change b < 2 at h2
        (split at h <;> split at h) <;> omega
end Go.Proofs.YthhjcfejgoddlaaGreatDoor
end

section
set_option linter.unusedSimpArgs false
set_option linter.unusedVariables false
namespace Go.Proofs.YthhjcfejgoddlaaGreatDoor
open Go Go.Abs
attribute [local go_sem] Oper.semAt_some

set_option maxRecDepth 100000 in
set_option maxHeartbeats 4000000 in
theorem chunk_walk (F : Fence) (n : Nat) (h147 : F.fn 147) (hro : F.round = none) (hn : 1 ≤ n) (l Bs o Bn on b off m cap : Nat) (hm : m ≤ 1000) (hcap : 4 * m ≤ cap) (A : Nat → Nat → Prop) (w : World) (hA1 : A Bs o) (hA2 : A Bn on)
    (hw1 : w.cell? ⟨Bs, o, none⟩ = some (.slice (some ⟨b, off, none⟩) (4 * m) cap)) (hw2 : w.cell? ⟨Bn, on, none⟩ = some (.int .i64 4))
    (J Jx : List (Fin m) → World → Prop) (hJd : ∀ pre W, J pre W → J pre W.drew)
    (hY : ∀ pre x W, J pre W → pre.length < m → YieldAt F (n - 1) Tryz.prog l #[.slice (some ⟨b, off + 4 * x.val, none⟩) 4 4] W fun e W' =>
      (e = .returned (.bool true) ∧ J (pre ++ [x]) W' ∧ (∀ b o v, A b o → w.cell? ⟨b, o, none⟩ = some v → W.cell? ⟨b, o, none⟩ = some v → W'.cell? ⟨b, o, none⟩ = some v)) ∨ (e = .returned (.bool false) ∧ Jx (pre ++ [x]) W'))
    (W : World) (hst : ∀ b o v, A b o → w.cell? ⟨b, o, none⟩ = some v → W.cell? ⟨b, o, none⟩ = some v) (h0 : J [] W) :
    CallsIn F n Tryz.prog 147 #[.func (.yield l) #[] #[], .pointer (some ⟨Bs, o, none⟩), .pointer (some ⟨Bn, on, none⟩)] W fun e W' => (∃ v, e = .returned v) ∧
      ((∃ ys, ys = List.finRange m ∧ J ys W') ∨ (∃ pre, pre <+: List.finRange m ∧ Jx pre W')) := by
  refine callsIn_of_wp Tryz.func147 rfl h147 ?_ hro
  simp only [Tryz.ntmps147, List.size_toArray, List.length_cons, List.length_nil, Nat.reduceAdd, Nat.reduceSub, Array.replicate_succ, Array.replicate_zero, List.push_toArray, List.append_toArray, List.nil_append, List.cons_append]
  gi_wp2
  gi_loopw [4] (fun i wr => ∃ k : Nat, k ≤ m ∧ i = .int .i64 (4 * k) ∧ J ((List.finRange m).take k) wr ∧ (∀ b o v, A b o → w.cell? ⟨b, o, none⟩ = some v → wr.cell? ⟨b, o, none⟩ = some v))
    (fun i _ => (4 * (m : Int) - iOf i).toNat)
  case atStart => exact ⟨0, Nat.zero_le _, by simp, h0, hst⟩
  case round =>
    obtain ⟨k, hk, rfl, hJs, hkp⟩ := hrel
    have hB' := hkp _ _ _ hA1 hw1
    have hN' := hkp _ _ _ hA2 hw2
    by_cases hlt : k < m
    · obtain ⟨fn, tmps, assign, body, hy, hR⟩ := hY _ ⟨k, hlt⟩ wr.drew (hJd _ _ hJs) (by simp; omega)
      simp only at hy
      have hmin : min (4 : Int) ((4 * m - 4 * k : Nat) : Int) = 4 := by omega
      have hlen4 : (4 * (k : Int) + 4).toNat - 4 * k = 4 := by omega
      gi_wp2
      gi_region
      all_goals
        gi_wp2
        (try simp only [hmin, hlen4])
      all_goals
        refine hR.mono ?_
        rintro e' W3 (⟨rfl, hJ3, hk3⟩ | ⟨rfl, hJx3⟩)
        · have hN3 := hk3 _ _ _ hA2 hw2 hN'
          gi_wp2
          go_roundw
          case rel => exact ⟨k + 1, by omega, by first | (congr 1; done) | (congr 1; omega), by rw [finRange_take_succ hlt]; exact hJ3, fun b o v hA hv => hk3 b o v hA hv (hkp b o v hA hv)⟩
          case measure => first | (simp [iOf]; done) | (simp [iOf]; omega)
        · gi_wp2
          refine bodyPost_ret (results_none rfl _ _ _) rfl ?_
          exact ⟨⟨_, rfl⟩, .inr ⟨_, by rw [← finRange_take_succ hlt]; exact List.take_prefix _ _, hJx3⟩⟩
    · obtain rfl : k = m := by omega
      gi_wp2
      go_end0
      exact ⟨⟨_, rfl⟩, .inl ⟨_, rfl, by simpa [List.take_of_length_le] using hJs⟩⟩
end Go.Proofs.YthhjcfejgoddlaaGreatDoor
end

section
set_option linter.unusedSimpArgs false
set_option linter.unusedVariables false
set_option maxRecDepth 100000
namespace Go.Proofs.YthhjcfejgoddlaaGreatDoor
open Go Go.Abs
attribute [local go_sem] wrap64 Int.tdiv_eq_ediv_of_nonneg Int.tmod_eq_emod_of_nonneg eq_self Bool.false_eq_true Bool.true_eq_false Bool.not_true Bool.not_false
attribute [local go_sem_proc] Nat.reduceAdd Nat.reduceMul Nat.reduceEqDiff Nat.reduceLT Nat.reduceLeDiff Int.reduceEq Int.reduceNeg Int.reduceToNat reduceCtorEq Int.reduceBNe Int.reduceBEq

/-! Reverse, over a row of the caller's own. -/
def rvS (neg : Bool) (l : List Int) : Sto := [(2, .row 3 1 (l.map eI) false), (1, .box [B neg, .own 2] false), (0, .box [B false, .nil] false)]
def F121 (neg : Bool) (n : Nat) : Nat × List Int → St := fun ⟨i, l⟩ => ⟨[(0, .own 2), (2, I i), (3, I ((n : Int) - 1 - i))], rvS neg l, 3, 0⟩
theorem getD_set (l : List Int) (i j : Nat) (x : Int) (h : i < l.length) : (l.set i x).getD j 0 = if j = i then x else l.getD j 0 := by
  by_cases hj : j = i
  · subst hj; simp [List.getD, h]
  · rw [if_neg hj]; simp [List.getD, List.getElem?_set_ne (Ne.symm hj)]
theorem mapeI_getD (l : List Int) (j : Nat) (h : j < l.length) : (l.map eI).getD j [] = [DV.int .i64 (l.getD j 0)] := by simp [List.getD, h, eI]
theorem list_ext_getD {l m : List Int} (h : l.length = m.length) (hg : ∀ j, j < l.length → l.getD j 0 = m.getD j 0) : l = m := by
  refine List.ext_getElem h fun j h1 h2 => ?_
  have := hg j h1
  simpa [List.getD, h1, h2] using this
set_option maxHeartbeats 4000000 in
theorem rev_po (neg : Bool) (l0 : List Int) (hl : l0.length ≤ 1000000) : PO Tryz.prog 121 [.own 2] (rvS neg l0) 3 (fun r s' n' => r = .tup [] ∧ s' = rvS neg l0.reverse ∧ n' = 3) := by
  refine PO.of tab_ok Tryz.func121 rfl rfl rfl fun c hc hm => ?_
  rw [show Tryz.f121.ntmps = _ from Tryz.ntmps121] at hc
  simp only [Tryz.f121]
  simp only [rvS]
  repeat' first | (exact absurd hlt (by decide)) | (refine AWp.seq fun K hK => ?_) | ((first | refine AWp.draw (id := 3) [.take 0, .take 1, .take 2, .take 3, .take 4, .take 5, .take 6, .take 7, .take 8, .take 9, .take 10, .take 11, .take 12, .grp [13], .take 14, .grp [15]] mixed_ok (by kernel_rfl) (by rw [hc]; rfl) ?_ | refine AWp.region (by rw [hc]; rfl) ?_ | refine AWp.skip ?_ | refine AWp.exit ?_ | refine AWp.label ?_ | refine AWp.ret ?_ | refine appK_g ?_); simp -implicitDefEqProofs (maxSteps := 1000000) (disch := omega) only [go_sem, ↓reduceIte]) | ((first | refine hK _ ?_ | (clear hK; first | refine hK _ ?_ | (clear hK; first | refine hK _ ?_ | (clear hK; refine hK _ ?_)))); clear hK) | (refine AWp.cond ?_; simp -implicitDefEqProofs (maxSteps := 1000000) (disch := omega) only [go_sem, ↓reduceIte]; try (refine ⟨fun hlt => ?_, fun hlt => ?_⟩ <;> (try simp only [cla, clb, ne_eq, reduceCtorEq] at hlt) <;> (try exact hlt.elim))) | (refine AWp.block ?_) | ((first | refine gdO_split (fun hlt => ?_) (fun hlt => ?_) | refine tkO_split (fun hlt => ?_) (fun hlt => ?_) | refine opO_split (fun hlt => ?_) (fun hlt => ?_)) <;> have hgd := hlt <;> (try simp only [cla, clb, ne_eq, cld] at hlt) <;> (simp -implicitDefEqProofs (maxSteps := 1000000) (disch := omega) only [go_sem, ↓reduceIte, hgd]) <;> clear hgd) | (with_reducible refine And.intro ?_ ?_; · first | omega | assumption | exact ⟨_, _, rfl, rfl⟩) | fail
  refine AWp.loopInv (F121 neg l0.length) (fun a => l0.length - a.1) (fun a => a.2.length = l0.length ∧ 2 * a.1 ≤ l0.length + 1 ∧ ∀ t, t < l0.length → a.2.getD t 0 = if t < a.1 ∨ l0.length ≤ t + a.1 then l0.getD (l0.length - 1 - t) 0 else l0.getD t 0) (0, l0) ⟨rfl, by simp only; omega, fun t ht => by simp only; rw [if_neg (by omega)]⟩ (Sub.ofm hm id (by show 3 ≤ 3; omega) (fun _ _ => rfl) rfl ?_ ?_ (fun _ _ _ _ h => h)) ?_
  all_goals (try dsimp only)
  all_goals (first | omega | (simp -implicitDefEqProofs (maxSteps := 1000000) (disch := omega) only [F121, rvS, id, go_sem, Nat.blt_eq, Nat.reduceAdd, Nat.reduceSub, Nat.reduceEqDiff, Nat.reduceLT, ↓reduceIte, and_true, true_and, AV.dat.injEq, DV.int.injEq, DV.bool.injEq, DV.lst.injEq, eq_self_iff_true]; first | done | omega | (simp; done) | (simp; omega)) | (simp; done) | (simp; omega) | skip)
  rintro ⟨i, l⟩ ⟨b1, b2, b3⟩ ih
  simp only at b1 b2 b3
  simp only [F121, rvS]
  by_cases hlt2 : i < l0.length - 1 - i
  · have hc1 : decide ((i : Int) < (l0.length : Int) - 1 - i) = true := decide_eq_true (by omega)
    obtain ⟨j, hj⟩ : ∃ j : Nat, j = l0.length - 1 - i := ⟨_, rfl⟩
    have ej : (l0.length : Int) - 1 - i = (j : Int) := by omega
    rw [ej] at hc1
    simp only [ej]
    have hgi : (l.map eI).getD i [] = [DV.int .i64 (l.getD i 0)] := by simp [List.getD, show i < l.length by omega, eI]
    have hgj : (l.map eI).getD j [] = [DV.int .i64 (l.getD j 0)] := by simp [List.getD, show j < l.length by omega, eI]
    have hg2 : ((l.set i (l.getD j 0)).map eI).getD j [] = [DV.int .i64 (l.getD j 0)] := by
      rw [mapeI_getD _ _ (by rw [List.length_set]; omega), getD_set _ _ _ _ (by omega), if_neg (by omega)]
    have hst : ((l.set i (l.getD j 0)).map eI).set j [DV.int .i64 (l.getD i 0)] = ((l.set i (l.getD j 0)).set j (l.getD i 0)).map eI := by generalize l.set i (l.getD j 0) = q; rw [List.map_set]; rfl
    repeat' first | (exact absurd hlt (by decide)) | (refine AWp.seq fun K hK => ?_) | ((first | refine AWp.draw (id := 3) [.take 0, .take 1, .take 2, .take 3, .take 4, .take 5, .take 6, .take 7, .take 8, .take 9, .take 10, .take 11, .take 12, .grp [13], .take 14, .grp [15]] mixed_ok (by kernel_rfl) (by rw [hc]; rfl) ?_ | refine AWp.region (by rw [hc]; rfl) ?_ | refine AWp.skip ?_ | refine AWp.exit ?_ | refine AWp.label ?_ | refine AWp.ret ?_ | refine appK_g ?_); simp -implicitDefEqProofs (maxSteps := 1000000) (disch := omega) only [go_sem, ↓reduceIte, hc1, hgi, hgj, hg2, List.drop_succ_cons, List.drop_nil, List.drop_zero, hst]) | ((first | refine hK _ ?_ | (clear hK; first | refine hK _ ?_ | (clear hK; first | refine hK _ ?_ | (clear hK; refine hK _ ?_)))); clear hK) | (refine AWp.cond ?_; simp -implicitDefEqProofs (maxSteps := 1000000) (disch := omega) only [go_sem, ↓reduceIte, hc1, hgi, hgj, hg2, List.drop_succ_cons, List.drop_nil, List.drop_zero, hst]; try (refine ⟨fun hlt => ?_, fun hlt => ?_⟩ <;> (try simp only [cla, clb, ne_eq, reduceCtorEq] at hlt) <;> (try exact hlt.elim))) | (refine AWp.block ?_) | ((first | refine gdO_split (fun hlt => ?_) (fun hlt => ?_) | refine tkO_split (fun hlt => ?_) (fun hlt => ?_) | refine opO_split (fun hlt => ?_) (fun hlt => ?_)) <;> have hgd := hlt <;> (try simp only [cla, clb, ne_eq, cld] at hlt) <;> (simp -implicitDefEqProofs (maxSteps := 1000000) (disch := omega) only [go_sem, ↓reduceIte, hc1, hgi, hgj, hg2, List.drop_succ_cons, List.drop_nil, List.drop_zero, hst, hgd]) <;> clear hgd) | (with_reducible refine And.intro ?_ ?_; · first | omega | assumption | exact ⟨_, _, rfl, rfl⟩) | fail
    refine ih (i + 1, (l.set i (l.getD j 0)).set j (l.getD i 0)) _ ⟨by simp only [List.length_set]; exact b1, by simp only; omega, fun t ht => ?_⟩ (by simp only; omega) (Sub.ofm hm id (by show 3 ≤ 3; omega) (fun _ _ => rfl) rfl ?_ ?_ (fun _ _ _ _ h => h))
    · simp only
      rw [getD_set _ _ _ _ (by rw [List.length_set]; omega), getD_set _ _ _ _ (by omega)]
      have c1 := b3 i (by omega)
      have c2 := b3 j (by omega)
      have c3 := b3 t ht
      rw [if_neg (by omega)] at c1 c2
      by_cases h1 : t = j
      · subst h1
        rw [if_pos rfl, if_pos (by omega), c1]; congr 1; omega
      · rw [if_neg h1]
        by_cases h2 : t = i
        · subst h2
          rw [if_pos rfl, if_pos (by omega), c2]; congr 1
        · rw [if_neg h2, c3]
          by_cases h3 : t < i ∨ l0.length ≤ t + i
          · rw [if_pos h3, if_pos (by omega)]
          · rw [if_neg h3, if_neg (by omega)]
    all_goals (try (simp only [F121, rvS, subT, subS, go_sem]; simp; done))
    all_goals (try (simp only [F121, rvS, subT, subS, go_sem]; simp; omega))
  · have hc1 : decide ((i : Int) < (l0.length : Int) - 1 - i) = false := decide_eq_false (by omega)
    have hl : l = l0.reverse := by
      refine list_ext_getD (by rw [List.length_reverse]; exact b1) fun t ht => ?_
      rw [b3 t (by omega)]
      have hrev : l0.reverse.getD t 0 = l0.getD (l0.length - 1 - t) 0 := by
        simp [List.getD, List.getElem?_reverse (show t < l0.length by omega)]
      rw [hrev]
      split
      · rfl
      · rw [show l0.length - 1 - t = t by omega]
    subst hl
    repeat' first | (exact absurd hlt (by decide)) | (refine AWp.seq fun K hK => ?_) | ((first | refine AWp.draw (id := 3) [.take 0, .take 1, .take 2, .take 3, .take 4, .take 5, .take 6, .take 7, .take 8, .take 9, .take 10, .take 11, .take 12, .grp [13], .take 14, .grp [15]] mixed_ok (by kernel_rfl) (by rw [hc]; rfl) ?_ | refine AWp.region (by rw [hc]; rfl) ?_ | refine AWp.skip ?_ | refine AWp.exit ?_ | refine AWp.label ?_ | refine AWp.ret ?_ | refine appK_g ?_); simp -implicitDefEqProofs (maxSteps := 1000000) (disch := omega) only [go_sem, ↓reduceIte, hc1]) | ((first | refine hK _ ?_ | (clear hK; first | refine hK _ ?_ | (clear hK; first | refine hK _ ?_ | (clear hK; refine hK _ ?_)))); clear hK) | (refine AWp.cond ?_; simp -implicitDefEqProofs (maxSteps := 1000000) (disch := omega) only [go_sem, ↓reduceIte, hc1]; try (refine ⟨fun hlt => ?_, fun hlt => ?_⟩ <;> (try simp only [cla, clb, ne_eq, reduceCtorEq] at hlt) <;> (try exact hlt.elim))) | (refine AWp.block ?_) | ((first | refine gdO_split (fun hlt => ?_) (fun hlt => ?_) | refine tkO_split (fun hlt => ?_) (fun hlt => ?_) | refine opO_split (fun hlt => ?_) (fun hlt => ?_)) <;> have hgd := hlt <;> (try simp only [cla, clb, ne_eq, cld] at hlt) <;> (simp -implicitDefEqProofs (maxSteps := 1000000) (disch := omega) only [go_sem, ↓reduceIte, hc1, hgd]) <;> clear hgd) | (with_reducible refine And.intro ?_ ?_; · first | omega | assumption | exact ⟨_, _, rfl, rfl⟩) | fail
end Go.Proofs.YthhjcfejgoddlaaGreatDoor
end
